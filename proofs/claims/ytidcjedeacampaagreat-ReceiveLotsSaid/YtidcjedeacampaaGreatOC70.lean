import Derived.Test.YtidcjedeacampaaGreatOA70
set_option linter.unusedVariables false
set_option linter.unusedSimpArgs false
namespace Go.Pv
open Go.Proofs
set_option maxRecDepth 100000
set_option maxHeartbeats 1000000
theorem AY {v w q:Int} (hv:0<=v/\v<=288230376151711744):0<=pt v w q/\pt v w q<=v:=by
  by_cases h:q<1\/w<0\/w>q\/¬ bN v
  · unfold pt;rw [if_pos h];omega
  · unfold pt;rw [if_neg h,if_neg (by omega)];exact vF (by omega) (by omega) (by omega)
theorem aBP {v w q:Int} (hv:bN v):bN (pt v w q)/\bN (v-pt v w q):=by
  by_cases h:q<1\/w<0\/w>q\/¬ bN v
  · unfold pt;rw [if_pos h];unfold bN at *;omega
  · unfold pt;rw [if_neg h]
    by_cases h2:v<0
    · rw [if_pos h2]
      obtain ⟨g1,g2⟩:=vF (v:=-v) (q:=w) (n:=q) (by omega) (by omega) (by omega)
      unfold bN at *;omega
    · rw [if_neg h2]
      obtain ⟨g1,g2⟩:=vF (v:=v) (q:=w) (n:=q) (by omega) (by omega) (by omega)
      unfold bN at *;omega
theorem p8 {α:Type} {P:α->Prop} {l:List α} {i:Nat} {x:α} (h:∀ r∈l,P r) (hx:P x):∀ r∈l.set i x,P r:=by
  intro r hr;rcases mem_set hr with rfl | hr
  · exact hx
  · exact h r hr
theorem aGH {K:Int} {s:aB} {o:bJ} {n:Nat} (hn:66<n) (h:Inv K s) (hq:-9223372036854775808<=o.aT/\o.aT<=288230376151711744) (ha:0<=o.bM/\o.bM<=288230376151711744):Ex (Kept K s) (K9 n s o):=by
  unfold K9 Y5
  simp only [WT.run,bT]
  refine aW _ (tZ h o.E o.Item) λr hr=>?_
  repeat' with_reducible first | refine bG ?_ | refine dZ ?_ | apply aD | apply bK | apply dY | apply dN | apply eB | apply d9 | apply dV | apply dQ | apply dW | apply dU | refine aQ (λ_=>?_) λ_=>?_ | refine dK (λ_=>?_) λ_=>?_ | apply dF | apply bU | apply dA | apply bL | apply aG
  · rename_i k;exact .inr ⟨k,rfl⟩
  · exact .inr ⟨by simp,rfl⟩
  rename_i k1 k2
  obtain ⟨ht,x,bH,hx,hm,ho⟩:=hr (by omega)
  have o0:=On.start hx hm ho
  refine aW _ (CW hn h.ss (by omega)) λb hb=>?_
  refine aD (aQ (λk=>aG (.inr ⟨k,rfl⟩)) λkz=>?_)
  rcases hb with ⟨_,hb⟩ | ⟨k,_⟩
  rotate_left
  · exact absurd k kz
  obtain ⟨f1,f2,f3,f4,f5,f6⟩:=hb.facts
  obtain ⟨x1,o1,p1,p2,p3⟩:=o0.DN hb
  repeat' with_reducible first | refine bG ?_ | refine dZ ?_ | apply aD | apply bK | apply dY | apply dN | apply eB | apply d9 | apply dV | apply dQ | apply dW | apply dU | refine aQ (λ_=>?_) λ_=>?_ | refine dK (λ_=>?_) λ_=>?_ | apply dF | apply bU | apply dA | apply bL | apply aG
  refine aW _ (qA hn (o1.ss h.ss) (by simp)) λc hc=>?_
  refine aD (aQ (λk=>aG (.inr ⟨k,rfl⟩)) λkz=>?_)
  rcases hc with ⟨_,hc⟩ | ⟨k,_⟩
  rotate_left
  · exact absurd k kz
  obtain ⟨x2,o2,q1,q2,q3⟩:=o1.rR hc (by simp [gM,gI])
  refine aW _ (sK hn (o2.ss h.ss)) λd hd=>?_
  refine aD (aQ (λk=>aG (.inr ⟨k,rfl⟩)) λkz=>?_)
  rcases hd with ⟨_,hd⟩ | ⟨k,_⟩
  rotate_left
  · exact absurd k kz
  obtain ⟨x3,o3,r1,r2⟩:=o2.wP hd
  obtain ⟨g1,g2,g3,g4,g5⟩:=o3.rc
  have hl1:=h.l2;have hlen:=h.len;have hth:=f1.1;have hth2:=f1.2
  have hnow:=ho.es.now;have hper:=h.kF.iZ
  have hB:∀ a:Nat,a<17->bl x3 a=bl x a+eU [⟨3,o.bM⟩,⟨4,0-o.bM⟩,⟨5,b.2.1.Value⟩,⟨0,0-b.2.1.Value⟩] a:=λa ha=>by rw [oM r1,q1 a ha,oM p1]
  have b1:=hB 1 (by decide);have b12:=hB 12 (by decide);have b13:=hB 13 (by decide);have b14:=hB 14 (by decide)
  simp [gM,gI] at b1 b12 b13 b14
  have lg:d.1.dS.length=s.dS.length:=by rw [g2]
  refine dB hth.1 hx ?_
  repeat' with_reducible first | refine bG ?_ | refine dZ ?_ | apply aD | apply bK | apply dY | apply dN | apply eB | apply d9 | apply dV | apply dQ | apply dW | apply dU | refine aQ (λ_=>?_) λ_=>?_ | refine dK (λ_=>?_) λ_=>?_ | apply dF | apply bU | apply dA | apply bL | apply aG | refine dO ?_
  refine .inl ⟨rfl,?_⟩
  refine o3.inv h hx (by simp [gM,gI];try omega) (uR (by simp [lD];try omega)) (by rw [g1];exact h.nO) ?_ (by rw [g3];exact h.oO) (by rw [g1];exact h.l1) (by rw [g2];simp;omega) (by rw [g3];exact h.l3) (by rw [g1];omega) (by intro f _;rw [g1]) (by rw [g3];omega) (by intro f _;rw [g3]) (by unfold lC;omega)
  rw [g2]
  refine nE h.oD ⟨by simp only;omega,hth2,f2,?_,?_,f4,f5,?_⟩
  all_goals (simp only at *;omega)
theorem aCM {s:aB} {i:Int} {y z:fA} (h0:0<=i) (hz:s.dS[i.toNat]?=some z) (hl:s.dS.length<=40):FE s i y=some { s with dS:=s.dS.set i.toNat y }:=by
  refine gF ?_
  unfold FE VI
  simp only [WT.run,bT]
  exact dO (dB h0 hz (aD (aG rfl)))
theorem On.MJ {s:aB} {e i c m k:Int} {bH:List Int} {t:aB} {x:aP} {d:Int} {f:Nat->Int} {p q p':aS} (h:On s e.toNat bH t x d f) (hs:o8 t e i c x m k p q) (hio:IO m p' q) {v:Int} (hv:tV p'.aI-tV p.aI=v) :
    ∃ x',On s e.toNat bH (qH t e i c x p') x' (d+v) (bump f i.toNat v)/\x'.dI=x.dI/\x'.fQ=x.fQ/\x'.dJ=x.dJ:=by
  have hlc:=hs.lc;have hth:=hs.th.2
  have hM:t.bF=s.bF:=by rw [h.eq];rfl
  rw [hM] at hth
  have g:=h.es.put (by omega) (by omega) (hs.es bH (by rw [hM];exact h.ms)).1 hs.qq hio
  exact ⟨{ x with bR:=x.bR.set (2*i.toNat+c.toNat) p' },h.set g (h.eb.put (p:=p) (p':=p') (by omega) hs.pp hv) rfl rfl,rfl,rfl,rfl⟩
theorem aHV {m q:Int} {p:aS} (h:PR m p) (hq:-9223372036854775808<=q/\q<=9223372036854775807) :
    Ex (λr=>(r.2=0/\PR m r.1/\r.1.aI=p.aI/\1<=q)\/(r.2≠0/\r.1=p)) (DZ p 0 q):=by
  have hl:=jA h.ly
  have h0:=h.p0;have h1:=h.p1;have h2:=h.p2;have h3:=h.sum
  unfold DZ
  repeat' with_reducible first | refine bG ?_ | refine dZ ?_ | apply aD | apply bK | apply dY | apply dN | apply eB | apply d9 | apply dV | apply dQ | apply dW | apply dU | refine aQ (λ_=>?_) λ_=>?_ | refine dK (λ_=>?_) λ_=>?_ | apply dF | apply bU | apply dA | apply bL | apply aG | refine dO ?_
  all_goals try exact .inr ⟨(λk=>nomatch k),rfl⟩
  all_goals try (exfalso;omega)
  all_goals (refine .inl ⟨rfl,⟨h.mt,h.ly,h.one,by first | omega | (simp only;omega),by first | omega | (simp only;omega),by first | omega | (simp only;omega),by first | omega | (simp only;omega),λk=>?_⟩,rfl,by omega⟩;have:=h.vX k;simp only;omega)
theorem On.fin {K:Int} {s:aB} (hI:Inv K s) {e:Int} {bH:List Int} {t:aB} {x y:aP} {d:Int} {f:Nat->Int} (h:On s e.toNat bH t y d f) (hx:s.bA[e.toNat]?=some x) (hd:d=0) (hf:∀ i,f i=0) {S:List fA}
    (hS:∀ r∈S,qJ s.bF r) (l2:S.length<=40) (b1:bl y 1=bl x 1) (b12:bl y 12=bl x 12) (b13:bl y 13=bl x 13) (b14:bl y 14=bl x 14):Inv K { t with dS:=S }:=by
  obtain ⟨g1,g2,g3,g4,g5⟩:=h.rc
  exact h.inv hI hx hd hf (by rw [g1];exact hI.nO) hS (by rw [g3];exact hI.oO) (by rw [g1];exact hI.l1) l2 (by rw [g3];exact hI.l3) (by rw [g1];omega) (by intro f _;rw [g1]) (by rw [g3];omega) (by intro f _;rw [g3]) (by unfold lC;omega)
theorem aIK {K:Int} {s:aB} {o:bJ} {n:Nat} (hn:66<n) (h:Inv K s) (hq:0<=o.aT/\o.aT<=288230376151711744) (ha:0<=o.bM/\o.bM<=288230376151711744):Ex (Kept K s) (MG n s o):=by
  unfold MG aEK
  simp only [WT.run,bT]
  repeat' with_reducible first | refine bG ?_ | refine dZ ?_ | apply aD | apply bK | apply dY | apply dN | apply eB | apply d9 | apply dV | apply dQ | apply dW | apply dU | refine aQ (λ_=>?_) λ_=>?_ | refine dK (λ_=>?_) λ_=>?_ | apply dF | apply bU | apply dA | apply bL | apply aG
  all_goals try exact Or.inr ⟨by simp,rfl⟩
  rename_i k1 k2
  refine eZ (by omega) (by omega) λz hz=>?_
  have hz:s.dS[o.Ref.toNat]?=some z:=hz
  obtain ⟨z1,z2,z3,z4,z5,z6,z7,z8⟩:=h.oD z (fO hz)
  refine aW _ (tZ h z.fU z.Item) λr hr=>?_
  refine aD (aQ (λk=>aG (.inr ⟨k,rfl⟩)) λkz=>?_)
  obtain ⟨ht,x,bH,hx,hm,ho⟩:=hr (by omega)
  have o0:=On.start hx hm ho
  have hl1:=h.l2
  refine bG (aD (aQ (λ_=>aG (.inr ⟨by simp,rfl⟩)) λk3=>bG (bG ?_)))
  refine aW (λ_=>True) (fJ (λ_=>dB ht.1.1 hx (aD (aG trivial))) λ_=>aG trivial) λw _=>fJ (λ_=>?_) λ_=>?_
  · obtain ⟨x',m,k,p,p2,hs⟩:=h.ss.spot (c:=z.Loc) ht z3
    have hx':=hs.en;rw [hx] at hx';cases hx'
    refine x_eq (pX h.ss.toS0 ht z3 hx hs.pp) (aW _ (aHV hs.io.pp (by omega)) λb hb=>?_)
    refine aD (aQ (λk=>aG (.inr ⟨k,rfl⟩)) λkz=>?_)
    rcases hb with ⟨_,hb⟩ | ⟨k,_⟩
    rotate_left
    · exact absurd k kz
    obtain ⟨b1,b2,b3⟩:=hb
    have hio:IO m b.1 p2:=⟨b1,hs.io.qq,by rw [b2];exact hs.io.sq,by rw [b2];exact hs.io.ss⟩
    obtain ⟨x1,o1,p1,_,_⟩:=o0.MJ hs hio (v:=0) (by rw [b2];omega)
    refine x_eq (yY h.ss hs) (aW _ (qA hn (o1.ss h.ss) (by simp)) λc hc=>?_)
    refine aD (aQ (λk=>aG (.inr ⟨k,rfl⟩)) λkz=>?_)
    rcases hc with ⟨_,hc⟩ | ⟨k,_⟩
    rotate_left
    · exact absurd k kz
    obtain ⟨x2,o2,q1,q2,q3⟩:=o1.rR hc (by simp [gM,gI])
    obtain ⟨g1,g2,g3,g4,g5⟩:=o2.rc
    have hB:∀ a:Nat,a<17->bl x2 a=bl x a+eU [⟨4,o.bM⟩,⟨3,0-o.bM⟩] a:=λa ha=>by rw [q1 a ha,oM p1]
    have b1:=hB 1 (by decide);have b12:=hB 12 (by decide);have b13:=hB 13 (by decide);have b14:=hB 14 (by decide)
    simp [gM,gI] at b1 b12 b13 b14
    refine x_eq (aCM (by omega) (by rw [g2];exact hz) (by rw [g2];exact hl1)) (aG (.inl ⟨rfl,?_⟩))
    refine o2.fin h hx (by simp [gM,gI]) (by intro j;simp [bump]) ?_ (by rw [g2,List.length_set];exact hl1) b1 b12 b13 b14
    rw [g2]
    exact p8 h.oD ⟨z1,z2,z3,z4,by simp only;omega,z6,z7,z8⟩
  · have hpc:=AY (w:=o.aT) (q:=z.aT-z.jB) z6
    have hpp:=aBP (w:=o.aT) (q:=z.aT-z.jB) z7
    refine x_eq (uY hn (by omega) (by omega)) (x_eq (uY hn (by omega) (by omega)) ?_)
    refine aW _ (CP (l:=⟨o.aT,pt z.rD o.aT (z.aT-z.jB),pt z.bO o.aT (z.aT-z.jB)⟩) hn h.ss (by simp only;omega)) λb hb=>?_
    refine aD (aQ (λk=>aG (.inr ⟨k,rfl⟩)) λkz=>?_)
    rcases hb with ⟨_,hb⟩ | ⟨k,_⟩
    rotate_left
    · exact absurd k kz
    obtain ⟨f1,f2,f3,f4,f5,f6,f7⟩:=hb.facts
    obtain ⟨x1,o1,p1,p2,p3⟩:=o0.brought hb
    repeat' with_reducible first | refine bG ?_ | refine dZ ?_ | apply aD | apply bK | apply dY | apply dN | apply eB | apply d9 | apply dV | apply dQ | apply dW | apply dU | refine aQ (λ_=>?_) λ_=>?_ | refine dK (λ_=>?_) λ_=>?_ | apply dF | apply bU | apply dA | apply bL | apply aG | refine dO ?_
    refine aW _ (qA hn (o1.ss h.ss) (by simp)) λc hc=>?_
    refine aD (aQ (λk=>aG (.inr ⟨k,rfl⟩)) λkz=>?_)
    rcases hc with ⟨_,hc⟩ | ⟨k,_⟩
    rotate_left
    · exact absurd k kz
    obtain ⟨x2,o2,q1,q2,q3⟩:=o1.rR hc (by simp [gM,gI])
    refine aW _ (sK hn (o2.ss h.ss)) λd hd=>?_
    refine aD (aQ (λk=>aG (.inr ⟨k,rfl⟩)) λkz=>?_)
    rcases hd with ⟨_,hd⟩ | ⟨k,_⟩
    rotate_left
    · exact absurd k kz
    obtain ⟨x3,o3,r1,r2⟩:=o2.wP hd
    obtain ⟨g1,g2,g3,g4,g5⟩:=o3.rc
    have hB:∀ a:Nat,a<17->bl x3 a=bl x a+eU [⟨4,o.bM⟩,⟨3,0-o.bM⟩,⟨0,b.2.1⟩,⟨6,b.2.2.1⟩,⟨5,0-pt z.rD o.aT (z.aT-z.jB)⟩] a:=λa ha=>by rw [oM r1,q1 a ha,oM p1];rfl
    have b1:=hB 1 (by decide);have b12:=hB 12 (by decide);have b13:=hB 13 (by decide);have b14:=hB 14 (by decide)
    simp [gM,gI] at b1 b12 b13 b14
    unfold bN at hpp z7
    repeat' with_reducible first | refine bG ?_ | refine dZ ?_ | apply aD | apply bK | apply dY | apply dN | apply eB | apply d9 | apply dV | apply dQ | apply dW | apply dU | refine aQ (λ_=>?_) λ_=>?_ | refine dK (λ_=>?_) λ_=>?_ | apply dF | apply bU | apply dA | apply bL | apply aG | refine dO ?_
    refine x_eq (aCM (by omega) (by rw [g2];exact hz) (by rw [g2];exact hl1)) (aG (.inl ⟨rfl,?_⟩))
    refine o3.fin h hx (by simp [gM,gI]) (uR (by simp [lD];try omega)) ?_ (by rw [g2,List.length_set];exact hl1) b1 b12 b13 b14
    rw [g2]
    refine p8 h.oD ⟨z1,z2,z3,z4,by simp only;omega,by simp only;omega,?_,z8⟩
    unfold bN;simp only;omega
theorem r16 {K:Int} {s:aB} {o:bJ} {n:Nat} (hn:66<n) (h:Inv K s) (hq:0<=o.aT/\o.aT<=288230376151711744) (ha:0<=o.bM/\o.bM<=288230376151711744):Ex (Kept K s) (LA n s o):=by
  unfold LA aBL
  simp only [WT.run,bT]
  refine aD (aQ (λ_=>aW _ (aGH hn h (by omega) ha) λr hr=>aG hr) λ_=>aD (aQ (λ_=>aW _ (aIK hn h hq ha) λr hr=>aG hr) λ_=>aG (.inr ⟨by simp,rfl⟩)))
theorem DK.ss {s t:aB} {e:Int} {l:List aN} (hs:SS s) (h:DK s e l t):SS t:=by
  obtain ⟨x,b,he,hx,hp,rfl⟩:=h
  exact hs.up hx λbH hm=>(hs.es _ _ _ hx hm).JN hp.1 hp.2.1
theorem HV {s t:aB} {n:Nat} (hn:66<n) (h:SS t) {e i:Int} {l:List aN} {r:cB} (hl:l.length<=60):Ex (λq=>(q.2=0/\∃ u,DK t e l u/\II u e i r q.1)\/(q.2≠0/\q.1=s)) (xO n s t e i l r):=by
  unfold xO aD6
  simp only [WT.run,bT]
  refine aW _ (qA hn h hl) λb hb=>?_
  refine aD (aQ (λk=>aG (.inr ⟨k,rfl⟩)) λkz=>?_)
  rcases hb with ⟨_,hb⟩ | ⟨k,_⟩
  rotate_left
  · exact absurd k kz
  refine aW _ (sK hn (hb.ss h)) λd hd=>?_
  refine aD (aQ (λk=>aG (.inr ⟨k,rfl⟩)) λkz=>?_)
  rcases hd with ⟨_,hd⟩ | ⟨k,_⟩
  rotate_left
  · exact absurd k kz
  exact aG (.inl ⟨rfl,_,hb,hd⟩)
theorem On.FK {K:Int} {s:aB} (hI:Inv K s) {e i:Int} {bH:List Int} {t u w:aB} {x x0:aP} {d:Int} {f:Nat->Int} {l:List aN} {r:cB} (h:On s e.toNat bH t x d f) (hx0:s.bA[e.toNat]?=some x0) (hb:x.dI=x0.dI) (hp:DK t e l u) (ht:II u e i r w)
    (h0:d=eU l 0) (hf:∀ j,bump f i.toNat (-lD r) j=0) (h1:eU l 1=0) (h11:eU l 11=0) (h12:eU l 12=0) (h13:eU l 13=0) (h14:eU l 14=0):Inv K w:=by
  obtain ⟨x2,o2,q1,q2,q3⟩:=h.rR hp h11
  obtain ⟨x3,o3,r1,r2⟩:=o2.wP ht
  obtain ⟨g1,g2,g3,g4,g5⟩:=o3.rc
  have hB:∀ a:Nat,a<17->bl x3 a=bl x0 a+eU l a:=λa ha=>by rw [oM r1,q1 a ha,oM hb]
  have b1:=hB 1 (by decide);have b12:=hB 12 (by decide);have b13:=hB 13 (by decide);have b14:=hB 14 (by decide)
  have c1:bl x3 1=bl x0 1+eU l 1:=b1
  have c12:bl x3 12=bl x0 12+eU l 12:=b12
  have c13:bl x3 13=bl x0 13+eU l 13:=b13
  have c14:bl x3 14=bl x0 14+eU l 14:=b14
  have:=o3.fin hI hx0 (by omega) hf (S:=w.dS) (by rw [g2];exact hI.oD) (by rw [g2];exact hI.l2) (by omega) (by omega) (by omega) (by omega)
  exact this
theorem aJ2 {K:Int} {s:aB} {o:bJ} {n:Nat} {x:aP} {bH:List Int} (hn:66<n) (h:Inv K s) (hq:0<=o.aT/\o.aT<=288230376151711744) (ht:iH s o.E o.Item) (hx:s.bA[o.E.toNat]?=some x) (hm:s.bF.Methods[o.E.toNat]?=some bH) (ho:EO s.bF bH x):Ex (Kept K s) (MV n s o):=by
  unfold MV TT
  simp only [WT.run,bT]
  have o0:=On.start hx hm ho
  refine aW _ (CW hn h.ss (by omega)) λb hb=>?_
  refine aD (aQ (λk=>aG (.inr ⟨k,rfl⟩)) λkz=>?_)
  rcases hb with ⟨_,hb⟩ | ⟨k,_⟩
  rotate_left
  · exact absurd k kz
  obtain ⟨f1,f2,f3,f4,f5,f6⟩:=hb.facts
  obtain ⟨x1,o1,p1,p2,p3⟩:=o0.DN hb
  refine bG (aW _ (HV hn (o1.ss h.ss) (by simp)) λc hc=>aG ?_)
  rcases hc with ⟨z,u,hp,hu⟩ | hc
  · exact .inl ⟨z,o1.FK h hx p1 hp hu (by simp [gM,gI]) (uR (by simp [lD];try omega)) (by simp [gM,gI]) (by simp [gM,gI]) (by simp [gM,gI]) (by simp [gM,gI]) (by simp [gM,gI])⟩
  · exact .inr hc
theorem aQ8 {K:Int} {s:aB} {o:bJ} {n:Nat} {x:aP} {bH:List Int} (hn:66<n) (h:Inv K s) (hq:0<=o.aT/\o.aT<=288230376151711744) (ht:iH s o.E o.Item) (hx:s.bA[o.E.toNat]?=some x) (hm:s.bF.Methods[o.E.toNat]?=some bH) (ho:EO s.bF bH x):Ex (Kept K s) (JX n s o):=by
  unfold JX WV
  simp only [WT.run,bT]
  have o0:=On.start hx hm ho
  refine aW _ (CW hn h.ss (by omega)) λb hb=>?_
  refine aD (aQ (λk=>aG (.inr ⟨k,rfl⟩)) λkz=>?_)
  rcases hb with ⟨_,hb⟩ | ⟨k,_⟩
  rotate_left
  · exact absurd k kz
  obtain ⟨f1,f2,f3,f4,f5,f6⟩:=hb.facts
  obtain ⟨x1,o1,p1,p2,p3⟩:=o0.DN hb
  have hbq:b.2.1.aT<=9223372036854775807:=by
    obtain ⟨y,m,o,p,p2,p',hs,e1,hio,hc,h1,h2,h3⟩:=hb
    obtain ⟨c1,c2,c3,c4,c5,c6,c7⟩:=hc
    have b1:=jA c1.ly;have b2:=jA hs.io.pp.ly
    omega
  refine aW _ (CP hn (o1.ss h.ss) hbq) λc hc=>?_
  refine aD (aQ (λk=>aG (.inr ⟨k,rfl⟩)) λkz=>?_)
  rcases hc with ⟨_,hc⟩ | ⟨k,_⟩
  rotate_left
  · exact absurd k kz
  obtain ⟨g1,g2,g3,g4,g5,g6,g7⟩:=hc.facts
  obtain ⟨x2,o2,q1,q2,q3⟩:=o1.brought hc
  refine bG (bG (aW _ (HV hn (o2.ss h.ss) (by simp)) λd hd=>aG ?_))
  rcases hd with ⟨z,u,hp,hu⟩ | hd
  · refine .inl ⟨z,o2.FK h hx (q1.trans p1) hp hu (by simp [gM,gI];omega) ?_ (by simp [gM,gI]) (by simp [gM,gI]) (by simp [gM,gI]) (by simp [gM,gI]) (by simp [gM,gI])⟩
    intro j;simp only [bump,lD];split <;> omega
  · exact .inr hd
theorem aOQ {K:Int} {s:aB} {o:bJ} {n:Nat} {x:aP} {bH:List Int} (hn:66<n) (h:Inv K s) (hq:0<=o.aT/\o.aT<=288230376151711744) (hlc:0<=o.Loc/\o.Loc<=1) (ht:iH s o.E o.Item) (hx:s.bA[o.E.toNat]?=some x) (hm:s.bF.Methods[o.E.toNat]?=some bH) (ho:EO s.bF bH x):Ex (Kept K s) (NA n s o):=by
  unfold NA ZE
  simp only [WT.run,bT]
  have o0:=On.start hx hm ho
  obtain ⟨x',m,k,p,p2,hs⟩:=h.ss.spot ht hlc
  have hx':=hs.en;rw [hx] at hx';cases hx'
  obtain ⟨ms',m1,m2⟩:=hs.ms
  obtain ⟨cs,c1,c2⟩:=hs.cs
  have hl:=jA hs.io.pp.ly
  have e0:=hs.io.pp.p0;have e1:=hs.io.pp.p1;have e2:=hs.io.pp.p2;have e3:=hs.io.pp.sum;have hkk:=hs.kk
  refine dB ht.1.1 m1 (dB ht.2.1 m2 (x_eq (pX h.ss.toS0 ht hlc hx hs.pp) (x_eq (aOY hn hs.io.pp) ?_)))
  refine bG (aD (aQ (λ_=>aG (.inl ⟨rfl,h⟩)) λk0=>aD (aQ (λk1=>bG ?_) λk1=>?_)))
  · refine aW _ (CW hn h.ss (by omega)) λb hb=>?_
    refine aD (aQ (λk=>aG (.inr ⟨k,rfl⟩)) λkz=>?_)
    rcases hb with ⟨_,hb⟩ | ⟨k,_⟩
    rotate_left
    · exact absurd k kz
    obtain ⟨f1,f2,f3,f4,f5,f6⟩:=hb.facts
    obtain ⟨x1,o1,p1,p2,p3⟩:=o0.DN hb
    refine bG (aW _ (HV hn (o1.ss h.ss) (by simp)) λc hc=>aG ?_)
    rcases hc with ⟨z,u,hp,hu⟩ | hc
    · exact .inl ⟨z,o1.FK h hx p1 hp hu (by simp [gM,gI]) (uR (by simp [lD];try omega)) (by simp [gM,gI]) (by simp [gM,gI]) (by simp [gM,gI]) (by simp [gM,gI]) (by simp [gM,gI])⟩
    · exact .inr hc
  · refine x_eq (y8 hn hs.io.pp.ly) ?_
    refine aD (aW (λ(r:Int×Int)=>0<=r.1/\r.1<=288230376151711744) ?_ λv hv=>?_)
    · refine fJ (λ_=>dB ht.1.1 c1 (dB ht.2.1 c2 (x_eq (BO hn (by omega) (by omega) (by decide)) (aG ?_)))) λ_=>aD (aQ (λ_=>x_eq (BO hn (by simp only;omega) (by omega) (by simp only;omega)) (aG ?_)) λ_=>aG (by decide))
      · have:=zW (o.aT-(tQ p.aI-p.bC.a0-p.bC.a1-p.bC.a2)) k 1;exact ⟨this.1,this.2.1⟩
      · have:=zW (tV p.aI) (o.aT-(tQ p.aI-p.bC.a0-p.bC.a1-p.bC.a2)) (tQ p.aI);exact ⟨this.1,this.2.1⟩
    · refine bK ?_
      refine aD (aQ (λk=>aG (.inr ⟨k,rfl⟩)) λkz=>?_)
      refine aW _ (CP (l:=⟨o.aT-(tQ p.aI-p.bC.a0-p.bC.a1-p.bC.a2),v.1,0⟩) hn h.ss (by simp only;omega)) λb hb=>?_
      refine aD (aQ (λk=>aG (.inr ⟨k,rfl⟩)) λkz=>?_)
      rcases hb with ⟨_,hb⟩ | ⟨k,_⟩
      rotate_left
      · exact absurd k kz
      obtain ⟨f1,f2,f3,f4,f5,f6,f7⟩:=hb.facts
      obtain ⟨x1,o1,p1,p2,p3⟩:=o0.brought hb
      refine bG (bG (aW _ (HV hn (o1.ss h.ss) (by simp)) λc hc=>aG ?_))
      rcases hc with ⟨z,u,hp,hu⟩ | hc
      · exact .inl ⟨z,o1.FK h hx p1 hp hu (by simp [gM,gI]) (uR (by simp [lD];try omega)) (by simp [gM,gI]) (by simp [gM,gI]) (by simp [gM,gI]) (by simp [gM,gI]) (by simp [gM,gI])⟩
      · exact .inr hc
theorem aE3 {l:List aF} {c:Int} {n:Nat} (hn:66<n) (hl:LR l) (h1:l.length<=1):Ex (λr=>r.2.2=0->LR r.1/\r.1.length<=1/\tQ r.1=tQ l/\tV r.1=tV l+r.2.1/\tS r.1<=tS l/\(-288230376151711744<=r.2.1/\r.2.1<=288230376151711744)) (I8 n l c):=by
  have hb:=jA hl
  unfold I8 aD9
  simp only [WT.run,bT]
  repeat' with_reducible first | refine bG ?_ | refine dZ ?_ | apply aD | apply bK | apply dY | apply dN | apply eB | apply d9 | apply dV | apply dQ | apply dW | apply dU | refine aQ (λ_=>?_) λ_=>?_ | refine dK (λ_=>?_) λ_=>?_ | apply dF | apply bU | apply dA | apply bL | apply aG
  · intro k;exact absurd k (by simp)
  · intro k;exact absurd k (by simp)
  · intro _;exact ⟨hl,h1,rfl,by simp,Int.le_refl _,by simp⟩
  rename_i k1 k2 k3
  refine x_eq (CF hn hl) (x_eq (L9 hn (by simp only;omega) (by omega)) ?_)
  have hm:=zW (tQ l) c 1
  repeat' with_reducible first | refine bG ?_ | refine dZ ?_ | apply aD | apply bK | apply dY | apply dN | apply eB | apply d9 | apply dV | apply dQ | apply dW | apply dU | refine aQ (λ_=>?_) λ_=>?_ | refine dK (λ_=>?_) λ_=>?_ | apply dF | apply bU | apply dA | apply bL | apply aG
  · intro k;exact absurd k (by simp)
  intro _
  have e:ab (tP l)<=tS l:=by unfold ab;split <;> omega
  simp only
  refine ⟨WU (by omega) (by omega) (by unfold bN;omega),by simp,by simp [tQ],by simp [tV];omega,by simp [tS];omega,by omega⟩
theorem aCS (f:Nat->Int) (i:Nat) (a b:Int):bump (bump f i a) i b=bump f i (a+b):=by
  funext j;unfold bump;split <;> omega
def ML (m:fM) (e:Nat) (c:List Int):fM:={ m with gX:=m.gX.set e c }
def X9 (s:aB) (e:Nat) (c:List Int):aB:={ s with bF:=ML s.bF e c }
theorem qL.cost {m:fM} (h:qL m) {e:Nat} {c:List Int} (hc:c.length=m.bW.length/\∀ x∈c,0<=x/\x<=1073741824):qL (ML m e c) :=
  ⟨h.xE,h.iZ,h.n1,h.wei,h.lm,by show ((m.gX.set e c).length:Int)=_;rw [List.length_set];exact h.lc,h.met,λl hl=>by rcases mem_set hl with rfl | hl;exact hc;exact h.cos l hl⟩
theorem Inv.cost {K:Int} {s:aB} (h:Inv K s) {e:Nat} {c:List Int} (hc:c.length=s.bF.bW.length/\∀ x∈c,0<=x/\x<=1073741824):Inv K (X9 s e c) :=
  ⟨h.kF.cost hc,h.len,h.zM,h.nO,h.oD,h.oO,h.l1,h.l2,h.l3,λf x bH hx hm=>by
    rcases h.ent f x bH hx hm with g | ⟨y,g⟩
    · exact .inl ⟨g.es,g.ee,g.opn,g.mH⟩
    · exact .inr ⟨y,g.es,g.ee,g.MW,g.mH,⟨g.eo.es,g.eo.ee,g.eo.opn,g.eo.mH⟩,g.now,g.b1,g.b12,g.b13,g.b14⟩,h.acc,h.way,h.zF⟩
theorem On.cost {s:aB} {e g:Nat} {c:List Int} {bH:List Int} {t:aB} {x:aP} {d:Int} {f:Nat->Int} (h:On s e bH t x d f):On (X9 s g c) e bH ⟨ML s.bF g c,t.bA,t.bX,t.dS,t.dH,t.Done⟩ x d f :=
  ⟨h.en,h.ms,by rw [h.eq];rfl,h.es,h.eb,h.opn,h.mH⟩
theorem aHD {K:Int} {s:aB} {o:bJ} {n:Nat} {x:aP} {bH:List Int} (hn:66<n) (h:Inv K s) (ha:0<=o.bM/\o.bM<=1073741824) (ht:iH s o.E o.Item) (hx:s.bA[o.E.toNat]?=some x) (hm:s.bF.Methods[o.E.toNat]?=some bH) (ho:EO s.bF bH x):Ex (Kept K s) (H9 n s o):=by
  unfold H9 Z4
  simp only [WT.run,bT]
  have o0:=On.start hx hm ho
  have hf:=h.ss.toS0.iK
  have hms:=(h.ss.bH hx)
  obtain ⟨mts',hm',hml,_,_⟩:=hms
  rw [hm] at hm';cases hm'
  obtain ⟨cs,hc,hcl,hcb⟩:=h.cst (e:=o.E.toNat) (by have:=ht.1;omega)
  have ht1:=ht.1;have ht2:=ht.2
  have hlc:=h.kF.lc;have hme:=h.kF.xE
  refine dB ht.1.1 hm (eZ ht.2.1 (by omega) λm hmm=>?_)
  have hmm:bH[o.Item.toNat]?=some m:=hmm
  refine aD (aQ (λ_=>aG (.inr ⟨by simp,rfl⟩)) λk4=>?_)
  have k4:m=4:=by omega
  refine aW (λ(r:(Int×aB)⊕(aB×Int))=>match r with | .inl r=>∃ x',On s o.E.toNat bH r.2 x' r.1 (bump (λ_=>0) o.Item.toNat r.1)/\x'.dI=x.dI/\(-576460752303423488<=r.1/\r.1<=576460752303423488) | .inr r=>r.2≠0/\r.1=s)
    (gB (λ(v:Int×Int×aB)=>0<=v.2.1/\v.2.1<=2/\∃ x',On s o.E.toNat bH v.2.2 x' v.1 (bump (λ_=>0) o.Item.toNat v.1)/\x'.dI=x.dI/\(-288230376151711744*v.2.1<=v.1/\v.1<=288230376151711744*v.2.1)) (λ(v:Int×Int×aB)=>2-v.2.1.toNat) ?_ (v:=(0,0,s)) ?_ (by simp;omega)) λr hr=>jQ (λa e=>?_) λb e=>?_
  · rintro ⟨more,k,t⟩ ⟨h0,h1,x1,o1,p1,p2⟩
    simp only at h0 h1 o1 p2
    obtain ⟨g1,g2,g3,g4,g5⟩:=o1.rc
    refine bK (bK (aD (aQ (λkk=>?_) λkk=>bL (dD ⟨x1,o1,p1,by simp only;omega⟩))))
    have kk:k<2:=kk
    have htt:iH t o.E o.Item:=⟨⟨ht1.1,by rw [g5];exact ht1.2⟩,by rw [g4];exact ht2⟩
    obtain ⟨x',m',c',p,q,hs⟩:=(o1.ss h.ss).spot (c:=k) htt (by omega)
    have hx':=hs.en;rw [o1.at] at hx';cases hx'
    have hm4:=(hs.es bH (by rw [g4];exact hm)).1
    rw [hmm] at hm4;cases hm4
    refine x_eq (pX (c:=k) (o1.ss h.ss).toS0 htt (by omega) o1.at hs.pp) (aW _ (aE3 hn hs.io.pp.ly (hs.io.pp.one (by omega))) λb hb=>?_)
    refine aD (aQ (λk5=>bL (bL (aG ⟨k5,rfl⟩))) λk5=>?_)
    obtain ⟨b1,b2,b3,b4,b5,b6⟩:=hb (by omega)
    have hio:IO m ⟨b.1,p.bC⟩ q:=⟨M4 hs.io.pp b1 (λ_=>b2) (by omega),hs.io.qq,by have:=hs.io.sq;simp only;omega,by have:=hs.io.ss;simp only;omega⟩
    obtain ⟨x2,o2,q1,_,_⟩:=o1.MJ hs hio (v:=b.2.1) (by simp only;omega)
    rw [aCS] at o2
    refine x_eq (yY (o1.ss h.ss) hs) (lI (by simp only;omega) (lI (by simp only;omega) (dD ⟨⟨by simp only;omega,by simp only;omega,x2,o2,q1.trans p1,by simp only;omega⟩,by simp only;omega⟩)))
  · refine ⟨by simp,by simp,x,?_,rfl,by simp⟩
    have:bump (λ_=>0) o.Item.toNat 0=λ_=>0:=by funext j;unfold bump;simp
    simp only;rw [this];exact o0
  · subst e
    obtain ⟨x1,o1,p1,p2⟩:=hr
    obtain ⟨g1,g2,g3,g4,g5⟩:=o1.rc
    refine bK (dO (dB ht1.1 hc (dO (dB ht1.1 hc (eZ ht2.1 (by omega) λ_ _=>aD (bG ?_))))))
    have hcs:(cs.set o.Item.toNat o.bM).length=s.bF.bW.length/\∀ x∈cs.set o.Item.toNat o.bM,0<=x/\x<=1073741824:=⟨by rw [List.length_set];exact hcl,p8 hcb ha⟩
    have o2:=o1.cost (g:=o.E.toNat) (c:=cs.set o.Item.toNat o.bM)
    have hI:=h.cost (e:=o.E.toNat) hcs
    have em:(⟨a.2.bF.gG,a.2.bF.gZ,a.2.bF.bW,a.2.bF.Methods,s.bF.gX.set o.E.toNat (cs.set o.Item.toNat o.bM)⟩:fM)=ML s.bF o.E.toNat (cs.set o.Item.toNat o.bM):=by rw [g4];rfl
    rw [em]
    refine aW _ (HV hn (o2.ss hI.ss) (by simp)) λc hc=>aG ?_
    rcases hc with ⟨z,u,hp,hu⟩ | hc
    · exact .inl ⟨z,o2.FK hI hx p1 hp hu (by simp [gM,gI]) (uR (by simp [lD];try omega)) (by simp [gM,gI]) (by simp [gM,gI]) (by simp [gM,gI]) (by simp [gM,gI]) (by simp [gM,gI])⟩
    · exact .inr hc
  · subst e;exact .inr hr
theorem r17 {K:Int} {s:aB} {o:bJ} {n:Nat} (hn:66<n) (h:Inv K s) (hq:0<=o.aT/\o.aT<=288230376151711744) (ha:0<=o.bM/\(o.Kind=9->o.bM<=1073741824)) (hlc:o.Kind=7->0<=o.Loc/\o.Loc<=1):Ex (Kept K s) (NB n s o):=by
  unfold NB XT
  simp only [WT.run,bT]
  repeat' with_reducible first | refine bG ?_ | refine dZ ?_ | apply aD | apply bK | apply dY | apply dN | apply eB | apply d9 | apply dV | apply dQ | apply dW | apply dU | refine aQ (λ_=>?_) λ_=>?_ | refine dK (λ_=>?_) λ_=>?_ | apply dF | apply bU | apply dA | apply bL | apply aG
  all_goals try exact Or.inr ⟨by simp,rfl⟩
  rename_i k1 k2
  refine aW _ (tZ h o.E o.Item) λr hr=>?_
  refine aD (aQ (λk=>aG (.inr ⟨k,rfl⟩)) λkz=>?_)
  obtain ⟨ht,x,bH,hx,hm,ho⟩:=hr (by omega)
  refine aD (aQ (λk=>aW _ (aJ2 hn h hq ht hx hm ho) λr hr=>aG hr) λk=>aD (aQ (λk=>aW _ (aOQ hn h hq (hlc k) ht hx hm ho) λr hr=>aG hr) λk=>aD (aQ (λk=>aW _ (aQ8 hn h hq ht hx hm ho) λr hr=>aG hr) λk=>aW _ (aHD hn h ⟨ha.1,ha.2 (by omega)⟩ ht hx hm ho) λr hr=>aG hr)))
end Go.Pv
