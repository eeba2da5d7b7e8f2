import Derived.Test.YtidcjedeacampaaGreatM70
set_option linter.unusedVariables false
set_option linter.unusedSimpArgs false
namespace Go.Pv
open Go.Proofs
set_option maxRecDepth 100000
set_option maxHeartbeats 1000000
def qH (s:aB) (e i c:Int) (x:aP) (p':aS):aB:=mO s e.toNat { x with bR:=x.bR.set (2*i.toNat+c.toNat) p' }
def K3 (s:aB) (e i c:Int) (l:aF) (t:aB) (carried above:Int):Prop :=
  ∃ x m k p q p',o8 s e i c x m k p q/\t=qH s e i c x p'/\IO m p' q/\Came m p p' l above/\carried=l.Value-above/\(-288230376151711744<=above/\above<=288230376151711744)
theorem o8.both {s:aB} {e i c m k:Int} {x:aP} {p q:aS} (h:o8 s e i c x m k p q):∃ a b,x.bR[2*i.toNat]?=some a/\x.bR[2*i.toNat+1]?=some b/\((c=0/\a=p/\b=q)\/(c=1/\a=q/\b=p)):=by
  have h1:=h.pp;have h2:=h.qq;have hc:=h.lc
  rcases (by omega:c=0\/c=1) with rfl | rfl
  · exact ⟨p,q,h1,h2,.inl ⟨rfl,rfl,rfl⟩⟩
  · exact ⟨q,p,h2,h1,.inr ⟨rfl,rfl,rfl⟩⟩
theorem o8.put {s:aB} {e i c m k:Int} {x:aP} {p q p':aS} (h:o8 s e i c x m k p q):(qH s e i c x p').bA[e.toNat]?=some { x with bR:=x.bR.set (2*i.toNat+c.toNat) p' } /\
    ∃ a b,(x.bR.set (2*i.toNat+c.toNat) p')[2*i.toNat]?=some a/\(x.bR.set (2*i.toNat+c.toNat) p')[2*i.toNat+1]?=some b/\((c=0/\a=p'/\b=q)\/(c=1/\a=q/\b=p')):=by
  have hk:2*i.toNat+c.toNat<x.bR.length:=(List.getElem?_eq_some_iff.1 h.pp).1
  have he:e.toNat<s.bA.length:=(List.getElem?_eq_some_iff.1 h.en).1
  refine ⟨TK he,?_⟩
  obtain ⟨a,b,h1,h2,h3⟩:=h.both
  rw [mE hk,mE hk]
  rcases h3 with ⟨rfl,rfl,rfl⟩ | ⟨rfl,rfl,rfl⟩
  · exact ⟨p',b,by rw [if_pos (by simp)],by rw [if_neg (by simp)];exact h2,.inl ⟨rfl,rfl,rfl⟩⟩
  · exact ⟨a,p',by rw [if_neg (by simp)];exact h1,by rw [if_pos (by simp)],.inr ⟨rfl,rfl,rfl⟩⟩
theorem o8.ss {s:aB} (hs:SS s) {e i c m k:Int} {x:aP} {p q p':aS} (h:o8 s e i c x m k p q) (hio:IO m p' q):SS (qH s e i c x p'):=by
  refine hs.up h.en λbH hm=>?_
  obtain ⟨h1,h2⟩:=h.es bH hm
  have ht:=h.th.2;have hc:=h.lc
  exact h2.put (by omega) (by omega) h1 h.qq hio
theorem CP {s:aB} {n:Nat} (hn:66<n) (h:SS s) {e i c:Int} {l:aF} (hl:l.aT<=9223372036854775807) :
    Ex (λr=>(r.2.2.2=0/\K3 s e i c l r.1 r.2.1 r.2.2.1)\/(r.2.2.2≠0/\r.1=s)) (qO n s e i c l):=by
  have hf:=h.toS0.iK
  unfold qO K8
  simp only [WT.run,bT,uJ h.toS0,qX,Option.bind_some]
  repeat' with_reducible first | refine bG ?_ | refine dZ ?_ | apply aD | apply bK | apply dY | apply dN | apply eB | apply d9 | apply dV | apply dQ | apply dW | apply dU | refine aQ (λ_=>?_) λ_=>?_ | refine dK (λ_=>?_) λ_=>?_ | apply dF | apply bU | apply dA | apply bL | apply aG
  all_goals try exact Or.inr ⟨by simp,rfl⟩
  rename_i ht hc
  have ht:=of_decide_eq_true ht;have hc:=of_decide_eq_true hc
  obtain ⟨x,m,k,p,q,hs⟩:=h.spot ht hc
  obtain ⟨bH,m1,m2⟩:=hs.ms
  obtain ⟨cs,c1,c2⟩:=hs.cs
  refine dB ht.1.1 m1 (dB ht.2.1 m2 (dB ht.1.1 c1 (dB ht.2.1 c2 (x_eq (pX h.toS0 ht hc hs.en hs.pp) (aW _ (aDM hn hs.io.pp hs.kk hl) λr hr=>?_)))))
  repeat' with_reducible first | refine bG ?_ | refine dZ ?_ | apply aD | apply bK | apply dY | apply dN | apply eB | apply d9 | apply dV | apply dQ | apply dW | apply dU | refine aQ (λ_=>?_) λ_=>?_ | refine dK (λ_=>?_) λ_=>?_ | apply dF | apply bU | apply dA | apply bL | apply aG
  · rename_i k;exact .inr ⟨k,rfl⟩
  rename_i kz
  rcases hr with ⟨r1,r2,r3⟩ | ⟨r1,_⟩
  rotate_left
  · exact absurd r1 kz
  refine x_eq (yY h hs) ?_
  have hP:PR m r.1:=r2.1
  have hQ:=hs.io.qq
  obtain ⟨en2,a,b,pa,pb,hab⟩:=hs.put (p':=r.1)
  have h0:S0 (qH s e i c x r.1):=⟨h.kF,by show ((s.bA.set _ _).length:Int)=_;rw [List.length_set];exact h.len⟩
  have ht2:iH (qH s e i c x r.1) e i:=by
    refine ⟨⟨ht.1.1,?_⟩,ht.2⟩
    show e<((s.bA.set _ _).length:Int);rw [List.length_set];exact ht.1.2
  have la:LR a.aI/\LR b.aI/\tQ a.aI+tQ b.aI=tQ r.1.aI+tQ q.aI/\tV a.aI+tV b.aI=tV r.1.aI+tV q.aI/\tS a.aI+tS b.aI=tS r.1.aI+tS q.aI:=by
    rcases hab with ⟨_,rfl,rfl⟩ | ⟨_,rfl,rfl⟩
    · exact ⟨hP.ly,hQ.ly,rfl,rfl,rfl⟩
    · exact ⟨hQ.ly,hP.ly,Int.add_comm _ _,Int.add_comm _ _,Int.add_comm _ _⟩
  obtain ⟨l1,l2,l3,l4,l5⟩:=la
  have lb1:=jA l1;have lb2:=jA l2
  refine aW _ (NP hn h0 ht2 en2 pa pb l1 l2) λw hw=>?_
  repeat' with_reducible first | refine bG ?_ | refine dZ ?_ | apply aD | apply bK | apply dY | apply dN | apply eB | apply d9 | apply dV | apply dQ | apply dW | apply dU | refine aQ (λ_=>?_) λ_=>?_ | refine dK (λ_=>?_) λ_=>?_ | apply dF | apply bU | apply dA | apply bL | apply aG
  · exact .inr ⟨(λk=>nomatch k),rfl⟩
  rename_i kw
  have kw:=hw.2.1 (by omega)
  have kq:=(sO _ _).2.1 kw.1
  have kv:=(sO _ _).2.1 kw.2.1
  have a0:=pX (c:=0) h0 ht2 (by omega) en2 pa
  have a1:=pX (c:=1) h0 ht2 (by omega) en2 pb
  refine aW (λr=>r=a.aI++b.aI) ?_ λy hy=>?_
  · obtain ⟨m',rfl⟩:∃ m',n=m'+3:=⟨n-3,by omega⟩
    show Ex _ (iter _ (m'+2+1) _)
    refine aW (λr=>r=.inl (1,a.aI)) ?_ λr hr=>?_
    · refine bK (aD (aQ (λ_=>x_eq a0 ?_) λk=>absurd (show (0:Int)<2 by decide) k))
      repeat' with_reducible first | refine bG ?_ | refine dZ ?_ | apply aD | apply bK | apply dY | apply dN | apply eB | apply d9 | apply dV | apply dQ | apply dW | apply dU | refine aQ (λ_=>?_) λ_=>?_ | refine dK (λ_=>?_) λ_=>?_ | apply dF | apply bU | apply dA | apply bL | apply aG
      refine dO ?_
      exact bG (dD rfl)
    · subst hr
      refine dA ?_
      show Ex _ (iter _ (m'+1+1) _)
      refine aW (λr=>r=.inl (2,a.aI++b.aI)) ?_ λr hr=>?_
      · refine bK (aD (aQ (λ_=>x_eq a1 ?_) λk=>absurd (show (1:Int)<2 by decide) k))
        repeat' with_reducible first | refine bG ?_ | refine dZ ?_ | apply aD | apply bK | apply dY | apply dN | apply eB | apply d9 | apply dV | apply dQ | apply dW | apply dU | refine aQ (λ_=>?_) λ_=>?_ | refine dK (λ_=>?_) λ_=>?_ | apply dF | apply bU | apply dA | apply bL | apply aG
        refine dO ?_
        exact bG (dD rfl)
      · subst hr
        refine dA ?_
        show Ex _ (iter _ (m'+1) _)
        refine aW (λr=>r=.inr (a.aI++b.aI)) ?_ λr hr=>?_
        · exact bK (aD (aQ (λk=>absurd k (show ¬(2:Int)<2 by decide)) λk=>bL (aG rfl)))
        · subst hr;exact vH rfl
  · subst hy
    obtain ⟨z1,z2,z3,z4⟩:=vR a.aI b.aI
    obtain ⟨r4,r5,r6,r7,r8,r9,zP⟩:=r2
    refine aW _ (P9 (l:=a.aI++b.aI) (by simp;omega) (by simp;omega) λy hy=>?_) λw2 hw2=>?_
    · rcases List.mem_append.1 hy with hy | hy
      · exact l1.1 y hy
      · exact l2.1 y hy
    repeat' with_reducible first | refine bG ?_ | refine dZ ?_ | apply aD | apply bK | apply dY | apply dN | apply eB | apply d9 | apply dV | apply dQ | apply dW | apply dU | refine aQ (λ_=>?_) λ_=>?_ | refine dK (λ_=>?_) λ_=>?_ | apply dF | apply bU | apply dA | apply bL | apply aG
    · exact .inr ⟨(λk=>nomatch k),rfl⟩
    rename_i k2
    have k3:=hw2.2 (by omega)
    unfold bN at kq kv
    exact (.inl ⟨rfl,x,m,k,p,q,r.1,hs,rfl,⟨hP,hQ,by omega,by omega⟩,⟨r4,r5,r6,r7,r8,r9,zP⟩,rfl,r3⟩)
def KP (s:aB) (e i c k q:Int) (t:aB) (l:aF) (w:Bool):Prop :=
  ∃ x m o p p2 p',o8 s e i c x m o p p2/\t=qH s e i c x p'/\IO m p' p2/\Gone m p p' l/\1<=q/\(w=false->l.aT=q)/\(w=true->l=⟨0,0,0⟩/\m=3/\k≠3)
theorem CW {s:aB} {n:Nat} (hn:66<n) (h:SS s) {e i c k q:Int} (hq:-9223372036854775808<=q/\q<=9223372036854775807) :
    Ex (λr=>(r.2.2.2=0/\KP s e i c k q r.1 r.2.1 r.2.2.1)\/(r.2.2.2≠0/\r.1=s)) (uS n s e i c k q):=by
  have hf:=h.toS0.iK
  unfold uS
  simp only [uJ h.toS0,qX,Option.bind_some]
  repeat' with_reducible first | refine bG ?_ | refine dZ ?_ | apply aD | apply bK | apply dY | apply dN | apply eB | apply d9 | apply dV | apply dQ | apply dW | apply dU | refine aQ (λ_=>?_) λ_=>?_ | refine dK (λ_=>?_) λ_=>?_ | apply dF | apply bU | apply dA | apply bL | apply aG
  all_goals try exact Or.inr ⟨by simp,rfl⟩
  rename_i ht hc
  have ht:=of_decide_eq_true ht;have hc:=of_decide_eq_true hc
  obtain ⟨x,m,o,p,p2,hs⟩:=h.spot ht hc
  obtain ⟨bH,m1,m2⟩:=hs.ms
  obtain ⟨cs,c1,c2⟩:=hs.cs
  refine dB ht.1.1 m1 (dB ht.2.1 m2 (dB ht.1.1 c1 (dB ht.2.1 c2 (x_eq (pX h.toS0 ht hc hs.en hs.pp) (aW _ (aU2 hn hs.io.pp hs.kk hq) λr hr=>?_)))))
  repeat' with_reducible first | refine bG ?_ | refine dZ ?_ | apply aD | apply bK | apply dY | apply dN | apply eB | apply d9 | apply dV | apply dQ | apply dW | apply dU | refine aQ (λ_=>?_) λ_=>?_ | refine dK (λ_=>?_) λ_=>?_ | apply dF | apply bU | apply dA | apply bL | apply aG
  · rename_i k;exact .inr ⟨k,rfl⟩
  rename_i kz
  rcases hr with ⟨r1,r2,r3,r4,r5⟩ | r1
  rotate_left
  · exact absurd r1 kz
  refine x_eq (yY h hs) (aG (.inl ⟨rfl,x,m,o,p,p2,r.1,hs,rfl,?_,r3,r2,r4,r5⟩))
  obtain ⟨g1,g2,g3,g4,g5,g6,g7⟩:=r3
  have i1:=hs.io.sq;have i3:=hs.io.ss
  have b1:=jA g1.ly;have b2:=jA hs.io.pp.ly
  have b3:=nY r.2.1.bO
  refine ⟨g1,hs.io.qq,?_,by omega⟩
  cases hw:r.2.2.1 with
  | false=>have:=r4 hw;omega
  | true=>have:=(r5 hw).1;rw [this] at g2;simp only at g2;omega
structure oZ (x:aP) (d:Int) (f:Nat->Int):Prop where
  ctl:sV x.bR=bl x 0+d
  qW:cZ x.Down=-bl x 11
  rE:cZ x.dI=0
  o6:∀ (i:Nat) r p q,x.dJ[i]?=some r->x.bR[2*i]?=some p->x.bR[2*i+1]?=some q->lD r+f i=tV p.aI+tV q.aI
theorem EB.x {x:aP} (h:EB x):oZ x 0 (λ_=>0):=⟨by have:=h.ctl;omega,h.qW,h.rE,λi r p q h1 h2 h3=>by have:=h.o6 i r p q h1 h2 h3;omega⟩
theorem oZ.done {x:aP} {d:Int} {f:Nat->Int} (h:oZ x d f) (hd:d=0) (hf:∀ i,f i=0):EB x:=⟨by have:=h.ctl;omega,h.qW,h.rE,λi r p q h1 h2 h3=>by have:=h.o6 i r p q h1 h2 h3;have:=hf i;omega⟩
def bump (f:Nat->Int) (i:Nat) (v:Int) (j:Nat):Int:=f j+if j=i then v else 0
theorem oZ.put {x:aP} {d:Int} {f:Nat->Int} (h:oZ x d f) {i c:Nat} {p p':aS} (hc:c<2) (hp:x.bR[2*i+c]?=some p) {v:Int} (hv:tV p'.aI-tV p.aI=v):oZ { x with bR:=x.bR.set (2*i+c) p' } (d+v) (bump f i v):=by
  have hk:2*i+c<x.bR.length:=(List.getElem?_eq_some_iff.1 hp).1
  refine ⟨?_,h.qW,h.rE,?_⟩
  · show sV (x.bR.set (2*i+c) p')=bl x 0+(d+v)
    rw [IB hp];have:=h.ctl;omega
  · intro j r a b hr ha hb
    have ha:(x.bR.set (2*i+c) p')[2*j]?=some a:=ha
    have hb:(x.bR.set (2*i+c) p')[2*j+1]?=some b:=hb
    rw [mE hk] at ha hb
    unfold bump
    by_cases hj:j=i
    · subst hj
      rw [if_pos rfl]
      rcases (by omega:c=0\/c=1) with rfl | rfl
      · rw [if_pos (by omega)] at ha;rw [if_neg (by omega)] at hb;cases ha
        have h1:=h.o6 j r p b hr hp hb
        omega
      · rw [if_neg (by omega)] at ha;rw [if_pos (by omega)] at hb;cases hb
        have h1:=h.o6 j r a p hr ha hp
        omega
    · rw [if_neg (by omega)] at ha hb
      rw [if_neg hj,Int.add_zero]
      exact h.o6 j r a b hr ha hb
theorem oZ.roll {x:aP} {d:Int} {f:Nat->Int} (h:oZ x d f) {i:Nat} {r0 r:cB} (hr:x.dJ[i]?=some r0):oZ { x with dJ:=x.dJ.set i (sZ r0 r) } d (bump f i (-lD r)):=by
  have hk:i<x.dJ.length:=(List.getElem?_eq_some_iff.1 hr).1
  refine ⟨h.ctl,h.qW,h.rE,?_⟩
  intro j s a b hs ha hb
  have hs:(x.dJ.set i (sZ r0 r))[j]?=some s:=hs
  rw [mE hk] at hs
  unfold bump
  by_cases hj:j=i
  · subst hj
    rw [if_pos rfl] at hs;cases hs;rw [if_pos rfl]
    have h1:=h.o6 j r0 a b hr ha hb
    unfold lD sZ at *
    simp only
    omega
  · rw [if_neg (Ne.symm hj)] at hs;rw [if_neg hj,Int.add_zero]
    exact h.o6 j s a b hs ha hb
theorem oZ.post {x:aP} {d:Int} {f:Nat->Int} (h:oZ x d f) {l:List aN} {b:List Int} (hb:KC x.dI l b) (h11:eU l 11=0):oZ { x with dI:=b } (d-eU l 0) f:=by
  obtain ⟨b1,b2,b3,b4⟩:=hb
  have e0:b.getD 0 0=x.dI.getD 0 0+eU l 0:=b3 0 (by decide)
  have e11:b.getD 11 0=x.dI.getD 11 0+eU l 11:=b3 11 (by decide)
  refine ⟨?_,?_,?_,h.o6⟩
  · show sV x.bR=b.getD 0 0+(d-eU l 0)
    have:=h.ctl;unfold bl at this;omega
  · show cZ x.Down=-b.getD 11 0
    have:=h.qW;unfold bl at this;omega
  · show cZ b=0
    rw [b4];exact h.rE
structure On (s:aB) (e:Nat) (bH:List Int) (t:aB) (x:aP) (d:Int) (f:Nat->Int):Prop where
  en:e<s.bA.length
  ms:s.bF.Methods[e]?=some bH
  eq:t=mO s e x
  es:ES s.bF.bW.length bH s.bF.gZ x
  eb:oZ x d f
  opn:x.Closed=false
  mH:x.fZ=[]
theorem aRS {s:aB} {e:Nat} {x:aP} (h:s.bA[e]?=some x):s=mO s e x:=by
  have:s.bA.set e x=s.bA:=by
    obtain ⟨h1,h2⟩:=List.getElem?_eq_some_iff.1 h
    subst h2;exact List.set_getElem_self h1
  unfold mO;rw [this]
theorem On.start {s:aB} {e:Nat} {bH:List Int} {x:aP} (hx:s.bA[e]?=some x) (hm:s.bF.Methods[e]?=some bH) (ho:EO s.bF bH x):On s e bH s x 0 (λ_=>0) :=
  ⟨(List.getElem?_eq_some_iff.1 hx).1,hm,aRS hx,ho.es,ho.ee.x,ho.opn,ho.mH⟩
theorem On.at {s:aB} {e:Nat} {bH:List Int} {t:aB} {x:aP} {d:Int} {f:Nat->Int} (h:On s e bH t x d f):t.bA[e]?=some x:=by rw [h.eq];exact TK h.en
theorem On.ss {s:aB} {e:Nat} {bH:List Int} {t:aB} {x:aP} {d:Int} {f:Nat->Int} (hs:SS s) (h:On s e bH t x d f):SS t:=by
  rw [h.eq]
  exact hs.up (List.getElem?_eq_getElem h.en) λm hm=>by rw [h.ms] at hm;cases hm;exact h.es
theorem On.done {s:aB} {e:Nat} {bH:List Int} {t:aB} {x:aP} {d:Int} {f:Nat->Int} (h:On s e bH t x d f) (hd:d=0) (hf:∀ i,f i=0):EO s.bF bH x:=⟨h.es,h.eb.done hd hf,h.opn,h.mH⟩
theorem On.set {s:aB} {e:Nat} {bH:List Int} {t:aB} {x y:aP} {d d':Int} {f f':Nat->Int} (h:On s e bH t x d f) (hes:ES s.bF.bW.length bH s.bF.gZ y) (heb:oZ y d' f') (ho:y.Closed=x.Closed) (ha:y.fZ=x.fZ):On s e bH (mO t e y) y d' f' :=
  ⟨h.en,h.ms,by rw [h.eq,WX],hes,heb,ho.trans h.opn,ha.trans h.mH⟩
theorem On.brought {s:aB} {e i c:Int} {bH:List Int} {t t':aB} {x:aP} {d:Int} {f:Nat->Int} {l:aF} {carried above:Int} (h:On s e.toNat bH t x d f) (hb:K3 t e i c l t' carried above) :
    ∃ x',On s e.toNat bH t' x' (d+carried) (bump f i.toNat carried)/\x'.dI=x.dI/\x'.fQ=x.fQ/\x'.dJ=x.dJ:=by
  obtain ⟨y,m,k,p,q,p',hs,e1,hio,hc,e2,hab⟩:=hb
  have hy:=hs.en;rw [h.at] at hy;cases hy
  obtain ⟨c1,c2,c3,c4,c5,c6,c7⟩:=hc
  have hlc:=hs.lc;have hth:=hs.th.2
  have hM:t.bF=s.bF:=by rw [h.eq];rfl
  rw [hM] at hth
  have g:=h.es.put (by omega) (by omega) (hs.es bH (by rw [hM];exact h.ms)).1 hs.qq hio
  exact ⟨{ x with bR:=x.bR.set (2*i.toNat+c.toNat) p' },by rw [e1];exact h.set g (h.eb.put (p:=p) (p':=p') (by omega) hs.pp (v:=carried) (by omega)) rfl rfl,rfl,rfl,rfl⟩
theorem On.DN {s:aB} {e i c k q:Int} {bH:List Int} {t t':aB} {x:aP} {d:Int} {f:Nat->Int} {l:aF} {w:Bool} (h:On s e.toNat bH t x d f) (hb:KP t e i c k q t' l w) :
    ∃ x',On s e.toNat bH t' x' (d+-l.Value) (bump f i.toNat (-l.Value))/\x'.dI=x.dI/\x'.fQ=x.fQ/\x'.dJ=x.dJ:=by
  obtain ⟨y,m,o,p,p2,p',hs,e1,hio,hc,_⟩:=hb
  have hy:=hs.en;rw [h.at] at hy;cases hy
  obtain ⟨c1,c2,c3,c4,c5,c6,c7⟩:=hc
  have hlc:=hs.lc;have hth:=hs.th.2
  have hM:t.bF=s.bF:=by rw [h.eq];rfl
  rw [hM] at hth
  have g:=h.es.put (by omega) (by omega) (hs.es bH (by rw [hM];exact h.ms)).1 hs.qq hio
  exact ⟨{ x with bR:=x.bR.set (2*i.toNat+c.toNat) p' },by rw [e1];exact h.set g (h.eb.put (p:=p) (p':=p') (by omega) hs.pp (v:=-l.Value) (by omega)) rfl rfl,rfl,rfl,rfl⟩
theorem On.rR {s:aB} {e:Int} {bH:List Int} {t t':aB} {x:aP} {d:Int} {f:Nat->Int} {l:List aN} (h:On s e.toNat bH t x d f) (hb:DK t e l t') (h11:eU l 11=0) :
    ∃ x',On s e.toNat bH t' x' (d-eU l 0) f/\(∀ a:Nat,a<17->bl x' a=bl x a+eU l a)/\x'.fQ=x.fQ/\x'.dJ=x.dJ:=by
  obtain ⟨y,b,he,hy,hp,e1⟩:=hb
  rw [h.at] at hy;cases hy
  exact ⟨{ x with dI:=b },by rw [e1];exact h.set (h.es.JN hp.1 hp.2.1) (h.eb.post hp h11) rfl rfl,λa ha=>hp.2.2.1 a ha,rfl,rfl⟩
theorem On.wP {s:aB} {e i:Int} {bH:List Int} {t t':aB} {x:aP} {d:Int} {f:Nat->Int} {r:cB} (h:On s e.toNat bH t x d f) (hb:II t e i r t') :
    ∃ x',On s e.toNat bH t' x' d (bump f i.toNat (-lD r))/\x'.dI=x.dI/\x'.fQ=x.fQ:=by
  obtain ⟨y,r0,ht,hy,hr0,hr,e1⟩:=hb
  rw [h.at] at hy;cases hy
  exact ⟨{ x with dJ:=x.dJ.set i.toNat (sZ r0 r) },by rw [e1];exact h.set (h.es.TN hr) (h.eb.roll hr0) rfl rfl,rfl,rfl⟩
def Kept (K:Int) (s:aB) (r:aB×Int):Prop:=(r.2=0/\Inv K r.1)\/(r.2≠0/\r.1=s)
theorem tZ {K:Int} {s:aB} (h:Inv K s) (e i:Int):Ex (λr=>r=0->iH s e i/\∃ x bH,s.bA[e.toNat]?=some x/\s.bF.Methods[e.toNat]?=some bH/\EO s.bF bH x) (pK s e i):=by
  unfold pK NN
  simp only [WT.run,bT,uJ h.ss.toS0,Option.bind_some]
  repeat' with_reducible first | refine bG ?_ | refine dZ ?_ | apply aD | apply bK | apply dY | apply dN | apply eB | apply d9 | apply dV | apply dQ | apply dW | apply dU | refine aQ (λ_=>?_) λ_=>?_ | refine dK (λ_=>?_) λ_=>?_ | apply dF | apply bU | apply dA | apply bL | apply aG
  · exact λk=>nomatch k
  rename_i ht
  have ht:=of_decide_eq_true ht
  obtain ⟨x,hx⟩:=ht.at
  obtain ⟨bH,hm,_⟩:=h.ss.bH hx
  refine dB ht.1.1 hx (fJ (λ_=>aG (λk=>nomatch k)) λk=>aG λ_=>⟨ht,x,bH,hx,hm,?_⟩)
  rcases h.ent _ _ _ hx hm with h | ⟨y,h⟩
  · exact h
  · rw [h.MW] at k;cases k
theorem gM (x:aN) (l:List aN) (a:Int):eU (x :: l) a=(if x.dL=a then x.bM else 0)+eU l a:=rfl
theorem gI (a:Int):eU [] a=0:=rfl
theorem On.inv {K:Int} {s:aB} (hI:Inv K s) {e:Int} {bH:List Int} {t:aB} {x y:aP} {d:Int} {f:Nat->Int} (h:On s e.toNat bH t y d f) (hx:s.bA[e.toNat]?=some x) (hd:d=0) (hf:∀ i,f i=0) {R:List dX} {S:List fA} {T:List fP}
    (hR:∀ r∈R,zD s.bF r) (hS:∀ r∈S,qJ s.bF r) (hT:∀ r∈T,CE s.bF r) (l1:R.length<=40) (l2:S.length<=40) (l3:T.length<=40)
    (ha:eD (jO e.toNat) R-eD (jO e.toNat) s.bX=bl x 1-bl y 1) (ha':∀ f,f≠e.toNat->eD (jO f) R=eD (jO f) s.bX)
    (hw:eD (iV e.toNat) T-eD (iV e.toNat) s.dH=bl y 12-bl x 12) (hw':∀ f,f≠e.toNat->eD (iV f) T=eD (iV f) s.dH)
    (hg:lC y=lC x):Inv K ⟨t.bF,t.bA,R,S,T,t.Done⟩:=by
  rw [h.eq]
  exact hI.up hx h.ms (.inl (h.done hd hf)) hR hS hT l1 l2 l3 ha ha' hw hw' hg
theorem K3.facts {s t:aB} {e i c:Int} {l:aF} {carried above:Int} (h:K3 s e i c l t carried above):iH s e i/\(0<=c/\c<=1)/\(1<=l.aT/\l.aT<=288230376151711744)/\(0<=l.Value/\l.Value<=288230376151711744)/\(-288230376151711744<=above/\above<=288230376151711744)/\carried=l.Value-above/\(-288230376151711744<=carried/\carried<=288230376151711744):=by
  obtain ⟨y,m,k,p,q,p',hs,e1,hio,hc,e2,hab⟩:=h
  obtain ⟨c1,c2,c3,c4,c5,c6,c7⟩:=hc
  have b1:=jA c1.ly;have b2:=jA hs.io.pp.ly
  exact ⟨hs.th,hs.lc,c6,c7,hab,e2,by omega⟩
theorem KP.facts {s t:aB} {e i c k q:Int} {l:aF} {w:Bool} (h:KP s e i c k q t l w):iH s e i/\(0<=c/\c<=1)/\(1<=q/\q<=288230376151711744\/w=true)/\(0<=l.Value/\l.Value<=288230376151711744)/\(-288230376151711744<=l.bO/\l.bO<=288230376151711744)/\1<=q:=by
  obtain ⟨y,m,o,p,p2,p',hs,e1,hio,hc,h1,h2,h3⟩:=h
  obtain ⟨c1,c2,c3,c4,c5,c6,c7⟩:=hc
  have b1:=jA c1.ly;have b2:=jA hs.io.pp.ly
  refine ⟨hs.th,hs.lc,?_,c6,c7,h1⟩
  cases hw:w with
  | true=>exact .inr rfl
  | false=>have:=h2 hw;exact .inl (by omega)
theorem On.rc {s:aB} {e:Nat} {bH:List Int} {t:aB} {x:aP} {d:Int} {f:Nat->Int} (h:On s e bH t x d f):t.bX=s.bX/\t.dS=s.dS/\t.dH=s.dH/\t.bF=s.bF/\t.bA.length=s.bA.length:=by
  rw [h.eq];exact ⟨rfl,rfl,rfl,rfl,List.length_set ..⟩
theorem oM {x y:aP} (h:y.dI=x.dI) (a:Nat):bl y a=bl x a:=by unfold bl;rw [h]
theorem uR {i:Nat} {v w:Int} (h:v+w=0):∀ j,bump (bump (λ_=>0) i v) i w j=0:=by
  intro j;show (0+_)+_=(0:Int);split <;> omega
theorem nE {α:Type} {P:α->Prop} {l:List α} {x:α} (h:∀ r∈l,P r) (hx:P x):∀ r∈l++[x],P r:=by
  intro r hr;rcases List.mem_append.1 hr with hr | hr
  · exact h r hr
  · rw [List.mem_singleton] at hr;subst hr;exact hx
theorem r15 {K:Int} {s:aB} {o:bJ} {n:Nat} (hn:66<n) (h:Inv K s) (hq:o.aT<=9223372036854775807) (ha:0<=o.bM/\o.bM<=288230376151711744):Ex (Kept K s) (qM n s o):=by
  unfold qM BF
  simp only [WT.run,bT]
  repeat' with_reducible first | refine bG ?_ | refine dZ ?_ | apply aD | apply bK | apply dY | apply dN | apply eB | apply d9 | apply dV | apply dQ | apply dW | apply dU | refine aQ (λ_=>?_) λ_=>?_ | refine dK (λ_=>?_) λ_=>?_ | apply dF | apply bU | apply dA | apply bL | apply aG
  · exact .inr ⟨by simp,rfl⟩
  refine aW _ (tZ h o.E o.Item) λr hr=>?_
  repeat' with_reducible first | refine bG ?_ | refine dZ ?_ | apply aD | apply bK | apply dY | apply dN | apply eB | apply d9 | apply dV | apply dQ | apply dW | apply dU | refine aQ (λ_=>?_) λ_=>?_ | refine dK (λ_=>?_) λ_=>?_ | apply dF | apply bU | apply dA | apply bL | apply aG
  · rename_i k;exact .inr ⟨k,rfl⟩
  · exact .inr ⟨by simp,rfl⟩
  rename_i k1 k2
  obtain ⟨ht,x,bH,hx,hm,ho⟩:=hr (by omega)
  have o0:=On.start hx hm ho
  refine aW _ (CP (l:=⟨o.aT,o.bM,0⟩) hn h.ss hq) λb hb=>?_
  repeat' with_reducible first | refine bG ?_ | refine dZ ?_ | apply aD | apply bK | apply dY | apply dN | apply eB | apply d9 | apply dV | apply dQ | apply dW | apply dU | refine aQ (λ_=>?_) λ_=>?_ | refine dK (λ_=>?_) λ_=>?_ | apply dF | apply bU | apply dA | apply bL | apply aG
  · rename_i k;exact .inr ⟨k,rfl⟩
  rename_i k3
  rcases hb with ⟨_,hb⟩ | ⟨k,_⟩
  rotate_left
  · exact absurd k k3
  obtain ⟨f1,f2,f3,f4,f5,f6,f7⟩:=hb.facts
  obtain ⟨x1,o1,p1,p2,p3⟩:=o0.brought hb
  refine aW _ (qA hn (o1.ss h.ss) (by simp)) λc hc=>?_
  repeat' with_reducible first | refine bG ?_ | refine dZ ?_ | apply aD | apply bK | apply dY | apply dN | apply eB | apply d9 | apply dV | apply dQ | apply dW | apply dU | refine aQ (λ_=>?_) λ_=>?_ | refine dK (λ_=>?_) λ_=>?_ | apply dF | apply bU | apply dA | apply bL | apply aG
  · rename_i k;exact .inr ⟨k,rfl⟩
  rename_i k4
  rcases hc with ⟨_,hc⟩ | ⟨k,_⟩
  rotate_left
  · exact absurd k k4
  obtain ⟨x2,o2,q1,q2,q3⟩:=o1.rR hc (by simp [gM,gI])
  refine aW _ (sK hn (o2.ss h.ss)) λd hd=>?_
  repeat' with_reducible first | refine bG ?_ | refine dZ ?_ | apply aD | apply bK | apply dY | apply dN | apply eB | apply d9 | apply dV | apply dQ | apply dW | apply dU | refine aQ (λ_=>?_) λ_=>?_ | refine dK (λ_=>?_) λ_=>?_ | apply dF | apply bU | apply dA | apply bL | apply aG
  · rename_i k;exact .inr ⟨k,rfl⟩
  rename_i k5
  rcases hd with ⟨_,hd⟩ | ⟨k,_⟩
  rotate_left
  · exact absurd k k5
  obtain ⟨x3,o3,r1,r2⟩:=o2.wP hd
  obtain ⟨g1,g2,g3,g4,g5⟩:=o3.rc
  have hl1:=h.l1;have hlen:=h.len;have hth:=f1.1;have hth2:=f1.2
  refine jX (by rw [g1];omega) (aD (jX (by rw [g1];simp;omega) (aG (.inl ⟨rfl,?_⟩))))
  have hB:∀ a:Nat,a<17->bl x3 a=bl x a+eU [⟨0,b.2.1⟩,⟨6,b.2.2.1⟩,⟨1,0-o.bM⟩] a:=λa ha=>by rw [oM r1,q1 a ha,oM p1]
  have b1:=hB 1 (by decide);have b12:=hB 12 (by decide);have b13:=hB 13 (by decide);have b14:=hB 14 (by decide)
  simp [gM,gI] at b1 b12 b13 b14
  refine o3.inv h hx (by simp [gM,gI]) (uR (by simp [lD];omega)) ?_ (by rw [g2];exact h.oD) (by rw [g3];exact h.oO) (by rw [g1];simp;omega) (by rw [g2];exact h.l2) (by rw [g3];exact h.l3) ?_ ?_ (by rw [g3];omega) (by intro f _;rw [g3]) (by unfold lC;omega)
  · rw [g1]
    refine nE h.nO ⟨by simp only;omega,hth2,f2,?_,f4,?_,f4,?_⟩
    all_goals (simp only at *;omega)
  · rw [g1,yN]
    simp only [eD,jO]
    rw [if_pos (by omega)];omega
  · intro f hf
    rw [g1,yN]
    simp only [eD,jO]
    rw [if_neg (by omega)];omega
end Go.Pv
