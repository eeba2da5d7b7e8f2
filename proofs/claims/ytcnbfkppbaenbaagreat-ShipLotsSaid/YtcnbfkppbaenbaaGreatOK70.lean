import Derived.Test.YtcnbfkppbaenbaaGreatOH70
set_option linter.unusedVariables false
set_option linter.unusedSimpArgs false
namespace Go.Pv
open Go.Proofs
set_option maxRecDepth 100000
set_option maxHeartbeats 1000000
theorem aLJ {a b c:Int} (ha:0<=a/\a<=288230376151711744) (hb:0<=b/\b<=288230376151711744) (hc:c<=288230376151711744):Ex (λr=>0<=r/\r<=a) (H9 a b c):=by
  unfold H9 VC
  simp only [WT.run,bS]
  refine aU (λ(b:Bool)=>b=false->0<=c) ?_ λb' hb'=>fB (λ_=>aD (by omega)) λkb=>?_
  · refine aF (aI (λ_=>aD (λk=>nomatch k)) λ_=>aF (aI (λ_=>aD (λk=>nomatch k)) λ_=>aF (aD λk=>by have:=of_decide_eq_false k;omega)))
  have hc0:=hb' kb
  have hm:0<=b*c % 18446744073709551616:=Int.emod_nonneg _ (by decide)
  have hw:wu64 a=a:=by rw [qI];exact Int.emod_eq_of_lt (by omega) (by omega)
  refine x_eq (UP (by omega) (by omega)) ?_
  refine aU (λ(b':Bool)=>b'=false->b*c % 18446744073709551616<a) ?_ λb' hb'=>fB (λ_=>aD (by omega)) λkb=>?_
  · refine aF (aI (λ_=>aD (λk=>nomatch k)) λ_=>?_)
    refine aF (aF (aD λk=>?_))
    have:=of_decide_eq_false k
    rw [hw] at this;simp only at this;omega
  have:=hb' kb
  generalize b*c % 18446744073709551616=z at *
  refine bE (bE (aD (by first | omega | (simp only;omega))))
theorem ES.pr {n:Nat} {bL:List Int} {iN:Int} {x:aQ} (h:ES n bL iN x):∀ p∈x.bX,LR p.aW:=by
  intro p hp
  obtain ⟨k,hk⟩:=List.getElem?_of_mem hp
  have hl:k<x.bX.length:=(List.getElem?_eq_some_iff.1 hk).1
  have hlp:=h.lp
  obtain ⟨m,a,b,h1,h2,h3,h4⟩:=h.at (i:=k / 2) (c:=k % 2) (by omega) (by omega)
  rw [show 2*(k / 2)+k % 2=k by omega,hk] at h2
  cases h2;exact h4.pp.ly
theorem aIX {l:List aH} {a b:Nat} {p q:aH} (h:∀ p∈l,LR p.aW) (ha:l[a]?=some p) (hb:l[b]?=some q) (hne:a≠b):tV p.aW+tV q.aW<=sV l:=by
  let z:aH:=⟨[],⟨0,0,0⟩⟩
  have hka:a<l.length:=(List.getElem?_eq_some_iff.1 ha).1
  have e1:sV (l.set a z)=sV l-tV p.aW+0:=QH ha
  have hb':(l.set a z)[b]?=some q:=by rw [mK hka,if_neg hne];exact hb
  have e2:sV ((l.set a z).set b z)=sV (l.set a z)-tV q.aW+0:=QH hb'
  have e3:0<=sV ((l.set a z).set b z):=uK λx hx=>by
    rcases mem_set hx with rfl | hx
    · exact Int.le_refl 0
    · rcases mem_set hx with rfl | hx
      · exact Int.le_refl 0
      · exact (gV (h x hx)).2.1.1
  omega
theorem ES.QA {n:Nat} {bL:List Int} {iN:Int} {x:aQ} (h:ES n bL iN x) (hs:sV x.bX<=288230376151711744) {i:Nat} (hi:i<n):∃ m p q,bL[i]?=some m/\x.bX[2*i]?=some p/\x.bX[2*i+1]?=some q/\IO m p q/\tV p.aW+tV q.aW<=288230376151711744/\0<=tV p.aW+tV q.aW:=by
  obtain ⟨m,p,q,h1,h2,h3,h4⟩:=h.at (i:=i) (c:=0) hi (by decide)
  have h2:x.bX[2*i]?=some p:=h2
  have h3:x.bX[2*i+1]?=some q:=h3
  have:=aIX h.pr h2 h3 (by omega)
  have a1:=gV h4.pp.ly;have a2:=gV h4.qq.ly
  exact ⟨m,p,q,h1,h2,h3,h4,by omega,by omega⟩
theorem zD {n:Nat} {bL:List Int} {iN:Int} {x:aQ} (h:ES n bL iN x) (a:Nat) (ha:a<17):bQ (bl x a):=by
  have hl:=h.lb
  have hx:x.dR[a]?=some (x.dR[a]'(by omega)):=List.getElem?_eq_getElem (by omega)
  unfold bl;rw [getD_at hx];exact h.gH _ (fE hx)
theorem nL.iC {n:Nat} {bL:List Int} {iN:Int} {x:aQ} {f:Nat->Int} (h:nL x 0 f) (hs:ES n bL iN x):sV x.bX<=288230376151711744:=by
  have:=h.ctl;have:=zD hs 0 (by decide);unfold bQ at this;omega
theorem aBF (a b:List aN) (c:Int):eP (a++b) c=eP a c+eP b c:=vV _ a b
theorem aG9 {s t:aA} {e:Int} {bL:List Int} {x:aQ} {n:Nat} (hn:66<n) (hs:SS s) (h:On s e.toNat bL t x 0 (λ_=>0)) (he:0<=e/\e<(s.bD.length:Int)) :
    Ex (λr=>r.2=0->∃ x',On s e.toNat bL r.1 x' 0 (λ_=>0)/\bl x' 1=bl x 1/\bl x' 12=bl x 12/\bl x' 13=bl x 13/\bl x' 14=bl x 14/\x'.fU=x.fU) (MG n t e):=by
  obtain ⟨g1,g2,g3,g4,g5⟩:=h.rc
  have hst:=h.ss hs
  have hf:=hst.toS0.iC
  have hl:=h.es.iC (by rw [<- g4];exact hf.2.2)
  have hlc:=h.es.lc;have hld:=h.es.ld
  have hsv:=h.eb.iC h.es
  unfold MG aF7
  simp only [WT.run,bS]
  refine aU (λ(b:Bool)=>b=false) (aF (aI (λk=>absurd k (by omega)) λ_=>aF (aD (decide_eq_false (by omega))))) λb hb=>?_
  subst hb
  refine bW ?_
  repeat' with_reducible first | refine bE ?_ | refine dU ?_ | apply aF | apply bF | apply dY | apply dN | apply dV | apply dZ | apply d9 | apply dO | apply dW | apply dS | refine aI (λ_=>?_) λ_=>?_ | refine dJ (λ_=>?_) λ_=>?_ | apply dB | apply bW | apply cZ | apply bJ | apply aD | refine dM ?_
  refine dD he.1 h.at ?_
  repeat' with_reducible first | refine bE ?_ | refine dU ?_ | apply aF | apply bF | apply dY | apply dN | apply dV | apply dZ | apply d9 | apply dO | apply dW | apply dS | refine aI (λ_=>?_) λ_=>?_ | refine dJ (λ_=>?_) λ_=>?_ | apply dB | apply bW | apply cZ | apply bJ | apply aD | refine dM ?_
  refine dD he.1 h.at ?_
  refine aU (λ(v:List aN×List Int)=>v.1.length<=10/\v.2.length=x.Down.length/\(∀ y∈v.2,0<=y/\y<=288230376151711744)/\eP v.1 11=dA x.Down-dA v.2/\∀ a:Int,a≠10->a≠11->eP v.1 a=0)
    (fJ (λ(v:Int×List aN×List Int)=>0<=v.1/\v.1<=(x.gI.length:Int)/\(v.2.1.length:Int)<=2*v.1/\v.2.2.length=x.Down.length/\(∀ y∈v.2.2,0<=y/\y<=288230376151711744)/\eP v.2.1 11=dA x.Down-dA v.2.2/\∀ a:Int,a≠10->a≠11->eP v.2.1 a=0) (λ(v:Int×List aN×List Int)=>x.gI.length-v.1.toNat) ?_ (v:=(0,[],x.Down)) ⟨by simp,by simp,by simp,rfl,h.es.zX,by simp [fZ],λa _ _=>rfl⟩ (by simp;omega)) λv hv=>?_
  · rintro ⟨i,ls,D⟩ ⟨a1,a2,a3,a4,a5,a6,a7⟩
    simp only at a1 a2 a3 a4 a5 a6 a7
    refine bF (bF (aF (aI (λk=>?_) λk=>bJ (aD ⟨by first | omega | (simp only;omega),a4,a5,a6,a7⟩))))
    have k:i<(x.gI.length:Int):=k
    refine aU (λ(v:List aN×List Int)=>(v.1.length:Int)<=2*(i+1)/\v.2.length=x.Down.length/\(∀ y∈v.2,0<=y/\y<=288230376151711744)/\eP v.1 11=dA x.Down-dA v.2/\∀ a:Int,a≠10->a≠11->eP v.1 a=0) ?_ λv hv=>bF (bE (cK ⟨⟨by first | omega | (simp only;omega),by first | omega | (simp only;omega),hv.1,hv.2.1,hv.2.2.1,hv.2.2.2.1,hv.2.2.2.2⟩,by first | omega | (simp only;omega)⟩))
    refine eT a1 k λpr hpr=>?_
    have hpr:=h.es.pri pr (fE hpr)
    refine aF (aI (λkp=>?_) λ_=>aD ⟨by first | omega | (simp only;omega),a4,a5,a6,a7⟩)
    obtain ⟨m,p,q,w1,w2,w3,w4,w5,w6⟩:=h.es.QA hsv (i:=i.toNat) (by omega)
    have b1:=gV w4.pp.ly;have b2:=gV w4.qq.ly;have b3:=w4.sq
    have htt:gY t e i:=⟨⟨he.1,by omega⟩,by rw [g4];omega⟩
    refine x_eq (RZ hn hst htt h.at w2 w3 w4 w5) ?_
    refine aU _ (aLJ (by first | omega | (simp only;omega)) (by first | omega | (simp only;omega)) hpr.2) λd hd=>?_
    have hd:0<=d/\d<=tV p.aW+tV q.aW:=hd
    refine eT a1 (by first | omega | (simp only;omega)) λo ho=>?_
    have ho:D[i.toNat]?=some o:=ho
    have hob:=a5 o (fE ho)
    refine bE (bE (aF (dM (aF (aD ⟨by simp;omega,by rw [List.length_set];exact a4,oG a5 (by omega),?_,?_⟩)))))
    · have e1:dA (D.set i.toNat d)=dA D-o+d:=rW _ ho
      show eP (ls++_) 11=dA x.Down-dA (D.set i.toNat d)
      rw [aBF,a6,e1];simp [gB,fZ];omega
    · intro a h10 h11
      show eP (ls++_) a=0
      rw [aBF,a7 a h10 h11];simp [gB,fZ,Ne.symm h10,Ne.symm h11]
  · obtain ⟨ls,D⟩:=v
    obtain ⟨c1,c2,c3,c4,c5⟩:=hv
    simp only at c1 c2 c3 c4 c5
    have es1:ES s.bH.bZ.length bL s.bH.gQ { x with Down:=D }:={ h.es with ld:=by show D.length=_;rw [c2];exact hld,zX:=c3 }
    have ss1:SS (lM t e.toNat { x with Down:=D }):=hst.up h.at λms hm=>by rw [g4] at hm;rw [h.ms] at hm;cases hm;rw [g4];exact es1
    refine bF (aU _ (nY (s:=lM t e.toNat { x with Down:=D }) hn ss1 (by first | omega | (simp only;omega))) λr hr=>?_)
    refine aF (aI (λk=>aD λk2=>absurd k2 k) λk=>aD λ_=>?_)
    rcases hr with ⟨_,hr⟩ | ⟨k2,_⟩
    rotate_left
    · exact absurd k2 k
    obtain ⟨y,b,he2,hy,hp,e1⟩:=hr
    have hy1:(lM t e.toNat { x with Down:=D }).bD[e.toNat]?=some { x with Down:=D }:=QK (by omega)
    rw [hy1] at hy;cases hy
    obtain ⟨p1,p2,p3,p4⟩:=hp
    have q0:b.getD 0 0=bl x 0+eP ls 0:=p3 0 (by decide)
    have q11:b.getD 11 0=bl x 11+eP ls 11:=p3 11 (by decide)
    have q1:b.getD 1 0=bl x 1+eP ls 1:=p3 1 (by decide)
    have q12:b.getD 12 0=bl x 12+eP ls 12:=p3 12 (by decide)
    have P4:b.getD 13 0=bl x 13+eP ls 13:=p3 13 (by decide)
    have q14:b.getD 14 0=bl x 14+eP ls 14:=p3 14 (by decide)
    rw [c5 _ (by decide) (by decide)] at q0 q1 q12 P4 q14
    have z1:=h.eb.ctl;have z2:=h.eb.pW;have z3:=h.eb.qX
    refine ⟨{ x with Down:=D,dR:=b },?_,?_,?_,?_,?_,rfl⟩
    · show On s e.toNat bL r.1 _ 0 _
      rw [e1,aD0]
      refine h.set (es1.G8 p1 p2) ⟨?_,?_,?_,h.eb.pE⟩ rfl rfl
      · show sV x.bX=b.getD 0 0+0;omega
      · show dA D=-b.getD 11 0;omega
      · show dA b=0;rw [p4];exact z3
    · show b.getD 1 0=_;omega
    · show b.getD 12 0=_;omega
    · show b.getD 13 0=_;omega
    · show b.getD 14 0=_;omega
theorem r21 {K:Int} {s:aA} {o:bK} (h:Inv K s) (ha:0<=o.bM/\o.bM<=288230376151711744):Ex (Kept K s) (MI s o):=by
  unfold MI aDV
  simp only [WT.run,bS]
  repeat' with_reducible first | refine bE ?_ | refine dU ?_ | apply aF | apply bF | apply dY | apply dN | apply dV | apply dZ | apply d9 | apply dO | apply dW | apply dS | refine aI (λ_=>?_) λ_=>?_ | refine dJ (λ_=>?_) λ_=>?_ | apply dB | apply bW | apply cZ | apply bJ | apply aD
  · exact .inr ⟨by simp,rfl⟩
  refine aU _ (rE h o.E o.Item) λr hr=>?_
  refine aF (aI (λk=>aD (.inr ⟨k,rfl⟩)) λkz=>?_)
  obtain ⟨ht,x,bL,hx,hm,ho⟩:=hr (by omega)
  have o0:=On.start hx hm ho
  have hf:=h.ss.toS0.iC
  have hl:=ho.es.iC hf.2.2
  have hlc:=ho.es.lc;have ht2:=ht.2
  repeat' with_reducible first | refine bE ?_ | refine dU ?_ | apply aF | apply bF | apply dY | apply dN | apply dV | apply dZ | apply d9 | apply dO | apply dW | apply dS | refine aI (λ_=>?_) λ_=>?_ | refine dJ (λ_=>?_) λ_=>?_ | apply dB | apply bW | apply cZ | apply bJ | apply aD | refine dM ?_
  refine dD ht.1.1 hx ?_
  repeat' with_reducible first | refine bE ?_ | refine dU ?_ | apply aF | apply bF | apply dY | apply dN | apply dV | apply dZ | apply d9 | apply dO | apply dW | apply dS | refine aI (λ_=>?_) λ_=>?_ | refine dJ (λ_=>?_) λ_=>?_ | apply dB | apply bW | apply cZ | apply bJ | apply aD | refine dM ?_
  refine dD ht.1.1 hx (eT ht2.1 (by first | omega | (simp only;omega)) λ_ _=>aF (aD (.inl ⟨rfl,?_⟩)))
  have o1:=o0.set (y:={ x with gI:=x.gI.set o.Item.toNat o.bM }) (ho.es.aQY (by omega)) ⟨o0.eb.ctl,o0.eb.pW,o0.eb.qX,o0.eb.pE⟩ rfl rfl
  exact o1.fin h hx rfl (λ_=>rfl) h.mO h.l2 rfl rfl rfl rfl
def ER (m:Int) (p p':aH) (l:aB):Prop:=PR m p'/\tQ p'.aW<=tQ p.aW/\tV p'.aW+l.Value=tV p.aW/\tS p'.aW<=tS p.aW/\(0<=l.Value/\l.Value<=288230376151711744)/\(-288230376151711744<=l.bO/\l.bO<=288230376151711744)
theorem aNM {m:Int} {p:aH} {l:List aB} {x:aB} {pe:kU} (h:PR m p) (ht:qM p.aW l x) (h0:0<=pe.a0) (h1:0<=pe.a1) (h2:0<=pe.a2) (hs:pe.a0+pe.a1+pe.a2+x.aG<=tQ p.aW) (hq:0<=x.aG) (ho:m≠3->pe.a0=0/\pe.a1=0/\pe.a2=0):ER m p ⟨l,pe⟩ x:=by
  obtain ⟨t1,t2,t3,t4,t5,t6,t7,t8⟩:=y9 h.ly ht
  have:=mE x.bO
  refine ⟨⟨h.mt,t3,λk=>by have:=h.one k;show l.length<=1;omega,h0,h1,h2,by show pe.a0+pe.a1+pe.a2<=tQ l;omega,ho⟩,by show tQ l<=_;omega,t5,by show tS l<=_;omega,t1,t2⟩
theorem OM {m q:Int} {p:aH} {pe:kU} {n:Nat} (hn:66<n) (h:PR m p) (hq:1<=q/\q<=tQ p.aW) (h0:0<=pe.a0) (h1:0<=pe.a1) (h2:0<=pe.a2) (hs:pe.a0+pe.a1+pe.a2+q<=tQ p.aW) (ho:m≠3->pe.a0=0/\pe.a1=0/\pe.a2=0) :
    Ex (λr=>ER m p ⟨r.1,pe⟩ r.2.1) (pO n p.aW q):=by
  have hl:=gV h.ly
  refine IN (LB hn h.ly (by omega)) λr hr=>?_
  rcases hr with ⟨e1,e2,e3,e4⟩ | ⟨e1,e2,e3,e4⟩
  · exact aNM h e4 h0 h1 h2 (by omega) (by omega) ho
  · have:=e4 hq.1;omega
theorem aOR {m:Int} {p:aH} {n:Nat} (hn:66<n) (h:PR m p) :
    Ex (λr=>PR m r.1/\tQ r.1.aW<=tQ p.aW/\tV r.1.aW+(r.2.a0.Value+r.2.a1.Value+r.2.a2.Value)=tV p.aW/\tS r.1.aW<=tS p.aW/\(0<=r.2.a0.Value/\r.2.a0.Value<=288230376151711744)/\(0<=r.2.a1.Value/\r.2.a1.Value<=288230376151711744)/\(0<=r.2.a2.Value/\r.2.a2.Value<=288230376151711744)/\(-288230376151711744<=r.2.a0.bO/\r.2.a0.bO<=288230376151711744)) (K5 n p):=by
  have hl:=gV h.ly
  have h0:=h.p0;have h1:=h.p1;have h2:=h.p2;have h3:=h.sum;have h4:=h.uQ
  unfold K5 TR
  simp only [WT.run,bS]
  refine dO (aU (λ(v:aH×Int×Int×Int)=>ER m p v.1 ⟨v.2.1,v.2.2.1,v.2.2.2⟩/\v.1.bN=⟨0,p.bN.a1,p.bN.a2⟩) ?_ λv hv=>?_)
  · refine aF (aI (λk=>aU _ (OM (pe:=⟨0,p.bN.a1,p.bN.a2⟩) hn h (by omega) (by simp) h1 h2 (by simp only;omega) λk=>by have:=h4 k;exact ⟨rfl,this.2⟩) λr hr=>aD ⟨hr,rfl⟩) λk=>aD ⟨?_,?_⟩)
    · exact ⟨h,by simp only;omega,by simp only;omega,by simp only;omega,by simp,by simp⟩
    · have:p.bN.a0=0:=by omega
      cases hp:p.bN with | mk a b c=>rw [hp] at this;simp only at this;subst this;rfl
  obtain ⟨p1,q1,v1,r1⟩:=v
  obtain ⟨⟨w1,w2,w3,w4,w5,w6⟩,w7⟩:=hv
  simp only at w1 w2 w3 w4 w5 w6 w7
  have i1:=w1.p1;have i2:=w1.p2;have i3:=w1.sum;have i4:=w1.uQ
  rw [w7] at i1 i2 i3 i4
  simp only at i1 i2 i3 i4
  refine dN (dN (dN (dO (aU (λ(v:aH×Int×Int×Int)=>ER m p1 v.1 ⟨v.2.1,v.2.2.1,v.2.2.2⟩/\v.1.bN=⟨0,0,p.bN.a2⟩) ?_ λv hv=>?_))))
  · rw [w7]
    refine aF (aI (λ(k:p.bN.a1>0)=>aU _ (OM (p:=p1) (q:=p.bN.a1) (pe:=⟨0,0,p.bN.a2⟩) hn w1 (by omega) (by simp) (by simp) i2 (by simp only;omega) λk=>by have:=i4 k;exact ⟨rfl,rfl,this.2.2⟩) λr hr=>aD ⟨hr,rfl⟩) λk=>aD ⟨?_,?_⟩)
    · exact ⟨w1,by simp only;omega,by simp only;omega,by simp only;omega,by simp,by simp⟩
    · have:p.bN.a1=0:=by have k:¬ p.bN.a1>0:=k;omega
      show p1.bN=_
      rw [w7,this]
  obtain ⟨p2',q2,v2,r2⟩:=v
  obtain ⟨⟨y1,y2,y3,y4,y5,y6⟩,y7⟩:=hv
  simp only at y1 y2 y3 y4 y5 y6 y7
  have j2:=y1.p2;have j3:=y1.sum;have j4:=y1.uQ
  rw [y7] at j2 j3 j4
  simp only at j2 j3 j4
  refine dN (dN (dN (dO (aU (λ(v:aH×Int×Int×Int)=>ER m p2' v.1 ⟨v.2.1,v.2.2.1,v.2.2.2⟩) ?_ λv hv=>?_))))
  · rw [y7]
    refine aF (aI (λ(k:p.bN.a2>0)=>aU _ (OM (p:=p2') (q:=p.bN.a2) (pe:=⟨0,0,0⟩) hn y1 (by omega) (by simp) (by simp) (by simp) (by simp only;omega) λk=>⟨rfl,rfl,rfl⟩) λr hr=>aD hr) λk=>aD ?_)
    exact ⟨y1,by simp only;omega,by simp only;omega,by simp only;omega,by simp,by simp⟩
  obtain ⟨p3',q3,v3,r3⟩:=v
  obtain ⟨z1,z2,z3,z4,z5,z6⟩:=hv
  simp only at z1 z2 z3 z4 z5 z6
  repeat' with_reducible first | refine bE ?_ | refine dU ?_ | apply aF | apply bF | apply dY | apply dN | apply dV | apply dZ | apply d9 | apply dO | apply dW | apply dS | refine aI (λ_=>?_) λ_=>?_ | refine dJ (λ_=>?_) λ_=>?_ | apply dB | apply bW | apply cZ | apply bJ | apply aD
  simp only
  exact ⟨z1,by omega,by omega,by omega,w5,y5,z5,w6⟩
theorem aMM {t:aA} {e i c:Int} {l:aB} {n:Nat} (hn:66<n) (he:0<=e/\e<(t.bD.length:Int)) (hS:∀ r∈t.eF,pI t.bH r) (hl:t.eF.length<=40) (hv:0<=l.Value/\l.Value<=288230376151711744) (hp:-288230376151711744<=l.bO/\l.bO<=288230376151711744) :
    Ex (λr=>r.2=0->∃ S,r.1={ t with eF:=S }/\S.length<=40/\∀ r∈S,pI t.bH r) (JU n t e i c l):=by
  unfold JU TU
  simp only [WT.run,bS]
  refine aU (λ(v:Bool×List Int×List Int)=>v.2.1.length=v.2.2.length/\v.2.2.length<=40/\∀ a∈v.2.1,0<=a/\a<(t.eF.length:Int))
    (fJ (λ(v:Bool×Int×List Int×List Int)=>0<=v.2.1/\v.2.1<=(t.eF.length:Int)/\v.2.2.1.length=v.2.2.2.length/\(v.2.2.2.length:Int)<=v.2.1/\∀ a∈v.2.2.1,0<=a/\a<(t.eF.length:Int)) (λ(v:Bool×Int×List Int×List Int)=>t.eF.length-v.2.1.toNat) ?_ (v:=(false,0,[],[])) ⟨by simp,by simp,rfl,by simp,λa ha=>nomatch ha⟩ (by simp;omega)) λv hv'=>?_
  · rintro ⟨b,j,at',w⟩ ⟨a1,a2,a3,a4,a5⟩
    simp only at a1 a2 a3 a4 a5
    refine bF (bF (bF (aF (aI (λk=>?_) λk=>bJ (aD ⟨a3,by first | omega | (simp only;omega),a5⟩)))))
    have k:j<(t.eF.length:Int):=k
    refine aU (λ(v:Bool×List Int×List Int)=>v.2.1.length=v.2.2.length/\(v.2.2.length:Int)<=j+1/\∀ a∈v.2.1,0<=a/\a<(t.eF.length:Int)) ?_ λv hv'=>bF (bF (bE (cK ⟨⟨by first | omega | (simp only;omega),by first | omega | (simp only;omega),hv'.1,hv'.2.1,hv'.2.2⟩,by first | omega | (simp only;omega)⟩)))
    refine eT a1 k λz hz=>?_
    obtain ⟨z1,z2,z3,z4,z5,z6,z7,z8⟩:=hS z (fE hz)
    refine aU (λ_=>True) ?_ λwb _=>fB (λ_=>?_) λ_=>aD ⟨a3,by first | omega | (simp only;omega),a5⟩
    · unfold RD aE2
      simp only [WT.run,bS]
      repeat' with_reducible first | refine bE ?_ | refine dU ?_ | apply aF | apply bF | apply dY | apply dN | apply dV | apply dZ | apply d9 | apply dO | apply dW | apply dS | refine aI (λ_=>?_) λ_=>?_ | refine dJ (λ_=>?_) λ_=>?_ | apply dB | apply bW | apply cZ | apply bJ | apply aD | refine fB (λ_=>?_) λ_=>?_
      all_goals try trivial
      refine eT he.1 he.2 λ_ _=>?_
      repeat' with_reducible first | refine bE ?_ | refine dU ?_ | apply aF | apply bF | apply dY | apply dN | apply dV | apply dZ | apply d9 | apply dO | apply dW | apply dS | refine aI (λ_=>?_) λ_=>?_ | refine dJ (λ_=>?_) λ_=>?_ | apply dB | apply bW | apply cZ | apply bJ | apply aD
      trivial
    · refine aU (λ(v:Bool×List Int×List Int)=>v.2.1.length=v.2.2.length/\(v.2.2.length:Int)<=j+1/\∀ a∈v.2.1,0<=a/\a<(t.eF.length:Int)) ?_ λv hv'=>bF (bF (aD hv'))
      refine bE (aF (dM (aF (dM ?_))))
      refine fB (λ_=>aD ⟨by simp;omega,by simp;omega,mI a5 ⟨a1,k⟩⟩) λ_=>aF (aD ⟨by simp;omega,by simp;omega,mI a5 ⟨a1,k⟩⟩)
  · obtain ⟨b,at',w⟩:=v
    obtain ⟨b1,b2,b3⟩:=hv'
    simp only at b1 b2 b3
    refine bF (bF (aF (dJ (λ_=>aD λ_=>⟨t.eF,rfl,hl,hS⟩) λ_=>?_)))
    refine aU _ (XM (w:=w) hn (by omega) (by omega)) λcs hcs=>aU _ (XM (w:=w) hn (by omega) hp) λps hps=>?_
    refine aU (λ(b:Bool)=>b=false->cs.2=0/\ps.2=0) ?_ λb hb=>fB (λ_=>aF (aD λ_=>⟨t.eF,rfl,hl,hS⟩)) λkb=>?_
    · refine aF (aI (λ_=>aD (λk=>nomatch k)) λ_=>aF (aD λk=>by have:=of_decide_eq_false k;omega))
    obtain ⟨c0,p0⟩:=hb kb
    obtain ⟨c1,c2,c3⟩:=hcs c0
    obtain ⟨d1,d2,d3⟩:=hps p0
    have c2:=c2 hv.1
    refine dM (aU (λ(S:List eZ)=>S.length=t.eF.length/\∀ r∈S,pI t.bH r) (fJ (λ(v:Int×List eZ)=>0<=v.1/\v.1<=(at'.length:Int)/\v.2.length=t.eF.length/\∀ r∈v.2,pI t.bH r) (λ(v:Int×List eZ)=>at'.length-v.1.toNat) ?_ (v:=(0,t.eF)) ⟨by simp,by simp,rfl,hS⟩ (by simp;omega)) λS hS2=>aD λ_=>⟨S,rfl,by omega,hS2.2⟩)
    rintro ⟨j,S⟩ ⟨a1,a2,a3,a4⟩
    simp only at a1 a2 a3 a4
    refine bF (aF (aI (λk=>?_) λk=>bJ (aD ⟨a3,a4⟩)))
    have k:j<(at'.length:Int):=k
    refine eT a1 k λa ha=>?_
    obtain ⟨g1,g2⟩:=b3 a (fE ha)
    refine eT a1 (by first | omega | (simp only;omega)) λcv hcv=>eT a1 (by first | omega | (simp only;omega)) λpv hpv=>eT g1 (by first | omega | (simp only;omega)) λz hz=>?_
    obtain ⟨z1,z2,z3,z4,z5,z6,z7,z8⟩:=a4 z (fE hz)
    refine aF (aF (bE (cK ⟨⟨by first | omega | (simp only;omega),by first | omega | (simp only;omega),by simp;exact a3,oG (oG a4 ⟨z1,z2,z3,z4,z5,c2 _ (fE hcv),z7,z8⟩) ⟨z1,z2,z3,z4,z5,c2 _ (fE hcv),d3 _ (fE hpv),z8⟩⟩,by first | omega | (simp only;omega)⟩)))
end Go.Pv
