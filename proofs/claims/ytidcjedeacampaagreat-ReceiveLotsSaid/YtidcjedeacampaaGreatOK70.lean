import Derived.Test.YtidcjedeacampaaGreatOH70
set_option linter.unusedVariables false
set_option linter.unusedSimpArgs false
namespace Go.Pv
open Go.Proofs
set_option maxRecDepth 100000
set_option maxHeartbeats 1000000
theorem aNA {a b c:Int} (ha:0<=a/\a<=288230376151711744) (hb:0<=b/\b<=288230376151711744) (hc:c<=288230376151711744):Ex (λr=>0<=r/\r<=a) (LM a b c):=by
  unfold LM ZH
  simp only [WT.run,bT]
  refine aW (λ(b:Bool)=>b=false->0<=c) ?_ λb' hb'=>fJ (λ_=>aG (by omega)) λkb=>?_
  · refine aD (aQ (λ_=>aG (λk=>nomatch k)) λ_=>aD (aQ (λ_=>aG (λk=>nomatch k)) λ_=>aD (aG λk=>by have:=of_decide_eq_false k;omega)))
  have hc0:=hb' kb
  have hm:0<=b*c % 18446744073709551616:=Int.emod_nonneg _ (by decide)
  have hw:wu64 a=a:=by rw [tY];exact Int.emod_eq_of_lt (by omega) (by omega)
  refine x_eq (Z0 (by omega) (by omega)) ?_
  refine aW (λ(b':Bool)=>b'=false->b*c % 18446744073709551616<a) ?_ λb' hb'=>fJ (λ_=>aG (by omega)) λkb=>?_
  · refine aD (aQ (λ_=>aG (λk=>nomatch k)) λ_=>?_)
    refine aD (aD (aG λk=>?_))
    have:=of_decide_eq_false k
    rw [hw] at this;simp only at this;omega
  have:=hb' kb
  generalize b*c % 18446744073709551616=z at *
  refine bG (bG (aG (by first | omega | (simp only;omega))))
theorem ES.pr {n:Nat} {bH:List Int} {iZ:Int} {x:aP} (h:ES n bH iZ x):∀ p∈x.bR,LR p.aI:=by
  intro p hp
  obtain ⟨k,hk⟩:=List.getElem?_of_mem hp
  have hl:k<x.bR.length:=(List.getElem?_eq_some_iff.1 hk).1
  have hlp:=h.lp
  obtain ⟨m,a,b,h1,h2,h3,h4⟩:=h.at (i:=k / 2) (c:=k % 2) (by omega) (by omega)
  rw [show 2*(k / 2)+k % 2=k by omega,hk] at h2
  cases h2;exact h4.pp.ly
theorem aID {l:List aS} {a b:Nat} {p q:aS} (h:∀ p∈l,LR p.aI) (ha:l[a]?=some p) (hb:l[b]?=some q) (hne:a≠b):tV p.aI+tV q.aI<=sV l:=by
  let z:aS:=⟨[],⟨0,0,0⟩⟩
  have hka:a<l.length:=(List.getElem?_eq_some_iff.1 ha).1
  have e1:sV (l.set a z)=sV l-tV p.aI+0:=IB ha
  have hb':(l.set a z)[b]?=some q:=by rw [mE hka,if_neg hne];exact hb
  have e2:sV ((l.set a z).set b z)=sV (l.set a z)-tV q.aI+0:=IB hb'
  have e3:0<=sV ((l.set a z).set b z):=vU λx hx=>by
    rcases mem_set hx with rfl | hx
    · exact Int.le_refl 0
    · rcases mem_set hx with rfl | hx
      · exact Int.le_refl 0
      · exact (jA (h x hx)).2.1.1
  omega
theorem ES.PK {n:Nat} {bH:List Int} {iZ:Int} {x:aP} (h:ES n bH iZ x) (hs:sV x.bR<=288230376151711744) {i:Nat} (hi:i<n):∃ m p q,bH[i]?=some m/\x.bR[2*i]?=some p/\x.bR[2*i+1]?=some q/\IO m p q/\tV p.aI+tV q.aI<=288230376151711744/\0<=tV p.aI+tV q.aI:=by
  obtain ⟨m,p,q,h1,h2,h3,h4⟩:=h.at (i:=i) (c:=0) hi (by decide)
  have h2:x.bR[2*i]?=some p:=h2
  have h3:x.bR[2*i+1]?=some q:=h3
  have:=aID h.pr h2 h3 (by omega)
  have a1:=jA h4.pp.ly;have a2:=jA h4.qq.ly
  exact ⟨m,p,q,h1,h2,h3,h4,by omega,by omega⟩
theorem DC {n:Nat} {bH:List Int} {iZ:Int} {x:aP} (h:ES n bH iZ x) (a:Nat) (ha:a<17):bN (bl x a):=by
  have hl:=h.lb
  have hx:x.dI[a]?=some (x.dI[a]'(by omega)):=List.getElem?_eq_getElem (by omega)
  unfold bl;rw [getD_at hx];exact h.gW _ (fO hx)
theorem oZ.iK {n:Nat} {bH:List Int} {iZ:Int} {x:aP} {f:Nat->Int} (h:oZ x 0 f) (hs:ES n bH iZ x):sV x.bR<=288230376151711744:=by
  have:=h.ctl;have:=DC hs 0 (by decide);unfold bN at this;omega
theorem YJ (a b:List aN) (c:Int):eU (a++b) c=eU a c+eU b c:=yN _ a b
theorem aU6 {s t:aB} {e:Int} {bH:List Int} {x:aP} {n:Nat} (hn:66<n) (hs:SS s) (h:On s e.toNat bH t x 0 (λ_=>0)) (he:0<=e/\e<(s.bA.length:Int)) :
    Ex (λr=>r.2=0->∃ x',On s e.toNat bH r.1 x' 0 (λ_=>0)/\bl x' 1=bl x 1/\bl x' 12=bl x 12/\bl x' 13=bl x 13/\bl x' 14=bl x 14/\x'.fQ=x.fQ) (IW n t e):=by
  obtain ⟨g1,g2,g3,g4,g5⟩:=h.rc
  have hst:=h.ss hs
  have hf:=hst.toS0.iK
  have hl:=h.es.iK (by rw [<- g4];exact hf.2.2)
  have hlc:=h.es.lc;have hld:=h.es.ld
  have hsv:=h.eb.iK h.es
  unfold IW aCI
  simp only [WT.run,bT]
  refine aW (λ(b:Bool)=>b=false) (aD (aQ (λk=>absurd k (by omega)) λ_=>aD (aG (decide_eq_false (by omega))))) λb hb=>?_
  subst hb
  refine bU ?_
  repeat' with_reducible first | refine bG ?_ | refine dZ ?_ | apply aD | apply bK | apply dY | apply dN | apply eB | apply d9 | apply dV | apply dQ | apply dW | apply dU | refine aQ (λ_=>?_) λ_=>?_ | refine dK (λ_=>?_) λ_=>?_ | apply dF | apply bU | apply dA | apply bL | apply aG | refine dO ?_
  refine dB he.1 h.at ?_
  repeat' with_reducible first | refine bG ?_ | refine dZ ?_ | apply aD | apply bK | apply dY | apply dN | apply eB | apply d9 | apply dV | apply dQ | apply dW | apply dU | refine aQ (λ_=>?_) λ_=>?_ | refine dK (λ_=>?_) λ_=>?_ | apply dF | apply bU | apply dA | apply bL | apply aG | refine dO ?_
  refine dB he.1 h.at ?_
  refine aW (λ(v:List aN×List Int)=>v.1.length<=10/\v.2.length=x.Down.length/\(∀ y∈v.2,0<=y/\y<=288230376151711744)/\eU v.1 11=cZ x.Down-cZ v.2/\∀ a:Int,a≠10->a≠11->eU v.1 a=0)
    (gB (λ(v:Int×List aN×List Int)=>0<=v.1/\v.1<=(x.gJ.length:Int)/\(v.2.1.length:Int)<=2*v.1/\v.2.2.length=x.Down.length/\(∀ y∈v.2.2,0<=y/\y<=288230376151711744)/\eU v.2.1 11=cZ x.Down-cZ v.2.2/\∀ a:Int,a≠10->a≠11->eU v.2.1 a=0) (λ(v:Int×List aN×List Int)=>x.gJ.length-v.1.toNat) ?_ (v:=(0,[],x.Down)) ⟨by simp,by simp,by simp,rfl,h.es.DR,by simp [gI],λa _ _=>rfl⟩ (by simp;omega)) λv hv=>?_
  · rintro ⟨i,ls,D⟩ ⟨a1,a2,a3,a4,a5,a6,a7⟩
    simp only at a1 a2 a3 a4 a5 a6 a7
    refine bK (bK (aD (aQ (λk=>?_) λk=>bL (aG ⟨by first | omega | (simp only;omega),a4,a5,a6,a7⟩))))
    have k:i<(x.gJ.length:Int):=k
    refine aW (λ(v:List aN×List Int)=>(v.1.length:Int)<=2*(i+1)/\v.2.length=x.Down.length/\(∀ y∈v.2,0<=y/\y<=288230376151711744)/\eU v.1 11=cZ x.Down-cZ v.2/\∀ a:Int,a≠10->a≠11->eU v.1 a=0) ?_ λv hv=>bK (bG (dD ⟨⟨by first | omega | (simp only;omega),by first | omega | (simp only;omega),hv.1,hv.2.1,hv.2.2.1,hv.2.2.2.1,hv.2.2.2.2⟩,by first | omega | (simp only;omega)⟩))
    refine eZ a1 k λpr hpr=>?_
    have hpr:=h.es.pri pr (fO hpr)
    refine aD (aQ (λkp=>?_) λ_=>aG ⟨by first | omega | (simp only;omega),a4,a5,a6,a7⟩)
    obtain ⟨m,p,q,w1,w2,w3,w4,w5,w6⟩:=h.es.PK hsv (i:=i.toNat) (by omega)
    have b1:=jA w4.pp.ly;have b2:=jA w4.qq.ly;have b3:=w4.sq
    have htt:iH t e i:=⟨⟨he.1,by omega⟩,by rw [g4];omega⟩
    refine x_eq (PN hn hst htt h.at w2 w3 w4 w5) ?_
    refine aW _ (aNA (by first | omega | (simp only;omega)) (by first | omega | (simp only;omega)) hpr.2) λd hd=>?_
    have hd:0<=d/\d<=tV p.aI+tV q.aI:=hd
    refine eZ a1 (by first | omega | (simp only;omega)) λo ho=>?_
    have ho:D[i.toNat]?=some o:=ho
    have hob:=a5 o (fO ho)
    refine bG (bG (aD (dO (aD (aG ⟨by simp;omega,by rw [List.length_set];exact a4,p8 a5 (by omega),?_,?_⟩)))))
    · have e1:cZ (D.set i.toNat d)=cZ D-o+d:=tT _ ho
      show eU (ls++_) 11=cZ x.Down-cZ (D.set i.toNat d)
      rw [YJ,a6,e1];simp [gM,gI];omega
    · intro a h10 h11
      show eU (ls++_) a=0
      rw [YJ,a7 a h10 h11];simp [gM,gI,Ne.symm h10,Ne.symm h11]
  · obtain ⟨ls,D⟩:=v
    obtain ⟨c1,c2,c3,c4,c5⟩:=hv
    simp only at c1 c2 c3 c4 c5
    have es1:ES s.bF.bW.length bH s.bF.gZ { x with Down:=D }:={ h.es with ld:=by show D.length=_;rw [c2];exact hld,DR:=c3 }
    have ss1:SS (mO t e.toNat { x with Down:=D }):=hst.up h.at λms hm=>by rw [g4] at hm;rw [h.ms] at hm;cases hm;rw [g4];exact es1
    refine bK (aW _ (qA (s:=mO t e.toNat { x with Down:=D }) hn ss1 (by first | omega | (simp only;omega))) λr hr=>?_)
    refine aD (aQ (λk=>aG λk2=>absurd k2 k) λk=>aG λ_=>?_)
    rcases hr with ⟨_,hr⟩ | ⟨k2,_⟩
    rotate_left
    · exact absurd k2 k
    obtain ⟨y,b,he2,hy,hp,e1⟩:=hr
    have hy1:(mO t e.toNat { x with Down:=D }).bA[e.toNat]?=some { x with Down:=D }:=TK (by omega)
    rw [hy1] at hy;cases hy
    obtain ⟨p1,p2,p3,p4⟩:=hp
    have q0:b.getD 0 0=bl x 0+eU ls 0:=p3 0 (by decide)
    have q11:b.getD 11 0=bl x 11+eU ls 11:=p3 11 (by decide)
    have q1:b.getD 1 0=bl x 1+eU ls 1:=p3 1 (by decide)
    have q12:b.getD 12 0=bl x 12+eU ls 12:=p3 12 (by decide)
    have SG:b.getD 13 0=bl x 13+eU ls 13:=p3 13 (by decide)
    have q14:b.getD 14 0=bl x 14+eU ls 14:=p3 14 (by decide)
    rw [c5 _ (by decide) (by decide)] at q0 q1 q12 SG q14
    have z1:=h.eb.ctl;have z2:=h.eb.qW;have z3:=h.eb.rE
    refine ⟨{ x with Down:=D,dI:=b },?_,?_,?_,?_,?_,rfl⟩
    · show On s e.toNat bH r.1 _ 0 _
      rw [e1,WX]
      refine h.set (es1.JN p1 p2) ⟨?_,?_,?_,h.eb.o6⟩ rfl rfl
      · show sV x.bR=b.getD 0 0+0;omega
      · show cZ D=-b.getD 11 0;omega
      · show cZ b=0;rw [p4];exact z3
    · show b.getD 1 0=_;omega
    · show b.getD 12 0=_;omega
    · show b.getD 13 0=_;omega
    · show b.getD 14 0=_;omega
theorem r21 {K:Int} {s:aB} {o:bJ} (h:Inv K s) (ha:0<=o.bM/\o.bM<=288230376151711744):Ex (Kept K s) (LP s o):=by
  unfold LP aCU
  simp only [WT.run,bT]
  repeat' with_reducible first | refine bG ?_ | refine dZ ?_ | apply aD | apply bK | apply dY | apply dN | apply eB | apply d9 | apply dV | apply dQ | apply dW | apply dU | refine aQ (λ_=>?_) λ_=>?_ | refine dK (λ_=>?_) λ_=>?_ | apply dF | apply bU | apply dA | apply bL | apply aG
  · exact .inr ⟨by simp,rfl⟩
  refine aW _ (tZ h o.E o.Item) λr hr=>?_
  refine aD (aQ (λk=>aG (.inr ⟨k,rfl⟩)) λkz=>?_)
  obtain ⟨ht,x,bH,hx,hm,ho⟩:=hr (by omega)
  have o0:=On.start hx hm ho
  have hf:=h.ss.toS0.iK
  have hl:=ho.es.iK hf.2.2
  have hlc:=ho.es.lc;have ht2:=ht.2
  repeat' with_reducible first | refine bG ?_ | refine dZ ?_ | apply aD | apply bK | apply dY | apply dN | apply eB | apply d9 | apply dV | apply dQ | apply dW | apply dU | refine aQ (λ_=>?_) λ_=>?_ | refine dK (λ_=>?_) λ_=>?_ | apply dF | apply bU | apply dA | apply bL | apply aG | refine dO ?_
  refine dB ht.1.1 hx ?_
  repeat' with_reducible first | refine bG ?_ | refine dZ ?_ | apply aD | apply bK | apply dY | apply dN | apply eB | apply d9 | apply dV | apply dQ | apply dW | apply dU | refine aQ (λ_=>?_) λ_=>?_ | refine dK (λ_=>?_) λ_=>?_ | apply dF | apply bU | apply dA | apply bL | apply aG | refine dO ?_
  refine dB ht.1.1 hx (eZ ht2.1 (by first | omega | (simp only;omega)) λ_ _=>aD (aG (.inl ⟨rfl,?_⟩)))
  have o1:=o0.set (y:={ x with gJ:=x.gJ.set o.Item.toNat o.bM }) (ho.es.aNS (by omega)) ⟨o0.eb.ctl,o0.eb.qW,o0.eb.rE,o0.eb.o6⟩ rfl rfl
  exact o1.fin h hx rfl (λ_=>rfl) h.oD h.l2 rfl rfl rfl rfl
def EX (m:Int) (p p':aS) (l:aF):Prop:=PR m p'/\tQ p'.aI<=tQ p.aI/\tV p'.aI+l.Value=tV p.aI/\tS p'.aI<=tS p.aI/\(0<=l.Value/\l.Value<=288230376151711744)/\(-288230376151711744<=l.bO/\l.bO<=288230376151711744)
theorem aUG {m:Int} {p:aS} {l:List aF} {x:aF} {pe:l9} (h:PR m p) (ht:uK p.aI l x) (h0:0<=pe.a0) (h1:0<=pe.a1) (h2:0<=pe.a2) (hs:pe.a0+pe.a1+pe.a2+x.aT<=tQ p.aI) (hq:0<=x.aT) (ho:m≠3->pe.a0=0/\pe.a1=0/\pe.a2=0):EX m p ⟨l,pe⟩ x:=by
  obtain ⟨t1,t2,t3,t4,t5,t6,t7,t8⟩:=CL h.ly ht
  have:=nY x.bO
  refine ⟨⟨h.mt,t3,λk=>by have:=h.one k;show l.length<=1;omega,h0,h1,h2,by show pe.a0+pe.a1+pe.a2<=tQ l;omega,ho⟩,by show tQ l<=_;omega,t5,by show tS l<=_;omega,t1,t2⟩
theorem QI {m q:Int} {p:aS} {pe:l9} {n:Nat} (hn:66<n) (h:PR m p) (hq:1<=q/\q<=tQ p.aI) (h0:0<=pe.a0) (h1:0<=pe.a1) (h2:0<=pe.a2) (hs:pe.a0+pe.a1+pe.a2+q<=tQ p.aI) (ho:m≠3->pe.a0=0/\pe.a1=0/\pe.a2=0) :
    Ex (λr=>EX m p ⟨r.1,pe⟩ r.2.1) (uX n p.aI q):=by
  have hl:=jA h.ly
  refine B8 (KE hn h.ly (by omega)) λr hr=>?_
  rcases hr with ⟨e1,e2,e3,e4⟩ | ⟨e1,e2,e3,e4⟩
  · exact aUG h e4 h0 h1 h2 (by omega) (by omega) ho
  · have:=e4 hq.1;omega
theorem aIS {m:Int} {p:aS} {n:Nat} (hn:66<n) (h:PR m p) :
    Ex (λr=>PR m r.1/\tQ r.1.aI<=tQ p.aI/\tV r.1.aI+(r.2.a0.Value+r.2.a1.Value+r.2.a2.Value)=tV p.aI/\tS r.1.aI<=tS p.aI/\(0<=r.2.a0.Value/\r.2.a0.Value<=288230376151711744)/\(0<=r.2.a1.Value/\r.2.a1.Value<=288230376151711744)/\(0<=r.2.a2.Value/\r.2.a2.Value<=288230376151711744)/\(-288230376151711744<=r.2.a0.bO/\r.2.a0.bO<=288230376151711744)) (IY n p):=by
  have hl:=jA h.ly
  have h0:=h.p0;have h1:=h.p1;have h2:=h.p2;have h3:=h.sum;have h4:=h.vX
  unfold IY XV
  simp only [WT.run,bT]
  refine dQ (aW (λ(v:aS×Int×Int×Int)=>EX m p v.1 ⟨v.2.1,v.2.2.1,v.2.2.2⟩/\v.1.bC=⟨0,p.bC.a1,p.bC.a2⟩) ?_ λv hv=>?_)
  · refine aD (aQ (λk=>aW _ (QI (pe:=⟨0,p.bC.a1,p.bC.a2⟩) hn h (by omega) (by simp) h1 h2 (by simp only;omega) λk=>by have:=h4 k;exact ⟨rfl,this.2⟩) λr hr=>aG ⟨hr,rfl⟩) λk=>aG ⟨?_,?_⟩)
    · exact ⟨h,by simp only;omega,by simp only;omega,by simp only;omega,by simp,by simp⟩
    · have:p.bC.a0=0:=by omega
      cases hp:p.bC with | mk a b c=>rw [hp] at this;simp only at this;subst this;rfl
  obtain ⟨p1,q1,v1,r1⟩:=v
  obtain ⟨⟨w1,w2,w3,w4,w5,w6⟩,w7⟩:=hv
  simp only at w1 w2 w3 w4 w5 w6 w7
  have i1:=w1.p1;have i2:=w1.p2;have i3:=w1.sum;have i4:=w1.vX
  rw [w7] at i1 i2 i3 i4
  simp only at i1 i2 i3 i4
  refine dN (dN (dN (dQ (aW (λ(v:aS×Int×Int×Int)=>EX m p1 v.1 ⟨v.2.1,v.2.2.1,v.2.2.2⟩/\v.1.bC=⟨0,0,p.bC.a2⟩) ?_ λv hv=>?_))))
  · rw [w7]
    refine aD (aQ (λ(k:p.bC.a1>0)=>aW _ (QI (p:=p1) (q:=p.bC.a1) (pe:=⟨0,0,p.bC.a2⟩) hn w1 (by omega) (by simp) (by simp) i2 (by simp only;omega) λk=>by have:=i4 k;exact ⟨rfl,rfl,this.2.2⟩) λr hr=>aG ⟨hr,rfl⟩) λk=>aG ⟨?_,?_⟩)
    · exact ⟨w1,by simp only;omega,by simp only;omega,by simp only;omega,by simp,by simp⟩
    · have:p.bC.a1=0:=by have k:¬ p.bC.a1>0:=k;omega
      show p1.bC=_
      rw [w7,this]
  obtain ⟨p2',q2,v2,r2⟩:=v
  obtain ⟨⟨y1,y2,y3,y4,y5,y6⟩,y7⟩:=hv
  simp only at y1 y2 y3 y4 y5 y6 y7
  have j2:=y1.p2;have j3:=y1.sum;have j4:=y1.vX
  rw [y7] at j2 j3 j4
  simp only at j2 j3 j4
  refine dN (dN (dN (dQ (aW (λ(v:aS×Int×Int×Int)=>EX m p2' v.1 ⟨v.2.1,v.2.2.1,v.2.2.2⟩) ?_ λv hv=>?_))))
  · rw [y7]
    refine aD (aQ (λ(k:p.bC.a2>0)=>aW _ (QI (p:=p2') (q:=p.bC.a2) (pe:=⟨0,0,0⟩) hn y1 (by omega) (by simp) (by simp) (by simp) (by simp only;omega) λk=>⟨rfl,rfl,rfl⟩) λr hr=>aG hr) λk=>aG ?_)
    exact ⟨y1,by simp only;omega,by simp only;omega,by simp only;omega,by simp,by simp⟩
  obtain ⟨p3',q3,v3,r3⟩:=v
  obtain ⟨z1,z2,z3,z4,z5,z6⟩:=hv
  simp only at z1 z2 z3 z4 z5 z6
  repeat' with_reducible first | refine bG ?_ | refine dZ ?_ | apply aD | apply bK | apply dY | apply dN | apply eB | apply d9 | apply dV | apply dQ | apply dW | apply dU | refine aQ (λ_=>?_) λ_=>?_ | refine dK (λ_=>?_) λ_=>?_ | apply dF | apply bU | apply dA | apply bL | apply aG
  simp only
  exact ⟨z1,by omega,by omega,by omega,w5,y5,z5,w6⟩
theorem aIY {t:aB} {e i c:Int} {l:aF} {n:Nat} (hn:66<n) (he:0<=e/\e<(t.bA.length:Int)) (hS:∀ r∈t.dS,qJ t.bF r) (hl:t.dS.length<=40) (hv:0<=l.Value/\l.Value<=288230376151711744) (hp:-288230376151711744<=l.bO/\l.bO<=288230376151711744) :
    Ex (λr=>r.2=0->∃ S,r.1={ t with dS:=S }/\S.length<=40/\∀ r∈S,qJ t.bF r) (KQ n t e i c l):=by
  unfold KQ XE
  simp only [WT.run,bT]
  refine aW (λ(v:Bool×List Int×List Int)=>v.2.1.length=v.2.2.length/\v.2.2.length<=40/\∀ a∈v.2.1,0<=a/\a<(t.dS.length:Int))
    (gB (λ(v:Bool×Int×List Int×List Int)=>0<=v.2.1/\v.2.1<=(t.dS.length:Int)/\v.2.2.1.length=v.2.2.2.length/\(v.2.2.2.length:Int)<=v.2.1/\∀ a∈v.2.2.1,0<=a/\a<(t.dS.length:Int)) (λ(v:Bool×Int×List Int×List Int)=>t.dS.length-v.2.1.toNat) ?_ (v:=(false,0,[],[])) ⟨by simp,by simp,rfl,by simp,λa ha=>nomatch ha⟩ (by simp;omega)) λv hv'=>?_
  · rintro ⟨b,j,at',w⟩ ⟨a1,a2,a3,a4,a5⟩
    simp only at a1 a2 a3 a4 a5
    refine bK (bK (bK (aD (aQ (λk=>?_) λk=>bL (aG ⟨a3,by first | omega | (simp only;omega),a5⟩)))))
    have k:j<(t.dS.length:Int):=k
    refine aW (λ(v:Bool×List Int×List Int)=>v.2.1.length=v.2.2.length/\(v.2.2.length:Int)<=j+1/\∀ a∈v.2.1,0<=a/\a<(t.dS.length:Int)) ?_ λv hv'=>bK (bK (bG (dD ⟨⟨by first | omega | (simp only;omega),by first | omega | (simp only;omega),hv'.1,hv'.2.1,hv'.2.2⟩,by first | omega | (simp only;omega)⟩)))
    refine eZ a1 k λz hz=>?_
    obtain ⟨z1,z2,z3,z4,z5,z6,z7,z8⟩:=hS z (fO hz)
    refine aW (λ_=>True) ?_ λwb _=>fJ (λ_=>?_) λ_=>aG ⟨a3,by first | omega | (simp only;omega),a5⟩
    · unfold PW UP
      simp only [WT.run,bT]
      repeat' with_reducible first | refine bG ?_ | refine dZ ?_ | apply aD | apply bK | apply dY | apply dN | apply eB | apply d9 | apply dV | apply dQ | apply dW | apply dU | refine aQ (λ_=>?_) λ_=>?_ | refine dK (λ_=>?_) λ_=>?_ | apply dF | apply bU | apply dA | apply bL | apply aG | refine fJ (λ_=>?_) λ_=>?_
      all_goals try trivial
      refine eZ he.1 he.2 λ_ _=>?_
      repeat' with_reducible first | refine bG ?_ | refine dZ ?_ | apply aD | apply bK | apply dY | apply dN | apply eB | apply d9 | apply dV | apply dQ | apply dW | apply dU | refine aQ (λ_=>?_) λ_=>?_ | refine dK (λ_=>?_) λ_=>?_ | apply dF | apply bU | apply dA | apply bL | apply aG
      trivial
    · refine aW (λ(v:Bool×List Int×List Int)=>v.2.1.length=v.2.2.length/\(v.2.2.length:Int)<=j+1/\∀ a∈v.2.1,0<=a/\a<(t.dS.length:Int)) ?_ λv hv'=>bK (bK (aG hv'))
      refine bG (aD (dO (aD (dO ?_))))
      refine fJ (λ_=>aG ⟨by simp;omega,by simp;omega,nE a5 ⟨a1,k⟩⟩) λ_=>aD (aG ⟨by simp;omega,by simp;omega,nE a5 ⟨a1,k⟩⟩)
  · obtain ⟨b,at',w⟩:=v
    obtain ⟨b1,b2,b3⟩:=hv'
    simp only at b1 b2 b3
    refine bK (bK (aD (dK (λ_=>aG λ_=>⟨t.dS,rfl,hl,hS⟩) λ_=>?_)))
    refine aW _ (aC8 (w:=w) hn (by omega) (by omega)) λcs hcs=>aW _ (aC8 (w:=w) hn (by omega) hp) λps hps=>?_
    refine aW (λ(b:Bool)=>b=false->cs.2=0/\ps.2=0) ?_ λb hb=>fJ (λ_=>aD (aG λ_=>⟨t.dS,rfl,hl,hS⟩)) λkb=>?_
    · refine aD (aQ (λ_=>aG (λk=>nomatch k)) λ_=>aD (aG λk=>by have:=of_decide_eq_false k;omega))
    obtain ⟨c0,p0⟩:=hb kb
    obtain ⟨c1,c2,c3⟩:=hcs c0
    obtain ⟨d1,d2,d3⟩:=hps p0
    have c2:=c2 hv.1
    refine dO (aW (λ(S:List fA)=>S.length=t.dS.length/\∀ r∈S,qJ t.bF r) (gB (λ(v:Int×List fA)=>0<=v.1/\v.1<=(at'.length:Int)/\v.2.length=t.dS.length/\∀ r∈v.2,qJ t.bF r) (λ(v:Int×List fA)=>at'.length-v.1.toNat) ?_ (v:=(0,t.dS)) ⟨by simp,by simp,rfl,hS⟩ (by simp;omega)) λS hS2=>aG λ_=>⟨S,rfl,by omega,hS2.2⟩)
    rintro ⟨j,S⟩ ⟨a1,a2,a3,a4⟩
    simp only at a1 a2 a3 a4
    refine bK (aD (aQ (λk=>?_) λk=>bL (aG ⟨a3,a4⟩)))
    have k:j<(at'.length:Int):=k
    refine eZ a1 k λa ha=>?_
    obtain ⟨g1,g2⟩:=b3 a (fO ha)
    refine eZ a1 (by first | omega | (simp only;omega)) λcv hcv=>eZ a1 (by first | omega | (simp only;omega)) λpv hpv=>eZ g1 (by first | omega | (simp only;omega)) λz hz=>?_
    obtain ⟨z1,z2,z3,z4,z5,z6,z7,z8⟩:=a4 z (fO hz)
    refine aD (aD (bG (dD ⟨⟨by first | omega | (simp only;omega),by first | omega | (simp only;omega),by simp;exact a3,p8 (p8 a4 ⟨z1,z2,z3,z4,z5,c2 _ (fO hcv),z7,z8⟩) ⟨z1,z2,z3,z4,z5,c2 _ (fO hcv),d3 _ (fO hpv),z8⟩⟩,by first | omega | (simp only;omega)⟩)))
end Go.Pv
