import Derived.Test.YtgoihillpibdjaaGreatOH70
set_option linter.unusedVariables false
set_option linter.unusedSimpArgs false
namespace Go.Pv
open Go.Proofs
set_option maxRecDepth 100000
set_option maxHeartbeats 1000000
theorem aRF {a b c:Int} (ha:0<=a/\a<=288230376151711744) (hb:0<=b/\b<=288230376151711744) (hc:c<=288230376151711744):Ex (λr=>0<=r/\r<=a) (KG a b c):=by
  unfold KG aGY
  simp only [WT.run,bR]
  refine aT (λ(b:Bool)=>b=false->0<=c) ?_ λb' hb'=>eX (λ_=>aF (by omega)) λkb=>?_
  · refine aD (aH (λ_=>aF (λk=>nomatch k)) λ_=>aD (aH (λ_=>aF (λk=>nomatch k)) λ_=>aD (aF λk=>by have:=of_decide_eq_false k;omega)))
  have hc0:=hb' kb
  have hm:0<=b*c % 18446744073709551616:=Int.emod_nonneg _ (by decide)
  have hw:wu64 a=a:=by rw [rE];exact Int.emod_eq_of_lt (by omega) (by omega)
  refine x_eq (ZI (by omega) (by omega)) ?_
  refine aT (λ(b':Bool)=>b'=false->b*c % 18446744073709551616<a) ?_ λb' hb'=>eX (λ_=>aF (by omega)) λkb=>?_
  · refine aD (aH (λ_=>aF (λk=>nomatch k)) λ_=>?_)
    refine aD (aD (aF λk=>?_))
    have:=of_decide_eq_false k
    rw [hw] at this;simp only at this;omega
  have:=hb' kb
  generalize b*c % 18446744073709551616=z at *
  refine bF (bF (aF (by first | omega | (simp only;omega))))
theorem ES.pr {n:Nat} {bL:List Int} {iM:Int} {x:aP} (h:ES n bL iM x):∀ p∈x.bS,LR p.aG:=by
  intro p hp
  obtain ⟨k,hk⟩:=List.getElem?_of_mem hp
  have hl:k<x.bS.length:=(List.getElem?_eq_some_iff.1 hk).1
  have hlp:=h.lp
  obtain ⟨m,a,b,h1,h2,h3,h4⟩:=h.at (i:=k / 2) (c:=k % 2) (by omega) (by omega)
  rw [show 2*(k / 2)+k % 2=k by omega,hk] at h2
  cases h2;exact h4.pp.ly
theorem aNE {l:List aQ} {a b:Nat} {p q:aQ} (h:∀ p∈l,LR p.aG) (ha:l[a]?=some p) (hb:l[b]?=some q) (hne:a≠b):tV p.aG+tV q.aG<=sV l:=by
  let z:aQ:=⟨[],⟨0,0,0⟩⟩
  have hka:a<l.length:=(List.getElem?_eq_some_iff.1 ha).1
  have e1:sV (l.set a z)=sV l-tV p.aG+0:=RF ha
  have hb':(l.set a z)[b]?=some q:=by rw [lW hka,if_neg hne];exact hb
  have e2:sV ((l.set a z).set b z)=sV (l.set a z)-tV q.aG+0:=RF hb'
  have e3:0<=sV ((l.set a z).set b z):=uW λx hx=>by
    rcases mem_set hx with rfl | hx
    · exact Int.le_refl 0
    · rcases mem_set hx with rfl | hx
      · exact Int.le_refl 0
      · exact (gN (h x hx)).2.1.1
  omega
theorem ES.QO {n:Nat} {bL:List Int} {iM:Int} {x:aP} (h:ES n bL iM x) (hs:sV x.bS<=288230376151711744) {i:Nat} (hi:i<n):∃ m p q,bL[i]?=some m/\x.bS[2*i]?=some p/\x.bS[2*i+1]?=some q/\IO m p q/\tV p.aG+tV q.aG<=288230376151711744/\0<=tV p.aG+tV q.aG:=by
  obtain ⟨m,p,q,h1,h2,h3,h4⟩:=h.at (i:=i) (c:=0) hi (by decide)
  have h2:x.bS[2*i]?=some p:=h2
  have h3:x.bS[2*i+1]?=some q:=h3
  have:=aNE h.pr h2 h3 (by omega)
  have a1:=gN h4.pp.ly;have a2:=gN h4.qq.ly
  exact ⟨m,p,q,h1,h2,h3,h4,by omega,by omega⟩
theorem CS {n:Nat} {bL:List Int} {iM:Int} {x:aP} (h:ES n bL iM x) (a:Nat) (ha:a<17):bQ (bl x a):=by
  have hl:=h.lb
  have hx:x.dK[a]?=some (x.dK[a]'(by omega)):=List.getElem?_eq_getElem (by omega)
  unfold bl;rw [getD_at hx];exact h.gK _ (fF hx)
theorem nJ.gU {n:Nat} {bL:List Int} {iM:Int} {x:aP} {f:Nat->Int} (h:nJ x 0 f) (hs:ES n bL iM x):sV x.bS<=288230376151711744:=by
  have:=h.ctl;have:=CS hs 0 (by decide);unfold bQ at this;omega
theorem aAY (a b:List aS) (c:Int):eD (a++b) c=eD a c+eD b c:=xD _ a b
theorem aLK {s t:aA} {e:Int} {bL:List Int} {x:aP} {n:Nat} (hn:66<n) (hs:SS s) (h:On s e.toNat bL t x 0 (λ_=>0)) (he:0<=e/\e<(s.bC.length:Int)) :
    Ex (λr=>r.2=0->∃ x',On s e.toNat bL r.1 x' 0 (λ_=>0)/\bl x' 1=bl x 1/\bl x' 12=bl x 12/\bl x' 13=bl x 13/\bl x' 14=bl x 14/\x'.fO=x.fO) (OJ n t e):=by
  obtain ⟨g1,g2,g3,g4,g5⟩:=h.rc
  have hst:=h.ss hs
  have hf:=hst.toS0.gU
  have hl:=h.es.gU (by rw [<- g4];exact hf.2.2)
  have hlc:=h.es.lc;have hld:=h.es.ld
  have hsv:=h.eb.gU h.es
  unfold OJ aDB
  simp only [WT.run,bR]
  refine aT (λ(b:Bool)=>b=false) (aD (aH (λk=>absurd k (by omega)) λ_=>aD (aF (decide_eq_false (by omega))))) λb hb=>?_
  subst hb
  refine bU ?_
  repeat' with_reducible first | refine bF ?_ | refine dP ?_ | apply aD | apply bE | apply dS | apply dI | apply dN | apply dR | apply dO | apply dL | apply dU | apply dQ | refine aH (λ_=>?_) λ_=>?_ | refine dG (λ_=>?_) λ_=>?_ | apply cO | apply bU | apply bY | apply bK | apply aF | refine dF ?_
  refine bW he.1 h.at ?_
  repeat' with_reducible first | refine bF ?_ | refine dP ?_ | apply aD | apply bE | apply dS | apply dI | apply dN | apply dR | apply dO | apply dL | apply dU | apply dQ | refine aH (λ_=>?_) λ_=>?_ | refine dG (λ_=>?_) λ_=>?_ | apply cO | apply bU | apply bY | apply bK | apply aF | refine dF ?_
  refine bW he.1 h.at ?_
  refine aT (λ(v:List aS×List Int)=>v.1.length<=10/\v.2.length=x.Down.length/\(∀ y∈v.2,0<=y/\y<=288230376151711744)/\eD v.1 11=dD x.Down-dD v.2/\∀ a:Int,a≠10->a≠11->eD v.1 a=0)
    (fM (λ(v:Int×List aS×List Int)=>0<=v.1/\v.1<=(x.fZ.length:Int)/\(v.2.1.length:Int)<=2*v.1/\v.2.2.length=x.Down.length/\(∀ y∈v.2.2,0<=y/\y<=288230376151711744)/\eD v.2.1 11=dD x.Down-dD v.2.2/\∀ a:Int,a≠10->a≠11->eD v.2.1 a=0) (λ(v:Int×List aS×List Int)=>x.fZ.length-v.1.toNat) ?_ (v:=(0,[],x.Down)) ⟨by simp,by simp,by simp,rfl,h.es.BF,by simp [gF],λa _ _=>rfl⟩ (by simp;omega)) λv hv=>?_
  · rintro ⟨i,ls,D⟩ ⟨a1,a2,a3,a4,a5,a6,a7⟩
    simp only at a1 a2 a3 a4 a5 a6 a7
    refine bE (bE (aD (aH (λk=>?_) λk=>bK (aF ⟨by first | omega | (simp only;omega),a4,a5,a6,a7⟩))))
    have k:i<(x.fZ.length:Int):=k
    refine aT (λ(v:List aS×List Int)=>(v.1.length:Int)<=2*(i+1)/\v.2.length=x.Down.length/\(∀ y∈v.2,0<=y/\y<=288230376151711744)/\eD v.1 11=dD x.Down-dD v.2/\∀ a:Int,a≠10->a≠11->eD v.1 a=0) ?_ λv hv=>bE (bF (bX ⟨⟨by first | omega | (simp only;omega),by first | omega | (simp only;omega),hv.1,hv.2.1,hv.2.2.1,hv.2.2.2.1,hv.2.2.2.2⟩,by first | omega | (simp only;omega)⟩))
    refine eF a1 k λpr hpr=>?_
    have hpr:=h.es.pri pr (fF hpr)
    refine aD (aH (λkp=>?_) λ_=>aF ⟨by first | omega | (simp only;omega),a4,a5,a6,a7⟩)
    obtain ⟨m,p,q,w1,w2,w3,w4,w5,w6⟩:=h.es.QO hsv (i:=i.toNat) (by omega)
    have b1:=gN w4.pp.ly;have b2:=gN w4.qq.ly;have b3:=w4.sq
    have htt:gM t e i:=⟨⟨he.1,by omega⟩,by rw [g4];omega⟩
    refine x_eq (O7 hn hst htt h.at w2 w3 w4 w5) ?_
    refine aT _ (aRF (by first | omega | (simp only;omega)) (by first | omega | (simp only;omega)) hpr.2) λd hd=>?_
    have hd:0<=d/\d<=tV p.aG+tV q.aG:=hd
    refine eF a1 (by first | omega | (simp only;omega)) λo ho=>?_
    have ho:D[i.toNat]?=some o:=ho
    have hob:=a5 o (fF ho)
    refine bF (bF (aD (dF (aD (aF ⟨by simp;omega,by rw [List.length_set];exact a4,oC a5 (by omega),?_,?_⟩)))))
    · have e1:dD (D.set i.toNat d)=dD D-o+d:=qQ _ ho
      show eD (ls++_) 11=dD x.Down-dD (D.set i.toNat d)
      rw [aAY,a6,e1];simp [gH,gF];omega
    · intro a h10 h11
      show eD (ls++_) a=0
      rw [aAY,a7 a h10 h11];simp [gH,gF,Ne.symm h10,Ne.symm h11]
  · obtain ⟨ls,D⟩:=v
    obtain ⟨c1,c2,c3,c4,c5⟩:=hv
    simp only at c1 c2 c3 c4 c5
    have es1:ES s.bJ.cB.length bL s.bJ.gP { x with Down:=D }:={ h.es with ld:=by show D.length=_;rw [c2];exact hld,BF:=c3 }
    have ss1:SS (kP t e.toNat { x with Down:=D }):=hst.up h.at λms hm=>by rw [g4] at hm;rw [h.ms] at hm;cases hm;rw [g4];exact es1
    refine bE (aT _ (oP (s:=kP t e.toNat { x with Down:=D }) hn ss1 (by first | omega | (simp only;omega))) λr hr=>?_)
    refine aD (aH (λk=>aF λk2=>absurd k2 k) λk=>aF λ_=>?_)
    rcases hr with ⟨_,hr⟩ | ⟨k2,_⟩
    rotate_left
    · exact absurd k2 k
    obtain ⟨y,b,he2,hy,hp,e1⟩:=hr
    have hy1:(kP t e.toNat { x with Down:=D }).bC[e.toNat]?=some { x with Down:=D }:=GJ (by omega)
    rw [hy1] at hy;cases hy
    obtain ⟨p1,p2,p3,p4⟩:=hp
    have q0:b.getD 0 0=bl x 0+eD ls 0:=p3 0 (by decide)
    have q11:b.getD 11 0=bl x 11+eD ls 11:=p3 11 (by decide)
    have q1:b.getD 1 0=bl x 1+eD ls 1:=p3 1 (by decide)
    have q12:b.getD 12 0=bl x 12+eD ls 12:=p3 12 (by decide)
    have VM:b.getD 13 0=bl x 13+eD ls 13:=p3 13 (by decide)
    have q14:b.getD 14 0=bl x 14+eD ls 14:=p3 14 (by decide)
    rw [c5 _ (by decide) (by decide)] at q0 q1 q12 VM q14
    have z1:=h.eb.ctl;have z2:=h.eb.qA;have z3:=h.eb.rY
    refine ⟨{ x with Down:=D,dK:=b },?_,?_,?_,?_,?_,rfl⟩
    · show On s e.toNat bL r.1 _ 0 _
      rw [e1,NA]
      refine h.set (es1.KU p1 p2) ⟨?_,?_,?_,h.eb.o6⟩ rfl rfl
      · show sV x.bS=b.getD 0 0+0;omega
      · show dD D=-b.getD 11 0;omega
      · show dD b=0;rw [p4];exact z3
    · show b.getD 1 0=_;omega
    · show b.getD 12 0=_;omega
    · show b.getD 13 0=_;omega
    · show b.getD 14 0=_;omega
theorem r21 {K:Int} {s:aA} {o:bM} (h:Inv K s) (ha:0<=o.bO/\o.bO<=288230376151711744):Ex (Kept K s) (LQ s o):=by
  unfold LQ aAV
  simp only [WT.run,bR]
  repeat' with_reducible first | refine bF ?_ | refine dP ?_ | apply aD | apply bE | apply dS | apply dI | apply dN | apply dR | apply dO | apply dL | apply dU | apply dQ | refine aH (λ_=>?_) λ_=>?_ | refine dG (λ_=>?_) λ_=>?_ | apply cO | apply bU | apply bY | apply bK | apply aF
  · exact .inr ⟨by simp,rfl⟩
  refine aT _ (rQ h o.E o.Item) λr hr=>?_
  refine aD (aH (λk=>aF (.inr ⟨k,rfl⟩)) λkz=>?_)
  obtain ⟨ht,x,bL,hx,hm,ho⟩:=hr (by omega)
  have o0:=On.start hx hm ho
  have hf:=h.ss.toS0.gU
  have hl:=ho.es.gU hf.2.2
  have hlc:=ho.es.lc;have ht2:=ht.2
  repeat' with_reducible first | refine bF ?_ | refine dP ?_ | apply aD | apply bE | apply dS | apply dI | apply dN | apply dR | apply dO | apply dL | apply dU | apply dQ | refine aH (λ_=>?_) λ_=>?_ | refine dG (λ_=>?_) λ_=>?_ | apply cO | apply bU | apply bY | apply bK | apply aF | refine dF ?_
  refine bW ht.1.1 hx ?_
  repeat' with_reducible first | refine bF ?_ | refine dP ?_ | apply aD | apply bE | apply dS | apply dI | apply dN | apply dR | apply dO | apply dL | apply dU | apply dQ | refine aH (λ_=>?_) λ_=>?_ | refine dG (λ_=>?_) λ_=>?_ | apply cO | apply bU | apply bY | apply bK | apply aF | refine dF ?_
  refine bW ht.1.1 hx (eF ht2.1 (by first | omega | (simp only;omega)) λ_ _=>aD (aF (.inl ⟨rfl,?_⟩)))
  have o1:=o0.set (y:={ x with fZ:=x.fZ.set o.Item.toNat o.bO }) (ho.es.aSB (by omega)) ⟨o0.eb.ctl,o0.eb.qA,o0.eb.rY,o0.eb.o6⟩ rfl rfl
  exact o1.fin h hx rfl (λ_=>rfl) h.nA h.l2 rfl rfl rfl rfl
def GH (m:Int) (p p':aQ) (l:aB):Prop:=PR m p'/\tQ p'.aG<=tQ p.aG/\tV p'.aG+l.Value=tV p.aG/\tS p'.aG<=tS p.aG/\(0<=l.Value/\l.Value<=288230376151711744)/\(-288230376151711744<=l.bN/\l.bN<=288230376151711744)
theorem aWY {m:Int} {p:aQ} {l:List aB} {x:aB} {pe:kJ} (h:PR m p) (ht:rW p.aG l x) (h0:0<=pe.a0) (h1:0<=pe.a1) (h2:0<=pe.a2) (hs:pe.a0+pe.a1+pe.a2+x.aI<=tQ p.aG) (hq:0<=x.aI) (ho:m≠3->pe.a0=0/\pe.a1=0/\pe.a2=0):GH m p ⟨l,pe⟩ x:=by
  obtain ⟨t1,t2,t3,t4,t5,t6,t7,t8⟩:=AM h.ly ht
  have:=lV x.bN
  refine ⟨⟨h.mt,t3,λk=>by have:=h.one k;show l.length<=1;omega,h0,h1,h2,by show pe.a0+pe.a1+pe.a2<=tQ l;omega,ho⟩,by show tQ l<=_;omega,t5,by show tS l<=_;omega,t1,t2⟩
theorem TH {m q:Int} {p:aQ} {pe:kJ} {n:Nat} (hn:66<n) (h:PR m p) (hq:1<=q/\q<=tQ p.aG) (h0:0<=pe.a0) (h1:0<=pe.a1) (h2:0<=pe.a2) (hs:pe.a0+pe.a1+pe.a2+q<=tQ p.aG) (ho:m≠3->pe.a0=0/\pe.a1=0/\pe.a2=0) :
    Ex (λr=>GH m p ⟨r.1,pe⟩ r.2.1) (qE n p.aG q):=by
  have hl:=gN h.ly
  refine N8 (LV hn h.ly (by omega)) λr hr=>?_
  rcases hr with ⟨e1,e2,e3,e4⟩ | ⟨e1,e2,e3,e4⟩
  · exact aWY h e4 h0 h1 h2 (by omega) (by omega) ho
  · have:=e4 hq.1;omega
theorem aYB {m:Int} {p:aQ} {n:Nat} (hn:66<n) (h:PR m p) :
    Ex (λr=>PR m r.1/\tQ r.1.aG<=tQ p.aG/\tV r.1.aG+(r.2.a0.Value+r.2.a1.Value+r.2.a2.Value)=tV p.aG/\tS r.1.aG<=tS p.aG/\(0<=r.2.a0.Value/\r.2.a0.Value<=288230376151711744)/\(0<=r.2.a1.Value/\r.2.a1.Value<=288230376151711744)/\(0<=r.2.a2.Value/\r.2.a2.Value<=288230376151711744)/\(-288230376151711744<=r.2.a0.bN/\r.2.a0.bN<=288230376151711744)) (M4 n p):=by
  have hl:=gN h.ly
  have h0:=h.p0;have h1:=h.p1;have h2:=h.p2;have h3:=h.sum;have h4:=h.sZ
  unfold M4 Y8
  simp only [WT.run,bR]
  refine dL (aT (λ(v:aQ×Int×Int×Int)=>GH m p v.1 ⟨v.2.1,v.2.2.1,v.2.2.2⟩/\v.1.bH=⟨0,p.bH.a1,p.bH.a2⟩) ?_ λv hv=>?_)
  · refine aD (aH (λk=>aT _ (TH (pe:=⟨0,p.bH.a1,p.bH.a2⟩) hn h (by omega) (by simp) h1 h2 (by simp only;omega) λk=>by have:=h4 k;exact ⟨rfl,this.2⟩) λr hr=>aF ⟨hr,rfl⟩) λk=>aF ⟨?_,?_⟩)
    · exact ⟨h,by simp only;omega,by simp only;omega,by simp only;omega,by simp,by simp⟩
    · have:p.bH.a0=0:=by omega
      cases hp:p.bH with | mk a b c=>rw [hp] at this;simp only at this;subst this;rfl
  obtain ⟨p1,q1,v1,r1⟩:=v
  obtain ⟨⟨w1,w2,w3,w4,w5,w6⟩,w7⟩:=hv
  simp only at w1 w2 w3 w4 w5 w6 w7
  have i1:=w1.p1;have i2:=w1.p2;have i3:=w1.sum;have i4:=w1.sZ
  rw [w7] at i1 i2 i3 i4
  simp only at i1 i2 i3 i4
  refine dI (dI (dI (dL (aT (λ(v:aQ×Int×Int×Int)=>GH m p1 v.1 ⟨v.2.1,v.2.2.1,v.2.2.2⟩/\v.1.bH=⟨0,0,p.bH.a2⟩) ?_ λv hv=>?_))))
  · rw [w7]
    refine aD (aH (λ(k:p.bH.a1>0)=>aT _ (TH (p:=p1) (q:=p.bH.a1) (pe:=⟨0,0,p.bH.a2⟩) hn w1 (by omega) (by simp) (by simp) i2 (by simp only;omega) λk=>by have:=i4 k;exact ⟨rfl,rfl,this.2.2⟩) λr hr=>aF ⟨hr,rfl⟩) λk=>aF ⟨?_,?_⟩)
    · exact ⟨w1,by simp only;omega,by simp only;omega,by simp only;omega,by simp,by simp⟩
    · have:p.bH.a1=0:=by have k:¬ p.bH.a1>0:=k;omega
      show p1.bH=_
      rw [w7,this]
  obtain ⟨p2',q2,v2,r2⟩:=v
  obtain ⟨⟨y1,y2,y3,y4,y5,y6⟩,y7⟩:=hv
  simp only at y1 y2 y3 y4 y5 y6 y7
  have j2:=y1.p2;have j3:=y1.sum;have j4:=y1.sZ
  rw [y7] at j2 j3 j4
  simp only at j2 j3 j4
  refine dI (dI (dI (dL (aT (λ(v:aQ×Int×Int×Int)=>GH m p2' v.1 ⟨v.2.1,v.2.2.1,v.2.2.2⟩) ?_ λv hv=>?_))))
  · rw [y7]
    refine aD (aH (λ(k:p.bH.a2>0)=>aT _ (TH (p:=p2') (q:=p.bH.a2) (pe:=⟨0,0,0⟩) hn y1 (by omega) (by simp) (by simp) (by simp) (by simp only;omega) λk=>⟨rfl,rfl,rfl⟩) λr hr=>aF hr) λk=>aF ?_)
    exact ⟨y1,by simp only;omega,by simp only;omega,by simp only;omega,by simp,by simp⟩
  obtain ⟨p3',q3,v3,r3⟩:=v
  obtain ⟨z1,z2,z3,z4,z5,z6⟩:=hv
  simp only at z1 z2 z3 z4 z5 z6
  repeat' with_reducible first | refine bF ?_ | refine dP ?_ | apply aD | apply bE | apply dS | apply dI | apply dN | apply dR | apply dO | apply dL | apply dU | apply dQ | refine aH (λ_=>?_) λ_=>?_ | refine dG (λ_=>?_) λ_=>?_ | apply cO | apply bU | apply bY | apply bK | apply aF
  simp only
  exact ⟨z1,by omega,by omega,by omega,w5,y5,z5,w6⟩
theorem aV0 {t:aA} {e i c:Int} {l:aB} {n:Nat} (hn:66<n) (he:0<=e/\e<(t.bC.length:Int)) (hS:∀ r∈t.dY,pU t.bJ r) (hl:t.dY.length<=40) (hv:0<=l.Value/\l.Value<=288230376151711744) (hp:-288230376151711744<=l.bN/\l.bN<=288230376151711744) :
    Ex (λr=>r.2=0->∃ S,r.1={ t with dY:=S }/\S.length<=40/\∀ r∈S,pU t.bJ r) (I7 n t e i c l):=by
  unfold I7 aIW
  simp only [WT.run,bR]
  refine aT (λ(v:Bool×List Int×List Int)=>v.2.1.length=v.2.2.length/\v.2.2.length<=40/\∀ a∈v.2.1,0<=a/\a<(t.dY.length:Int))
    (fM (λ(v:Bool×Int×List Int×List Int)=>0<=v.2.1/\v.2.1<=(t.dY.length:Int)/\v.2.2.1.length=v.2.2.2.length/\(v.2.2.2.length:Int)<=v.2.1/\∀ a∈v.2.2.1,0<=a/\a<(t.dY.length:Int)) (λ(v:Bool×Int×List Int×List Int)=>t.dY.length-v.2.1.toNat) ?_ (v:=(false,0,[],[])) ⟨by simp,by simp,rfl,by simp,λa ha=>nomatch ha⟩ (by simp;omega)) λv hv'=>?_
  · rintro ⟨b,j,at',w⟩ ⟨a1,a2,a3,a4,a5⟩
    simp only at a1 a2 a3 a4 a5
    refine bE (bE (bE (aD (aH (λk=>?_) λk=>bK (aF ⟨a3,by first | omega | (simp only;omega),a5⟩)))))
    have k:j<(t.dY.length:Int):=k
    refine aT (λ(v:Bool×List Int×List Int)=>v.2.1.length=v.2.2.length/\(v.2.2.length:Int)<=j+1/\∀ a∈v.2.1,0<=a/\a<(t.dY.length:Int)) ?_ λv hv'=>bE (bE (bF (bX ⟨⟨by first | omega | (simp only;omega),by first | omega | (simp only;omega),hv'.1,hv'.2.1,hv'.2.2⟩,by first | omega | (simp only;omega)⟩)))
    refine eF a1 k λz hz=>?_
    obtain ⟨z1,z2,z3,z4,z5,z6,z7,z8⟩:=hS z (fF hz)
    refine aT (λ_=>True) ?_ λwb _=>eX (λ_=>?_) λ_=>aF ⟨a3,by first | omega | (simp only;omega),a5⟩
    · unfold Q3 aCZ
      simp only [WT.run,bR]
      repeat' with_reducible first | refine bF ?_ | refine dP ?_ | apply aD | apply bE | apply dS | apply dI | apply dN | apply dR | apply dO | apply dL | apply dU | apply dQ | refine aH (λ_=>?_) λ_=>?_ | refine dG (λ_=>?_) λ_=>?_ | apply cO | apply bU | apply bY | apply bK | apply aF | refine eX (λ_=>?_) λ_=>?_
      all_goals try trivial
      refine eF he.1 he.2 λ_ _=>?_
      repeat' with_reducible first | refine bF ?_ | refine dP ?_ | apply aD | apply bE | apply dS | apply dI | apply dN | apply dR | apply dO | apply dL | apply dU | apply dQ | refine aH (λ_=>?_) λ_=>?_ | refine dG (λ_=>?_) λ_=>?_ | apply cO | apply bU | apply bY | apply bK | apply aF
      trivial
    · refine aT (λ(v:Bool×List Int×List Int)=>v.2.1.length=v.2.2.length/\(v.2.2.length:Int)<=j+1/\∀ a∈v.2.1,0<=a/\a<(t.dY.length:Int)) ?_ λv hv'=>bE (bE (aF hv'))
      refine bF (aD (dF (aD (dF ?_))))
      refine eX (λ_=>aF ⟨by simp;omega,by simp;omega,mQ a5 ⟨a1,k⟩⟩) λ_=>aD (aF ⟨by simp;omega,by simp;omega,mQ a5 ⟨a1,k⟩⟩)
  · obtain ⟨b,at',w⟩:=v
    obtain ⟨b1,b2,b3⟩:=hv'
    simp only at b1 b2 b3
    refine bE (bE (aD (dG (λ_=>aF λ_=>⟨t.dY,rfl,hl,hS⟩) λ_=>?_)))
    refine aT _ (aGA (w:=w) hn (by omega) (by omega)) λcs hcs=>aT _ (aGA (w:=w) hn (by omega) hp) λps hps=>?_
    refine aT (λ(b:Bool)=>b=false->cs.2=0/\ps.2=0) ?_ λb hb=>eX (λ_=>aD (aF λ_=>⟨t.dY,rfl,hl,hS⟩)) λkb=>?_
    · refine aD (aH (λ_=>aF (λk=>nomatch k)) λ_=>aD (aF λk=>by have:=of_decide_eq_false k;omega))
    obtain ⟨c0,p0⟩:=hb kb
    obtain ⟨c1,c2,c3⟩:=hcs c0
    obtain ⟨d1,d2,d3⟩:=hps p0
    have c2:=c2 hv.1
    refine dF (aT (λ(S:List eH)=>S.length=t.dY.length/\∀ r∈S,pU t.bJ r) (fM (λ(v:Int×List eH)=>0<=v.1/\v.1<=(at'.length:Int)/\v.2.length=t.dY.length/\∀ r∈v.2,pU t.bJ r) (λ(v:Int×List eH)=>at'.length-v.1.toNat) ?_ (v:=(0,t.dY)) ⟨by simp,by simp,rfl,hS⟩ (by simp;omega)) λS hS2=>aF λ_=>⟨S,rfl,by omega,hS2.2⟩)
    rintro ⟨j,S⟩ ⟨a1,a2,a3,a4⟩
    simp only at a1 a2 a3 a4
    refine bE (aD (aH (λk=>?_) λk=>bK (aF ⟨a3,a4⟩)))
    have k:j<(at'.length:Int):=k
    refine eF a1 k λa ha=>?_
    obtain ⟨g1,g2⟩:=b3 a (fF ha)
    refine eF a1 (by first | omega | (simp only;omega)) λcv hcv=>eF a1 (by first | omega | (simp only;omega)) λpv hpv=>eF g1 (by first | omega | (simp only;omega)) λz hz=>?_
    obtain ⟨z1,z2,z3,z4,z5,z6,z7,z8⟩:=a4 z (fF hz)
    refine aD (aD (bF (bX ⟨⟨by first | omega | (simp only;omega),by first | omega | (simp only;omega),by simp;exact a3,oC (oC a4 ⟨z1,z2,z3,z4,z5,c2 _ (fF hcv),z7,z8⟩) ⟨z1,z2,z3,z4,z5,c2 _ (fF hcv),d3 _ (fF hpv),z8⟩⟩,by first | omega | (simp only;omega)⟩)))
end Go.Pv
