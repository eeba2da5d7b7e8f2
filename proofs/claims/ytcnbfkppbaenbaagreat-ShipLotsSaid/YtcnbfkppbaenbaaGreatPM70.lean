import Derived.Test.YtcnbfkppbaenbaaGreatOK70
import Derived.Test.YtcnbfkppbaenbaaGreatOH70
set_option linter.unusedVariables false
set_option linter.unusedSimpArgs false
namespace Go.Pv
open Go.Proofs
set_option maxRecDepth 100000
set_option maxHeartbeats 1000000
def xX (s:aA) (S:List eZ):aA:={ s with eF:=S }
theorem SS.xX {s:aA} (h:SS s) (S:List eZ):SS (xX s S):=⟨⟨h.jW,h.len⟩,h.es⟩
def Sm (x y:aQ):Prop:=bl y 1=bl x 1/\bl y 12=bl x 12/\bl y 13=bl x 13/\bl y 14=bl x 14/\y.fU=x.fU
theorem Sm.aKF (x:aQ):Sm x x:=⟨rfl,rfl,rfl,rfl,rfl⟩
theorem Sm.trans {x y z:aQ} (h:Sm x y) (g:Sm y z):Sm x z:=⟨g.1.trans h.1,g.2.1.trans h.2.1,g.2.2.1.trans h.2.2.1,g.2.2.2.1.trans h.2.2.2.1,g.2.2.2.2.trans h.2.2.2.2⟩
def Cl (s:aA) (e:Nat) (bL:List Int) (x:aQ) (t:aA):Prop:=∃ S y,S.length<=40/\(∀ r∈S,pI s.bH r)/\On (xX s S) e bL t y 0 (λ_=>0)/\Sm x y
theorem aKD {s t:aA} {e i c:Int} {bL:List Int} {x:aQ} {n:Nat} (hn:66<n) (hs:SS s) (h:Cl s e.toNat bL x t) (ht:gY s e i) (hc:0<=c/\c<=1):Ex (λr=>r.2=0->Cl s e.toNat bL x r.1) (K9 n t e i c):=by
  obtain ⟨S,y,hl,hS,o,sm⟩:=h
  obtain ⟨g1,g2,g3,g4,g5⟩:=o.rc
  have g2:t.eF=S:=g2
  have g4:t.bH=s.bH:=g4
  have g5:t.bD.length=s.bD.length:=g5
  have hst:=o.ss (hs.xX S)
  have htt:gY t e i:=⟨⟨ht.1.1,by rw [g5];exact ht.1.2⟩,by rw [g4];exact ht.2⟩
  obtain ⟨y',m,k,p,q,sp⟩:=hst.spot htt hc
  have hy':=sp.en;rw [o.at] at hy';cases hy'
  have hlr:=gV sp.io.pp.ly
  have h0:=sp.io.pp.p0;have h1:=sp.io.pp.p1;have h2:=sp.io.pp.p2;have h3:=sp.io.pp.sum
  unfold K9 TP
  simp only [WT.run,bS]
  refine x_eq (pX hst.toS0 htt hc o.at sp.pp) (bE (bE (aF (aI (λ_=>aD λ_=>⟨S,y,hl,hS,o,sm⟩) λ_=>aU _ (aOR hn sp.io.pp) λa ha=>?_))))
  obtain ⟨a1,a2,a3,a4,a5,a6,a7,a8⟩:=ha
  have hio:IO m a.1 q:=⟨a1,sp.io.qq,by have:=sp.io.sq;omega,by have:=sp.io.ss;omega⟩
  obtain ⟨x1,o1,p1,p2,p3⟩:=o.LV sp hio (v:=-(a.2.a0.Value+a.2.a1.Value+a.2.a2.Value)) (by omega)
  refine x_eq (xK hst sp) (bE (bE (bE (aU _ (nY hn (o1.ss (hs.xX S)) (by simp)) λb hb=>?_))))
  refine aF (aI (λk=>aD λk2=>absurd k2 k) λkz=>?_)
  rcases hb with ⟨_,hb⟩ | ⟨k,_⟩
  rotate_left
  · exact absurd k kz
  obtain ⟨x2,o2,q1,q2,q3⟩:=o1.oV hb (by simp [gB,fZ])
  refine aU _ (sU hn (o2.ss (hs.xX S))) λd hd=>?_
  refine aF (aI (λk=>aD λk2=>absurd k2 k) λkz=>?_)
  rcases hd with ⟨_,hd⟩ | ⟨k,_⟩
  rotate_left
  · exact absurd k kz
  obtain ⟨x3,o3,r1,r2⟩:=o2.uP hd
  obtain ⟨f1,f2,f3,f4,f5⟩:=o3.rc
  have f2:d.1.eF=S:=f2
  have f4:d.1.bH=s.bH:=f4
  have f5:d.1.bD.length=s.bD.length:=f5
  refine aU _ (aMM (l:=a.2.a0) hn (by rw [f5];exact ht.1) (by rw [f2,f4];exact hS) (by rw [f2];exact hl) a5 a8) λw hw=>aD λk=>?_
  obtain ⟨S',e1,e2,e3⟩:=hw k
  have hB:∀ a':Nat,a' < 17->bl x3 a'=bl y a'+eP [⟨5,a.2.a0.Value⟩,⟨7,a.2.a1.Value⟩,⟨8,a.2.a2.Value⟩,⟨0,0-a.2.a0.Value⟩,⟨0,0-a.2.a1.Value⟩,⟨0,0-a.2.a2.Value⟩] a':=λa' ha=>by rw [mR r1,q1 a' ha,mR p1]
  have c1:=hB 1 (by decide);have c12:=hB 12 (by decide);have c13:=hB 13 (by decide);have c14:=hB 14 (by decide)
  simp [gB,fZ] at c1 c12 c13 c14
  refine ⟨S',x3,e2,by rw [f4] at e3;exact e3,?_,sm.trans ⟨c1,c12,c13,c14,r2.trans (q2.trans p2)⟩⟩
  have z:(λ(_:Nat)=>(0:Int))=bump (bump (λ_=>0) i.toNat (-(a.2.a0.Value+a.2.a1.Value+a.2.a2.Value))) i.toNat (-kM ⟨0,0,0,0,0,a.2.a0.Value,0,0,a.2.a1.Value,a.2.a2.Value,0⟩):=by
    rw [ZR (by simp [kM];omega)]
  refine ⟨o3.en,o3.ms,?_,o3.es,?_,o3.opn,o3.lH⟩
  · rw [e1,o3.eq];rfl
  · have:=o3.eb
    rw [<- z] at this
    have zz:0+-(a.2.a0.Value+a.2.a1.Value+a.2.a2.Value)-eP [⟨5,a.2.a0.Value⟩,⟨7,a.2.a1.Value⟩,⟨8,a.2.a2.Value⟩,⟨0,0-a.2.a0.Value⟩,⟨0,0-a.2.a1.Value⟩,⟨0,0-a.2.a2.Value⟩] 0=0:=by simp [gB,fZ];omega
    rw [zz] at this;exact this
theorem ES.flag {n:Nat} {bL:List Int} {iN:Int} {x:aQ} (h:ES n bL iN x) (c:Bool) (a:List aQ):ES n bL iN { x with Closed:=c,fV:=a }:=⟨h.now,h.lp,h.lr,h.lb,h.lc,h.ld,h.lm,h.gH,h.pri,h.zX,h.AI,h.roll⟩
theorem EB.flag {x:aQ} (h:EB x) (c:Bool) (a:List aQ):EB { x with Closed:=c,fV:=a }:=⟨h.ctl,h.pW,h.qX,h.pE⟩
theorem aRD {K:Int} {s:aA} {e:Int} {n:Nat} (hn:66<n) (h:Inv K s):Ex (Kept K s) (LW n s e):=by
  have hss:=h.ss
  have hf:=hss.toS0.iC
  have hl2:=h.l2
  unfold LW aGI
  simp only [WT.run,bS]
  refine aU (λ(b:Bool)=>b=false->0<=e/\e<(s.bD.length:Int)) ?_ λb hb=>fB (λ_=>aD (.inr ⟨by simp,rfl⟩)) λkb=>?_
  · refine aF (aI (λ_=>aD (λk=>nomatch k)) λ_=>aF (aD λk=>by have:=of_decide_eq_false k;omega))
  have he:=hb kb
  have hx:s.bD[e.toNat]?=some (s.bD[e.toNat]'(by omega)):=List.getElem?_eq_getElem (by omega)
  generalize s.bD[e.toNat]'(by omega)=x at hx
  obtain ⟨bL,hm,hml,hmb,hes⟩:=hss.bL hx
  refine dD he.1 hx (fB (λ_=>aD (.inr ⟨by simp,rfl⟩)) λkc=>?_)
  have ho:EO s.bH bL x:=by
    rcases h.ent _ _ _ hx hm with g | ⟨y,g⟩
    · exact g
    · rw [g.LP] at kc;cases kc
  have o0:=On.start hx hm ho
  have cl0:Cl s e.toNat bL x s:=⟨s.eF,x,h.l2,h.mO,o0,Sm.aKF x⟩
  refine aU (λ(r:aA⊕(aA×Int))=>match r with | .inl t=>Cl s e.toNat bL x t | .inr r=>r.2≠0/\r.1=s)
    (fJ (λ(v:Int×aA)=>0<=v.1/\v.1<=(s.bH.bZ.length:Int)/\Cl s e.toNat bL x v.2) (λ(v:Int×aA)=>s.bH.bZ.length-v.1.toNat) ?_ (v:=(0,s)) ⟨by simp,by simp,cl0⟩ (by simp;omega)) λr hr=>iZ (λt e1=>?_) λq e1=>?_
  · rintro ⟨i,t⟩ ⟨a1,a2,a3⟩
    simp only at a1 a2 a3
    refine bF (aF (aI (λk=>?_) λk=>bJ (cK a3)))
    have k:i<(s.bH.bZ.length:Int):=k
    have hth:gY s e i:=⟨he,a1,k⟩
    refine aU (λ(r:aA⊕((Int×aA)⊕(aA⊕(aA×Int))))=>match r with | .inl t=>Cl s e.toNat bL x t | .inr (.inr (.inr r))=>r.2≠0/\r.1=s | _=>False) ?_ λr hr=>iZ (λt e1=>?_) λq e1=>?_
    · refine aU (λ(r:aA⊕(aA⊕((Int×aA)⊕(aA⊕(aA×Int)))))=>match r with | .inl t=>Cl s e.toNat bL x t | .inr (.inr (.inr (.inr r)))=>r.2≠0/\r.1=s | _=>False)
        (fJ (λ(v:Int×aA)=>0<=v.1/\v.1<=2/\Cl s e.toNat bL x v.2) (λ(v:Int×aA)=>2-v.1.toNat) ?_ (v:=(0,t)) ⟨by simp,by simp,a3⟩ (by simp;omega)) λr hr=>iZ (λt e1=>cK (by subst e1;exact hr)) λq e1=>?_
      · rintro ⟨c,u⟩ ⟨b1,b2,b3⟩
        simp only at b1 b2 b3
        refine bF ?_
        refine aU (λ(b:Bool)=>b=true->c<2) (aF (aI (λkc=>dD he.1 hm (eT a1 (by first | omega | (simp only;omega)) λ_ _=>aF (aD λ_=>kc))) λ_=>aD (λk=>nomatch k))) λb hb=>fB (λkb=>?_) λ_=>bJ (cK b3)
        have kc:=hb kb
        refine aU _ (aKD hn hss b3 hth ⟨b1,by omega⟩) λw hw=>aF (aI (λk=>bJ (bJ (bJ (bJ (bJ (aD ⟨k,rfl⟩)))))) λk=>bE (cK ⟨⟨by first | omega | (simp only;omega),by first | omega | (simp only;omega),hw (by omega)⟩,by first | omega | (simp only;omega)⟩))
      · subst e1
        rcases q with q | q | q | q
        · exact hr.elim
        · exact hr.elim
        · exact hr.elim
        · exact hr
    · subst e1
      exact bE (cK ⟨⟨by first | omega | (simp only;omega),by first | omega | (simp only;omega),hr⟩,by first | omega | (simp only;omega)⟩)
    · subst e1
      cases q with
      | inl q=>exact hr.elim
      | inr q=>cases q with
        | inl q=>exact hr.elim
        | inr q=>exact hr
  · subst e1
    obtain ⟨S,y,l40,hS,o,sm⟩:=(hr:Cl s e.toNat bL x t)
    refine aU _ (aG9 hn (hss.xX S) o he) λw hw=>?_
    refine aF (aI (λk=>aD (.inr ⟨k,rfl⟩)) λkz=>?_)
    obtain ⟨z,oz,z1,z12,z13,z14,znow⟩:=hw (by omega)
    obtain ⟨f1,f2,f3,f4,f5⟩:=oz.rc
    have hlz:=oz.es.iC hf.2.2
    have f5:w.1.bD.length=s.bD.length:=f5
    repeat' with_reducible first | refine bE ?_ | refine dU ?_ | apply aF | apply bF | apply dY | apply dN | apply dV | apply dZ | apply d9 | apply dO | apply dW | apply dS | refine aI (λ_=>?_) λ_=>?_ | refine dJ (λ_=>?_) λ_=>?_ | apply dB | apply bW | apply cZ | apply bJ | apply aD | refine dM ?_
    refine dD he.1 oz.at ?_
    repeat' with_reducible first | refine bE ?_ | refine dU ?_ | apply aF | apply bF | apply dY | apply dN | apply dV | apply dZ | apply d9 | apply dO | apply dW | apply dS | refine aI (λ_=>?_) λ_=>?_ | refine dJ (λ_=>?_) λ_=>?_ | apply dB | apply bW | apply cZ | apply bJ | apply aD | refine dM ?_
    refine dD he.1 oz.at (dD he.1 hx (aD (.inl ⟨rfl,?_⟩)))
    have smz:Sm x z:=sm.trans ⟨z1,z12,z13,z14,znow⟩
    obtain ⟨s1,s12,s13,s14,snow⟩:=smz
    have oo:=oz.done rfl λ_=>rfl
    have fin:=h.up (x':={ z with Closed:=true,fV:=[x] }) (R:=s.bY) (S:=S) (T:=s.dL) hx hm (.inr ⟨x,oo.es.flag true [x],oo.ee.flag true [x],rfl,rfl,ho,snow.symm,s1.symm,s12.symm,s13.symm,s14.symm⟩) h.mD hS h.nP h.l1 l40 h.l3 (by show _=bl x 1-bl z 1;omega) (λ_ _=>rfl) (by show _=bl z 12-bl x 12;omega) (λ_ _=>rfl) (by show bl z 13+bl z 14=bl x 13+bl x 14;omega)
    rw [oz.eq]
    show Inv K ⟨s.bH,(s.bD.set e.toNat z).set e.toNat _,s.bY,S,s.dL,s.Done⟩
    rw [List.set_set];exact fin
  · subst e1;exact .inr hr
theorem r19 {K:Int} {s:aA} {o:bK} {n:Nat} (hn:66<n) (h:Inv K s) (ha:0<=o.bM/\o.bM<=288230376151711744) (hR:o.fA.length<=60):Ex (Kept K s) (IV n s o):=by
  have hl1:=h.l1
  unfold IV YE
  simp only [WT.run,bS]
  refine aU (λ(b:Bool)=>b=false->1<=o.fA.length) ?_ λb hb=>fB (λ_=>aD (.inr ⟨by simp,rfl⟩)) λkb=>?_
  · refine aF (aI (λ_=>aD (λk=>nomatch k)) λ_=>aF (aD λk=>by have:=of_decide_eq_false k;omega))
  have hlen:=hb kb
  refine aU (λ(r:Unit⊕(aA×Int))=>match r with | .inl _=>∀ x∈o.fA,0<=x/\x<(s.bY.length:Int) | .inr q=>q.2≠0/\q.1=s)
    (fJ (λ(i:Int)=>0<=i/\i<=(o.fA.length:Int)/\((∀ x∈o.fA.drop i.toNat,0<=x/\x<(s.bY.length:Int))->∀ x∈o.fA,0<=x/\x<(s.bY.length:Int))) (λ(i:Int)=>o.fA.length-i.toNat) ?_ ⟨by simp,by simp,by simp⟩ (by simp;omega)) λr hr=>iZ (λu e=>?_) λq e=>?_
  · rintro i ⟨h0,h1,h2⟩
    refine aF (aI (λk=>?_) λk=>bJ (cK (h2 λx hx=>by rw [List.drop_eq_nil_of_le (by omega)] at hx;cases hx)))
    have hx:o.fA[i.toNat]?=some (o.fA[i.toNat]'(by omega)):=List.getElem?_eq_getElem (by omega)
    generalize o.fA[i.toNat]'(by omega)=x at hx
    refine aU (λ(b:Bool)=>b=false->0<=x/\x<(s.bY.length:Int)) (dD h0 hx (aF (aI (λ_=>aD (λk=>nomatch k)) λk1=>dD h0 hx (aF (aD λk2=>by have:=of_decide_eq_false k2;omega))))) λb hb=>fB (λ_=>bJ (bJ (aD ⟨by simp,rfl⟩))) λkb=>bE (cK ⟨⟨by omega,by omega,λhh=>h2 λy hy=>?_⟩,by omega⟩)
    rw [(drop_at hx).2] at hy
    rcases List.mem_cons.1 hy with rfl | hy
    · exact hb kb
    · exact hh y (by rw [show (i+1).toNat=i.toNat+1 by omega];exact hy)
  · have hrf:∀ x∈o.fA,0<=x/\x<(s.bY.length:Int):=by subst e;exact hr
    have h0:o.fA[(0:Int).toNat]?=some (o.fA[0]'(by omega)):=List.getElem?_eq_getElem (by omega)
    generalize o.fA[0]'(by omega)=x0 at h0
    obtain ⟨g0,g1⟩:=hrf x0 (fE h0)
    refine dD (by omega) h0 (eT g0 g1 λz hz=>?_)
    have hz:s.bY[x0.toNat]?=some z:=hz
    have hzk:=h.mD z (fE hz)
    refine aU (λ(r:Unit⊕(aA×Int))=>match r with | .inl _=>∀ x∈o.fA,∀ y,s.bY[x.toNat]?=some y->y.eY=z.eY | .inr q=>q.2≠0/\q.1=s)
      (fJ (λ(i:Int)=>1<=i/\i<=(o.fA.length:Int)/\((∀ x∈o.fA.drop i.toNat,∀ y,s.bY[x.toNat]?=some y->y.eY=z.eY)->∀ x∈o.fA,∀ y,s.bY[x.toNat]?=some y->y.eY=z.eY)) (λ(i:Int)=>o.fA.length-i.toNat) ?_ ⟨by simp,by omega,?_⟩ (by simp;omega)) λr hr=>iZ (λu e=>?_) λq e=>?_
    · rintro i ⟨h0,h1,h2⟩
      refine aF (aI (λk=>?_) λk=>bJ (cK (h2 λx hx=>by rw [List.drop_eq_nil_of_le (by omega)] at hx;cases hx)))
      have hx:o.fA[i.toNat]?=some (o.fA[i.toNat]'(by omega)):=List.getElem?_eq_getElem (by omega)
      generalize o.fA[i.toNat]'(by omega)=x at hx
      obtain ⟨g2,g3⟩:=hrf x (fE hx)
      refine dD (by omega) hx (eT g2 g3 λy hy=>aF (aI (λ_=>bJ (bJ (aD ⟨by simp,rfl⟩))) λk2=>bE (cK ⟨⟨by omega,by omega,λhh=>h2 λw hw=>?_⟩,by omega⟩)))
      have hy:s.bY[x.toNat]?=some y:=hy
      rw [(drop_at hx).2] at hw
      rcases List.mem_cons.1 hw with rfl | hw
      · intro y' hy';rw [hy] at hy';cases hy';omega
      · exact hh w (by rw [show (i+1).toNat=i.toNat+1 by omega];exact hw)
    · intro hh w hw
      have e1:o.fA=x0 :: o.fA.drop 1:=by
        have:=(drop_at (l:=o.fA) (i:=0) h0).2
        simpa using this
      rw [e1] at hw
      rcases List.mem_cons.1 hw with rfl | hw
      · intro y hy;rw [hz] at hy;cases hy;rfl
      · exact hh w hw
    · have hsame:∀ x∈o.fA,∀ y,s.bY[x.toNat]?=some y->y.eY=z.eY:=by subst e;exact hr
      refine aU _ (rE h z.eY z.Item) λr hr=>?_
      refine aF (aI (λk=>aD (.inr ⟨k,rfl⟩)) λkz=>?_)
      obtain ⟨ht,x,bL,hx,hm,ho⟩:=hr (by omega)
      have o0:=On.start hx hm ho
      refine aU _ (aMD hn hR hl1 λr hr=>(h.mD r hr).2.1) λw hw=>aU _ (aXR hn (by omega)) λsp hsp=>?_
      refine aF (aI (λk=>aD (.inr ⟨k,rfl⟩)) λkz=>?_)
      obtain ⟨s1,s2,s3⟩:=hsp (by omega)
      have hpos:=DZ λy hy=>(s2 y hy).1
      refine aU (λ(r:(Int×aA)⊕(aA×Int))=>match r with | .inl r=>(0<=r.1/\r.1<=o.bM)/\∃ x',On s z.eY.toNat bL r.2 x' r.1 (λ_=>0)/\x'.dR=x.dR | .inr q=>q.2≠0/\q.1=s)
        (fJ (λ(v:Int×Int×aA)=>0<=v.2.1/\v.2.1<=(sp.1.length:Int)/\(0<=v.1/\v.1+dA (sp.1.drop v.2.1.toNat)<=o.bM)/\∃ x',On s z.eY.toNat bL v.2.2 x' v.1 (λ_=>0)/\x'.dR=x.dR) (λ(v:Int×Int×aA)=>sp.1.length-v.2.1.toNat) ?_ (v:=(0,0,s)) ⟨by simp,by simp,⟨by simp,by simp;omega⟩,x,o0,rfl⟩ (by simp;omega)) λr hr=>iZ (λa e=>?_) λq e=>?_
      · rintro ⟨all,i,t⟩ ⟨a1,a2,a3,x1,o1,p1⟩
        simp only at a1 a2 a3 o1
        refine bF (bF (aF (aI (λk=>?_) λk=>bJ (cK ⟨?_,x1,o1,p1⟩))))
        · have k:i<(sp.1.length:Int):=k
          have hv:sp.1[i.toNat]?=some (sp.1[i.toNat]'(by omega)):=List.getElem?_eq_getElem (by omega)
          generalize sp.1[i.toNat]'(by omega)=v at hv
          have hrx:o.fA[i.toNat]?=some (o.fA[i.toNat]'(by omega)):=List.getElem?_eq_getElem (by omega)
          generalize o.fA[i.toNat]'(by omega)=rx at hrx
          obtain ⟨g2,g3⟩:=hrf rx (fE hrx)
          refine dD a1 hrx (eT g2 g3 λy hy=>dD a1 hv ?_)
          have hy:s.bY[rx.toNat]?=some y:=hy
          have hyk:=h.mD y (fE hy)
          have hye:=hsame rx (fE hrx) y hy
          refine aU _ (aT2 hn h.ss hyk o1 hye (s2 v (fE hv)) ht.1) λc hc=>?_
          refine aF (aI (λkc=>bJ (bJ (aD ⟨kc,rfl⟩))) λkc=>?_)
          obtain ⟨c1,x2,o2,p2⟩:=hc (by omega)
          have hd:=R9 hv
          have e2:(i+1).toNat=i.toNat+1:=by omega
          have hnn:0<=dA (sp.1.drop (i.toNat+1)):=uK λy hy=>(s2 y (List.mem_of_mem_drop hy)).1
          refine bE (bE (cK ⟨⟨by first | omega | (simp only;omega),by first | omega | (simp only;omega),⟨by first | omega | (simp only;omega),?_⟩,x2,o2,p2.trans p1⟩,by first | omega | (simp only;omega)⟩))
          show all+c.2.1+dA (sp.1.drop (i+1).toNat)<=o.bM
          rw [e2];omega
        · have k:¬ i<(sp.1.length:Int):=k
          have hnn:0<=dA (sp.1.drop i.toNat):=uK λy hy=>(s2 y (List.mem_of_mem_drop hy)).1
          first | omega | (simp only;omega)
      · subst e
        obtain ⟨b1,x1,o1,p1⟩:=hr
        refine bF (bE (bE (aU _ (nY hn (o1.ss h.ss) (by simp)) λc hc=>?_)))
        refine aF (aI (λk=>aD (.inr ⟨k,rfl⟩)) λkz=>?_)
        rcases hc with ⟨_,hc⟩ | ⟨k,_⟩
        rotate_left
        · exact absurd k kz
        obtain ⟨x2,o2,q1,q2,q3⟩:=o1.oV hc (by simp [gB,fZ])
        obtain ⟨f1,f2,f3,f4,f5⟩:=o2.rc
        have hB:∀ a':Nat,a' < 17->bl x2 a'=bl x a'+eP [⟨0,a.1⟩,⟨9,o.bM-a.1⟩,⟨2,0-o.bM⟩] a':=λa' ha=>by rw [q1 a' ha,mR p1]
        have c1:=hB 1 (by decide);have c12:=hB 12 (by decide);have c13:=hB 13 (by decide);have c14:=hB 14 (by decide)
        simp [gB,fZ] at c1 c12 c13 c14
        refine aD (.inl ⟨rfl,?_⟩)
        exact o2.fin h hx (by simp [gB,fZ]) (λ_=>rfl) (S:=c.1.eF) (by rw [f2];exact h.mO) (by rw [f2];exact h.l2) c1 c12 c13 c14
      · subst e;exact .inr hr
    · subst e;exact .inr hr
  · subst e;exact .inr hr
theorem aSJ {K:Int} {s:aA} {e:Int} {n:Nat} (hn:66<n) (h:Inv K s):Ex (Kept K s) (K8 n s e):=by
  have hss:=h.ss
  have hf:=hss.toS0.iC
  have hl2:=h.l2
  unfold K8 WM
  simp only [WT.run,bS]
  refine aU (λ(b:Bool)=>b=false->0<=e/\e<(s.bD.length:Int)) ?_ λb hb=>fB (λ_=>aD (.inr ⟨by simp,rfl⟩)) λkb=>?_
  · refine aF (aI (λ_=>aD (λk=>nomatch k)) λ_=>aF (aD λk=>by have:=of_decide_eq_false k;omega))
  have he:=hb kb
  have hx:s.bD[e.toNat]?=some (s.bD[e.toNat]'(by omega)):=List.getElem?_eq_getElem (by omega)
  generalize s.bD[e.toNat]'(by omega)=x at hx
  obtain ⟨bL,hm,hml,hmb,hes⟩:=hss.bL hx
  refine dD he.1 hx (aF (dJ (λ_=>aD (.inr ⟨by simp,rfl⟩)) λkc=>?_))
  rcases h.ent _ _ _ hx hm with g | ⟨y,g⟩
  · rw [g.opn] at kc;cases kc
  refine dM (dD he.1 hx ?_)
  rw [g.lH]
  refine dD (by decide) (a:=y) rfl (aF (dM ?_))
  refine aU (λ(S:List eZ)=>S.length=s.eF.length/\∀ r∈S,pI s.bH r) (fJ (λ(v:Int×List eZ)=>0<=v.1/\v.1<=(s.eF.length:Int)/\v.2.length=s.eF.length/\∀ r∈v.2,pI s.bH r) (λ(v:Int×List eZ)=>s.eF.length-v.1.toNat) ?_ (v:=(0,s.eF)) ⟨by simp,by simp,rfl,h.mO⟩ (by simp;omega)) λS hS=>aD (.inl ⟨rfl,?_⟩)
  · rintro ⟨j,S⟩ ⟨a1,a2,a3,a4⟩
    simp only at a1 a2 a3 a4
    refine bF (aF (aI (λk=>?_) λk=>bJ (aD ⟨a3,a4⟩)))
    have k:j<(S.length:Int):=k
    refine aU (λ(S':List eZ)=>S'.length=s.eF.length/\∀ r∈S',pI s.bH r) ?_ λS' hS'=>bE (cK ⟨⟨by first | omega | (simp only;omega),by first | omega | (simp only;omega),hS'.1,hS'.2⟩,by first | omega | (simp only;omega)⟩)
    refine eT a1 k λz hz=>?_
    obtain ⟨z1,z2,z3,z4,z5,z6,z7,z8⟩:=a4 z (fE hz)
    refine aU (λ_=>True) ?_ λb _=>fB (λ_=>aF (aF (aD ⟨by simp;exact a3,oG (oG a4 ⟨z1,z2,z3,z4,z5,by simp,z7,z8⟩) ⟨z1,z2,z3,z4,z5,by simp,by unfold bQ;simp,z8⟩⟩))) λ_=>aD ⟨a3,a4⟩
    repeat' with_reducible first | refine bE ?_ | refine dU ?_ | apply aF | apply bF | apply dY | apply dN | apply dV | apply dZ | apply d9 | apply dO | apply dW | apply dS | refine aI (λ_=>?_) λ_=>?_ | refine dJ (λ_=>?_) λ_=>?_ | apply dB | apply bW | apply cZ | apply bJ | apply aD | refine fB (λ_=>?_) λ_=>?_
    all_goals trivial
  · have fin:=h.up (x':=y) (R:=s.bY) (S:=S) (T:=s.dL) hx hm (.inl g.eo) h.mD hS.2 h.nP h.l1 (by omega) h.l3 (by have:=g.b1;omega) (λ_ _=>rfl) (by have:=g.b12;omega) (λ_ _=>rfl) (by have:=g.b13;have:=g.b14;unfold kH;omega)
    exact fin
theorem aUS {K:Int} {s:aA} {e:Int} {n:Nat} (hn:66<n) (h:Inv K s):Ex (Kept K s) (KW n s e):=by
  have hss:=h.ss
  have hf:=hss.toS0.iC
  have hl2:=h.l2
  have hper:=h.jW.iN
  unfold KW XK
  simp only [WT.run,bS]
  refine aU (λ(b:Bool)=>b=false->0<=e/\e<(s.bD.length:Int)) ?_ λb hb=>fB (λ_=>aD (.inr ⟨by simp,rfl⟩)) λkb=>?_
  · refine aF (aI (λ_=>aD (λk=>nomatch k)) λ_=>aF (aD λk=>by have:=of_decide_eq_false k;omega))
  have he:=hb kb
  have hx:s.bD[e.toNat]?=some (s.bD[e.toNat]'(by omega)):=List.getElem?_eq_getElem (by omega)
  generalize s.bD[e.toNat]'(by omega)=x at hx
  obtain ⟨bL,hm,hml,hmb,hes⟩:=hss.bL hx
  have hl:=hes.iC hf.2.2
  have hlr:=hes.lr
  refine dD he.1 hx (aF (dJ (λ_=>aD (.inr ⟨by simp,rfl⟩)) λkc=>?_))
  rcases h.ent _ _ _ hx hm with g | ⟨y,g⟩
  · rw [g.opn] at kc;cases kc
  have hsv:=g.ee.x.iC g.es
  have hnow:=g.es.now
  refine dD he.1 hx (aF (aI (λ_=>aD (.inr ⟨by simp,rfl⟩)) λkn=>?_))
  repeat' with_reducible first | refine bE ?_ | refine dU ?_ | apply aF | apply bF | apply dY | apply dN | apply dV | apply dZ | apply d9 | apply dO | apply dW | apply dS | refine aI (λ_=>?_) λ_=>?_ | refine dJ (λ_=>?_) λ_=>?_ | apply dB | apply bW | apply cZ | apply bJ | apply aD | refine dM ?_
  refine dD he.1 hx ?_
  repeat' with_reducible first | refine bE ?_ | refine dU ?_ | apply aF | apply bF | apply dY | apply dN | apply dV | apply dZ | apply d9 | apply dO | apply dW | apply dS | refine aI (λ_=>?_) λ_=>?_ | refine dJ (λ_=>?_) λ_=>?_ | apply dB | apply bW | apply cZ | apply bJ | apply aD | refine dM ?_
  refine dD he.1 hx (bE ?_)
  refine aU (λ(R:List cO)=>R.length=x.dQ.length/\(∀ r∈R,wX r)/\∀ (j:Nat) r p q,R[j]?=some r->x.bX[2*j]?=some p->x.bX[2*j+1]?=some q->kM r=tV p.aW+tV q.aW)
    (fJ (λ(v:Int×List cO)=>0<=v.1/\v.1<=(x.dQ.length:Int)/\v.2.length=x.dQ.length/\(∀ r∈v.2,wX r)/\∀ (j:Nat) r p q,(j:Int)<v.1->v.2[j]?=some r->x.bX[2*j]?=some p->x.bX[2*j+1]?=some q->kM r=tV p.aW+tV q.aW) (λ(v:Int×List cO)=>x.dQ.length-v.1.toNat) ?_ (v:=(0,x.dQ)) ⟨by simp,by simp,rfl,g.es.roll,λj _ _ _ hj=>absurd hj (by simp)⟩ (by simp;omega)) λR hR=>aD (.inl ⟨rfl,?_⟩)
  · rintro ⟨i,R⟩ ⟨a1,a2,a3,a4,a5⟩
    simp only at a1 a2 a3 a4 a5
    refine bF (aF (aI (λk=>?_) λk=>bJ (aD ⟨a3,a4,λj r p q hj hp hq=>a5 j r p q ?_ hj hp hq⟩)))
    · have k:i<(R.length:Int):=k
      obtain ⟨m,p,q,w1,w2,w3,w4,w5,w6⟩:=g.es.QA hsv (i:=i.toNat) (by omega)
      refine x_eq (RZ hn hss ⟨he,by omega⟩ hx w2 w3 w4 w5) (eT a1 k λ_ _=>aF (bE (cK ⟨⟨by first | omega | (simp only;omega),by first | omega | (simp only;omega),by rw [List.length_set];exact a3,oG a4 ?_,?_⟩,by first | omega | (simp only;omega)⟩)))
      · unfold wX bQ;simp only;omega
      · intro j r p' q' hj hr hp hq
        have hj:(j:Int)<i+1:=hj
        have hr:(R.set i.toNat (⟨tV p.aW+tV q.aW,0,0,0,0,0,0,0,0,0,0⟩:cO))[j]?=some r:=hr
        rw [mK (by omega)] at hr
        by_cases hij:i.toNat=j
        · rw [if_pos hij] at hr;cases hr
          rw [<- hij,w2] at hp;rw [<- hij,w3] at hq;cases hp;cases hq
          simp [kM]
        · rw [if_neg hij] at hr
          exact a5 j r p' q' (by omega) hr hp hq
    · have k:¬ i<(R.length:Int):=k
      have:=(List.getElem?_eq_some_iff.1 hj).1
      omega
  · obtain ⟨r1,r2,r3⟩:=hR
    have ho:EO s.bH bL { x with fU:=x.fU+1,Closed:=false,fV:=[],dQ:=R } :=
      ⟨⟨by show 1<=x.fU+1/\x.fU+1<=_;omega,g.es.lp,r1.trans g.es.lr,g.es.lb,g.es.lc,g.es.ld,g.es.lm,g.es.gH,g.es.pri,g.es.zX,g.es.AI,r2⟩,⟨g.ee.ctl,g.ee.pW,g.ee.qX,r3⟩,rfl,rfl⟩
    exact h.up (x':={ x with fU:=x.fU+1,Closed:=false,fV:=[],dQ:=R }) (R:=s.bY) (S:=s.eF) (T:=s.dL) hx hm (.inl ho) h.mD h.mO h.nP h.l1 h.l2 h.l3 (by show _=bl x 1-bl x 1;omega) (λ_ _=>rfl) (by show _=bl x 12-bl x 12;omega) (λ_ _=>rfl) rfl
structure zV (o:bK):Prop where
  q:0<=o.aG/\o.aG<=288230376151711744
  a:0<=o.bM/\o.bM<=288230376151711744
  a9:o.Kind=9->o.bM<=1073741824
  l7:o.Kind=7->0<=o.Loc/\o.Loc<=1
  t12:o.Kind=12->o.E≠o.To
  r:o.fA.length<=60
theorem aQN {K:Int} {s:aA} {o:bK} {n:Nat} (hn:66<n) (h:Inv K s) (ho:zV o):Ex (Kept K s) (MB n s o):=by
  have hq:=ho.q
  unfold MB UG
  simp only [WT.run,bS]
  refine aF (aI (λ_=>aU _ (r15 hn h (by omega) ho.a) λr hr=>aD hr) λ_=>?_)
  refine aF (aU (λ_=>True) (fB (λ_=>aD trivial) λ_=>aF (aD trivial)) λb _=>fB (λ_=>aU _ (r16 hn h hq ho.a) λr hr=>aD hr) λ_=>?_)
  refine aF (aU (λ_=>True) ?_ λb _=>fB (λ_=>aU _ (r17 hn h hq ⟨ho.a.1,ho.a9⟩ ho.l7) λr hr=>aD hr) λ_=>?_)
  · repeat' with_reducible first | refine bE ?_ | refine dU ?_ | apply aF | apply bF | apply dY | apply dN | apply dV | apply dZ | apply d9 | apply dO | apply dW | apply dS | refine aI (λ_=>?_) λ_=>?_ | refine dJ (λ_=>?_) λ_=>?_ | apply dB | apply bW | apply cZ | apply bJ | apply aD | refine fB (λ_=>?_) λ_=>?_
    all_goals trivial
  refine aF (aU (λ_=>True) (fB (λ_=>aD trivial) λ_=>aF (aD trivial)) λb _=>fB (λ_=>aU _ (UR hn h hq ho.a) λr hr=>aD hr) λ_=>?_)
  refine aF (aI (λ_=>aU _ (r19 hn h ho.a ho.r) λr hr=>aD hr) λ_=>?_)
  refine aF (aU (λ_=>True) (fB (λ_=>aD trivial) λ_=>aF (aD trivial)) λb _=>fB (λ_=>aU _ (r20 hn h hq ho.a ho.t12) λr hr=>aD hr) λ_=>?_)
  exact aF (aI (λ_=>aU _ (r21 h ho.a) λr hr=>aD hr) λ_=>aD (.inr ⟨by simp,rfl⟩))
theorem Inv.mono {K K':Int} {s:aA} (h:Inv K s) (hk:K<=K'):Inv K' s:={ h with xS:=by have:=h.xS;omega }
theorem Inv.done {K K':Int} {s:aA} (h:Inv K s) {d:Int} (hd:0<=d/\d<=K'):Inv K' ⟨s.bH,s.bD,s.bY,s.eF,s.dL,d⟩:=⟨h.jW,h.len,hd,h.mD,h.mO,h.nP,h.l1,h.l2,h.l3,h.ent,h.acc,h.way,h.xD⟩
theorem r22 {K:Int} {s:aA} {o:bK} {n:Nat} (hn:66<n) (h:Inv K s) (hK:K<=1000000) (hc:Ex (λr=>r=true->zV o) (wI n o)):Ex (λr=>Inv (K+1) r.1) (F3 n s o):=by
  unfold F3 aDC
  simp only [WT.run,bS]
  refine aU _ hc λb hb=>aF (dJ (λ_=>aD (h.mono (by omega))) λkb=>?_)
  refine aU _ (aQN hn h (hb kb)) λr hr=>aF (aI (λ_=>aD (h.mono (by omega))) λk=>?_)
  rcases hr with ⟨_,hr⟩ | ⟨k2,_⟩
  rotate_left
  · exact absurd k2 k
  have hd:=hr.xS
  refine bE (aF (aD (hr.done ?_)))
  split <;> omega
theorem aUQ {K:Int} {s:aA} {o:bK} {n:Nat} (hn:66<n) (h:Inv K s) (hK:K<=1000000) (hc:Ex (λr=>r=true->zV o) (wI n o)):Ex (λr=>Inv (K+1) r.1) (KJ n s o):=by
  have hd:=h.xS
  unfold KJ XU
  simp only [WT.run,bS]
  refine aU _ hc λb hb=>aF (dJ (λ_=>aD (h.mono (by omega))) λkb=>?_)
  refine aU (λ(r:(Int×aA)⊕(aA×Int))=>match r with | .inl r=>r.1=0->Inv K r.2 | .inr r=>Inv (K+1) r.1) ?_ λr hr=>iZ (λa e=>?_) λq e=>?_
  · refine aF (aI (λ_=>aU _ (aRD hn h) λr hr=>cK ?_) λ_=>aF (aI (λ_=>aU _ (aSJ hn h) λr hr=>cK ?_) λ_=>aF (aI (λ_=>aU _ (aUS hn h) λr hr=>cK ?_) λ_=>aU _ (r22 hn h hK hc) λr hr=>bJ (aD hr))))
    all_goals
      rcases hr with ⟨_,hr⟩ | ⟨k2,_⟩
      · exact λ_=>hr
      · exact λk=>absurd k k2
  · subst e
    refine bF (aF (aI (λ_=>aD (h.mono (by omega))) λk=>?_))
    have hr:Inv K a.2:=hr (by omega)
    have hd:=hr.xS
    exact bE (aD (hr.done (by omega)))
  · subst e;exact hr
theorem td {a b:Int} (ha:0<=a) (hb:0<b):0<=a.tdiv b/\a.tdiv b<=a:=by
  rw [Int.tdiv_eq_ediv_of_nonneg ha]
  exact ⟨Int.ediv_nonneg ha (by omega),Int.ediv_le_self b ha⟩
theorem tm {a b:Int} (ha:0<=a) (hb:0<b):0<=a.tmod b/\a.tmod b<b:=by
  rw [Int.tmod_eq_emod_of_nonneg ha]
  exact ⟨Int.emod_nonneg _ (by omega),Int.emod_lt_of_pos _ hb⟩
theorem KE {v k:Int} (hk:0<k/\k<=4611686018427387904):Ex (λr=>0<=r/\r<k) (xW v k):=by
  have h1:=Int.tmod_lt_of_pos v hk.1
  have h2:=Int.lt_tmod_of_pos v hk.1
  unfold xW XR
  simp only [WT.run,bS]
  refine dM ?_
  repeat' with_reducible first | refine bE ?_ | refine dU ?_ | apply aF | apply bF | apply dY | apply dN | apply dV | apply dZ | apply d9 | apply dO | apply dW | apply dS | refine aI (λ_=>?_) λ_=>?_ | refine dJ (λ_=>?_) λ_=>?_ | apply dB | apply bW | apply cZ | apply bJ | apply aD
  all_goals omega
def MN (m:fC):Prop:=pM m/\2<=m.gG
theorem aQO {v:Int} {n:Nat} (hn:66<n):Ex MN (MX n v):=by
  unfold MX aBH
  simp only [WT.run,bS]
  refine aU _ (KE (by decide)) λk hk=>?_
  have f1:=tm (a:=k) (b:=2) hk.1 (by decide)
  have f2:=td (a:=k) (b:=2) hk.1 (by decide)
  have f3:=tm (a:=k.tdiv 2) (b:=3) f2.1 (by decide)
  have f4:=td (a:=k) (b:=6) hk.1 (by decide)
  have f5:=tm (a:=k.tdiv 6) (b:=4) f4.1 (by decide)
  refine aF (bE (bE (aF (bE (bE (aF (bE ?_)))))))
  have hc:2<=2+(k.tdiv 2).tmod 3/\2+(k.tdiv 2).tmod 3<=4:=by omega
  have he:2<=2+k.tmod 2/\2+k.tmod 2<=3:=by omega
  generalize 2+(k.tdiv 2).tmod 3=c at hc ⊢
  generalize 2+k.tmod 2=es at he ⊢
  refine aU (λ(w:List Int)=>(w.length:Int)=c/\∀ x∈w,0<=x/\x<=1073741824) (fJ (λ(v:Int×List Int)=>0<=v.1/\v.1<=c/\(v.2.length:Int)=v.1/\∀ x∈v.2,0<=x/\x<=1073741824) (λv=>c.toNat-v.1.toNat) ?_ (v:=(0,[])) ⟨by simp,by simp only;omega,rfl,λ_ h=>nomatch h⟩ (by simp only;omega)) λw hw=>?_
  · rintro ⟨i,l⟩ ⟨h0,h1,hl,hb⟩
    simp only at h0 h1 hl hb
    have f1:=td (a:=k) (b:=24) hk.1 (by decide)
    have f2:=tm (a:=k.tdiv 24) (b:=7) f1.1 (by decide)
    refine bF (aF (aI (λh=>?_) λh=>bJ (aD ⟨by first | omega | (simp only;omega),hb⟩)))
    have h:i<c:=h
    exact bE (aF (bE (aF (dM (bE (cK ⟨⟨by first | omega | (simp only;omega),by first | omega | (simp only;omega),by simp;omega,mI hb (by first | omega | (simp only;omega))⟩,by first | omega | (simp only;omega)⟩))))))
  refine aU (λ(q:List (List Int)×List (List Int))=>((q.1.length:Int)=es/\∀ x∈q.1,(x.length:Int)=c/\∀ y∈x,1<=y/\y<=4)/\(q.2.length:Int)=es/\∀ x∈q.2,(x.length:Int)=c/\∀ y∈x,0<=y/\y<=1073741824)
    (fJ (λ(v:Int×List (List Int)×List (List Int))=>0<=v.1/\v.1<=es/\((v.2.1.length:Int)=v.1/\∀ x∈v.2.1,(x.length:Int)=c/\∀ y∈x,1<=y/\y<=4)/\(v.2.2.length:Int)=v.1/\∀ x∈v.2.2,(x.length:Int)=c/\∀ y∈x,0<=y/\y<=1073741824) (λv=>es.toNat-v.1.toNat) ?_ (v:=(0,[],[])) ⟨by simp,by simp only;omega,⟨rfl,λ_ h=>nomatch h⟩,rfl,λ_ h=>nomatch h⟩ (by simp only;omega)) λq hq=>bF (aD ?_)
  · rintro ⟨e,l,r⟩ ⟨h0,h1,⟨hl,hb⟩,hr,hd⟩
    simp only at h0 h1 hl hb hr hd
    refine bF (bF (aF (aI (λh=>?_) λh=>bJ (aD ⟨⟨by first | omega | (simp only;omega),hb⟩,by first | omega | (simp only;omega),hd⟩))))
    have h:e<es:=h
    refine aU (λ(q:List (List Int)×List (List Int))=>((q.1.length:Int)=e+1/\∀ x∈q.1,(x.length:Int)=c/\∀ y∈x,1<=y/\y<=4)/\(q.2.length:Int)=e+1/\∀ x∈q.2,(x.length:Int)=c/\∀ y∈x,0<=y/\y<=1073741824) ?_ λq hq=>bF (bE (cK ⟨⟨by first | omega | (simp only;omega),by first | omega | (simp only;omega),hq⟩,by first | omega | (simp only;omega)⟩))
    refine aU (λ(q:List Int×List Int)=>((q.1.length:Int)=c/\∀ x∈q.1,1<=x/\x<=4)/\(q.2.length:Int)=c/\∀ x∈q.2,0<=x/\x<=1073741824)
      (fJ (λ(v:Int×List Int×List Int)=>0<=v.1/\v.1<=c/\((v.2.1.length:Int)=v.1/\∀ x∈v.2.1,1<=x/\x<=4)/\(v.2.2.length:Int)=v.1/\∀ x∈v.2.2,0<=x/\x<=1073741824) (λv=>c.toNat-v.1.toNat) ?_ (v:=(0,[],[])) ⟨by simp,by simp only;omega,⟨rfl,λ_ h=>nomatch h⟩,rfl,λ_ h=>nomatch h⟩ (by simp only;omega)) λq hq=>bF (aF (dM (aF (dM (aD ⟨⟨by simp;omega,mI hb hq.1⟩,by simp;omega,mI hd hq.2⟩)))))
    rintro ⟨i,a,b⟩ ⟨g0,g1,⟨ga,gb⟩,gc,gd⟩
    simp only at g0 g1 ga gb gc gd
    refine bF (bF (aF (aI (λh=>?_) λh=>bJ (aD ⟨⟨by first | omega | (simp only;omega),gb⟩,by first | omega | (simp only;omega),gd⟩))))
    have h:i<c:=h
    have f1:=td (a:=k) (b:=168) hk.1 (by decide)
    have f2:=td (a:=k) (b:=672) hk.1 (by decide)
    have f3:=tm (a:=k.tdiv 672) (b:=4) f2.1 (by decide)
    have f4:0<=e*(k.tdiv 672).tmod 4/\e*(k.tdiv 672).tmod 4<=16:=by
      refine ⟨Int.mul_nonneg h0 f3.1,?_⟩
      have:e*(k.tdiv 672).tmod 4<=4*4:=Int.mul_le_mul (by omega) (by omega) f3.1 (by omega)
      omega
    have f5:=tm (a:=k.tdiv 168+i+e*(k.tdiv 672).tmod 4) (b:=4) (by omega) (by decide)
    have f6:=td (a:=k) (b:=2688) hk.1 (by decide)
    have f7:=tm (a:=k.tdiv 2688+7*i+e) (b:=40) (by omega) (by decide)
    exact bE (bE (bE (aF (bE (bE (aF (bE (aF (dM (bE (bE (bE (bE (aF (aF (dM (bE (cK ⟨⟨by first | omega | (simp only;omega),by first | omega | (simp only;omega),⟨by simp;omega,mI gb (by first | omega | (simp only;omega))⟩,by simp;omega,mI gd (by first | omega | (simp only;omega))⟩,by first | omega | (simp only;omega)⟩))))))))))))))))))
  obtain ⟨⟨h1,h2⟩,h3,h4⟩:=hq
  exact ⟨⟨by simp only;omega,by simp only;omega,by simp only;omega,hw.2,h1,h3,λl hl=>⟨by have:=(h2 l hl).1;simp only;omega,(h2 l hl).2⟩,λl hl=>⟨by have:=(h4 l hl).1;simp only;omega,(h4 l hl).2⟩⟩,by simp only;omega⟩
theorem NF {l:List Int} {k lo hi:Int} {n:Nat} (hn:66<n) (hk:(l.length:Int)=k) (h60:l.length<=60) (hb:∀ x∈l,lo<=x/\x<=hi):zG n l k lo hi=some true:=by
  refine fH ?_
  unfold zG U2
  simp only [WT.run,bS]
  refine aF (aI (λh=>absurd hk h) λ_=>?_)
  refine aU (λ(r:Unit⊕Bool)=>r=.inl ()) (fJ (λ(i:Int)=>0<=i/\i<=(l.length:Int)) (λ(i:Int)=>l.length-i.toNat) ?_ (v:=0) ⟨by simp,by simp⟩ (by simp;omega)) λr hr=>by subst hr;exact cZ (aD rfl)
  rintro i ⟨h0,h1⟩
  refine aF (aI (λh=>?_) λh=>bJ (cK rfl))
  have hx:l[i.toNat]?=some (l[i.toNat]'(by omega)):=List.getElem?_eq_getElem (by omega)
  generalize l[i.toNat]'(by omega)=x at hx
  have hxb:=hb x (fE hx)
  refine aU (λb=>b=false) (dD h0 hx (aF (aI (λh=>absurd h (by omega)) λ_=>dD h0 hx (aF (aD (decide_eq_false (by omega))))))) λb hb2=>?_
  subst hb2
  exact bW (bE (cK ⟨⟨by omega,by omega⟩,by omega⟩))
theorem aBJ {m:fC} {n:Nat} (hn:66<n) (h:pM m):FC n m=some true:=by
  have h1:=h.vL;have h2:=h.iN;have h3:=h.n1;have h4:=h.lm;have h5:=h.lc
  refine fH ?_
  unfold FC YI
  simp only [WT.run,bS]
  refine aU (λb=>b=false) ?_ λb hb=>?_
  · refine aF (aI (λh=>absurd h (by omega)) λ_=>?_)
    refine aF (aI (λh=>absurd h (by omega)) λ_=>?_)
    refine aF (aI (λh=>absurd h (by omega)) λ_=>?_)
    refine aF (aI (λh=>absurd h (by omega)) λ_=>?_)
    refine aF (aI (λh=>absurd h (by omega)) λ_=>?_)
    refine aF (aI (λh=>absurd h (by omega)) λ_=>?_)
    refine x_eq (NF hn rfl (by omega) h.ZM) (aF (dJ (λk=>nomatch k) λ_=>?_))
    refine aF (aI (λh=>absurd h (by omega)) λ_=>?_)
    exact aF (aD (decide_eq_false (by omega)))
  · subst hb
    refine bW (aU (λ(r:Unit⊕Bool)=>r=.inl ()) (fJ (λ(i:Int)=>0<=i/\i<=m.gG) (λ(i:Int)=>m.gG.toNat-i.toNat) ?_ (v:=0) ⟨by simp,by omega⟩ (by simp;omega)) λr hr=>by subst hr;exact cZ (aD rfl))
    rintro i ⟨a0,a1⟩
    refine aF (aI (λk=>?_) λk=>bJ (cK rfl))
    refine aU (λb=>b=false) (eT a0 (by omega) λl hl=>?_) λb hb2=>?_
    · have g:=h.met l (fE hl)
      refine x_eq (NF hn (by omega) (by omega) g.2) (aF (dJ (λk=>nomatch k) λ_=>eT a0 (by omega) λr hr=>?_))
      have g2:=h.cos r (fE hr)
      exact x_eq (NF hn (by omega) (by omega) g2.2) (aF (aD rfl))
    · subst hb2
      exact bW (bE (cK ⟨⟨by omega,by omega⟩,by omega⟩))
end Go.Pv
