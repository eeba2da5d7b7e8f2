import Derived.Test.YtgoihillpibdjaaGreatOK70
import Derived.Test.YtgoihillpibdjaaGreatOH70
set_option linter.unusedVariables false
set_option linter.unusedSimpArgs false
namespace Go.Pv
open Go.Proofs
set_option maxRecDepth 100000
set_option maxHeartbeats 1000000
def y9 (s:aA) (S:List eH):aA:={ s with dY:=S }
theorem SS.y9 {s:aA} (h:SS s) (S:List eH):SS (y9 s S):=⟨⟨h.jP,h.len⟩,h.es⟩
def Sm (x y:aP):Prop:=bl y 1=bl x 1/\bl y 12=bl x 12/\bl y 13=bl x 13/\bl y 14=bl x 14/\y.fO=x.fO
theorem Sm.aNC (x:aP):Sm x x:=⟨rfl,rfl,rfl,rfl,rfl⟩
theorem Sm.trans {x y z:aP} (h:Sm x y) (g:Sm y z):Sm x z:=⟨g.1.trans h.1,g.2.1.trans h.2.1,g.2.2.1.trans h.2.2.1,g.2.2.2.1.trans h.2.2.2.1,g.2.2.2.2.trans h.2.2.2.2⟩
def Cl (s:aA) (e:Nat) (bL:List Int) (x:aP) (t:aA):Prop:=∃ S y,S.length<=40/\(∀ r∈S,pU s.bJ r)/\On (y9 s S) e bL t y 0 (λ_=>0)/\Sm x y
theorem aLN {s t:aA} {e i c:Int} {bL:List Int} {x:aP} {n:Nat} (hn:66<n) (hs:SS s) (h:Cl s e.toNat bL x t) (ht:gM s e i) (hc:0<=c/\c<=1):Ex (λr=>r.2=0->Cl s e.toNat bL x r.1) (JH n t e i c):=by
  obtain ⟨S,y,hl,hS,o,sm⟩:=h
  obtain ⟨g1,g2,g3,g4,g5⟩:=o.rc
  have g2:t.dY=S:=g2
  have g4:t.bJ=s.bJ:=g4
  have g5:t.bC.length=s.bC.length:=g5
  have hst:=o.ss (hs.y9 S)
  have htt:gM t e i:=⟨⟨ht.1.1,by rw [g5];exact ht.1.2⟩,by rw [g4];exact ht.2⟩
  obtain ⟨y',m,k,p,q,sp⟩:=hst.spot htt hc
  have hy':=sp.en;rw [o.at] at hy';cases hy'
  have hlr:=gN sp.io.pp.ly
  have h0:=sp.io.pp.p0;have h1:=sp.io.pp.p1;have h2:=sp.io.pp.p2;have h3:=sp.io.pp.sum
  unfold JH aDE
  simp only [WT.run,bR]
  refine x_eq (lU hst.toS0 htt hc o.at sp.pp) (bF (bF (aD (aH (λ_=>aF λ_=>⟨S,y,hl,hS,o,sm⟩) λ_=>aT _ (aYB hn sp.io.pp) λa ha=>?_))))
  obtain ⟨a1,a2,a3,a4,a5,a6,a7,a8⟩:=ha
  have hio:IO m a.1 q:=⟨a1,sp.io.qq,by have:=sp.io.sq;omega,by have:=sp.io.ss;omega⟩
  obtain ⟨x1,o1,p1,p2,p3⟩:=o.yZ sp hio (v:=-(a.2.a0.Value+a.2.a1.Value+a.2.a2.Value)) (by omega)
  refine x_eq (uE hst sp) (bF (bF (bF (aT _ (oP hn (o1.ss (hs.y9 S)) (by simp)) λb hb=>?_))))
  refine aD (aH (λk=>aF λk2=>absurd k2 k) λkz=>?_)
  rcases hb with ⟨_,hb⟩ | ⟨k,_⟩
  rotate_left
  · exact absurd k kz
  obtain ⟨x2,o2,q1,q2,q3⟩:=o1.sH hb (by simp [gH,gF])
  refine aT _ (sU hn (o2.ss (hs.y9 S))) λd hd=>?_
  refine aD (aH (λk=>aF λk2=>absurd k2 k) λkz=>?_)
  rcases hd with ⟨_,hd⟩ | ⟨k,_⟩
  rotate_left
  · exact absurd k kz
  obtain ⟨x3,o3,r1,r2⟩:=o2.xM hd
  obtain ⟨f1,f2,f3,f4,f5⟩:=o3.rc
  have f2:d.1.dY=S:=f2
  have f4:d.1.bJ=s.bJ:=f4
  have f5:d.1.bC.length=s.bC.length:=f5
  refine aT _ (aV0 (l:=a.2.a0) hn (by rw [f5];exact ht.1) (by rw [f2,f4];exact hS) (by rw [f2];exact hl) a5 a8) λw hw=>aF λk=>?_
  obtain ⟨S',e1,e2,e3⟩:=hw k
  have hB:∀ a':Nat,a' < 17->bl x3 a'=bl y a'+eD [⟨5,a.2.a0.Value⟩,⟨7,a.2.a1.Value⟩,⟨8,a.2.a2.Value⟩,⟨0,0-a.2.a0.Value⟩,⟨0,0-a.2.a1.Value⟩,⟨0,0-a.2.a2.Value⟩] a':=λa' ha=>by rw [nI r1,q1 a' ha,nI p1]
  have c1:=hB 1 (by decide);have c12:=hB 12 (by decide);have c13:=hB 13 (by decide);have c14:=hB 14 (by decide)
  simp [gH,gF] at c1 c12 c13 c14
  refine ⟨S',x3,e2,by rw [f4] at e3;exact e3,?_,sm.trans ⟨c1,c12,c13,c14,r2.trans (q2.trans p2)⟩⟩
  have z:(λ(_:Nat)=>(0:Int))=bump (bump (λ_=>0) i.toNat (-(a.2.a0.Value+a.2.a1.Value+a.2.a2.Value))) i.toNat (-kQ ⟨0,0,0,0,0,a.2.a0.Value,0,0,a.2.a1.Value,a.2.a2.Value,0⟩):=by
    rw [aAE (by simp [kQ];omega)]
  refine ⟨o3.en,o3.ms,?_,o3.es,?_,o3.opn,o3.lF⟩
  · rw [e1,o3.eq];rfl
  · have:=o3.eb
    rw [<- z] at this
    have zz:0+-(a.2.a0.Value+a.2.a1.Value+a.2.a2.Value)-eD [⟨5,a.2.a0.Value⟩,⟨7,a.2.a1.Value⟩,⟨8,a.2.a2.Value⟩,⟨0,0-a.2.a0.Value⟩,⟨0,0-a.2.a1.Value⟩,⟨0,0-a.2.a2.Value⟩] 0=0:=by simp [gH,gF];omega
    rw [zz] at this;exact this
theorem ES.flag {n:Nat} {bL:List Int} {iM:Int} {x:aP} (h:ES n bL iM x) (c:Bool) (a:List aP):ES n bL iM { x with Closed:=c,fP:=a }:=⟨h.now,h.lp,h.lr,h.lb,h.lc,h.ld,h.lm,h.gK,h.pri,h.BF,h.BR,h.roll⟩
theorem EB.flag {x:aP} (h:EB x) (c:Bool) (a:List aP):EB { x with Closed:=c,fP:=a }:=⟨h.ctl,h.qA,h.rY,h.o6⟩
theorem aPW {K:Int} {s:aA} {e:Int} {n:Nat} (hn:66<n) (h:Inv K s):Ex (Kept K s) (OB n s e):=by
  have hss:=h.ss
  have hf:=hss.toS0.gU
  have hl2:=h.l2
  unfold OB aDT
  simp only [WT.run,bR]
  refine aT (λ(b:Bool)=>b=false->0<=e/\e<(s.bC.length:Int)) ?_ λb hb=>eX (λ_=>aF (.inr ⟨by simp,rfl⟩)) λkb=>?_
  · refine aD (aH (λ_=>aF (λk=>nomatch k)) λ_=>aD (aF λk=>by have:=of_decide_eq_false k;omega))
  have he:=hb kb
  have hx:s.bC[e.toNat]?=some (s.bC[e.toNat]'(by omega)):=List.getElem?_eq_getElem (by omega)
  generalize s.bC[e.toNat]'(by omega)=x at hx
  obtain ⟨bL,hm,hml,hmb,hes⟩:=hss.bL hx
  refine bW he.1 hx (eX (λ_=>aF (.inr ⟨by simp,rfl⟩)) λkc=>?_)
  have ho:EO s.bJ bL x:=by
    rcases h.ent _ _ _ hx hm with g | ⟨y,g⟩
    · exact g
    · rw [g.JN] at kc;cases kc
  have o0:=On.start hx hm ho
  have cl0:Cl s e.toNat bL x s:=⟨s.dY,x,h.l2,h.nA,o0,Sm.aNC x⟩
  refine aT (λ(r:aA⊕(aA×Int))=>match r with | .inl t=>Cl s e.toNat bL x t | .inr r=>r.2≠0/\r.1=s)
    (fM (λ(v:Int×aA)=>0<=v.1/\v.1<=(s.bJ.cB.length:Int)/\Cl s e.toNat bL x v.2) (λ(v:Int×aA)=>s.bJ.cB.length-v.1.toNat) ?_ (v:=(0,s)) ⟨by simp,by simp,cl0⟩ (by simp;omega)) λr hr=>jI (λt e1=>?_) λq e1=>?_
  · rintro ⟨i,t⟩ ⟨a1,a2,a3⟩
    simp only at a1 a2 a3
    refine bE (aD (aH (λk=>?_) λk=>bK (bX a3)))
    have k:i<(s.bJ.cB.length:Int):=k
    have hth:gM s e i:=⟨he,a1,k⟩
    refine aT (λ(r:aA⊕((Int×aA)⊕(aA⊕(aA×Int))))=>match r with | .inl t=>Cl s e.toNat bL x t | .inr (.inr (.inr r))=>r.2≠0/\r.1=s | _=>False) ?_ λr hr=>jI (λt e1=>?_) λq e1=>?_
    · refine aT (λ(r:aA⊕(aA⊕((Int×aA)⊕(aA⊕(aA×Int)))))=>match r with | .inl t=>Cl s e.toNat bL x t | .inr (.inr (.inr (.inr r)))=>r.2≠0/\r.1=s | _=>False)
        (fM (λ(v:Int×aA)=>0<=v.1/\v.1<=2/\Cl s e.toNat bL x v.2) (λ(v:Int×aA)=>2-v.1.toNat) ?_ (v:=(0,t)) ⟨by simp,by simp,a3⟩ (by simp;omega)) λr hr=>jI (λt e1=>bX (by subst e1;exact hr)) λq e1=>?_
      · rintro ⟨c,u⟩ ⟨b1,b2,b3⟩
        simp only at b1 b2 b3
        refine bE ?_
        refine aT (λ(b:Bool)=>b=true->c<2) (aD (aH (λkc=>bW he.1 hm (eF a1 (by first | omega | (simp only;omega)) λ_ _=>aD (aF λ_=>kc))) λ_=>aF (λk=>nomatch k))) λb hb=>eX (λkb=>?_) λ_=>bK (bX b3)
        have kc:=hb kb
        refine aT _ (aLN hn hss b3 hth ⟨b1,by omega⟩) λw hw=>aD (aH (λk=>bK (bK (bK (bK (bK (aF ⟨k,rfl⟩)))))) λk=>bF (bX ⟨⟨by first | omega | (simp only;omega),by first | omega | (simp only;omega),hw (by omega)⟩,by first | omega | (simp only;omega)⟩))
      · subst e1
        rcases q with q | q | q | q
        · exact hr.elim
        · exact hr.elim
        · exact hr.elim
        · exact hr
    · subst e1
      exact bF (bX ⟨⟨by first | omega | (simp only;omega),by first | omega | (simp only;omega),hr⟩,by first | omega | (simp only;omega)⟩)
    · subst e1
      cases q with
      | inl q=>exact hr.elim
      | inr q=>cases q with
        | inl q=>exact hr.elim
        | inr q=>exact hr
  · subst e1
    obtain ⟨S,y,l40,hS,o,sm⟩:=(hr:Cl s e.toNat bL x t)
    refine aT _ (aLK hn (hss.y9 S) o he) λw hw=>?_
    refine aD (aH (λk=>aF (.inr ⟨k,rfl⟩)) λkz=>?_)
    obtain ⟨z,oz,z1,z12,z13,z14,znow⟩:=hw (by omega)
    obtain ⟨f1,f2,f3,f4,f5⟩:=oz.rc
    have hlz:=oz.es.gU hf.2.2
    have f5:w.1.bC.length=s.bC.length:=f5
    repeat' with_reducible first | refine bF ?_ | refine dP ?_ | apply aD | apply bE | apply dS | apply dI | apply dN | apply dR | apply dO | apply dL | apply dU | apply dQ | refine aH (λ_=>?_) λ_=>?_ | refine dG (λ_=>?_) λ_=>?_ | apply cO | apply bU | apply bY | apply bK | apply aF | refine dF ?_
    refine bW he.1 oz.at ?_
    repeat' with_reducible first | refine bF ?_ | refine dP ?_ | apply aD | apply bE | apply dS | apply dI | apply dN | apply dR | apply dO | apply dL | apply dU | apply dQ | refine aH (λ_=>?_) λ_=>?_ | refine dG (λ_=>?_) λ_=>?_ | apply cO | apply bU | apply bY | apply bK | apply aF | refine dF ?_
    refine bW he.1 oz.at (bW he.1 hx (aF (.inl ⟨rfl,?_⟩)))
    have smz:Sm x z:=sm.trans ⟨z1,z12,z13,z14,znow⟩
    obtain ⟨s1,s12,s13,s14,snow⟩:=smz
    have oo:=oz.done rfl λ_=>rfl
    have fin:=h.up (x':={ z with Closed:=true,fP:=[x] }) (R:=s.cZ) (S:=S) (T:=s.dJ) hx hm (.inr ⟨x,oo.es.flag true [x],oo.ee.flag true [x],rfl,rfl,ho,snow.symm,s1.symm,s12.symm,s13.symm,s14.symm⟩) h.mK hS h.nO h.l1 l40 h.l3 (by show _=bl x 1-bl z 1;omega) (λ_ _=>rfl) (by show _=bl z 12-bl x 12;omega) (λ_ _=>rfl) (by show bl z 13+bl z 14=bl x 13+bl x 14;omega)
    rw [oz.eq]
    show Inv K ⟨s.bJ,(s.bC.set e.toNat z).set e.toNat _,s.cZ,S,s.dJ,s.Done⟩
    rw [List.set_set];exact fin
  · subst e1;exact .inr hr
theorem r19 {K:Int} {s:aA} {o:bM} {n:Nat} (hn:66<n) (h:Inv K s) (ha:0<=o.bO/\o.bO<=288230376151711744) (hR:o.eY.length<=60):Ex (Kept K s) (IA n s o):=by
  have hl1:=h.l1
  unfold IA aIG
  simp only [WT.run,bR]
  refine aT (λ(b:Bool)=>b=false->1<=o.eY.length) ?_ λb hb=>eX (λ_=>aF (.inr ⟨by simp,rfl⟩)) λkb=>?_
  · refine aD (aH (λ_=>aF (λk=>nomatch k)) λ_=>aD (aF λk=>by have:=of_decide_eq_false k;omega))
  have hlen:=hb kb
  refine aT (λ(r:Unit⊕(aA×Int))=>match r with | .inl _=>∀ x∈o.eY,0<=x/\x<(s.cZ.length:Int) | .inr q=>q.2≠0/\q.1=s)
    (fM (λ(i:Int)=>0<=i/\i<=(o.eY.length:Int)/\((∀ x∈o.eY.drop i.toNat,0<=x/\x<(s.cZ.length:Int))->∀ x∈o.eY,0<=x/\x<(s.cZ.length:Int))) (λ(i:Int)=>o.eY.length-i.toNat) ?_ ⟨by simp,by simp,by simp⟩ (by simp;omega)) λr hr=>jI (λu e=>?_) λq e=>?_
  · rintro i ⟨h0,h1,h2⟩
    refine aD (aH (λk=>?_) λk=>bK (bX (h2 λx hx=>by rw [List.drop_eq_nil_of_le (by omega)] at hx;cases hx)))
    have hx:o.eY[i.toNat]?=some (o.eY[i.toNat]'(by omega)):=List.getElem?_eq_getElem (by omega)
    generalize o.eY[i.toNat]'(by omega)=x at hx
    refine aT (λ(b:Bool)=>b=false->0<=x/\x<(s.cZ.length:Int)) (bW h0 hx (aD (aH (λ_=>aF (λk=>nomatch k)) λk1=>bW h0 hx (aD (aF λk2=>by have:=of_decide_eq_false k2;omega))))) λb hb=>eX (λ_=>bK (bK (aF ⟨by simp,rfl⟩))) λkb=>bF (bX ⟨⟨by omega,by omega,λhh=>h2 λy hy=>?_⟩,by omega⟩)
    rw [(drop_at hx).2] at hy
    rcases List.mem_cons.1 hy with rfl | hy
    · exact hb kb
    · exact hh y (by rw [show (i+1).toNat=i.toNat+1 by omega];exact hy)
  · have hrf:∀ x∈o.eY,0<=x/\x<(s.cZ.length:Int):=by subst e;exact hr
    have h0:o.eY[(0:Int).toNat]?=some (o.eY[0]'(by omega)):=List.getElem?_eq_getElem (by omega)
    generalize o.eY[0]'(by omega)=x0 at h0
    obtain ⟨g0,g1⟩:=hrf x0 (fF h0)
    refine bW (by omega) h0 (eF g0 g1 λz hz=>?_)
    have hz:s.cZ[x0.toNat]?=some z:=hz
    have hzk:=h.mK z (fF hz)
    refine aT (λ(r:Unit⊕(aA×Int))=>match r with | .inl _=>∀ x∈o.eY,∀ y,s.cZ[x.toNat]?=some y->y.fT=z.fT | .inr q=>q.2≠0/\q.1=s)
      (fM (λ(i:Int)=>1<=i/\i<=(o.eY.length:Int)/\((∀ x∈o.eY.drop i.toNat,∀ y,s.cZ[x.toNat]?=some y->y.fT=z.fT)->∀ x∈o.eY,∀ y,s.cZ[x.toNat]?=some y->y.fT=z.fT)) (λ(i:Int)=>o.eY.length-i.toNat) ?_ ⟨by simp,by omega,?_⟩ (by simp;omega)) λr hr=>jI (λu e=>?_) λq e=>?_
    · rintro i ⟨h0,h1,h2⟩
      refine aD (aH (λk=>?_) λk=>bK (bX (h2 λx hx=>by rw [List.drop_eq_nil_of_le (by omega)] at hx;cases hx)))
      have hx:o.eY[i.toNat]?=some (o.eY[i.toNat]'(by omega)):=List.getElem?_eq_getElem (by omega)
      generalize o.eY[i.toNat]'(by omega)=x at hx
      obtain ⟨g2,g3⟩:=hrf x (fF hx)
      refine bW (by omega) hx (eF g2 g3 λy hy=>aD (aH (λ_=>bK (bK (aF ⟨by simp,rfl⟩))) λk2=>bF (bX ⟨⟨by omega,by omega,λhh=>h2 λw hw=>?_⟩,by omega⟩)))
      have hy:s.cZ[x.toNat]?=some y:=hy
      rw [(drop_at hx).2] at hw
      rcases List.mem_cons.1 hw with rfl | hw
      · intro y' hy';rw [hy] at hy';cases hy';omega
      · exact hh w (by rw [show (i+1).toNat=i.toNat+1 by omega];exact hw)
    · intro hh w hw
      have e1:o.eY=x0 :: o.eY.drop 1:=by
        have:=(drop_at (l:=o.eY) (i:=0) h0).2
        simpa using this
      rw [e1] at hw
      rcases List.mem_cons.1 hw with rfl | hw
      · intro y hy;rw [hz] at hy;cases hy;rfl
      · exact hh w hw
    · have hsame:∀ x∈o.eY,∀ y,s.cZ[x.toNat]?=some y->y.fT=z.fT:=by subst e;exact hr
      refine aT _ (rQ h z.fT z.Item) λr hr=>?_
      refine aD (aH (λk=>aF (.inr ⟨k,rfl⟩)) λkz=>?_)
      obtain ⟨ht,x,bL,hx,hm,ho⟩:=hr (by omega)
      have o0:=On.start hx hm ho
      refine aT _ (aPG hn hR hl1 λr hr=>(h.mK r hr).2.1) λw hw=>aT _ (aX6 hn (by omega)) λsp hsp=>?_
      refine aD (aH (λk=>aF (.inr ⟨k,rfl⟩)) λkz=>?_)
      obtain ⟨s1,s2,s3⟩:=hsp (by omega)
      have hpos:=DU λy hy=>(s2 y hy).1
      refine aT (λ(r:(Int×aA)⊕(aA×Int))=>match r with | .inl r=>(0<=r.1/\r.1<=o.bO)/\∃ x',On s z.fT.toNat bL r.2 x' r.1 (λ_=>0)/\x'.dK=x.dK | .inr q=>q.2≠0/\q.1=s)
        (fM (λ(v:Int×Int×aA)=>0<=v.2.1/\v.2.1<=(sp.1.length:Int)/\(0<=v.1/\v.1+dD (sp.1.drop v.2.1.toNat)<=o.bO)/\∃ x',On s z.fT.toNat bL v.2.2 x' v.1 (λ_=>0)/\x'.dK=x.dK) (λ(v:Int×Int×aA)=>sp.1.length-v.2.1.toNat) ?_ (v:=(0,0,s)) ⟨by simp,by simp,⟨by simp,by simp;omega⟩,x,o0,rfl⟩ (by simp;omega)) λr hr=>jI (λa e=>?_) λq e=>?_
      · rintro ⟨all,i,t⟩ ⟨a1,a2,a3,x1,o1,p1⟩
        simp only at a1 a2 a3 o1
        refine bE (bE (aD (aH (λk=>?_) λk=>bK (bX ⟨?_,x1,o1,p1⟩))))
        · have k:i<(sp.1.length:Int):=k
          have hv:sp.1[i.toNat]?=some (sp.1[i.toNat]'(by omega)):=List.getElem?_eq_getElem (by omega)
          generalize sp.1[i.toNat]'(by omega)=v at hv
          have hrx:o.eY[i.toNat]?=some (o.eY[i.toNat]'(by omega)):=List.getElem?_eq_getElem (by omega)
          generalize o.eY[i.toNat]'(by omega)=rx at hrx
          obtain ⟨g2,g3⟩:=hrf rx (fF hrx)
          refine bW a1 hrx (eF g2 g3 λy hy=>bW a1 hv ?_)
          have hy:s.cZ[rx.toNat]?=some y:=hy
          have hyk:=h.mK y (fF hy)
          have hye:=hsame rx (fF hrx) y hy
          refine aT _ (aMH hn h.ss hyk o1 hye (s2 v (fF hv)) ht.1) λc hc=>?_
          refine aD (aH (λkc=>bK (bK (aF ⟨kc,rfl⟩))) λkc=>?_)
          obtain ⟨c1,x2,o2,p2⟩:=hc (by omega)
          have hd:=QY hv
          have e2:(i+1).toNat=i.toNat+1:=by omega
          have hnn:0<=dD (sp.1.drop (i.toNat+1)):=uW λy hy=>(s2 y (List.mem_of_mem_drop hy)).1
          refine bF (bF (bX ⟨⟨by first | omega | (simp only;omega),by first | omega | (simp only;omega),⟨by first | omega | (simp only;omega),?_⟩,x2,o2,p2.trans p1⟩,by first | omega | (simp only;omega)⟩))
          show all+c.2.1+dD (sp.1.drop (i+1).toNat)<=o.bO
          rw [e2];omega
        · have k:¬ i<(sp.1.length:Int):=k
          have hnn:0<=dD (sp.1.drop i.toNat):=uW λy hy=>(s2 y (List.mem_of_mem_drop hy)).1
          first | omega | (simp only;omega)
      · subst e
        obtain ⟨b1,x1,o1,p1⟩:=hr
        refine bE (bF (bF (aT _ (oP hn (o1.ss h.ss) (by simp)) λc hc=>?_)))
        refine aD (aH (λk=>aF (.inr ⟨k,rfl⟩)) λkz=>?_)
        rcases hc with ⟨_,hc⟩ | ⟨k,_⟩
        rotate_left
        · exact absurd k kz
        obtain ⟨x2,o2,q1,q2,q3⟩:=o1.sH hc (by simp [gH,gF])
        obtain ⟨f1,f2,f3,f4,f5⟩:=o2.rc
        have hB:∀ a':Nat,a' < 17->bl x2 a'=bl x a'+eD [⟨0,a.1⟩,⟨9,o.bO-a.1⟩,⟨2,0-o.bO⟩] a':=λa' ha=>by rw [q1 a' ha,nI p1]
        have c1:=hB 1 (by decide);have c12:=hB 12 (by decide);have c13:=hB 13 (by decide);have c14:=hB 14 (by decide)
        simp [gH,gF] at c1 c12 c13 c14
        refine aF (.inl ⟨rfl,?_⟩)
        exact o2.fin h hx (by simp [gH,gF]) (λ_=>rfl) (S:=c.1.dY) (by rw [f2];exact h.nA) (by rw [f2];exact h.l2) c1 c12 c13 c14
      · subst e;exact .inr hr
    · subst e;exact .inr hr
  · subst e;exact .inr hr
theorem aJ3 {K:Int} {s:aA} {e:Int} {n:Nat} (hn:66<n) (h:Inv K s):Ex (Kept K s) (NZ n s e):=by
  have hss:=h.ss
  have hf:=hss.toS0.gU
  have hl2:=h.l2
  unfold NZ aHB
  simp only [WT.run,bR]
  refine aT (λ(b:Bool)=>b=false->0<=e/\e<(s.bC.length:Int)) ?_ λb hb=>eX (λ_=>aF (.inr ⟨by simp,rfl⟩)) λkb=>?_
  · refine aD (aH (λ_=>aF (λk=>nomatch k)) λ_=>aD (aF λk=>by have:=of_decide_eq_false k;omega))
  have he:=hb kb
  have hx:s.bC[e.toNat]?=some (s.bC[e.toNat]'(by omega)):=List.getElem?_eq_getElem (by omega)
  generalize s.bC[e.toNat]'(by omega)=x at hx
  obtain ⟨bL,hm,hml,hmb,hes⟩:=hss.bL hx
  refine bW he.1 hx (aD (dG (λ_=>aF (.inr ⟨by simp,rfl⟩)) λkc=>?_))
  rcases h.ent _ _ _ hx hm with g | ⟨y,g⟩
  · rw [g.opn] at kc;cases kc
  refine dF (bW he.1 hx ?_)
  rw [g.lF]
  refine bW (by decide) (a:=y) rfl (aD (dF ?_))
  refine aT (λ(S:List eH)=>S.length=s.dY.length/\∀ r∈S,pU s.bJ r) (fM (λ(v:Int×List eH)=>0<=v.1/\v.1<=(s.dY.length:Int)/\v.2.length=s.dY.length/\∀ r∈v.2,pU s.bJ r) (λ(v:Int×List eH)=>s.dY.length-v.1.toNat) ?_ (v:=(0,s.dY)) ⟨by simp,by simp,rfl,h.nA⟩ (by simp;omega)) λS hS=>aF (.inl ⟨rfl,?_⟩)
  · rintro ⟨j,S⟩ ⟨a1,a2,a3,a4⟩
    simp only at a1 a2 a3 a4
    refine bE (aD (aH (λk=>?_) λk=>bK (aF ⟨a3,a4⟩)))
    have k:j<(S.length:Int):=k
    refine aT (λ(S':List eH)=>S'.length=s.dY.length/\∀ r∈S',pU s.bJ r) ?_ λS' hS'=>bF (bX ⟨⟨by first | omega | (simp only;omega),by first | omega | (simp only;omega),hS'.1,hS'.2⟩,by first | omega | (simp only;omega)⟩)
    refine eF a1 k λz hz=>?_
    obtain ⟨z1,z2,z3,z4,z5,z6,z7,z8⟩:=a4 z (fF hz)
    refine aT (λ_=>True) ?_ λb _=>eX (λ_=>aD (aD (aF ⟨by simp;exact a3,oC (oC a4 ⟨z1,z2,z3,z4,z5,by simp,z7,z8⟩) ⟨z1,z2,z3,z4,z5,by simp,by unfold bQ;simp,z8⟩⟩))) λ_=>aF ⟨a3,a4⟩
    repeat' with_reducible first | refine bF ?_ | refine dP ?_ | apply aD | apply bE | apply dS | apply dI | apply dN | apply dR | apply dO | apply dL | apply dU | apply dQ | refine aH (λ_=>?_) λ_=>?_ | refine dG (λ_=>?_) λ_=>?_ | apply cO | apply bU | apply bY | apply bK | apply aF | refine eX (λ_=>?_) λ_=>?_
    all_goals trivial
  · have fin:=h.up (x':=y) (R:=s.cZ) (S:=S) (T:=s.dJ) hx hm (.inl g.eo) h.mK hS.2 h.nO h.l1 (by omega) h.l3 (by have:=g.b1;omega) (λ_ _=>rfl) (by have:=g.b12;omega) (λ_ _=>rfl) (by have:=g.b13;have:=g.b14;unfold kF;omega)
    exact fin
theorem a0E {K:Int} {s:aA} {e:Int} {n:Nat} (hn:66<n) (h:Inv K s):Ex (Kept K s) (I1 n s e):=by
  have hss:=h.ss
  have hf:=hss.toS0.gU
  have hl2:=h.l2
  have hper:=h.jP.iM
  unfold I1 aI0
  simp only [WT.run,bR]
  refine aT (λ(b:Bool)=>b=false->0<=e/\e<(s.bC.length:Int)) ?_ λb hb=>eX (λ_=>aF (.inr ⟨by simp,rfl⟩)) λkb=>?_
  · refine aD (aH (λ_=>aF (λk=>nomatch k)) λ_=>aD (aF λk=>by have:=of_decide_eq_false k;omega))
  have he:=hb kb
  have hx:s.bC[e.toNat]?=some (s.bC[e.toNat]'(by omega)):=List.getElem?_eq_getElem (by omega)
  generalize s.bC[e.toNat]'(by omega)=x at hx
  obtain ⟨bL,hm,hml,hmb,hes⟩:=hss.bL hx
  have hl:=hes.gU hf.2.2
  have hlr:=hes.lr
  refine bW he.1 hx (aD (dG (λ_=>aF (.inr ⟨by simp,rfl⟩)) λkc=>?_))
  rcases h.ent _ _ _ hx hm with g | ⟨y,g⟩
  · rw [g.opn] at kc;cases kc
  have hsv:=g.ee.x.gU g.es
  have hnow:=g.es.now
  refine bW he.1 hx (aD (aH (λ_=>aF (.inr ⟨by simp,rfl⟩)) λkn=>?_))
  repeat' with_reducible first | refine bF ?_ | refine dP ?_ | apply aD | apply bE | apply dS | apply dI | apply dN | apply dR | apply dO | apply dL | apply dU | apply dQ | refine aH (λ_=>?_) λ_=>?_ | refine dG (λ_=>?_) λ_=>?_ | apply cO | apply bU | apply bY | apply bK | apply aF | refine dF ?_
  refine bW he.1 hx ?_
  repeat' with_reducible first | refine bF ?_ | refine dP ?_ | apply aD | apply bE | apply dS | apply dI | apply dN | apply dR | apply dO | apply dL | apply dU | apply dQ | refine aH (λ_=>?_) λ_=>?_ | refine dG (λ_=>?_) λ_=>?_ | apply cO | apply bU | apply bY | apply bK | apply aF | refine dF ?_
  refine bW he.1 hx (bF ?_)
  refine aT (λ(R:List cK)=>R.length=x.dH.length/\(∀ r∈R,yO r)/\∀ (j:Nat) r p q,R[j]?=some r->x.bS[2*j]?=some p->x.bS[2*j+1]?=some q->kQ r=tV p.aG+tV q.aG)
    (fM (λ(v:Int×List cK)=>0<=v.1/\v.1<=(x.dH.length:Int)/\v.2.length=x.dH.length/\(∀ r∈v.2,yO r)/\∀ (j:Nat) r p q,(j:Int)<v.1->v.2[j]?=some r->x.bS[2*j]?=some p->x.bS[2*j+1]?=some q->kQ r=tV p.aG+tV q.aG) (λ(v:Int×List cK)=>x.dH.length-v.1.toNat) ?_ (v:=(0,x.dH)) ⟨by simp,by simp,rfl,g.es.roll,λj _ _ _ hj=>absurd hj (by simp)⟩ (by simp;omega)) λR hR=>aF (.inl ⟨rfl,?_⟩)
  · rintro ⟨i,R⟩ ⟨a1,a2,a3,a4,a5⟩
    simp only at a1 a2 a3 a4 a5
    refine bE (aD (aH (λk=>?_) λk=>bK (aF ⟨a3,a4,λj r p q hj hp hq=>a5 j r p q ?_ hj hp hq⟩)))
    · have k:i<(R.length:Int):=k
      obtain ⟨m,p,q,w1,w2,w3,w4,w5,w6⟩:=g.es.QO hsv (i:=i.toNat) (by omega)
      refine x_eq (O7 hn hss ⟨he,by omega⟩ hx w2 w3 w4 w5) (eF a1 k λ_ _=>aD (bF (bX ⟨⟨by first | omega | (simp only;omega),by first | omega | (simp only;omega),by rw [List.length_set];exact a3,oC a4 ?_,?_⟩,by first | omega | (simp only;omega)⟩)))
      · unfold yO bQ;simp only;omega
      · intro j r p' q' hj hr hp hq
        have hj:(j:Int)<i+1:=hj
        have hr:(R.set i.toNat (⟨tV p.aG+tV q.aG,0,0,0,0,0,0,0,0,0,0⟩:cK))[j]?=some r:=hr
        rw [lW (by omega)] at hr
        by_cases hij:i.toNat=j
        · rw [if_pos hij] at hr;cases hr
          rw [<- hij,w2] at hp;rw [<- hij,w3] at hq;cases hp;cases hq
          simp [kQ]
        · rw [if_neg hij] at hr
          exact a5 j r p' q' (by omega) hr hp hq
    · have k:¬ i<(R.length:Int):=k
      have:=(List.getElem?_eq_some_iff.1 hj).1
      omega
  · obtain ⟨r1,r2,r3⟩:=hR
    have ho:EO s.bJ bL { x with fO:=x.fO+1,Closed:=false,fP:=[],dH:=R } :=
      ⟨⟨by show 1<=x.fO+1/\x.fO+1<=_;omega,g.es.lp,r1.trans g.es.lr,g.es.lb,g.es.lc,g.es.ld,g.es.lm,g.es.gK,g.es.pri,g.es.BF,g.es.BR,r2⟩,⟨g.ee.ctl,g.ee.qA,g.ee.rY,r3⟩,rfl,rfl⟩
    exact h.up (x':={ x with fO:=x.fO+1,Closed:=false,fP:=[],dH:=R }) (R:=s.cZ) (S:=s.dY) (T:=s.dJ) hx hm (.inl ho) h.mK h.nA h.nO h.l1 h.l2 h.l3 (by show _=bl x 1-bl x 1;omega) (λ_ _=>rfl) (by show _=bl x 12-bl x 12;omega) (λ_ _=>rfl) rfl
structure C9 (o:bM):Prop where
  q:0<=o.aI/\o.aI<=288230376151711744
  a:0<=o.bO/\o.bO<=288230376151711744
  a9:o.Kind=9->o.bO<=1073741824
  l7:o.Kind=7->0<=o.Loc/\o.Loc<=1
  t12:o.Kind=12->o.E≠o.To
  r:o.eY.length<=60
theorem aV3 {K:Int} {s:aA} {o:bM} {n:Nat} (hn:66<n) (h:Inv K s) (ho:C9 o):Ex (Kept K s) (IN n s o):=by
  have hq:=ho.q
  unfold IN WA
  simp only [WT.run,bR]
  refine aD (aH (λ_=>aT _ (r15 hn h (by omega) ho.a) λr hr=>aF hr) λ_=>?_)
  refine aD (aT (λ_=>True) (eX (λ_=>aF trivial) λ_=>aD (aF trivial)) λb _=>eX (λ_=>aT _ (r16 hn h hq ho.a) λr hr=>aF hr) λ_=>?_)
  refine aD (aT (λ_=>True) ?_ λb _=>eX (λ_=>aT _ (r17 hn h hq ⟨ho.a.1,ho.a9⟩ ho.l7) λr hr=>aF hr) λ_=>?_)
  · repeat' with_reducible first | refine bF ?_ | refine dP ?_ | apply aD | apply bE | apply dS | apply dI | apply dN | apply dR | apply dO | apply dL | apply dU | apply dQ | refine aH (λ_=>?_) λ_=>?_ | refine dG (λ_=>?_) λ_=>?_ | apply cO | apply bU | apply bY | apply bK | apply aF | refine eX (λ_=>?_) λ_=>?_
    all_goals trivial
  refine aD (aT (λ_=>True) (eX (λ_=>aF trivial) λ_=>aD (aF trivial)) λb _=>eX (λ_=>aT _ (r18 hn h hq ho.a) λr hr=>aF hr) λ_=>?_)
  refine aD (aH (λ_=>aT _ (r19 hn h ho.a ho.r) λr hr=>aF hr) λ_=>?_)
  refine aD (aT (λ_=>True) (eX (λ_=>aF trivial) λ_=>aD (aF trivial)) λb _=>eX (λ_=>aT _ (r20 hn h hq ho.a ho.t12) λr hr=>aF hr) λ_=>?_)
  exact aD (aH (λ_=>aT _ (r21 h ho.a) λr hr=>aF hr) λ_=>aF (.inr ⟨by simp,rfl⟩))
theorem Inv.mono {K K':Int} {s:aA} (h:Inv K s) (hk:K<=K'):Inv K' s:={ h with zC:=by have:=h.zC;omega }
theorem Inv.done {K K':Int} {s:aA} (h:Inv K s) {d:Int} (hd:0<=d/\d<=K'):Inv K' ⟨s.bJ,s.bC,s.cZ,s.dY,s.dJ,d⟩:=⟨h.jP,h.len,hd,h.mK,h.nA,h.nO,h.l1,h.l2,h.l3,h.ent,h.acc,h.way,h.xZ⟩
theorem r22 {K:Int} {s:aA} {o:bM} {n:Nat} (hn:66<n) (h:Inv K s) (hK:K<=1000000) (hc:Ex (λr=>r=true->C9 o) (tX n o)):Ex (λr=>Inv (K+1) r.1) (KI n s o):=by
  unfold KI V2
  simp only [WT.run,bR]
  refine aT _ hc λb hb=>aD (dG (λ_=>aF (h.mono (by omega))) λkb=>?_)
  refine aT _ (aV3 hn h (hb kb)) λr hr=>aD (aH (λ_=>aF (h.mono (by omega))) λk=>?_)
  rcases hr with ⟨_,hr⟩ | ⟨k2,_⟩
  rotate_left
  · exact absurd k2 k
  have hd:=hr.zC
  refine bF (aD (aF (hr.done ?_)))
  split <;> omega
theorem aPH {K:Int} {s:aA} {o:bM} {n:Nat} (hn:66<n) (h:Inv K s) (hK:K<=1000000) (hc:Ex (λr=>r=true->C9 o) (tX n o)):Ex (λr=>Inv (K+1) r.1) (ER n s o):=by
  have hd:=h.zC
  unfold ER WN
  simp only [WT.run,bR]
  refine aT _ hc λb hb=>aD (dG (λ_=>aF (h.mono (by omega))) λkb=>?_)
  refine aT (λ(r:(Int×aA)⊕(aA×Int))=>match r with | .inl r=>r.1=0->Inv K r.2 | .inr r=>Inv (K+1) r.1) ?_ λr hr=>jI (λa e=>?_) λq e=>?_
  · refine aD (aH (λ_=>aT _ (aPW hn h) λr hr=>bX ?_) λ_=>aD (aH (λ_=>aT _ (aJ3 hn h) λr hr=>bX ?_) λ_=>aD (aH (λ_=>aT _ (a0E hn h) λr hr=>bX ?_) λ_=>aT _ (r22 hn h hK hc) λr hr=>bK (aF hr))))
    all_goals
      rcases hr with ⟨_,hr⟩ | ⟨k2,_⟩
      · exact λ_=>hr
      · exact λk=>absurd k k2
  · subst e
    refine bE (aD (aH (λ_=>aF (h.mono (by omega))) λk=>?_))
    have hr:Inv K a.2:=hr (by omega)
    have hd:=hr.zC
    exact bF (aF (hr.done (by omega)))
  · subst e;exact hr
theorem td {a b:Int} (ha:0<=a) (hb:0<b):0<=a.tdiv b/\a.tdiv b<=a:=by
  rw [Int.tdiv_eq_ediv_of_nonneg ha]
  exact ⟨Int.ediv_nonneg ha (by omega),Int.ediv_le_self b ha⟩
theorem tm {a b:Int} (ha:0<=a) (hb:0<b):0<=a.tmod b/\a.tmod b<b:=by
  rw [Int.tmod_eq_emod_of_nonneg ha]
  exact ⟨Int.emod_nonneg _ (by omega),Int.emod_lt_of_pos _ hb⟩
theorem OK {v k:Int} (hk:0<k/\k<=4611686018427387904):Ex (λr=>0<=r/\r<k) (zL v k):=by
  have h1:=Int.tmod_lt_of_pos v hk.1
  have h2:=Int.lt_tmod_of_pos v hk.1
  unfold zL aEQ
  simp only [WT.run,bR]
  refine dF ?_
  repeat' with_reducible first | refine bF ?_ | refine dP ?_ | apply aD | apply bE | apply dS | apply dI | apply dN | apply dR | apply dO | apply dL | apply dU | apply dQ | refine aH (λ_=>?_) λ_=>?_ | refine dG (λ_=>?_) λ_=>?_ | apply cO | apply bU | apply bY | apply bK | apply aF
  all_goals omega
def MN (m:fG):Prop:=pG m/\2<=m.gD
theorem aY2 {v:Int} {n:Nat} (hn:66<n):Ex MN (FW n v):=by
  unfold FW aD6
  simp only [WT.run,bR]
  refine aT _ (OK (by decide)) λk hk=>?_
  have f1:=tm (a:=k) (b:=2) hk.1 (by decide)
  have f2:=td (a:=k) (b:=2) hk.1 (by decide)
  have f3:=tm (a:=k.tdiv 2) (b:=3) f2.1 (by decide)
  have f4:=td (a:=k) (b:=6) hk.1 (by decide)
  have f5:=tm (a:=k.tdiv 6) (b:=4) f4.1 (by decide)
  refine aD (bF (bF (aD (bF (bF (aD (bF ?_)))))))
  have hc:2<=2+(k.tdiv 2).tmod 3/\2+(k.tdiv 2).tmod 3<=4:=by omega
  have he:2<=2+k.tmod 2/\2+k.tmod 2<=3:=by omega
  generalize 2+(k.tdiv 2).tmod 3=c at hc ⊢
  generalize 2+k.tmod 2=es at he ⊢
  refine aT (λ(w:List Int)=>(w.length:Int)=c/\∀ x∈w,0<=x/\x<=1073741824) (fM (λ(v:Int×List Int)=>0<=v.1/\v.1<=c/\(v.2.length:Int)=v.1/\∀ x∈v.2,0<=x/\x<=1073741824) (λv=>c.toNat-v.1.toNat) ?_ (v:=(0,[])) ⟨by simp,by simp only;omega,rfl,λ_ h=>nomatch h⟩ (by simp only;omega)) λw hw=>?_
  · rintro ⟨i,l⟩ ⟨h0,h1,hl,hb⟩
    simp only at h0 h1 hl hb
    have f1:=td (a:=k) (b:=24) hk.1 (by decide)
    have f2:=tm (a:=k.tdiv 24) (b:=7) f1.1 (by decide)
    refine bE (aD (aH (λh=>?_) λh=>bK (aF ⟨by first | omega | (simp only;omega),hb⟩)))
    have h:i<c:=h
    exact bF (aD (bF (aD (dF (bF (bX ⟨⟨by first | omega | (simp only;omega),by first | omega | (simp only;omega),by simp;omega,mQ hb (by first | omega | (simp only;omega))⟩,by first | omega | (simp only;omega)⟩))))))
  refine aT (λ(q:List (List Int)×List (List Int))=>((q.1.length:Int)=es/\∀ x∈q.1,(x.length:Int)=c/\∀ y∈x,1<=y/\y<=4)/\(q.2.length:Int)=es/\∀ x∈q.2,(x.length:Int)=c/\∀ y∈x,0<=y/\y<=1073741824)
    (fM (λ(v:Int×List (List Int)×List (List Int))=>0<=v.1/\v.1<=es/\((v.2.1.length:Int)=v.1/\∀ x∈v.2.1,(x.length:Int)=c/\∀ y∈x,1<=y/\y<=4)/\(v.2.2.length:Int)=v.1/\∀ x∈v.2.2,(x.length:Int)=c/\∀ y∈x,0<=y/\y<=1073741824) (λv=>es.toNat-v.1.toNat) ?_ (v:=(0,[],[])) ⟨by simp,by simp only;omega,⟨rfl,λ_ h=>nomatch h⟩,rfl,λ_ h=>nomatch h⟩ (by simp only;omega)) λq hq=>bE (aF ?_)
  · rintro ⟨e,l,r⟩ ⟨h0,h1,⟨hl,hb⟩,hr,hd⟩
    simp only at h0 h1 hl hb hr hd
    refine bE (bE (aD (aH (λh=>?_) λh=>bK (aF ⟨⟨by first | omega | (simp only;omega),hb⟩,by first | omega | (simp only;omega),hd⟩))))
    have h:e<es:=h
    refine aT (λ(q:List (List Int)×List (List Int))=>((q.1.length:Int)=e+1/\∀ x∈q.1,(x.length:Int)=c/\∀ y∈x,1<=y/\y<=4)/\(q.2.length:Int)=e+1/\∀ x∈q.2,(x.length:Int)=c/\∀ y∈x,0<=y/\y<=1073741824) ?_ λq hq=>bE (bF (bX ⟨⟨by first | omega | (simp only;omega),by first | omega | (simp only;omega),hq⟩,by first | omega | (simp only;omega)⟩))
    refine aT (λ(q:List Int×List Int)=>((q.1.length:Int)=c/\∀ x∈q.1,1<=x/\x<=4)/\(q.2.length:Int)=c/\∀ x∈q.2,0<=x/\x<=1073741824)
      (fM (λ(v:Int×List Int×List Int)=>0<=v.1/\v.1<=c/\((v.2.1.length:Int)=v.1/\∀ x∈v.2.1,1<=x/\x<=4)/\(v.2.2.length:Int)=v.1/\∀ x∈v.2.2,0<=x/\x<=1073741824) (λv=>c.toNat-v.1.toNat) ?_ (v:=(0,[],[])) ⟨by simp,by simp only;omega,⟨rfl,λ_ h=>nomatch h⟩,rfl,λ_ h=>nomatch h⟩ (by simp only;omega)) λq hq=>bE (aD (dF (aD (dF (aF ⟨⟨by simp;omega,mQ hb hq.1⟩,by simp;omega,mQ hd hq.2⟩)))))
    rintro ⟨i,a,b⟩ ⟨g0,g1,⟨ga,gb⟩,gc,gd⟩
    simp only at g0 g1 ga gb gc gd
    refine bE (bE (aD (aH (λh=>?_) λh=>bK (aF ⟨⟨by first | omega | (simp only;omega),gb⟩,by first | omega | (simp only;omega),gd⟩))))
    have h:i<c:=h
    have f1:=td (a:=k) (b:=168) hk.1 (by decide)
    have f2:=td (a:=k) (b:=672) hk.1 (by decide)
    have f3:=tm (a:=k.tdiv 672) (b:=4) f2.1 (by decide)
    have f4:0<=e*(k.tdiv 672).tmod 4/\e*(k.tdiv 672).tmod 4<=16:=by
      refine ⟨Int.mul_nonneg h0 f3.1,?_⟩
      have:e*(k.tdiv 672).tmod 4<=4*4:=Int.mul_le_mul (by omega) (by omega) f3.1 (by omega)
      omega
    have f5:=tm (a:=k.tdiv 168+i+e*(k.tdiv 672).tmod 4) (b:=4) (by omega) (by decide)
    have f6:=td (a:=k) (b:=2688) hk.1 (by decide)
    have f7:=tm (a:=k.tdiv 2688+7*i+e) (b:=40) (by omega) (by decide)
    exact bF (bF (bF (aD (bF (bF (aD (bF (aD (dF (bF (bF (bF (bF (aD (aD (dF (bF (bX ⟨⟨by first | omega | (simp only;omega),by first | omega | (simp only;omega),⟨by simp;omega,mQ gb (by first | omega | (simp only;omega))⟩,by simp;omega,mQ gd (by first | omega | (simp only;omega))⟩,by first | omega | (simp only;omega)⟩))))))))))))))))))
  obtain ⟨⟨h1,h2⟩,h3,h4⟩:=hq
  exact ⟨⟨by simp only;omega,by simp only;omega,by simp only;omega,hw.2,h1,h3,λl hl=>⟨by have:=(h2 l hl).1;simp only;omega,(h2 l hl).2⟩,λl hl=>⟨by have:=(h4 l hl).1;simp only;omega,(h4 l hl).2⟩⟩,by simp only;omega⟩
theorem P6 {l:List Int} {k lo hi:Int} {n:Nat} (hn:66<n) (hk:(l.length:Int)=k) (h60:l.length<=60) (hb:∀ x∈l,lo<=x/\x<=hi):BU n l k lo hi=some true:=by
  refine eT ?_
  unfold BU aGU
  simp only [WT.run,bR]
  refine aD (aH (λh=>absurd hk h) λ_=>?_)
  refine aT (λ(r:Unit⊕Bool)=>r=.inl ()) (fM (λ(i:Int)=>0<=i/\i<=(l.length:Int)) (λ(i:Int)=>l.length-i.toNat) ?_ (v:=0) ⟨by simp,by simp⟩ (by simp;omega)) λr hr=>by subst hr;exact bY (aF rfl)
  rintro i ⟨h0,h1⟩
  refine aD (aH (λh=>?_) λh=>bK (bX rfl))
  have hx:l[i.toNat]?=some (l[i.toNat]'(by omega)):=List.getElem?_eq_getElem (by omega)
  generalize l[i.toNat]'(by omega)=x at hx
  have hxb:=hb x (fF hx)
  refine aT (λb=>b=false) (bW h0 hx (aD (aH (λh=>absurd h (by omega)) λ_=>bW h0 hx (aD (aF (decide_eq_false (by omega))))))) λb hb2=>?_
  subst hb2
  exact bU (bF (bX ⟨⟨by omega,by omega⟩,by omega⟩))
theorem aC7 {m:fG} {n:Nat} (hn:66<n) (h:pG m):FD n m=some true:=by
  have h1:=h.vF;have h2:=h.iM;have h3:=h.n1;have h4:=h.lm;have h5:=h.lc
  refine eT ?_
  unfold FD aI8
  simp only [WT.run,bR]
  refine aT (λb=>b=false) ?_ λb hb=>?_
  · refine aD (aH (λh=>absurd h (by omega)) λ_=>?_)
    refine aD (aH (λh=>absurd h (by omega)) λ_=>?_)
    refine aD (aH (λh=>absurd h (by omega)) λ_=>?_)
    refine aD (aH (λh=>absurd h (by omega)) λ_=>?_)
    refine aD (aH (λh=>absurd h (by omega)) λ_=>?_)
    refine aD (aH (λh=>absurd h (by omega)) λ_=>?_)
    refine x_eq (P6 hn rfl (by omega) h.wei) (aD (dG (λk=>nomatch k) λ_=>?_))
    refine aD (aH (λh=>absurd h (by omega)) λ_=>?_)
    exact aD (aF (decide_eq_false (by omega)))
  · subst hb
    refine bU (aT (λ(r:Unit⊕Bool)=>r=.inl ()) (fM (λ(i:Int)=>0<=i/\i<=m.gD) (λ(i:Int)=>m.gD.toNat-i.toNat) ?_ (v:=0) ⟨by simp,by omega⟩ (by simp;omega)) λr hr=>by subst hr;exact bY (aF rfl))
    rintro i ⟨a0,a1⟩
    refine aD (aH (λk=>?_) λk=>bK (bX rfl))
    refine aT (λb=>b=false) (eF a0 (by omega) λl hl=>?_) λb hb2=>?_
    · have g:=h.met l (fF hl)
      refine x_eq (P6 hn (by omega) (by omega) g.2) (aD (dG (λk=>nomatch k) λ_=>eF a0 (by omega) λr hr=>?_))
      have g2:=h.cos r (fF hr)
      exact x_eq (P6 hn (by omega) (by omega) g2.2) (aD (aF rfl))
    · subst hb2
      exact bU (bF (bX ⟨⟨by omega,by omega⟩,by omega⟩))
end Go.Pv
