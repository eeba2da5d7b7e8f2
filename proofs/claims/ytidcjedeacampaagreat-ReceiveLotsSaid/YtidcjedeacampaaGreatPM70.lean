import Derived.Test.YtidcjedeacampaaGreatOK70
import Derived.Test.YtidcjedeacampaaGreatOH70
set_option linter.unusedVariables false
set_option linter.unusedSimpArgs false
namespace Go.Pv
open Go.Proofs
set_option maxRecDepth 100000
set_option maxHeartbeats 1000000
def zQ (s:aB) (S:List fA):aB:={ s with dS:=S }
theorem SS.zQ {s:aB} (h:SS s) (S:List fA):SS (zQ s S):=⟨⟨h.kF,h.len⟩,h.es⟩
def Sm (x y:aP):Prop:=bl y 1=bl x 1/\bl y 12=bl x 12/\bl y 13=bl x 13/\bl y 14=bl x 14/\y.fQ=x.fQ
theorem Sm.aNL (x:aP):Sm x x:=⟨rfl,rfl,rfl,rfl,rfl⟩
theorem Sm.trans {x y z:aP} (h:Sm x y) (g:Sm y z):Sm x z:=⟨g.1.trans h.1,g.2.1.trans h.2.1,g.2.2.1.trans h.2.2.1,g.2.2.2.1.trans h.2.2.2.1,g.2.2.2.2.trans h.2.2.2.2⟩
def Cl (s:aB) (e:Nat) (bH:List Int) (x:aP) (t:aB):Prop:=∃ S y,S.length<=40/\(∀ r∈S,qJ s.bF r)/\On (zQ s S) e bH t y 0 (λ_=>0)/\Sm x y
theorem aO6 {s t:aB} {e i c:Int} {bH:List Int} {x:aP} {n:Nat} (hn:66<n) (hs:SS s) (h:Cl s e.toNat bH x t) (ht:iH s e i) (hc:0<=c/\c<=1):Ex (λr=>r.2=0->Cl s e.toNat bH x r.1) (KJ n t e i c):=by
  obtain ⟨S,y,hl,hS,o,sm⟩:=h
  obtain ⟨g1,g2,g3,g4,g5⟩:=o.rc
  have g2:t.dS=S:=g2
  have g4:t.bF=s.bF:=g4
  have g5:t.bA.length=s.bA.length:=g5
  have hst:=o.ss (hs.zQ S)
  have htt:iH t e i:=⟨⟨ht.1.1,by rw [g5];exact ht.1.2⟩,by rw [g4];exact ht.2⟩
  obtain ⟨y',m,k,p,q,sp⟩:=hst.spot htt hc
  have hy':=sp.en;rw [o.at] at hy';cases hy'
  have hlr:=jA sp.io.pp.ly
  have h0:=sp.io.pp.p0;have h1:=sp.io.pp.p1;have h2:=sp.io.pp.p2;have h3:=sp.io.pp.sum
  unfold KJ ZF
  simp only [WT.run,bT]
  refine x_eq (pX hst.toS0 htt hc o.at sp.pp) (bG (bG (aD (aQ (λ_=>aG λ_=>⟨S,y,hl,hS,o,sm⟩) λ_=>aW _ (aIS hn sp.io.pp) λa ha=>?_))))
  obtain ⟨a1,a2,a3,a4,a5,a6,a7,a8⟩:=ha
  have hio:IO m a.1 q:=⟨a1,sp.io.qq,by have:=sp.io.sq;omega,by have:=sp.io.ss;omega⟩
  obtain ⟨x1,o1,p1,p2,p3⟩:=o.MJ sp hio (v:=-(a.2.a0.Value+a.2.a1.Value+a.2.a2.Value)) (by omega)
  refine x_eq (yY hst sp) (bG (bG (bG (aW _ (qA hn (o1.ss (hs.zQ S)) (by simp)) λb hb=>?_))))
  refine aD (aQ (λk=>aG λk2=>absurd k2 k) λkz=>?_)
  rcases hb with ⟨_,hb⟩ | ⟨k,_⟩
  rotate_left
  · exact absurd k kz
  obtain ⟨x2,o2,q1,q2,q3⟩:=o1.rR hb (by simp [gM,gI])
  refine aW _ (sK hn (o2.ss (hs.zQ S))) λd hd=>?_
  refine aD (aQ (λk=>aG λk2=>absurd k2 k) λkz=>?_)
  rcases hd with ⟨_,hd⟩ | ⟨k,_⟩
  rotate_left
  · exact absurd k kz
  obtain ⟨x3,o3,r1,r2⟩:=o2.wP hd
  obtain ⟨f1,f2,f3,f4,f5⟩:=o3.rc
  have f2:d.1.dS=S:=f2
  have f4:d.1.bF=s.bF:=f4
  have f5:d.1.bA.length=s.bA.length:=f5
  refine aW _ (aIY (l:=a.2.a0) hn (by rw [f5];exact ht.1) (by rw [f2,f4];exact hS) (by rw [f2];exact hl) a5 a8) λw hw=>aG λk=>?_
  obtain ⟨S',e1,e2,e3⟩:=hw k
  have hB:∀ a':Nat,a' < 17->bl x3 a'=bl y a'+eU [⟨5,a.2.a0.Value⟩,⟨7,a.2.a1.Value⟩,⟨8,a.2.a2.Value⟩,⟨0,0-a.2.a0.Value⟩,⟨0,0-a.2.a1.Value⟩,⟨0,0-a.2.a2.Value⟩] a':=λa' ha=>by rw [oM r1,q1 a' ha,oM p1]
  have c1:=hB 1 (by decide);have c12:=hB 12 (by decide);have c13:=hB 13 (by decide);have c14:=hB 14 (by decide)
  simp [gM,gI] at c1 c12 c13 c14
  refine ⟨S',x3,e2,by rw [f4] at e3;exact e3,?_,sm.trans ⟨c1,c12,c13,c14,r2.trans (q2.trans p2)⟩⟩
  have z:(λ(_:Nat)=>(0:Int))=bump (bump (λ_=>0) i.toNat (-(a.2.a0.Value+a.2.a1.Value+a.2.a2.Value))) i.toNat (-lD ⟨0,0,0,0,0,a.2.a0.Value,0,0,a.2.a1.Value,a.2.a2.Value,0⟩):=by
    rw [ZK (by simp [lD];omega)]
  refine ⟨o3.en,o3.ms,?_,o3.es,?_,o3.opn,o3.mH⟩
  · rw [e1,o3.eq];rfl
  · have:=o3.eb
    rw [<- z] at this
    have zz:0+-(a.2.a0.Value+a.2.a1.Value+a.2.a2.Value)-eU [⟨5,a.2.a0.Value⟩,⟨7,a.2.a1.Value⟩,⟨8,a.2.a2.Value⟩,⟨0,0-a.2.a0.Value⟩,⟨0,0-a.2.a1.Value⟩,⟨0,0-a.2.a2.Value⟩] 0=0:=by simp [gM,gI];omega
    rw [zz] at this;exact this
theorem ES.flag {n:Nat} {bH:List Int} {iZ:Int} {x:aP} (h:ES n bH iZ x) (c:Bool) (a:List aP):ES n bH iZ { x with Closed:=c,fZ:=a }:=⟨h.now,h.lp,h.lr,h.lb,h.lc,h.ld,h.lm,h.gW,h.pri,h.DR,h.BV,h.roll⟩
theorem EB.flag {x:aP} (h:EB x) (c:Bool) (a:List aP):EB { x with Closed:=c,fZ:=a }:=⟨h.ctl,h.qW,h.rE,h.o6⟩
theorem aOR {K:Int} {s:aB} {e:Int} {n:Nat} (hn:66<n) (h:Inv K s):Ex (Kept K s) (JK n s e):=by
  have hss:=h.ss
  have hf:=hss.toS0.iK
  have hl2:=h.l2
  unfold JK WY
  simp only [WT.run,bT]
  refine aW (λ(b:Bool)=>b=false->0<=e/\e<(s.bA.length:Int)) ?_ λb hb=>fJ (λ_=>aG (.inr ⟨by simp,rfl⟩)) λkb=>?_
  · refine aD (aQ (λ_=>aG (λk=>nomatch k)) λ_=>aD (aG λk=>by have:=of_decide_eq_false k;omega))
  have he:=hb kb
  have hx:s.bA[e.toNat]?=some (s.bA[e.toNat]'(by omega)):=List.getElem?_eq_getElem (by omega)
  generalize s.bA[e.toNat]'(by omega)=x at hx
  obtain ⟨bH,hm,hml,hmb,hes⟩:=hss.bH hx
  refine dB he.1 hx (fJ (λ_=>aG (.inr ⟨by simp,rfl⟩)) λkc=>?_)
  have ho:EO s.bF bH x:=by
    rcases h.ent _ _ _ hx hm with g | ⟨y,g⟩
    · exact g
    · rw [g.MW] at kc;cases kc
  have o0:=On.start hx hm ho
  have cl0:Cl s e.toNat bH x s:=⟨s.dS,x,h.l2,h.oD,o0,Sm.aNL x⟩
  refine aW (λ(r:aB⊕(aB×Int))=>match r with | .inl t=>Cl s e.toNat bH x t | .inr r=>r.2≠0/\r.1=s)
    (gB (λ(v:Int×aB)=>0<=v.1/\v.1<=(s.bF.bW.length:Int)/\Cl s e.toNat bH x v.2) (λ(v:Int×aB)=>s.bF.bW.length-v.1.toNat) ?_ (v:=(0,s)) ⟨by simp,by simp,cl0⟩ (by simp;omega)) λr hr=>jQ (λt e1=>?_) λq e1=>?_
  · rintro ⟨i,t⟩ ⟨a1,a2,a3⟩
    simp only at a1 a2 a3
    refine bK (aD (aQ (λk=>?_) λk=>bL (dD a3)))
    have k:i<(s.bF.bW.length:Int):=k
    have hth:iH s e i:=⟨he,a1,k⟩
    refine aW (λ(r:aB⊕((Int×aB)⊕(aB⊕(aB×Int))))=>match r with | .inl t=>Cl s e.toNat bH x t | .inr (.inr (.inr r))=>r.2≠0/\r.1=s | _=>False) ?_ λr hr=>jQ (λt e1=>?_) λq e1=>?_
    · refine aW (λ(r:aB⊕(aB⊕((Int×aB)⊕(aB⊕(aB×Int)))))=>match r with | .inl t=>Cl s e.toNat bH x t | .inr (.inr (.inr (.inr r)))=>r.2≠0/\r.1=s | _=>False)
        (gB (λ(v:Int×aB)=>0<=v.1/\v.1<=2/\Cl s e.toNat bH x v.2) (λ(v:Int×aB)=>2-v.1.toNat) ?_ (v:=(0,t)) ⟨by simp,by simp,a3⟩ (by simp;omega)) λr hr=>jQ (λt e1=>dD (by subst e1;exact hr)) λq e1=>?_
      · rintro ⟨c,u⟩ ⟨b1,b2,b3⟩
        simp only at b1 b2 b3
        refine bK ?_
        refine aW (λ(b:Bool)=>b=true->c<2) (aD (aQ (λkc=>dB he.1 hm (eZ a1 (by first | omega | (simp only;omega)) λ_ _=>aD (aG λ_=>kc))) λ_=>aG (λk=>nomatch k))) λb hb=>fJ (λkb=>?_) λ_=>bL (dD b3)
        have kc:=hb kb
        refine aW _ (aO6 hn hss b3 hth ⟨b1,by omega⟩) λw hw=>aD (aQ (λk=>bL (bL (bL (bL (bL (aG ⟨k,rfl⟩)))))) λk=>bG (dD ⟨⟨by first | omega | (simp only;omega),by first | omega | (simp only;omega),hw (by omega)⟩,by first | omega | (simp only;omega)⟩))
      · subst e1
        rcases q with q | q | q | q
        · exact hr.elim
        · exact hr.elim
        · exact hr.elim
        · exact hr
    · subst e1
      exact bG (dD ⟨⟨by first | omega | (simp only;omega),by first | omega | (simp only;omega),hr⟩,by first | omega | (simp only;omega)⟩)
    · subst e1
      cases q with
      | inl q=>exact hr.elim
      | inr q=>cases q with
        | inl q=>exact hr.elim
        | inr q=>exact hr
  · subst e1
    obtain ⟨S,y,l40,hS,o,sm⟩:=(hr:Cl s e.toNat bH x t)
    refine aW _ (aU6 hn (hss.zQ S) o he) λw hw=>?_
    refine aD (aQ (λk=>aG (.inr ⟨k,rfl⟩)) λkz=>?_)
    obtain ⟨z,oz,z1,z12,z13,z14,znow⟩:=hw (by omega)
    obtain ⟨f1,f2,f3,f4,f5⟩:=oz.rc
    have hlz:=oz.es.iK hf.2.2
    have f5:w.1.bA.length=s.bA.length:=f5
    repeat' with_reducible first | refine bG ?_ | refine dZ ?_ | apply aD | apply bK | apply dY | apply dN | apply eB | apply d9 | apply dV | apply dQ | apply dW | apply dU | refine aQ (λ_=>?_) λ_=>?_ | refine dK (λ_=>?_) λ_=>?_ | apply dF | apply bU | apply dA | apply bL | apply aG | refine dO ?_
    refine dB he.1 oz.at ?_
    repeat' with_reducible first | refine bG ?_ | refine dZ ?_ | apply aD | apply bK | apply dY | apply dN | apply eB | apply d9 | apply dV | apply dQ | apply dW | apply dU | refine aQ (λ_=>?_) λ_=>?_ | refine dK (λ_=>?_) λ_=>?_ | apply dF | apply bU | apply dA | apply bL | apply aG | refine dO ?_
    refine dB he.1 oz.at (dB he.1 hx (aG (.inl ⟨rfl,?_⟩)))
    have smz:Sm x z:=sm.trans ⟨z1,z12,z13,z14,znow⟩
    obtain ⟨s1,s12,s13,s14,snow⟩:=smz
    have oo:=oz.done rfl λ_=>rfl
    have fin:=h.up (x':={ z with Closed:=true,fZ:=[x] }) (R:=s.bX) (S:=S) (T:=s.dH) hx hm (.inr ⟨x,oo.es.flag true [x],oo.ee.flag true [x],rfl,rfl,ho,snow.symm,s1.symm,s12.symm,s13.symm,s14.symm⟩) h.nO hS h.oO h.l1 l40 h.l3 (by show _=bl x 1-bl z 1;omega) (λ_ _=>rfl) (by show _=bl z 12-bl x 12;omega) (λ_ _=>rfl) (by show bl z 13+bl z 14=bl x 13+bl x 14;omega)
    rw [oz.eq]
    show Inv K ⟨s.bF,(s.bA.set e.toNat z).set e.toNat _,s.bX,S,s.dH,s.Done⟩
    rw [List.set_set];exact fin
  · subst e1;exact .inr hr
theorem r19 {K:Int} {s:aB} {o:bJ} {n:Nat} (hn:66<n) (h:Inv K s) (ha:0<=o.bM/\o.bM<=288230376151711744) (hR:o.fG.length<=60):Ex (Kept K s) (M9 n s o):=by
  have hl1:=h.l1
  unfold M9 aDW
  simp only [WT.run,bT]
  refine aW (λ(b:Bool)=>b=false->1<=o.fG.length) ?_ λb hb=>fJ (λ_=>aG (.inr ⟨by simp,rfl⟩)) λkb=>?_
  · refine aD (aQ (λ_=>aG (λk=>nomatch k)) λ_=>aD (aG λk=>by have:=of_decide_eq_false k;omega))
  have hlen:=hb kb
  refine aW (λ(r:Unit⊕(aB×Int))=>match r with | .inl _=>∀ x∈o.fG,0<=x/\x<(s.bX.length:Int) | .inr q=>q.2≠0/\q.1=s)
    (gB (λ(i:Int)=>0<=i/\i<=(o.fG.length:Int)/\((∀ x∈o.fG.drop i.toNat,0<=x/\x<(s.bX.length:Int))->∀ x∈o.fG,0<=x/\x<(s.bX.length:Int))) (λ(i:Int)=>o.fG.length-i.toNat) ?_ ⟨by simp,by simp,by simp⟩ (by simp;omega)) λr hr=>jQ (λu e=>?_) λq e=>?_
  · rintro i ⟨h0,h1,h2⟩
    refine aD (aQ (λk=>?_) λk=>bL (dD (h2 λx hx=>by rw [List.drop_eq_nil_of_le (by omega)] at hx;cases hx)))
    have hx:o.fG[i.toNat]?=some (o.fG[i.toNat]'(by omega)):=List.getElem?_eq_getElem (by omega)
    generalize o.fG[i.toNat]'(by omega)=x at hx
    refine aW (λ(b:Bool)=>b=false->0<=x/\x<(s.bX.length:Int)) (dB h0 hx (aD (aQ (λ_=>aG (λk=>nomatch k)) λk1=>dB h0 hx (aD (aG λk2=>by have:=of_decide_eq_false k2;omega))))) λb hb=>fJ (λ_=>bL (bL (aG ⟨by simp,rfl⟩))) λkb=>bG (dD ⟨⟨by omega,by omega,λhh=>h2 λy hy=>?_⟩,by omega⟩)
    rw [(drop_at hx).2] at hy
    rcases List.mem_cons.1 hy with rfl | hy
    · exact hb kb
    · exact hh y (by rw [show (i+1).toNat=i.toNat+1 by omega];exact hy)
  · have hrf:∀ x∈o.fG,0<=x/\x<(s.bX.length:Int):=by subst e;exact hr
    have h0:o.fG[(0:Int).toNat]?=some (o.fG[0]'(by omega)):=List.getElem?_eq_getElem (by omega)
    generalize o.fG[0]'(by omega)=x0 at h0
    obtain ⟨g0,g1⟩:=hrf x0 (fO h0)
    refine dB (by omega) h0 (eZ g0 g1 λz hz=>?_)
    have hz:s.bX[x0.toNat]?=some z:=hz
    have hzk:=h.nO z (fO hz)
    refine aW (λ(r:Unit⊕(aB×Int))=>match r with | .inl _=>∀ x∈o.fG,∀ y,s.bX[x.toNat]?=some y->y.fU=z.fU | .inr q=>q.2≠0/\q.1=s)
      (gB (λ(i:Int)=>1<=i/\i<=(o.fG.length:Int)/\((∀ x∈o.fG.drop i.toNat,∀ y,s.bX[x.toNat]?=some y->y.fU=z.fU)->∀ x∈o.fG,∀ y,s.bX[x.toNat]?=some y->y.fU=z.fU)) (λ(i:Int)=>o.fG.length-i.toNat) ?_ ⟨by simp,by omega,?_⟩ (by simp;omega)) λr hr=>jQ (λu e=>?_) λq e=>?_
    · rintro i ⟨h0,h1,h2⟩
      refine aD (aQ (λk=>?_) λk=>bL (dD (h2 λx hx=>by rw [List.drop_eq_nil_of_le (by omega)] at hx;cases hx)))
      have hx:o.fG[i.toNat]?=some (o.fG[i.toNat]'(by omega)):=List.getElem?_eq_getElem (by omega)
      generalize o.fG[i.toNat]'(by omega)=x at hx
      obtain ⟨g2,g3⟩:=hrf x (fO hx)
      refine dB (by omega) hx (eZ g2 g3 λy hy=>aD (aQ (λ_=>bL (bL (aG ⟨by simp,rfl⟩))) λk2=>bG (dD ⟨⟨by omega,by omega,λhh=>h2 λw hw=>?_⟩,by omega⟩)))
      have hy:s.bX[x.toNat]?=some y:=hy
      rw [(drop_at hx).2] at hw
      rcases List.mem_cons.1 hw with rfl | hw
      · intro y' hy';rw [hy] at hy';cases hy';omega
      · exact hh w (by rw [show (i+1).toNat=i.toNat+1 by omega];exact hw)
    · intro hh w hw
      have e1:o.fG=x0 :: o.fG.drop 1:=by
        have:=(drop_at (l:=o.fG) (i:=0) h0).2
        simpa using this
      rw [e1] at hw
      rcases List.mem_cons.1 hw with rfl | hw
      · intro y hy;rw [hz] at hy;cases hy;rfl
      · exact hh w hw
    · have hsame:∀ x∈o.fG,∀ y,s.bX[x.toNat]?=some y->y.fU=z.fU:=by subst e;exact hr
      refine aW _ (tZ h z.fU z.Item) λr hr=>?_
      refine aD (aQ (λk=>aG (.inr ⟨k,rfl⟩)) λkz=>?_)
      obtain ⟨ht,x,bH,hx,hm,ho⟩:=hr (by omega)
      have o0:=On.start hx hm ho
      refine aW _ (aND hn hR hl1 λr hr=>(h.nO r hr).2.1) λw hw=>aW _ (aHT hn (by omega)) λsp hsp=>?_
      refine aD (aQ (λk=>aG (.inr ⟨k,rfl⟩)) λkz=>?_)
      obtain ⟨s1,s2,s3⟩:=hsp (by omega)
      have hpos:=EV λy hy=>(s2 y hy).1
      refine aW (λ(r:(Int×aB)⊕(aB×Int))=>match r with | .inl r=>(0<=r.1/\r.1<=o.bM)/\∃ x',On s z.fU.toNat bH r.2 x' r.1 (λ_=>0)/\x'.dI=x.dI | .inr q=>q.2≠0/\q.1=s)
        (gB (λ(v:Int×Int×aB)=>0<=v.2.1/\v.2.1<=(sp.1.length:Int)/\(0<=v.1/\v.1+cZ (sp.1.drop v.2.1.toNat)<=o.bM)/\∃ x',On s z.fU.toNat bH v.2.2 x' v.1 (λ_=>0)/\x'.dI=x.dI) (λ(v:Int×Int×aB)=>sp.1.length-v.2.1.toNat) ?_ (v:=(0,0,s)) ⟨by simp,by simp,⟨by simp,by simp;omega⟩,x,o0,rfl⟩ (by simp;omega)) λr hr=>jQ (λa e=>?_) λq e=>?_
      · rintro ⟨all,i,t⟩ ⟨a1,a2,a3,x1,o1,p1⟩
        simp only at a1 a2 a3 o1
        refine bK (bK (aD (aQ (λk=>?_) λk=>bL (dD ⟨?_,x1,o1,p1⟩))))
        · have k:i<(sp.1.length:Int):=k
          have hv:sp.1[i.toNat]?=some (sp.1[i.toNat]'(by omega)):=List.getElem?_eq_getElem (by omega)
          generalize sp.1[i.toNat]'(by omega)=v at hv
          have hrx:o.fG[i.toNat]?=some (o.fG[i.toNat]'(by omega)):=List.getElem?_eq_getElem (by omega)
          generalize o.fG[i.toNat]'(by omega)=rx at hrx
          obtain ⟨g2,g3⟩:=hrf rx (fO hrx)
          refine dB a1 hrx (eZ g2 g3 λy hy=>dB a1 hv ?_)
          have hy:s.bX[rx.toNat]?=some y:=hy
          have hyk:=h.nO y (fO hy)
          have hye:=hsame rx (fO hrx) y hy
          refine aW _ (aF4 hn h.ss hyk o1 hye (s2 v (fO hv)) ht.1) λc hc=>?_
          refine aD (aQ (λkc=>bL (bL (aG ⟨kc,rfl⟩))) λkc=>?_)
          obtain ⟨c1,x2,o2,p2⟩:=hc (by omega)
          have hd:=SB hv
          have e2:(i+1).toNat=i.toNat+1:=by omega
          have hnn:0<=cZ (sp.1.drop (i.toNat+1)):=vU λy hy=>(s2 y (List.mem_of_mem_drop hy)).1
          refine bG (bG (dD ⟨⟨by first | omega | (simp only;omega),by first | omega | (simp only;omega),⟨by first | omega | (simp only;omega),?_⟩,x2,o2,p2.trans p1⟩,by first | omega | (simp only;omega)⟩))
          show all+c.2.1+cZ (sp.1.drop (i+1).toNat)<=o.bM
          rw [e2];omega
        · have k:¬ i<(sp.1.length:Int):=k
          have hnn:0<=cZ (sp.1.drop i.toNat):=vU λy hy=>(s2 y (List.mem_of_mem_drop hy)).1
          first | omega | (simp only;omega)
      · subst e
        obtain ⟨b1,x1,o1,p1⟩:=hr
        refine bK (bG (bG (aW _ (qA hn (o1.ss h.ss) (by simp)) λc hc=>?_)))
        refine aD (aQ (λk=>aG (.inr ⟨k,rfl⟩)) λkz=>?_)
        rcases hc with ⟨_,hc⟩ | ⟨k,_⟩
        rotate_left
        · exact absurd k kz
        obtain ⟨x2,o2,q1,q2,q3⟩:=o1.rR hc (by simp [gM,gI])
        obtain ⟨f1,f2,f3,f4,f5⟩:=o2.rc
        have hB:∀ a':Nat,a' < 17->bl x2 a'=bl x a'+eU [⟨0,a.1⟩,⟨9,o.bM-a.1⟩,⟨2,0-o.bM⟩] a':=λa' ha=>by rw [q1 a' ha,oM p1]
        have c1:=hB 1 (by decide);have c12:=hB 12 (by decide);have c13:=hB 13 (by decide);have c14:=hB 14 (by decide)
        simp [gM,gI] at c1 c12 c13 c14
        refine aG (.inl ⟨rfl,?_⟩)
        exact o2.fin h hx (by simp [gM,gI]) (λ_=>rfl) (S:=c.1.dS) (by rw [f2];exact h.oD) (by rw [f2];exact h.l2) c1 c12 c13 c14
      · subst e;exact .inr hr
    · subst e;exact .inr hr
  · subst e;exact .inr hr
theorem aJW {K:Int} {s:aB} {e:Int} {n:Nat} (hn:66<n) (h:Inv K s):Ex (Kept K s) (MP n s e):=by
  have hss:=h.ss
  have hf:=hss.toS0.iK
  have hl2:=h.l2
  unfold MP aA5
  simp only [WT.run,bT]
  refine aW (λ(b:Bool)=>b=false->0<=e/\e<(s.bA.length:Int)) ?_ λb hb=>fJ (λ_=>aG (.inr ⟨by simp,rfl⟩)) λkb=>?_
  · refine aD (aQ (λ_=>aG (λk=>nomatch k)) λ_=>aD (aG λk=>by have:=of_decide_eq_false k;omega))
  have he:=hb kb
  have hx:s.bA[e.toNat]?=some (s.bA[e.toNat]'(by omega)):=List.getElem?_eq_getElem (by omega)
  generalize s.bA[e.toNat]'(by omega)=x at hx
  obtain ⟨bH,hm,hml,hmb,hes⟩:=hss.bH hx
  refine dB he.1 hx (aD (dK (λ_=>aG (.inr ⟨by simp,rfl⟩)) λkc=>?_))
  rcases h.ent _ _ _ hx hm with g | ⟨y,g⟩
  · rw [g.opn] at kc;cases kc
  refine dO (dB he.1 hx ?_)
  rw [g.mH]
  refine dB (by decide) (a:=y) rfl (aD (dO ?_))
  refine aW (λ(S:List fA)=>S.length=s.dS.length/\∀ r∈S,qJ s.bF r) (gB (λ(v:Int×List fA)=>0<=v.1/\v.1<=(s.dS.length:Int)/\v.2.length=s.dS.length/\∀ r∈v.2,qJ s.bF r) (λ(v:Int×List fA)=>s.dS.length-v.1.toNat) ?_ (v:=(0,s.dS)) ⟨by simp,by simp,rfl,h.oD⟩ (by simp;omega)) λS hS=>aG (.inl ⟨rfl,?_⟩)
  · rintro ⟨j,S⟩ ⟨a1,a2,a3,a4⟩
    simp only at a1 a2 a3 a4
    refine bK (aD (aQ (λk=>?_) λk=>bL (aG ⟨a3,a4⟩)))
    have k:j<(S.length:Int):=k
    refine aW (λ(S':List fA)=>S'.length=s.dS.length/\∀ r∈S',qJ s.bF r) ?_ λS' hS'=>bG (dD ⟨⟨by first | omega | (simp only;omega),by first | omega | (simp only;omega),hS'.1,hS'.2⟩,by first | omega | (simp only;omega)⟩)
    refine eZ a1 k λz hz=>?_
    obtain ⟨z1,z2,z3,z4,z5,z6,z7,z8⟩:=a4 z (fO hz)
    refine aW (λ_=>True) ?_ λb _=>fJ (λ_=>aD (aD (aG ⟨by simp;exact a3,p8 (p8 a4 ⟨z1,z2,z3,z4,z5,by simp,z7,z8⟩) ⟨z1,z2,z3,z4,z5,by simp,by unfold bN;simp,z8⟩⟩))) λ_=>aG ⟨a3,a4⟩
    repeat' with_reducible first | refine bG ?_ | refine dZ ?_ | apply aD | apply bK | apply dY | apply dN | apply eB | apply d9 | apply dV | apply dQ | apply dW | apply dU | refine aQ (λ_=>?_) λ_=>?_ | refine dK (λ_=>?_) λ_=>?_ | apply dF | apply bU | apply dA | apply bL | apply aG | refine fJ (λ_=>?_) λ_=>?_
    all_goals trivial
  · have fin:=h.up (x':=y) (R:=s.bX) (S:=S) (T:=s.dH) hx hm (.inl g.eo) h.nO hS.2 h.oO h.l1 (by omega) h.l3 (by have:=g.b1;omega) (λ_ _=>rfl) (by have:=g.b12;omega) (λ_ _=>rfl) (by have:=g.b13;have:=g.b14;unfold lC;omega)
    exact fin
theorem aH8 {K:Int} {s:aB} {e:Int} {n:Nat} (hn:66<n) (h:Inv K s):Ex (Kept K s) (L6 n s e):=by
  have hss:=h.ss
  have hf:=hss.toS0.iK
  have hl2:=h.l2
  have hper:=h.kF.iZ
  unfold L6 aBD
  simp only [WT.run,bT]
  refine aW (λ(b:Bool)=>b=false->0<=e/\e<(s.bA.length:Int)) ?_ λb hb=>fJ (λ_=>aG (.inr ⟨by simp,rfl⟩)) λkb=>?_
  · refine aD (aQ (λ_=>aG (λk=>nomatch k)) λ_=>aD (aG λk=>by have:=of_decide_eq_false k;omega))
  have he:=hb kb
  have hx:s.bA[e.toNat]?=some (s.bA[e.toNat]'(by omega)):=List.getElem?_eq_getElem (by omega)
  generalize s.bA[e.toNat]'(by omega)=x at hx
  obtain ⟨bH,hm,hml,hmb,hes⟩:=hss.bH hx
  have hl:=hes.iK hf.2.2
  have hlr:=hes.lr
  refine dB he.1 hx (aD (dK (λ_=>aG (.inr ⟨by simp,rfl⟩)) λkc=>?_))
  rcases h.ent _ _ _ hx hm with g | ⟨y,g⟩
  · rw [g.opn] at kc;cases kc
  have hsv:=g.ee.x.iK g.es
  have hnow:=g.es.now
  refine dB he.1 hx (aD (aQ (λ_=>aG (.inr ⟨by simp,rfl⟩)) λkn=>?_))
  repeat' with_reducible first | refine bG ?_ | refine dZ ?_ | apply aD | apply bK | apply dY | apply dN | apply eB | apply d9 | apply dV | apply dQ | apply dW | apply dU | refine aQ (λ_=>?_) λ_=>?_ | refine dK (λ_=>?_) λ_=>?_ | apply dF | apply bU | apply dA | apply bL | apply aG | refine dO ?_
  refine dB he.1 hx ?_
  repeat' with_reducible first | refine bG ?_ | refine dZ ?_ | apply aD | apply bK | apply dY | apply dN | apply eB | apply d9 | apply dV | apply dQ | apply dW | apply dU | refine aQ (λ_=>?_) λ_=>?_ | refine dK (λ_=>?_) λ_=>?_ | apply dF | apply bU | apply dA | apply bL | apply aG | refine dO ?_
  refine dB he.1 hx (bG ?_)
  refine aW (λ(R:List cB)=>R.length=x.dJ.length/\(∀ r∈R,y9 r)/\∀ (j:Nat) r p q,R[j]?=some r->x.bR[2*j]?=some p->x.bR[2*j+1]?=some q->lD r=tV p.aI+tV q.aI)
    (gB (λ(v:Int×List cB)=>0<=v.1/\v.1<=(x.dJ.length:Int)/\v.2.length=x.dJ.length/\(∀ r∈v.2,y9 r)/\∀ (j:Nat) r p q,(j:Int)<v.1->v.2[j]?=some r->x.bR[2*j]?=some p->x.bR[2*j+1]?=some q->lD r=tV p.aI+tV q.aI) (λ(v:Int×List cB)=>x.dJ.length-v.1.toNat) ?_ (v:=(0,x.dJ)) ⟨by simp,by simp,rfl,g.es.roll,λj _ _ _ hj=>absurd hj (by simp)⟩ (by simp;omega)) λR hR=>aG (.inl ⟨rfl,?_⟩)
  · rintro ⟨i,R⟩ ⟨a1,a2,a3,a4,a5⟩
    simp only at a1 a2 a3 a4 a5
    refine bK (aD (aQ (λk=>?_) λk=>bL (aG ⟨a3,a4,λj r p q hj hp hq=>a5 j r p q ?_ hj hp hq⟩)))
    · have k:i<(R.length:Int):=k
      obtain ⟨m,p,q,w1,w2,w3,w4,w5,w6⟩:=g.es.PK hsv (i:=i.toNat) (by omega)
      refine x_eq (PN hn hss ⟨he,by omega⟩ hx w2 w3 w4 w5) (eZ a1 k λ_ _=>aD (bG (dD ⟨⟨by first | omega | (simp only;omega),by first | omega | (simp only;omega),by rw [List.length_set];exact a3,p8 a4 ?_,?_⟩,by first | omega | (simp only;omega)⟩)))
      · unfold y9 bN;simp only;omega
      · intro j r p' q' hj hr hp hq
        have hj:(j:Int)<i+1:=hj
        have hr:(R.set i.toNat (⟨tV p.aI+tV q.aI,0,0,0,0,0,0,0,0,0,0⟩:cB))[j]?=some r:=hr
        rw [mE (by omega)] at hr
        by_cases hij:i.toNat=j
        · rw [if_pos hij] at hr;cases hr
          rw [<- hij,w2] at hp;rw [<- hij,w3] at hq;cases hp;cases hq
          simp [lD]
        · rw [if_neg hij] at hr
          exact a5 j r p' q' (by omega) hr hp hq
    · have k:¬ i<(R.length:Int):=k
      have:=(List.getElem?_eq_some_iff.1 hj).1
      omega
  · obtain ⟨r1,r2,r3⟩:=hR
    have ho:EO s.bF bH { x with fQ:=x.fQ+1,Closed:=false,fZ:=[],dJ:=R } :=
      ⟨⟨by show 1<=x.fQ+1/\x.fQ+1<=_;omega,g.es.lp,r1.trans g.es.lr,g.es.lb,g.es.lc,g.es.ld,g.es.lm,g.es.gW,g.es.pri,g.es.DR,g.es.BV,r2⟩,⟨g.ee.ctl,g.ee.qW,g.ee.rE,r3⟩,rfl,rfl⟩
    exact h.up (x':={ x with fQ:=x.fQ+1,Closed:=false,fZ:=[],dJ:=R }) (R:=s.bX) (S:=s.dS) (T:=s.dH) hx hm (.inl ho) h.nO h.oD h.oO h.l1 h.l2 h.l3 (by show _=bl x 1-bl x 1;omega) (λ_ _=>rfl) (by show _=bl x 12-bl x 12;omega) (λ_ _=>rfl) rfl
structure A8 (o:bJ):Prop where
  q:0<=o.aT/\o.aT<=288230376151711744
  a:0<=o.bM/\o.bM<=288230376151711744
  a9:o.Kind=9->o.bM<=1073741824
  l7:o.Kind=7->0<=o.Loc/\o.Loc<=1
  t12:o.Kind=12->o.E≠o.To
  r:o.fG.length<=60
theorem aIR {K:Int} {s:aB} {o:bJ} {n:Nat} (hn:66<n) (h:Inv K s) (ho:A8 o):Ex (Kept K s) (I9 n s o):=by
  have hq:=ho.q
  unfold I9 TR
  simp only [WT.run,bT]
  refine aD (aQ (λ_=>aW _ (r15 hn h (by omega) ho.a) λr hr=>aG hr) λ_=>?_)
  refine aD (aW (λ_=>True) (fJ (λ_=>aG trivial) λ_=>aD (aG trivial)) λb _=>fJ (λ_=>aW _ (r16 hn h hq ho.a) λr hr=>aG hr) λ_=>?_)
  refine aD (aW (λ_=>True) ?_ λb _=>fJ (λ_=>aW _ (r17 hn h hq ⟨ho.a.1,ho.a9⟩ ho.l7) λr hr=>aG hr) λ_=>?_)
  · repeat' with_reducible first | refine bG ?_ | refine dZ ?_ | apply aD | apply bK | apply dY | apply dN | apply eB | apply d9 | apply dV | apply dQ | apply dW | apply dU | refine aQ (λ_=>?_) λ_=>?_ | refine dK (λ_=>?_) λ_=>?_ | apply dF | apply bU | apply dA | apply bL | apply aG | refine fJ (λ_=>?_) λ_=>?_
    all_goals trivial
  refine aD (aW (λ_=>True) (fJ (λ_=>aG trivial) λ_=>aD (aG trivial)) λb _=>fJ (λ_=>aW _ (r18 hn h hq ho.a) λr hr=>aG hr) λ_=>?_)
  refine aD (aQ (λ_=>aW _ (r19 hn h ho.a ho.r) λr hr=>aG hr) λ_=>?_)
  refine aD (aW (λ_=>True) (fJ (λ_=>aG trivial) λ_=>aD (aG trivial)) λb _=>fJ (λ_=>aW _ (r20 hn h hq ho.a ho.t12) λr hr=>aG hr) λ_=>?_)
  exact aD (aQ (λ_=>aW _ (r21 h ho.a) λr hr=>aG hr) λ_=>aG (.inr ⟨by simp,rfl⟩))
theorem Inv.mono {K K':Int} {s:aB} (h:Inv K s) (hk:K<=K'):Inv K' s:={ h with zM:=by have:=h.zM;omega }
theorem Inv.done {K K':Int} {s:aB} (h:Inv K s) {d:Int} (hd:0<=d/\d<=K'):Inv K' ⟨s.bF,s.bA,s.bX,s.dS,s.dH,d⟩:=⟨h.kF,h.len,hd,h.nO,h.oD,h.oO,h.l1,h.l2,h.l3,h.ent,h.acc,h.way,h.zF⟩
theorem r22 {K:Int} {s:aB} {o:bJ} {n:Nat} (hn:66<n) (h:Inv K s) (hK:K<=1000000) (hc:Ex (λr=>r=true->A8 o) (xH n o)):Ex (λr=>Inv (K+1) r.1) (JQ n s o):=by
  unfold JQ XN
  simp only [WT.run,bT]
  refine aW _ hc λb hb=>aD (dK (λ_=>aG (h.mono (by omega))) λkb=>?_)
  refine aW _ (aIR hn h (hb kb)) λr hr=>aD (aQ (λ_=>aG (h.mono (by omega))) λk=>?_)
  rcases hr with ⟨_,hr⟩ | ⟨k2,_⟩
  rotate_left
  · exact absurd k2 k
  have hd:=hr.zM
  refine bG (aD (aG (hr.done ?_)))
  split <;> omega
theorem aSB {K:Int} {s:aB} {o:bJ} {n:Nat} (hn:66<n) (h:Inv K s) (hK:K<=1000000) (hc:Ex (λr=>r=true->A8 o) (xH n o)):Ex (λr=>Inv (K+1) r.1) (K5 n s o):=by
  have hd:=h.zM
  unfold K5 Y7
  simp only [WT.run,bT]
  refine aW _ hc λb hb=>aD (dK (λ_=>aG (h.mono (by omega))) λkb=>?_)
  refine aW (λ(r:(Int×aB)⊕(aB×Int))=>match r with | .inl r=>r.1=0->Inv K r.2 | .inr r=>Inv (K+1) r.1) ?_ λr hr=>jQ (λa e=>?_) λq e=>?_
  · refine aD (aQ (λ_=>aW _ (aOR hn h) λr hr=>dD ?_) λ_=>aD (aQ (λ_=>aW _ (aJW hn h) λr hr=>dD ?_) λ_=>aD (aQ (λ_=>aW _ (aH8 hn h) λr hr=>dD ?_) λ_=>aW _ (r22 hn h hK hc) λr hr=>bL (aG hr))))
    all_goals
      rcases hr with ⟨_,hr⟩ | ⟨k2,_⟩
      · exact λ_=>hr
      · exact λk=>absurd k k2
  · subst e
    refine bK (aD (aQ (λ_=>aG (h.mono (by omega))) λk=>?_))
    have hr:Inv K a.2:=hr (by omega)
    have hd:=hr.zM
    exact bG (aG (hr.done (by omega)))
  · subst e;exact hr
theorem td {a b:Int} (ha:0<=a) (hb:0<b):0<=a.tdiv b/\a.tdiv b<=a:=by
  rw [Int.tdiv_eq_ediv_of_nonneg ha]
  exact ⟨Int.ediv_nonneg ha (by omega),Int.ediv_le_self b ha⟩
theorem tm {a b:Int} (ha:0<=a) (hb:0<b):0<=a.tmod b/\a.tmod b<b:=by
  rw [Int.tmod_eq_emod_of_nonneg ha]
  exact ⟨Int.emod_nonneg _ (by omega),Int.emod_lt_of_pos _ hb⟩
theorem LX {v k:Int} (hk:0<k/\k<=4611686018427387904):Ex (λr=>0<=r/\r<k) (zI v k):=by
  have h1:=Int.tmod_lt_of_pos v hk.1
  have h2:=Int.lt_tmod_of_pos v hk.1
  unfold zI aD3
  simp only [WT.run,bT]
  refine dO ?_
  repeat' with_reducible first | refine bG ?_ | refine dZ ?_ | apply aD | apply bK | apply dY | apply dN | apply eB | apply d9 | apply dV | apply dQ | apply dW | apply dU | refine aQ (λ_=>?_) λ_=>?_ | refine dK (λ_=>?_) λ_=>?_ | apply dF | apply bU | apply dA | apply bL | apply aG
  all_goals omega
def MN (m:fM):Prop:=qL m/\2<=m.gG
theorem Y3 {k c:Int} (hk:0<=k/\k<1073741824) (hc:c<=5):∀ (m:Nat) {n:Nat} {i:Int} {l:List Int},i+m=c->m<n->0<=i->(l.length:Int)=i->(∀ x∈l,0<=x/\x<=1073741824)->Ex (λr=>(r.length:Int)=c/\∀ x∈r,0<=x/\x<=1073741824) (yS k c n i l)
  | _,0,_,_,_,hn,_,_,_=>absurd hn (Nat.not_lt_zero _)
  | 0,n+1,i,l,hi,_,h0,hl,hb=>by
    unfold yS
    exact aD (aQ (λk=>absurd k (by omega)) λ_=>aG ⟨by omega,hb⟩)
  | m+1,n+1,i,l,hi,hn,h0,hl,hb=>by
    unfold yS
    have f1:=td (a:=k) (b:=24) hk.1 (by decide)
    have f2:=tm (a:=k.tdiv 24) (b:=7) f1.1 (by decide)
    refine aD (aQ (λ_=>?_) λh=>absurd (show i<c by omega) h)
    refine bG (aD (bG (aD (dO (bG ?_)))))
    exact Y3 hk hc m (i:=i+1) (by omega) (by omega) (by omega) (by simp;omega) (nE hb (by omega))
theorem aB5 {k c e:Int} (hk:0<=k/\k<1073741824) (hc:c<=5) (he:0<=e/\e<=4):∀ (m:Nat) {n:Nat} {i:Int} {l r:List Int},i+m=c->m<n->0<=i->(l.length:Int)=i->(r.length:Int)=i->(∀ x∈l,1<=x/\x<=4)->(∀ x∈r,0<=x/\x<=1073741824) ->
    Ex (λq=>((q.1.length:Int)=c/\∀ x∈q.1,1<=x/\x<=4)/\(q.2.length:Int)=c/\∀ x∈q.2,0<=x/\x<=1073741824) (xM k c e n i l r)
  | _,0,_,_,_,_,hn,_,_,_,_,_=>absurd hn (Nat.not_lt_zero _)
  | 0,n+1,i,l,r,hi,_,h0,hl,hr,hb,hd=>by
    unfold xM
    exact aD (aQ (λk=>absurd k (by omega)) λ_=>aG ⟨⟨by first | omega | (simp only;omega),hb⟩,by first | omega | (simp only;omega),hd⟩)
  | m+1,n+1,i,l,r,hi,hn,h0,hl,hr,hb,hd=>by
    unfold xM
    have f1:=td (a:=k) (b:=168) hk.1 (by decide)
    have f2:=td (a:=k) (b:=672) hk.1 (by decide)
    have f3:=tm (a:=k.tdiv 672) (b:=4) f2.1 (by decide)
    have f4:0<=e*(k.tdiv 672).tmod 4/\e*(k.tdiv 672).tmod 4<=16:=by
      refine ⟨Int.mul_nonneg he.1 f3.1,?_⟩
      have:e*(k.tdiv 672).tmod 4<=4*4:=Int.mul_le_mul (by omega) (by omega) f3.1 (by omega)
      omega
    have f5:=tm (a:=k.tdiv 168+i+e*(k.tdiv 672).tmod 4) (b:=4) (by omega) (by decide)
    have f6:=td (a:=k) (b:=2688) hk.1 (by decide)
    have f7:=tm (a:=k.tdiv 2688+7*i+e) (b:=40) (by omega) (by decide)
    refine aD (aQ (λ_=>?_) λh=>absurd (show i<c by omega) h)
    refine bG (bG (bG (aD (bG (bG (aD (bG (aD (dO (bG (bG (bG (bG (aD (aD (dO (bG ?_)))))))))))))))))
    exact aB5 hk hc he m (i:=i+1) (by omega) (by omega) (by omega) (by simp;omega) (by simp;omega) (nE hb (by omega)) (nE hd (by omega))
theorem ZA {k c es:Int} (hk:0<=k/\k<1073741824) (hc:0<=c/\c<=5) (he:es<=4):∀ (m:Nat) {n:Nat} {i:Int} {l r:List (List Int)},i+m=es->m+6<n->0<=i->(l.length:Int)=i->(r.length:Int)=i->(∀ x∈l,(x.length:Int)=c/\∀ y∈x,1<=y/\y<=4)->(∀ x∈r,(x.length:Int)=c/\∀ y∈x,0<=y/\y<=1073741824) ->
    Ex (λq=>((q.1.length:Int)=es/\∀ x∈q.1,(x.length:Int)=c/\∀ y∈x,1<=y/\y<=4)/\(q.2.length:Int)=es/\∀ x∈q.2,(x.length:Int)=c/\∀ y∈x,0<=y/\y<=1073741824) (yF k es c n i l r)
  | _,0,_,_,_,_,hn,_,_,_,_,_=>absurd hn (Nat.not_lt_zero _)
  | 0,n+1,i,l,r,hi,_,h0,hl,hr,hb,hd=>by
    unfold yF
    exact aD (aQ (λk=>absurd k (by omega)) λ_=>aG ⟨⟨by first | omega | (simp only;omega),hb⟩,by first | omega | (simp only;omega),hd⟩)
  | m+1,n+1,i,l,r,hi,hn,h0,hl,hr,hb,hd=>by
    unfold yF
    refine aD (aQ (λ_=>?_) λh=>absurd (show i<es by omega) h)
    refine aW (λ(q:List (List Int)×List (List Int))=>((q.1.length:Int)=i+1/\∀ x∈q.1,(x.length:Int)=c/\∀ y∈x,1<=y/\y<=4)/\(q.2.length:Int)=i+1/\∀ x∈q.2,(x.length:Int)=c/\∀ y∈x,0<=y/\y<=1073741824) ?_ λq hq=>bK (bG ?_)
    · refine aW _ (aB5 hk hc.2 ⟨h0,by omega⟩ c.toNat (i:=0) (by omega) (by omega) (by omega) rfl rfl (λ_ h=>nomatch h) (λ_ h=>nomatch h)) λq hq=>bK (aD (dO (aD (dO (aG ⟨⟨by simp;omega,nE hb hq.1⟩,by simp;omega,nE hd hq.2⟩)))))
    · exact ZA hk hc he m (i:=i+1) (by omega) (by omega) (by omega) hq.1.1 hq.2.1 hq.1.2 hq.2.2
theorem aMH {v:Int} {n:Nat} (hn:66<n):Ex MN (FX n v):=by
  unfold FX
  refine aW _ (LX (by decide)) λk hk=>?_
  have f1:=tm (a:=k) (b:=2) hk.1 (by decide)
  have f2:=td (a:=k) (b:=2) hk.1 (by decide)
  have f3:=tm (a:=k.tdiv 2) (b:=3) f2.1 (by decide)
  have f4:=td (a:=k) (b:=6) hk.1 (by decide)
  have f5:=tm (a:=k.tdiv 6) (b:=4) f4.1 (by decide)
  refine aD (bG (bG (aD (bG (bG (aD (bG ?_)))))))
  refine aW _ (Y3 hk (by omega) (2+(k.tdiv 2).tmod 3).toNat (i:=0) (by omega) (by omega) (by omega) rfl (λ_ h=>nomatch h)) λw hw=>?_
  refine aW _ (ZA hk (c:=2+(k.tdiv 2).tmod 3) (by omega) (by omega) (2+k.tmod 2).toNat (i:=0) (by omega) (by omega) (by omega) rfl rfl (λ_ h=>nomatch h) (λ_ h=>nomatch h)) λq hq=>bK (aG ?_)
  obtain ⟨⟨h1,h2⟩,h3,h4⟩:=hq
  exact ⟨⟨by simp only;omega,by simp only;omega,by simp only;omega,hw.2,h1,h3,λl hl=>⟨by have:=(h2 l hl).1;simp only;omega,(h2 l hl).2⟩,λl hl=>⟨by have:=(h4 l hl).1;simp only;omega,(h4 l hl).2⟩⟩,by simp only;omega⟩
theorem QW {l:List Int} {k lo hi:Int} {n:Nat} (hn:66<n) (hk:(l.length:Int)=k) (h60:l.length<=60) (hb:∀ x∈l,lo<=x/\x<=hi):BR n l k lo hi=some true:=by
  refine gF ?_
  unfold BR UN
  simp only [WT.run,bT]
  refine aD (aQ (λh=>absurd hk h) λ_=>?_)
  refine aW (λ(r:Unit⊕Bool)=>r=.inl ()) (gB (λ(i:Int)=>0<=i/\i<=(l.length:Int)) (λ(i:Int)=>l.length-i.toNat) ?_ (v:=0) ⟨by simp,by simp⟩ (by simp;omega)) λr hr=>by subst hr;exact dA (aG rfl)
  rintro i ⟨h0,h1⟩
  refine aD (aQ (λh=>?_) λh=>bL (dD rfl))
  have hx:l[i.toNat]?=some (l[i.toNat]'(by omega)):=List.getElem?_eq_getElem (by omega)
  generalize l[i.toNat]'(by omega)=x at hx
  have hxb:=hb x (fO hx)
  refine aW (λb=>b=false) (dB h0 hx (aD (aQ (λh=>absurd h (by omega)) λ_=>dB h0 hx (aD (aG (decide_eq_false (by omega))))))) λb hb2=>?_
  subst hb2
  exact bU (bG (dD ⟨⟨by omega,by omega⟩,by omega⟩))
theorem aAW {m:fM} {n:Nat} (hn:66<n) (h:qL m):E9 n m=some true:=by
  have h1:=h.xE;have h2:=h.iZ;have h3:=h.n1;have h4:=h.lm;have h5:=h.lc
  refine gF ?_
  unfold E9 W9
  simp only [WT.run,bT]
  refine aW (λb=>b=false) ?_ λb hb=>?_
  · refine aD (aQ (λh=>absurd h (by omega)) λ_=>?_)
    refine aD (aQ (λh=>absurd h (by omega)) λ_=>?_)
    refine aD (aQ (λh=>absurd h (by omega)) λ_=>?_)
    refine aD (aQ (λh=>absurd h (by omega)) λ_=>?_)
    refine aD (aQ (λh=>absurd h (by omega)) λ_=>?_)
    refine aD (aQ (λh=>absurd h (by omega)) λ_=>?_)
    refine x_eq (QW hn rfl (by omega) h.wei) (aD (dK (λk=>nomatch k) λ_=>?_))
    refine aD (aQ (λh=>absurd h (by omega)) λ_=>?_)
    exact aD (aG (decide_eq_false (by omega)))
  · subst hb
    refine bU (aW (λ(r:Unit⊕Bool)=>r=.inl ()) (gB (λ(i:Int)=>0<=i/\i<=m.gG) (λ(i:Int)=>m.gG.toNat-i.toNat) ?_ (v:=0) ⟨by simp,by omega⟩ (by simp;omega)) λr hr=>by subst hr;exact dA (aG rfl))
    rintro i ⟨a0,a1⟩
    refine aD (aQ (λk=>?_) λk=>bL (dD rfl))
    refine aW (λb=>b=false) (eZ a0 (by omega) λl hl=>?_) λb hb2=>?_
    · have g:=h.met l (fO hl)
      refine x_eq (QW hn (by omega) (by omega) g.2) (aD (dK (λk=>nomatch k) λ_=>eZ a0 (by omega) λr hr=>?_))
      have g2:=h.cos r (fO hr)
      exact x_eq (QW hn (by omega) (by omega) g2.2) (aD (aG rfl))
    · subst hb2
      exact bU (bG (dD ⟨⟨by omega,by omega⟩,by omega⟩))
end Go.Pv
