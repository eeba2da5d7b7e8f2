import Derived.Test.YtidcjedeacampaaGreatPO80
import Derived.Test.YtidcjedeacampaaGreatX80m
import Derived.Test.YtidcjedeacampaaGreatPvU
set_option linter.unusedVariables false
set_option linter.unusedSimpArgs false
namespace Go.Pv
open Go.Proofs
set_option maxRecDepth 1000000
set_option maxHeartbeats 1000000
theorem mJ {a b:Int} (h:0<=a/\a<=b):jV a b=some true:=by rw [qX,decide_eq_true h]
theorem KR {a:Int} (h:bN a):pI a=some true:=by rw [BX,decide_eq_true h]
theorem aJ6 {K:Int} {s:aB} {n:Nat} (h:Inv K s) (hn:66<n):IP n s=some true:=by
  have hf:=h.ss.toS0.iK
  have h1:=h.l1;have h2:=h.l2;have h3:=h.l3;have hE:=h.len
  unfold IP YS
  simp only [WT.run,bT]
  refine iB (by omega) (iB (by omega) (bZ (sD (l:=s.bX) (by omega) hn (λi x h0 hi hx=>?_) λi hi=>cK hi (bS rfl)) ?_))
  · have hk:=h.nO x (fO hx)
    unfold zD at hk
    obtain ⟨a1,a2,a3,a4,a5,a6,a7,a8⟩:=hk
    exact fD hi (eY (gU h0 hx (bZ (a:=false) (bZ (mJ (by omega)) (gN (bS (bZ (mJ (by omega)) (gN (bS (bZ (mJ (by omega)) (gN (bS (bZ (mJ (by omega)) (gN (bS (bZ (mJ (by omega)) (gN (bS (bZ (mJ (by omega)) (gN (bS (bZ (mJ (by omega)) (gN (bS (bZ (mJ (by omega)) (gN rfl))))))))))))))))))))))) (bS (iB (by omega) rfl)))))
  show Option.bind _ _=_
  refine bZ (sD (l:=s.dS) (by omega) hn (λi x h0 hi hx=>?_) λi hi=>cK hi (bS rfl)) ?_
  · have hk:=h.oD x (fO hx)
    unfold qJ at hk
    obtain ⟨a1,a2,a3,a4,a5,a6,a7,a8⟩:=hk
    exact fD hi (eY (gU h0 hx (bZ (a:=false) (bZ (mJ (by omega)) (gN (bS (bZ (mJ (by omega)) (gN (bS (bZ (mJ (by omega)) (gN (bS (bZ (mJ (by omega)) (gN (bS (bZ (mJ (by omega)) (gN (bS (bZ (mJ (by omega)) (gN (bS (bZ (KR a7) (gN (bS (iB (by omega) (bZ (mJ (by omega)) (gN rfl)))))))))))))))))))))))) (bS (iB (by omega) rfl)))))
  show Option.bind _ _=_
  refine bZ (sD (l:=s.dH) (by omega) hn (λi x h0 hi hx=>?_) λi hi=>cK hi (bS rfl)) ?_
  · have hk:=h.oO x (fO hx)
    unfold CE at hk
    obtain ⟨a1,a2,a3,a4,a5,a6⟩:=hk
    exact fD hi (eY (gU h0 hx (bZ (a:=false) (bZ (mJ (by omega)) (gN (bS (bZ (mJ (by omega)) (gN (bS (bZ (mJ (by omega)) (gN (bS (bZ (mJ (by omega)) (gN (bS (bZ (mJ (by omega)) (gN (bS (bZ (KR a6) (gN rfl))))))))))))))))) (bS (iB (by omega) rfl)))))
  exact bZ (a:=true) (fD (by omega) (eY (fD (by omega) (eY (fD (by omega) rfl))))) rfl
theorem OY {l:List Int} {k:Nat} {lo:Int} {n:Nat} (hk:l.length=k) (hl:l.length<=60) (hn:66<n) (h:∀ y∈l,lo<=y/\y<=288230376151711744):C8 n l k lo=some true:=by
  unfold C8 aEI
  simp only [WT.run,bT]
  refine cK (by omega) (bS (bZ (sD (l:=l) hl hn (λi x h0 hi hx=>?_) λi hi=>cK (by omega) (bS rfl)) rfl))
  have:=h x (fO hx)
  exact fD (by omega) (eY (bZ (a:=false) (gU h0 hx (cK (by omega) (bS (gU h0 hx (cK (by omega) rfl))))) (bS (iB (by omega) rfl))))
theorem q_in {s:aB} {e:Int} (he:0<=e/\e<(s.bA.length:Int)):wD s e=some true:=by
  unfold wD aBY
  simp only [WT.run,bT]
  exact bZ (a:=true) (fD he.1 (eY (fD he.2 rfl))) rfl
theorem aFP {m q:Int} {p:aS} {n:Nat} {r} (h1:0<=p.bC.a0/\p.bC.a0<=q) (h2:m≠3->p.bC.a0=0) (hq:q<=288230376151711744) (h:pF m p n (q-p.bC.a0) 1=r):pF m p (n+1) q 0=r:=by
  rw [pF]
  refine fD (by decide) (eY (bZ (a:=(Sum.inl (q-p.bC.a0):Int⊕(Unit⊕Bool))) (bZ (a:=false) (fD rfl (eY (cK (by omega) (bS (cK (by omega) (bS ?_)))))) (bS (fD rfl (eY (iB (by omega) rfl))))) (lW (iB (by decide) h))))
  by_cases k:m=3
  · exact cK (by omega) (bS rfl)
  · exact fD k (eY (cK (by have:=h2 k;omega) rfl))
theorem aOT {m q:Int} {p:aS} {n:Nat} {r} (h1:0<=p.bC.a1/\p.bC.a1<=q) (h2:m≠3->p.bC.a1=0) (hq:q<=288230376151711744) (h:pF m p n (q-p.bC.a1) 2=r):pF m p (n+1) q 1=r:=by
  rw [pF]
  refine fD (by decide) (eY (bZ (a:=(Sum.inl (q-p.bC.a1):Int⊕(Unit⊕Bool))) (bZ (a:=false) (cK (by decide) (bS (fD rfl (eY (cK (by omega) (bS (cK (by omega) (bS ?_)))))))) (bS (cK (by decide) (bS (fD rfl (eY (iB (by omega) rfl))))))) (lW (iB (by decide) h))))
  by_cases k:m=3
  · exact cK (by omega) (bS rfl)
  · exact fD k (eY (cK (by have:=h2 k;omega) rfl))
theorem aPR {m q:Int} {p:aS} {n:Nat} {r} (h1:0<=p.bC.a2/\p.bC.a2<=q) (h2:m≠3->p.bC.a2=0) (hq:q<=288230376151711744) (h:pF m p n (q-p.bC.a2) 3=r):pF m p (n+1) q 2=r:=by
  rw [pF]
  refine fD (by decide) (eY (bZ (a:=(Sum.inl (q-p.bC.a2):Int⊕(Unit⊕Bool))) (bZ (a:=false) (cK (by decide) (bS (cK (by decide) (bS (jR rfl (cK (by omega) (bS (cK (by omega) (bS ?_))))))))) (bS (cK (by decide) (bS (cK (by decide) (bS (jR rfl (iB (by omega) rfl)))))))) (lW (iB (by decide) h))))
  by_cases k:m=3
  · exact cK (by omega) (bS rfl)
  · exact fD k (eY (cK (by have:=h2 k;omega) rfl))
theorem SG {m:Int} {p:aS} {n:Nat} (hn:70<n) (h:PR m p):GQ n m p=some true:=by
  have hm:=h.mt;have h30:=nI h.ly
  have a0:=h.p0;have a1:=h.p1;have a2:=h.p2;have hs:=h.sum;have ho:=h.vX;have hQ:=h.ly.2.2.1
  obtain ⟨k,rfl⟩:∃ k,n=k+4:=⟨n-4,by omega⟩
  unfold GQ
  refine bZ (a:=false) (cK (by omega) (bS (cK (by omega) (bS ?_)))) (bS (bZ (y8 (by omega) h.ly) (bZ (a:=.inl ()) ?_ rfl)))
  · obtain ⟨b,hb,hc⟩:=BY (l:=p.aI) (n:=k+4) (by omega) (by omega)
    have:b=true:=hc.2 h.ly
    subst this
    refine bZ hb (gN (bS ?_))
    by_cases k1:m=1
    · exact cK (by omega) (bS rfl)
    · exact fD k1 (eY (cK (by have:=h.one k1;omega) rfl))
  · refine aFP (by simp only;omega) (λk=>(ho k).1) (by simp only;omega) (aOT (by simp only;omega) (λk=>(ho k).2.1) (by simp only;omega) (aPR (by simp only;omega) (λk=>(ho k).2.2) (by simp only;omega) ?_))
    rw [pF]
    exact cK (by decide) (bS rfl)
theorem aPL {m:fM} {bH:List Int} {x:aP} (hs:ES m.bW.length bH m.gZ x) {i:Int} (h0:0<=i) (hi:i<(x.bR.length:Int)):∃ t p,bH[(i.tdiv 2).toNat]?=some t/\x.bR[i.toNat]?=some p/\PR t p:=by
  have hl:=hs.lp;have hm:=hs.lm
  have e1:i.tdiv 2=i / 2:=Int.tdiv_eq_ediv_of_nonneg h0
  have hj:(i.tdiv 2).toNat<m.bW.length:=by omega
  have g1:=List.getElem?_eq_getElem (l:=bH) (i:=(i.tdiv 2).toNat) (by omega)
  have g2:=List.getElem?_eq_getElem (l:=x.bR) (i:=2*(i.tdiv 2).toNat) (by omega)
  have g3:=List.getElem?_eq_getElem (l:=x.bR) (i:=2*(i.tdiv 2).toNat+1) (by omega)
  have hp:=hs.BV _ _ _ _ g1 g2 g3
  rcases (show i.toNat=2*(i.tdiv 2).toNat\/i.toNat=2*(i.tdiv 2).toNat+1 by omega) with k | k
  · exact ⟨_,_,g1,(congrArg (x.bR[·]?) k).trans g2,hp.pp⟩
  · exact ⟨_,_,g1,(congrArg (x.bR[·]?) k).trans g3,hp.qq⟩
theorem aQC {m:fM} {bH:List Int} {x:aP} {e:Int} (h0:0<=e) (hm:m.Methods[e.toNat]?=some bH) (hs:ES m.bW.length bH m.gZ x) (hl:m.bW.length<=5):∀ (k n:Nat) (i:Int),0<=i->(x.bR.length:Int)<=i+k->k+71<n->yT m e x n i=some (.inl ()):=by
  have hlp:=hs.lp
  intro k
  induction k with
  | zero =>
    intro n i hi hk hn
    obtain ⟨n,rfl⟩:∃ j,n=j+1:=⟨n-1,by omega⟩
    rw [yT]
    exact cK (by omega) (bS rfl)
  | succ k ih =>
    intro n i hi hk hn
    obtain ⟨n,rfl⟩:∃ j,n=j+1:=⟨n-1,by omega⟩
    rw [yT]
    by_cases hc:i<(x.bR.length:Int)
    · obtain ⟨t,p,w1,w2,w3⟩:=aPL hs hi hc
      have e1:i.tdiv 2=i / 2:=Int.tdiv_eq_ediv_of_nonneg hi
      exact fD hc (eY (gU h0 hm (iB (by omega) (gU (by omega) w1 (gU hi w2 (bZ (SG (by omega) w3) (gN (bS (iB (by omega) (ih n (i+1) (by omega) (by omega) (by omega)))))))))))
    · exact cK hc (bS rfl)
theorem aTT {m:fM} {x:aP} {e:Int} {b:Bool} {v:iX} (hv:∀ y∈([v.a0,v.a1,v.a2,v.a3,v.a4,v.a5,v.a6,v.a7,v.a8,v.a9,v.jU]:List Int),bN y):∀ (k n:Nat) (i:Int),0<=i->(11:Int)<=i+k->k<n->xW m e x b v n i=some (.inl ()):=by
  intro k
  induction k with
  | zero =>
    intro n i hi hk hn
    obtain ⟨n,rfl⟩:∃ j,n=j+1:=⟨n-1,by omega⟩
    rw [xW]
    exact cK (by omega) (bS rfl)
  | succ k ih =>
    intro n i hi hk hn
    obtain ⟨n,rfl⟩:∃ j,n=j+1:=⟨n-1,by omega⟩
    rw [xW]
    by_cases hc:i<11
    · have g:=List.getElem?_eq_getElem (l:=([v.a0,v.a1,v.a2,v.a3,v.a4,v.a5,v.a6,v.a7,v.a8,v.a9,v.jU]:List Int)) (i:=i.toNat) (by simp;omega)
      exact fD hc (eY (jR ⟨hi,hc⟩ (gU hi g (bZ (KR (hv _ (fO g))) (gN (bS (iB (by omega) (ih n (i+1) (by omega) (by omega) (by omega)))))))))
    · exact cK hc (bS rfl)
theorem aTB (r:cB):xC r=some ⟨r.Open,r.jH,r.jL,r.jJ,r.jK,r.jG,r.jN,r.jE,r.jF,r.jM,r.jI⟩:=by
  unfold xC aC9
  simp only [WT.run,bT]
theorem aI2 {m:fM} {bH:List Int} {x:aP} {e:Int} {b:Bool} (hs:ES m.bW.length bH m.gZ x) (hl:m.bW.length<=5):∀ (k n:Nat) (i:Int),0<=i->(m.bW.length:Int)<=i+k->k+71<n->w9 m e x b n i=some (.inl ()):=by
  have hlr:=hs.lr
  intro k
  induction k with
  | zero =>
    intro n i hi hk hn
    obtain ⟨n,rfl⟩:∃ j,n=j+1:=⟨n-1,by omega⟩
    rw [w9]
    exact cK (by omega) (bS rfl)
  | succ k ih =>
    intro n i hi hk hn
    obtain ⟨n,rfl⟩:∃ j,n=j+1:=⟨n-1,by omega⟩
    rw [w9]
    by_cases hc:i<(m.bW.length:Int)
    · have g:=List.getElem?_eq_getElem (l:=x.dJ) (i:=i.toNat) (by omega)
      obtain ⟨c0,c1,c2,c3,c4,c5,c6,c7,c8,c9,c10⟩:=hs.roll _ (fO g)
      refine fD hc (eY (bZ (a:=(Sum.inl ():Unit⊕(Unit⊕Bool))) (gU hi g (bZ (aTB _) (bZ (aTT (λy hy=>?_) 11 n 0 (by omega) (by omega) (by omega)) rfl))) (lW (iB (by omega) (ih n (i+1) (by omega) (by omega) (by omega))))))
      simp only [List.mem_cons,List.not_mem_nil,or_false] at hy
      rcases hy with rfl | rfl | rfl | rfl | rfl | rfl | rfl | rfl | rfl | rfl | rfl <;> assumption
    · exact cK hc (bS rfl)
theorem TH {m:fM} {bH:List Int} {x:aP} {e:Int} {b:Bool} {n:Nat} (hM:qL m) (h0:0<=e) (hm:m.Methods[e.toNat]?=some bH) (hs:ES m.bW.length bH m.gZ x) (hn:90<n) :
    wL (n+1) m e x b=bnd (decide ((x.fZ.length:Int)=0)) λ(x46:Bool) =>
    cond x46 (bnd (!x.Closed) λ(x52:Bool) =>
    some ((x52:Bool))) ((show Option (Bool) from
    cond b (bnd x.Closed λ(x48:Bool) =>
    cond x48 (bnd (decide ((x.fZ.length:Int)=1)) λ(x49:Bool) =>
    cond x49 ((ix x.fZ 0).bind λ(x50:aP) =>
    (wL n m e x50 false).bind λ(x51:Bool) =>
    some (x51:Bool)) (some (false:Bool))) (some (false:Bool))) (some (false:Bool))).bind <| λ(y8_1:Bool) =>
    some ((y8_1:Bool))):=by
  have h1:=hs.now;have h2:=hs.lp;have h3:=hs.lr;have h4:=hs.lb;have h5:=hs.lc;have h6:=hs.ld;have hw:=hM.n1
  rw [wL]
  refine bZ (a:=false) (cK (by omega) (bS (cK (by omega) (bS (iB (by omega) (cK (by omega) (bS (cK (by omega) (bS (bZ (OY (k:=17) h4 (by omega) (by omega) λy hy=>hs.gW y hy) (gN (bS (bZ (OY (k:=m.bW.length) h5 (by omega) (by omega) hs.pri) (gN (bS (bZ (OY (k:=m.bW.length) h6 (by omega) (by omega) hs.DR) rfl)))))))))))))))) (bS ?_)
  exact bZ (aQC h0 hm hs hw.2 10 n 0 (by omega) (by omega) (by omega)) (bZ (aI2 hs hw.2 5 n 0 (by omega) (by omega) (by omega)) rfl)
theorem aEV {m:fM} {bH:List Int} {x:aP} {e:Int} {n:Nat} (hM:qL m) (h0:0<=e) (hm:m.Methods[e.toNat]?=some bH) (hs:EI m bH x) (hn:100<n):wL n m e x true=some true:=by
  obtain ⟨n,rfl⟩:∃ j,n=j+2:=⟨n-2,by omega⟩
  rcases hs with h | ⟨y,h⟩
  · rw [TH hM h0 hm h.es (by omega)]
    have:=h.mH;have:=h.opn
    refine fD (by simp [*]) (eY ?_)
    rw [h.opn];rfl
  · rw [TH hM h0 hm h.es (by omega)]
    refine cK (by rw [h.mH];simp) (bS (bZ (a:=true) (eY ?_) rfl))
    rw [h.MW,h.mH]
    refine gN (eY (fD rfl (eY (gU (by decide) rfl (bZ (a:=true) ?_ rfl)))))
    rw [TH hM h0 hm h.eo.es (by omega)]
    refine fD (by rw [h.eo.mH];rfl) (eY ?_)
    rw [h.eo.opn];rfl
theorem aGS {l:List aS} {i:Nat} {p q:aS} (hp:l[2*i]?=some p) (hq:l[2*i+1]?=some q):sV (l.drop (2*i))=tV p.aI+tV q.aI+sV (l.drop (2*(i+1))):=by
  have e1:sV (l.drop (2*i))=tV p.aI+sV (l.drop (2*i+1)):=wS _ hp
  have e2:sV (l.drop (2*i+1))=tV q.aI+sV (l.drop (2*i+1+1)):=wS _ hq
  rw [e1,e2,show 2*(i+1)=2*i+1+1 by omega];omega
theorem aO0 {s:aB} {n:Nat} (hn:66<n) (hl:s.bX.length<=40) (hp:∀ r∈s.bX,0<=r.jW) (e:Int) {P:Bool->Prop} {f:List Int->Option Bool} (k:∀ l:List Int,l.length<=40->(∀ y∈l,0<=y)->(0<=e->cZ l=eD (jO e.toNat) s.bX)->Ex P (f l)) :
    Ex P ((iter (λ(v:Int×List Int)=>p2 (λ(a:Int) (b:List Int)=>bnd (decide (a<(s.bX.length:Int))) λ(x:Bool)=>cond x (((ix s.bX a).bind λ(x:dX)=>bnd (decide (x.fU=e)) λ(x_1:Bool)=>cond x_1 ((ix s.bX a).bind λ(x:dX)=>bnd (b++[x.jW]) λ(x:List Int)=>gV (x.length<=68719476736) (some x)) (some b)).bind λ(y:List Int)=>bnd (bE (a+1)) λ(x:Int)=>brk (x,y)) (esc (some b))) v) n (0,[])).bind f):=by
  refine aW (λ(l:List Int)=>l.length<=40/\(∀ y∈l,0<=y)/\(0<=e->cZ l=eD (jO e.toNat) s.bX)) (gB (λ(v:Int×List Int)=>0<=v.1/\v.1<=(s.bX.length:Int)/\(v.2.length:Int)<=v.1/\(∀ y∈v.2,0<=y)/\(0<=e->cZ v.2+eD (jO e.toNat) (s.bX.drop v.1.toNat)=eD (jO e.toNat) s.bX)) (λ(v:Int×List Int)=>s.bX.length-v.1.toNat) ?_ (v:=(0,[])) ⟨by simp,by simp,by simp,(λ_ h=>nomatch h),λ_=>by simp [cZ,eD]⟩ (by simp;omega)) λl hl=>k l hl.1 hl.2.1 hl.2.2
  rintro ⟨i,l⟩ ⟨a1,a2,a3,a4,a5⟩
  simp only at a1 a2 a3 a4 a5
  refine bK (aD (aQ (λk=>?_) λk=>bL (aG ⟨by first | omega | (simp only;omega),a4,λhe=>?_⟩)))
  · have k:i<(s.bX.length:Int):=k
    refine aW (λ(l':List Int)=>(l'.length:Int)<=i+1/\(∀ y∈l',0<=y)/\(0<=e->cZ l'+eD (jO e.toNat) (s.bX.drop (i.toNat+1))=eD (jO e.toNat) s.bX)) (eZ a1 k λr hr=>?_) λl' hl'=>bG (dD ⟨⟨by first | omega | (simp only;omega),by first | omega | (simp only;omega),hl'.1,hl'.2.1,λhe=>?_⟩,by first | omega | (simp only;omega)⟩)
    · have hr:s.bX[i.toNat]?=some r:=hr
      have e1:=wS (jO e.toNat) hr
      refine aD (aQ (λke=>dB a1 hr (aD (dO (aG ⟨by simp;omega,nE a4 (hp r (fO hr)),λhe=>?_⟩)))) λke=>aG ⟨by first | omega | (simp only;omega),a4,λhe=>?_⟩)
      · have:=a5 he
        have e2:jO e.toNat r=r.jW:=by unfold jO;rw [if_pos (by omega)]
        rw [EU]
        have:cZ [r.jW]=r.jW:=by simp [cZ,eD]
        show cZ l+cZ [r.jW]+eD (jO e.toNat) (s.bX.drop (i.toNat+1))=eD (jO e.toNat) s.bX
        omega
      · have:=a5 he
        have e2:jO e.toNat r=0:=by unfold jO;rw [if_neg (by omega)]
        show cZ l+eD (jO e.toNat) (s.bX.drop (i.toNat+1))=eD (jO e.toNat) s.bX
        omega
    · have:=hl'.2.2 he
      show cZ l'+eD (jO e.toNat) (s.bX.drop (i+1).toNat)=_
      rw [show (i+1).toNat=i.toNat+1 by omega];exact this
  · have k:¬ i<(s.bX.length:Int):=k
    have:=a5 he
    rw [List.drop_eq_nil_of_le (by omega)] at this
    have z:eD (jO e.toNat) ([]:List dX)=0:=rfl
    show cZ l=eD (jO e.toNat) s.bX
    omega
theorem aUE {s:aB} {n:Nat} (hn:66<n) (hl:s.dH.length<=40) (hp:∀ r∈s.dH,0<=r.Value) (e:Int) {P:Bool->Prop} {f:List Int->Option Bool} (k:∀ l:List Int,l.length<=40->(∀ y∈l,0<=y)->(0<=e->cZ l=eD (iV e.toNat) s.dH)->Ex P (f l)) :
    Ex P ((iter (λ(v:Int×List Int)=>p2 (λ(a:Int) (b:List Int)=>bnd (decide (a<(s.dH.length:Int))) λ(x:Bool)=>cond x (((ix s.dH a).bind λ(x:fP)=>bnd (decide (x.To=e)) λ(x_1:Bool)=>cond x_1 ((ix s.dH a).bind λ(x:fP)=>bnd (b++[x.Value]) λ(x:List Int)=>gV (x.length<=68719476736) (some x)) (some b)).bind λ(y:List Int)=>bnd (bE (a+1)) λ(x:Int)=>brk (x,y)) (esc (some b))) v) n (0,[])).bind f):=by
  refine aW (λ(l:List Int)=>l.length<=40/\(∀ y∈l,0<=y)/\(0<=e->cZ l=eD (iV e.toNat) s.dH)) (gB (λ(v:Int×List Int)=>0<=v.1/\v.1<=(s.dH.length:Int)/\(v.2.length:Int)<=v.1/\(∀ y∈v.2,0<=y)/\(0<=e->cZ v.2+eD (iV e.toNat) (s.dH.drop v.1.toNat)=eD (iV e.toNat) s.dH)) (λ(v:Int×List Int)=>s.dH.length-v.1.toNat) ?_ (v:=(0,[])) ⟨by simp,by simp,by simp,(λ_ h=>nomatch h),λ_=>by simp [cZ,eD]⟩ (by simp;omega)) λl hl=>k l hl.1 hl.2.1 hl.2.2
  rintro ⟨i,l⟩ ⟨a1,a2,a3,a4,a5⟩
  simp only at a1 a2 a3 a4 a5
  refine bK (aD (aQ (λk=>?_) λk=>bL (aG ⟨by first | omega | (simp only;omega),a4,λhe=>?_⟩)))
  · have k:i<(s.dH.length:Int):=k
    refine aW (λ(l':List Int)=>(l'.length:Int)<=i+1/\(∀ y∈l',0<=y)/\(0<=e->cZ l'+eD (iV e.toNat) (s.dH.drop (i.toNat+1))=eD (iV e.toNat) s.dH)) (eZ a1 k λr hr=>?_) λl' hl'=>bG (dD ⟨⟨by first | omega | (simp only;omega),by first | omega | (simp only;omega),hl'.1,hl'.2.1,λhe=>?_⟩,by first | omega | (simp only;omega)⟩)
    · have hr:s.dH[i.toNat]?=some r:=hr
      have e1:=wS (iV e.toNat) hr
      refine aD (aQ (λke=>dB a1 hr (aD (dO (aG ⟨by simp;omega,nE a4 (hp r (fO hr)),λhe=>?_⟩)))) λke=>aG ⟨by first | omega | (simp only;omega),a4,λhe=>?_⟩)
      · have:=a5 he
        have e2:iV e.toNat r=r.Value:=by unfold iV;rw [if_pos (by omega)]
        rw [EU]
        have:cZ [r.Value]=r.Value:=by simp [cZ,eD]
        show cZ l+cZ [r.Value]+eD (iV e.toNat) (s.dH.drop (i.toNat+1))=eD (iV e.toNat) s.dH
        omega
      · have:=a5 he
        have e2:iV e.toNat r=0:=by unfold iV;rw [if_neg (by omega)]
        show cZ l+eD (iV e.toNat) (s.dH.drop (i.toNat+1))=eD (iV e.toNat) s.dH
        omega
    · have:=hl'.2.2 he
      show cZ l'+eD (iV e.toNat) (s.dH.drop (i+1).toNat)=_
      rw [show (i+1).toNat=i.toNat+1 by omega];exact this
  · have k:¬ i<(s.dH.length:Int):=k
    have:=a5 he
    rw [List.drop_eq_nil_of_le (by omega)] at this
    have z:eD (iV e.toNat) ([]:List fP)=0:=rfl
    show cZ l=eD (iV e.toNat) s.dH
    omega
theorem Inv.see {K:Int} {s:aB} (h:Inv K s) {e:Int} (he:0<=e/\e<(s.bA.length:Int)):∃ x bH,s.bA[e.toNat]?=some x/\s.bF.Methods[e.toNat]?=some bH/\ES s.bF.bW.length bH s.bF.gZ x/\EB x:=by
  have hx:s.bA[e.toNat]?=some (s.bA[e.toNat]'(by omega)):=List.getElem?_eq_getElem (by omega)
  obtain ⟨bH,hm,_,_,hes⟩:=h.ss.bH hx
  refine ⟨_,bH,hx,hm,hes,?_⟩
  rcases h.ent _ _ _ hx hm with g | ⟨y,g⟩
  · exact g.ee
  · exact g.ee
theorem ES.sv0 {n:Nat} {bH:List Int} {iZ:Int} {x:aP} (h:ES n bH iZ x):0<=sV x.bR:=vU λp hp=>(jA (h.pr p hp)).2.1.1
theorem X5 {s:aB} (h:SS s) {n:Nat} (hn:66<n) {e i:Int} {x:aP} (ht:iH s e i) (hx:s.bA[e.toNat]?=some x) (hv:sV x.bR<=288230376151711744):∃ p q,x.bR[2*i.toNat]?=some p/\x.bR[2*i.toNat+1]?=some q/\xN n s e i=some ⟨tQ p.aI+tQ q.aI,tV p.aI+tV q.aI,tP p.aI+tP q.aI⟩/\0<=tV p.aI+tV q.aI:=by
  obtain ⟨bH,g1,g2,g3,hes⟩:=h.bH hx
  have ht2:=ht.2
  obtain ⟨m,p,q,w1,w2,w3,w4,w5,w6⟩:=hes.PK hv (i:=i.toNat) (by omega)
  have w2:x.bR[2*i.toNat]?=some p:=w2
  have w3:x.bR[2*i.toNat+1]?=some q:=w3
  exact ⟨p,q,w2,w3,PN hn h ht hx w2 w3 w4 w5,w6⟩
theorem aRH {s:aB} (h:SS s) {n:Nat} (hn:66<n) {e:Int} {x:aP} (he:0<=e/\e<(s.bA.length:Int)) (hx:s.bA[e.toNat]?=some x) (hv:sV x.bR<=288230376151711744):KL n s e=some (sV x.bR):=by
  have hf:=h.toS0.iK
  obtain ⟨bH,g1,g2,g3,hes⟩:=h.bH hx
  have hlp:x.bR.length=2*s.bF.bW.length:=hes.lp
  refine gF ?_
  unfold KL XK
  simp only [WT.run,bT]
  refine aW (λ(l:List Int)=>l.length<=5/\(∀ y∈l,0<=y)/\cZ l=sV x.bR) (gB (λ(v:Int×List Int)=>0<=v.1/\v.1<=(s.bF.bW.length:Int)/\(v.2.length:Int)=v.1/\(∀ y∈v.2,0<=y)/\cZ v.2+sV (x.bR.drop (2*v.1.toNat))=sV x.bR) (λ(v:Int×List Int)=>s.bF.bW.length-v.1.toNat) ?_ (v:=(0,[])) ⟨by simp,by simp,rfl,(λ_ h=>nomatch h),by simp [cZ,eD]⟩ (by simp;omega)) λl hl=>?_
  · rintro ⟨i,l⟩ ⟨a1,a2,a3,a4,a5⟩
    simp only at a1 a2 a3 a4 a5
    refine bK (aD (aQ (λk=>?_) λk=>bL (aG ⟨by first | omega | (simp only;omega),a4,?_⟩)))
    · have k:i<(s.bF.bW.length:Int):=k
      obtain ⟨p,q,w1,w2,w3,w4⟩:=X5 h hn (i:=i) ⟨he,a1,k⟩ hx hv
      refine x_eq w3 (aD (dO (bG (dD ⟨⟨by first | omega | (simp only;omega),by first | omega | (simp only;omega),by simp;omega,nE a4 w4,?_⟩,by first | omega | (simp only;omega)⟩))))
      have e1:=aGS w1 w2
      show cZ (l++[tV p.aI+tV q.aI])+sV (x.bR.drop (2*(i+1).toNat))=sV x.bR
      rw [EU,show (i+1).toNat=i.toNat+1 by omega]
      have:cZ [tV p.aI+tV q.aI]=tV p.aI+tV q.aI:=by simp [cZ,eD]
      omega
    · have k:¬ i<(s.bF.bW.length:Int):=k
      rw [List.drop_eq_nil_of_le (by omega)] at a5
      have:sV []=0:=rfl
      first | omega | (simp only;omega)
  · refine x_eq (uM (by omega) (by omega)) (aG ?_)
    rw [MI hl.2.1 (by omega)];exact hl.2.2
theorem aR0 {s:aB} (h:SS s) {n:Nat} (hn:66<n) {e:Int} {x:aP} (he:0<=e/\e<(s.bA.length:Int)) (hx:s.bA[e.toNat]?=some x) (hb:x.dI.length=17) (hv:0<=sV x.bR/\sV x.bR<=288230376151711744):EZ n s e=some (decide (sV x.bR=bl x 0)):=by
  refine gF ?_
  unfold EZ UF
  simp only [WT.run,bT]
  refine aW (λ(b:Bool)=>b=decide (sV x.bR=bl x 0)) (x_eq (q_in he) (dF (x_eq (aRH h hn he hx hv.2) (dB he.1 hx (eZ (by decide) (by omega) λv hv=>aD (aG ?_)))))) λb hb=>aG hb
  have hv:x.dI[0]?=some v:=hv
  unfold bl;rw [getD_at hv]
theorem aFJ {s:aB} {n:Nat} (hn:66<n) (hl:s.bX.length<=40) (hp:∀ r∈s.bX,0<=r.jW) {e:Int} {x:aP} (he:0<=e/\e<(s.bA.length:Int)) (hx:s.bA[e.toNat]?=some x) (hb:x.dI.length=17) (hb1:bN (bl x 1)) (hv:eD (jO e.toNat) s.bX<=288230376151711744):DV n s e=some (decide (eD (jO e.toNat) s.bX=-bl x 1)):=by
  refine gF ?_
  unfold DV Y1
  simp only [WT.run,bT]
  refine aO0 hn hl hp e λl h1 h2 h3=>?_
  have h3:=h3 he.1
  refine x_eq (uM (by omega) (by omega)) ?_
  rw [MI h2 (by omega)]
  unfold bN at hb1
  refine aW (λ(b:Bool)=>b=decide (eD (jO e.toNat) s.bX=-bl x 1)) (x_eq (q_in he) (dF (aD (aQ (λ_=>dB he.1 hx (eZ (by decide) (by omega) λv hv=>?_)) λk=>absurd rfl k)))) λb hb=>aG hb
  have hv:x.dI[1]?=some v:=hv
  have e1:bl x 1=v:=by unfold bl;rw [getD_at hv]
  refine bG (aD (aG ?_))
  exact decide_eq_decide.2 (by simp only;omega)
theorem aPH {s:aB} {n:Nat} (hn:66<n) (hl:s.dH.length<=40) (hp:∀ r∈s.dH,0<=r.Value) {e:Int} {x:aP} (he:0<=e/\e<(s.bA.length:Int)) (hx:s.bA[e.toNat]?=some x) (hb:x.dI.length=17) (hv:eD (iV e.toNat) s.dH<=288230376151711744):HY n s e=some (decide (eD (iV e.toNat) s.dH=bl x 12)):=by
  refine gF ?_
  unfold HY aBU
  simp only [WT.run,bT]
  refine aUE hn hl hp e λl h1 h2 h3=>?_
  have h3:=h3 he.1
  refine x_eq (uM (by omega) (by omega)) ?_
  rw [MI h2 (by omega)]
  refine aW (λ(b:Bool)=>b=decide (eD (iV e.toNat) s.dH=bl x 12)) (x_eq (q_in he) (dF (aD (aQ (λ_=>dB he.1 hx (eZ (by decide) (by omega) λv hv=>aD (aG ?_))) λk=>absurd rfl k)))) λb hb=>aG hb
  have hv:x.dI[12]?=some v:=hv
  have e1:bl x 12=v:=by unfold bl;rw [getD_at hv]
  exact decide_eq_decide.2 (by simp only;omega)
theorem aH6 {s:aB} {n:Nat} (hn:66<n) {e:Int} {x:aP} (he:0<=e/\e<(s.bA.length:Int)) (hx:s.bA[e.toNat]?=some x) (hb:x.dI.length=17) (hb1:bN (bl x 11)) (hd:x.Down.length<=5) (hp:∀ y∈x.Down,0<=y) (hv:cZ x.Down<=288230376151711744):FP n s e=some (decide (cZ x.Down=-bl x 11)):=by
  refine gF ?_
  unfold FP Y8
  simp only [WT.run,bT]
  unfold bN at hb1
  refine x_eq (q_in he) (aD (bU (dB he.1 hx (x_eq (uM (by omega) (by omega)) ?_))))
  rw [MI hp hv]
  refine aW (λ(b:Bool)=>b=decide (cZ x.Down=-bl x 11)) (aD (aQ (λ_=>dB he.1 hx (eZ (by decide) (by omega) λv hv=>?_)) λk=>absurd rfl k)) λb hb=>aG hb
  have hv:x.dI[11]?=some v:=hv
  have e1:bl x 11=v:=by unfold bl;rw [getD_at hv]
  refine bG (aD (aG ?_))
  exact decide_eq_decide.2 (by simp only;omega)
theorem aNW {s:aB} (h:SS s) {n:Nat} (hn:66<n) {e i:Int} {x:aP} {r:cB} (ht:iH s e i) (hx:s.bA[e.toNat]?=some x) (hr:x.dJ[i.toNat]?=some r) (hv:sV x.bR<=288230376151711744):∃ p q,x.bR[2*i.toNat]?=some p/\x.bR[2*i.toNat+1]?=some q/\D6 n s e i=some (decide (lD r=tV p.aI+tV q.aI)):=by
  obtain ⟨p,q,w1,w2,w3,w4⟩:=X5 h hn ht hx hv
  obtain ⟨bH,g1,g2,g3,hes⟩:=h.bH hx
  have hlr:x.dJ.length=s.bF.bW.length:=hes.lr
  obtain ⟨i1,i2,i3,i4,i5,i6,i7,i8,i9,i10,i11⟩:=hes.roll r (fO (l:=x.dJ) hr)
  unfold bN at i1 i2 i3 i4 i5 i6 i7 i8 i9 i10 i11
  have t1:=ht.1;have t2:=ht.2
  refine ⟨p,q,w1,w2,gF ?_⟩
  unfold D6 UG
  simp only [WT.run,bT]
  refine aW (λb=>b=false) (x_eq (q_in t1) (aD (bU (aD (aQ (λh=>absurd h (by omega)) λ_=>dB t1.1 hx (aD (aG (decide_eq_false (by omega))))))))) λb hb=>?_
  subst hb
  refine bU (dB t1.1 hx (dB t2.1 hr ?_))
  refine bG (bG (bG (bG (bG (bG (bG (bG (bG (bG (x_eq w3 (aD (aG ?_))))))))))))
  rfl
theorem aSV {l:List Int} {n:Nat} (hn:66<n) (hl:l.length=17) (hw:∀ x∈l,bN x):Ex (λr=>r.2.2=0/\r.1-r.2.1=cZ l) (NE n l):=by
  unfold NE TP
  simp only [WT.run,bT]
  refine aD (aQ (λk=>absurd (by omega) k) λ_=>?_)
  refine aW (λ(r:(Int×Int)⊕(Int×Int×Int))=>∃ q,r=.inl q/\q.1-q.2=cZ l)
    (gB (λ(v:Int×Int×Int)=>0<=v.2.2/\v.2.2<=17/\(0<=v.1/\v.1<=288230376151711744*v.2.2)/\(0<=v.2.1/\v.2.1<=288230376151711744*v.2.2)/\v.1-v.2.1+cZ (l.drop v.2.2.toNat)=cZ l) (λ(v:Int×Int×Int)=>17-v.2.2.toNat) ?_ (v:=(0,0,0)) ⟨by simp,by simp,by simp,by simp,by simp⟩ (by simp;omega)) λr hr=>?_
  · rintro ⟨d,c,i⟩ ⟨a1,a2,a3,a4,a5⟩
    simp only at a1 a2 a3 a4 a5
    refine bK (bK (aD (aQ (λk=>?_) λk=>bL (dD ?_))))
    · have k:i<(l.length:Int):=k
      have hx:l[i.toNat]?=some (l[i.toNat]'(by omega)):=List.getElem?_eq_getElem (by omega)
      generalize l[i.toNat]'(by omega)=x at hx
      have e1:=SB hx
      have hin:=hw x (fO hx)
      have hin2:=hin
      unfold bN at hin
      refine aW (λ(r:(Int×Int)⊕((Int×Int×Int)⊕((Int×Int)⊕(Int×Int×Int))))=>∃ q,r=.inl q/\(0<=q.1/\q.1<=288230376151711744*(i+1))/\(0<=q.2/\q.2<=288230376151711744*(i+1))/\q.1-q.2+cZ (l.drop (i.toNat+1))=cZ l) (dB a1 hx (x_eq (KR hin2) (aD (bU (dB a1 hx ?_))))) λr hr=>?_
      · refine aD (aQ (λ_=>dB a1 hx (bG (dD ⟨_,rfl,by first | omega | (simp only;omega),by first | omega | (simp only;omega),by first | omega | (simp only;omega)⟩))) λ_=>dB a1 hx (bG (dD ⟨_,rfl,by first | omega | (simp only;omega),by first | omega | (simp only;omega),by first | omega | (simp only;omega)⟩)))
      · obtain ⟨q,rfl,q1,q2,q3⟩:=hr
        refine dA (bK (bG (dD ⟨⟨by first | omega | (simp only;omega),by first | omega | (simp only;omega),q1,q2,?_⟩,by first | omega | (simp only;omega)⟩)))
        show q.1-q.2+cZ (l.drop (i+1).toNat)=cZ l
        rw [show (i+1).toNat=i.toNat+1 by omega];exact q3
    · have k:¬ i<(l.length:Int):=k
      rw [List.drop_eq_nil_of_le (by omega)] at a5
      have:cZ []=0:=rfl
      exact ⟨_,rfl,by first | omega | (simp only;omega)⟩
  · obtain ⟨q,rfl,q1⟩:=hr
    exact dA (bK (aG ⟨rfl,q1⟩))
theorem aS1 {s:aB} {n:Nat} (hn:66<n) {e:Int} {x:aP} (he:0<=e/\e<(s.bA.length:Int)) (hx:s.bA[e.toNat]?=some x) (hb:x.dI.length=17) (hw:∀ y∈x.dI,bN y) (h0:cZ x.dI=0):G8 n s e=some true:=by
  refine gF ?_
  unfold G8 UH
  simp only [WT.run,bT]
  refine x_eq (q_in he) (aD (bU (dB he.1 hx (aW _ (aSV hn hb hw) λr hr=>?_))))
  exact aW (λb=>b=true) (aD (aQ (λ_=>aD (aG (decide_eq_true (by have:=hr.2;omega)))) λk=>absurd hr.1 k)) λb hb=>aG hb
theorem aPW {s:aB} {n:Nat} (hn:66<n) (h4:s.bA.length<=4) (hb:∀ x∈s.bA,x.dI.length=17/\bN (bl x 13)/\bN (bl x 14)):GZ n s=some (decide (eD lC s.bA=0)):=by
  refine gF ?_
  unfold GZ aAO
  simp only [WT.run,bT]
  refine aW (λ(r:Int)=>r=eD lC s.bA) (gB (λ(v:Int×Int)=>0<=v.2/\v.2<=(s.bA.length:Int)/\(-1152921504606846976*v.2<=v.1/\v.1<=1152921504606846976*v.2)/\v.1+eD lC (s.bA.drop v.2.toNat)=eD lC s.bA) (λ(v:Int×Int)=>s.bA.length-v.2.toNat) ?_ (v:=(0,0)) ⟨by simp,by simp,by simp,by simp⟩ (by simp;omega)) λr hr=>by subst hr;exact aD (aG rfl)
  rintro ⟨t,i⟩ ⟨a1,a2,a3,a4⟩
  simp only at a1 a2 a3 a4
  refine bK (aD (aQ (λk=>?_) λk=>bL (aG ?_)))
  · have k:i<(s.bA.length:Int):=k
    have hx:s.bA[i.toNat]?=some (s.bA[i.toNat]'(by omega)):=List.getElem?_eq_getElem (by omega)
    generalize s.bA[i.toNat]'(by omega)=x at hx
    obtain ⟨b1,b2,b3⟩:=hb x (fO hx)
    unfold bN at b2 b3
    have e1:=wS lC hx
    have eg:lC x=bl x 13+bl x 14:=rfl
    refine dB a1 hx (eZ (by decide) (by omega) λu hu=>?_)
    have eu:bl x 13=u:=by have hu:x.dI[13]?=some u:=hu;unfold bl;rw [getD_at hu]
    refine bG (dB a1 hx (eZ (by decide) (by omega) λw hw=>?_))
    have ew:bl x 14=w:=by have hw:x.dI[14]?=some w:=hw;unfold bl;rw [getD_at hw]
    refine bG (bG (dD ⟨⟨by first | omega | (simp only;omega),by first | omega | (simp only;omega),by first | omega | (simp only;omega),?_⟩,by first | omega | (simp only;omega)⟩))
    show t+u+w+eD lC (s.bA.drop (i+1).toNat)=_
    rw [show (i+1).toNat=i.toNat+1 by omega];omega
  · have k:¬ i<(s.bA.length:Int):=k
    rw [List.drop_eq_nil_of_le (by omega)] at a4
    have:eD lC ([]:List aP)=0:=rfl
    first | omega | (simp only;omega)
structure aGV (s:aB) (n:Nat) (e:Int):Prop where
  c:EZ n s e=some true
  a:DV n s e=some true
  w:HY n s e=some true
  d:FP n s e=some true
  b:G8 n s e=some true
  r:∀ i,0<=i/\i<(s.bF.bW.length:Int)->D6 n s e i=some true
theorem Inv.aPF {K:Int} {s:aB} (h:Inv K s) {n:Nat} (hn:66<n) {e:Int} (he:0<=e/\e<(s.bA.length:Int)):aGV s n e:=by
  obtain ⟨x,bH,hx,hm,hes,heb⟩:=h.see he
  have hsp:=h.ss
  have hsv:=heb.x.iK hes
  have hl:=hes.iK h.ss.toS0.iK.2.2
  have hlr:=hes.lr
  have c1:=DC hes 1 (by decide);have c11:=DC hes 11 (by decide)
  have b1:=c1;have b11:=c11;have b12:=DC hes 12 (by decide)
  unfold bN at b1 b11 b12
  have ha:=h.acc _ _ hx;have hw:=h.way _ _ hx
  refine ⟨?_,?_,?_,?_,?_,?_⟩
  · rw [aR0 hsp hn he hx hes.lb ⟨hes.sv0,hsv⟩,decide_eq_true heb.ctl]
  · rw [aFJ hn h.l1 (λr hr=>by obtain ⟨_,_,_,_,_,_,g,_⟩:=h.nO r hr;exact g.1) he hx hes.lb c1 (by omega),decide_eq_true ha]
  · rw [aPH hn h.l3 (λr hr=>by obtain ⟨_,_,_,_,g,_⟩:=h.oO r hr;exact g.1) he hx hes.lb (by omega),decide_eq_true hw]
  · rw [aH6 hn he hx hes.lb c11 hl.2.2.2.2 (λy hy=>(hes.DR y hy).1) (by have:=heb.qW;omega),decide_eq_true heb.qW]
  · exact aS1 hn he hx hes.lb hes.gW heb.rE
  · intro i hi
    have hr:x.dJ[i.toNat]?=some (x.dJ[i.toNat]'(by omega)):=List.getElem?_eq_getElem (by omega)
    generalize x.dJ[i.toNat]'(by omega)=r at hr
    obtain ⟨p,q,w1,w2,w3⟩:=aNW hsp hn ⟨he,hi⟩ hx hr hsv
    rw [w3,decide_eq_true (heb.o6 _ r p q hr w1 w2)]
theorem Inv.aLY {K:Int} {s:aB} (h:Inv K s) {n:Nat} (hn:66<n):GZ n s=some true:=by
  rw [aPW hn h.ss.toS0.iK.1 ?_,decide_eq_true h.zF]
  intro x hx
  obtain ⟨k,hk⟩:=List.getElem?_of_mem hx
  obtain ⟨bH,hm,_,_,hes⟩:=h.ss.bH hk
  exact ⟨hes.lb,DC hes 13 (by decide),DC hes 14 (by decide)⟩
theorem aU1 {K:Int} {s:aB} (h:Inv K s) (hK:K<=1000000) {n:Nat} (hn:200<n):ND n s=some true:=by
  have hf:=h.ss.toS0.iK
  have hd:=h.zM;have hl:=h.len
  refine gF ?_
  unfold ND aA8
  simp only [WT.run,bT]
  refine aW (λb=>b=false) (x_eq (aAW (by omega) h.kF) (aD (bU (aD (aQ (λk=>absurd hl k) λ_=>x_eq (mJ (by omega)) (aD (bU (x_eq (aJ6 h (by omega)) (aD (aG rfl)))))))))) λb hb=>?_
  subst hb
  refine bU (aW (λ(r:Unit⊕Bool)=>r=.inl ()) (gB (λ(i:Int)=>0<=i/\i<=(s.bA.length:Int)) (λ(i:Int)=>s.bA.length-i.toNat) ?_ (v:=0) ⟨by simp,by simp⟩ (by simp;omega)) λr hr=>by subst hr;exact dA (aG rfl))
  rintro i ⟨h0,h1⟩
  refine aD (aQ (λk=>?_) λ_=>bL (dD rfl))
  have hx:s.bA[i.toNat]?=some (s.bA[i.toNat]'(by omega)):=List.getElem?_eq_getElem (by omega)
  generalize s.bA[i.toNat]'(by omega)=x at hx
  obtain ⟨bH,hm,_,_,hes⟩:=h.ss.bH hx
  exact dB h0 hx (x_eq (aEV h.kF h0 hm (h.ent _ _ _ hx hm) (by omega)) (aD (bU (bG (dD ⟨⟨by omega,by omega⟩,by omega⟩)))))
theorem Inv.aAM {K:Int} {s:aB} (h:Inv K s) (hK:K<=1000000) {n:Nat} (hn:200<n):G9 n s=some true:=by
  have hf:=h.ss.toS0.iK
  refine gF ?_
  unfold G9 XG
  simp only [WT.run,bT]
  refine aW (λb=>b=false) (x_eq (aU1 h hK hn) (aD (bU (x_eq (h.aLY (by omega)) (aD (aG rfl)))))) λb hb=>?_
  subst hb
  refine bU (aW (λ(r:Unit⊕Bool)=>r=.inl ()) (gB (λ(i:Int)=>0<=i/\i<=(s.bA.length:Int)) (λ(i:Int)=>s.bA.length-i.toNat) ?_ (v:=0) ⟨by simp,by simp⟩ (by simp;omega)) λr hr=>by subst hr;exact dA (aG rfl))
  rintro i ⟨h0,h1⟩
  refine aD (aQ (λk=>?_) λ_=>bL (dD rfl))
  obtain ⟨c,a,w,d,b,r⟩:=h.aPF (n:=n) (by omega) (e:=i) ⟨h0,k⟩
  refine aW (λ(r:Unit⊕(Int⊕(Unit⊕Bool)))=>r=.inl ()) ?_ λr hr=>by subst hr;exact dA (bG (dD ⟨⟨by omega,by omega⟩,by omega⟩))
  refine aW (λb=>b=false) ?_ λb hb=>?_
  · simp only [c,a,w,d,b,Option.bind_some]
    exact ⟨_,rfl,rfl⟩
  · subst hb
    refine bU ?_
    refine aW (λ(r:Unit⊕(Unit⊕(Int⊕(Unit⊕Bool))))=>r=.inl ()) (gB (λ(j:Int)=>0<=j/\j<=(s.bF.bW.length:Int)) (λ(j:Int)=>s.bF.bW.length-j.toNat) ?_ (v:=0) ⟨by simp,by simp⟩ (by simp;omega)) λr hr=>by subst hr;exact dA (dD rfl)
    rintro j ⟨j0,j1⟩
    exact aD (aQ (λk2=>x_eq (r j ⟨j0,k2⟩) (aD (bU (bG (dD ⟨⟨by omega,by omega⟩,by omega⟩))))) λ_=>bL (dD rfl))
theorem VB:J6 300=some true:=by decide +kernel
theorem aPU {K:Int} {s:aB} {o:bJ} (h:Inv K s) (hK:K<=1000000) (ho:A8 o):MB 300 s o=some true:=by
  have e:=aL4 (n:=300) (by decide) h (by have:=ho.q;omega) ho.a
  obtain ⟨r,hr,hk⟩:=r15 (n:=300) (o:=o) (by decide) h (by have:=ho.q;omega) ho.a
  have hi:Inv K r.1:=by
    rcases hk with k | k
    · exact k.2
    · rw [k.2];exact h
  refine gF ?_
  unfold MB YU
  simp only [WT.run,bT]
  refine x_eq (e.trans hr) (x_eq hr (aW (λ(b:Bool)=>b=true) (x_eq (VG hi (by decide)) (dF (aD (aQ (λ_=>aD (aQ (λ_=>x_eq (hi.aAM hK (by decide)) (aG rfl)) λk=>?_)) λk=>absurd rfl k)))) λb hb=>aG hb))
  rcases hk with k2 | k2
  · exact absurd k2.1 k
  · have e2:B5 300 r.1 s=some true:=by rw [k2.2];exact VG h (by decide)
    exact x_eq e2 (dF (x_eq (hi.aAM hK (by decide)) (aG rfl)))
set_option maxRecDepth 100000
set_option maxHeartbeats 4000000
noncomputable section
def aEB (n:Nat) (a1:Int) (a2:List Int) (a3:List Int):WT Tryz.prog (.b (Bool)) :=
 .cl 12 (FX n a1) aIB aM2 λx4=>.al 1<|.cl 15 (JP n x4 a2) aT1 aSO λx6=>.al 2<|.fH 1 [6] [] [] (λ_ (a:Unit)=>[]) (λ_ _=>[]) (.lp [2,6,7,8] [1] [] (λ_ (a:Int×aB)=>[(9,int a.1)]) (λ_ a=>[.kp 2 [(aB.av a.2)]]) n ((0:Int),x6) (pw λy0_1 y0_2=>.jn 0 [2,6,7,8,9] [1,2] [] (λ_ (a:Bool)=>[(23,aZ a)]) (λ_ _=>[]) (.ln 18 fI a3<|.bB 19 (decide (y0_1<(a3.length:Int))) λx8=>.ifs [19] x8 (.bB 22 (decide (y0_1<25)) λx9=>.ret x9) (.ret false)) (λy1_1=>.ifs [23] y1_1 (.fH 1 [2,6,7,8,9] [1] [] (λ_ (a:aB)=>[]) (λ_ a=>[.kp 2 [(aB.av a)]]) (.dr [(0,[1])] [(7,[])] [1] [6,7] [0,1,2,3,4,5,6,7] (.ix 29 fI a3 y0_1 λx10=>.cl 31 (J9 n x4 x10 9) aEY aH5 λx11=>.al 3<|.ix 34 fI a3 y0_1 λx13=>.bI 36 (x13.tmod 4) λx14=>.bB 37 (decide (x14=0)) λx15=>.ifs [37] x15 (.dr [(0,[1])] [(6,[])] [1] [6] [0,1,2,3,4,5,6] (.ix 41 fI a3 y0_1 λx16=>.cl 43 (CG x4 x16) NR QD λx17=>.cl 47 (K5 n y0_2 x17) aHN aO2 λx18=>.brk x18.1)) (.jn 1 [2,6,7,8,9,10] [1,2,3] [] (λ_ (a:Bool)=>[(58,aZ a)]) (λ_ _=>[]) (.cl 51 (xH n x11) RL PG λx19=>.bB 52 (!x19) λx20=>.ifs [52] x20 (.ret true) (.cl 56 (MB n y0_2 x11) aIE aP0 λx21=>.bB 57 (!x21) λx22=>.ret x22)) (λy2_1=>.ifs [58] y2_1 (.jn 1 [2,7,8,9,10] [1,2,3] [] (λ_ (a:Bool)=>[(6,aZ a)]) (λ_ _=>[]) (.cl 60 (xH n x11) RL PG λx23=>.bB 61 (!x23) λx24=>.ifs [61] x24 (.cl 63 (J6 n) T8 U1 λx25=>.ret x25) (.ret false)) (λy3_1=>.esc (.esc (.esc (.ret ((y3_1:Bool))))))) (.cl 68 (zV n y0_2 x11) OH Q4 λx26=>.brk x26.1))))) (λy4_1=>.bI 25 (bE (y0_1+1)) λx27=>.brk ((x27:Int),y4_1))) (.esc (.brk ()))))) (λ_=>.cl 71 (J6 n) T8 U1 λx28=>.ret ((x28:Bool)))
def aCN (n:Nat) (a1:Int) (a2:List Int) (a3:List Int):Option (Bool):=(aEB n a1 a2 a3).run
theorem aO9 {n a1 a2 a3 r} (h0:aCN n a1 a2 a3=some r):PP Tryz.prog 4 [int a1,aH 1 fI a2,aH 1 fI a3] (λy=>y=aZ r) :=
 bY mixed aA (λr:Bool=>aZ r) h0 Tryz.func4 (λr=>gT r) 100000 au
end
open Go.Proofs
set_option maxRecDepth 1000000
set_option maxHeartbeats 1000000
theorem aJK {K:Int} {s:aB} {o:bJ} (h:Inv K s) (ho:A8 o):Ex (λr=>Inv K r.1) (zV 300 s o):=by
  rw [aL4 (n:=300) (by decide) h (by have:=ho.q;omega) ho.a]
  obtain ⟨r,hr,hk⟩:=r15 (n:=300) (o:=o) (by decide) h (by have:=ho.q;omega) ho.a
  refine ⟨r,hr,?_⟩
  rcases hk with k | k
  · exact k.2
  · rw [k.2];exact h
theorem aVE (a1:Int) (a2 a3:List Int):aCN 300 a1 a2 a3=some true:=by
  refine gF ?_
  unfold aCN aEB
  simp only [WT.run,bT]
  refine aW _ (aMH (by decide)) λm hm=>aW _ (aHM (by decide) hm) λs hs=>?_
  refine aW (λ(r:Unit⊕Bool)=>match r with | .inl _=>True | .inr b=>b=true) ?_ λr hr=>jQ (λ_ _=>x_eq VB (aG rfl)) λb e=>by subst e;exact hr
  refine gB (λ(v:Int×aB)=>0<=v.1/\v.1<=25/\Inv (1000+v.1) v.2) (λv=>25-v.1.toNat) ?_ (v:=(0,s)) ⟨by simp,by simp,hs⟩ (by simp)
  rintro ⟨i,t⟩ ⟨h0,h1,h2⟩
  simp only at h0 h1 h2
  refine bK (aW (λ(b:Bool)=>b=true->i<a3.length/\i<25) (aD (aQ (λk1=>aD (aG λk2=>⟨k1,of_decide_eq_true k2⟩)) λ_=>aG (λk=>nomatch k))) λb hb=>fJ (λkb=>?_) λ_=>bL (dD trivial))
  obtain ⟨k1,k2⟩:=hb kb
  refine aW (λ(r:aB⊕((Int×aB)⊕(Unit⊕Bool)))=>match r with | .inl u=>Inv (1000+(i+1)) u | .inr (.inl _)=>False | .inr (.inr (.inl _))=>False | .inr (.inr (.inr b))=>b=true) ?_ λr hr=>?_
  · refine eZ h0 k1 λx hx=>aW _ (aIQ (by decide) hm) λo ho=>eZ h0 k1 λy hy=>aD (aD (aQ (λ_=>?_) λ_=>?_))
    · exact eZ h0 k1 λz hz=>aW _ (QL hm) λo2 ho2=>aW _ (aSB (by decide) h2 (by omega) (XL (by decide) (by omega))) λr hr=>dD (by show Inv _ _;rw [<- Int.add_assoc];exact hr)
    · obtain ⟨c,ec,hc⟩:=XL (o:=o) (n:=300) (by decide) (by omega)
      cases c with
      | false =>
        refine aW (λ(b:Bool)=>b=true) (x_eq ec (aD (dF (aG rfl)))) λb hb=>?_
        subst hb
        exact dF (aW (λ(b:Bool)=>b=true) (x_eq ec (aD (dF (x_eq VB (aG rfl))))) λb hb=>bL (bL (bL (aG hb))))
      | true =>
        refine aW (λ(b:Bool)=>b=false) (x_eq ec (aD (bU (x_eq (aPU h2 (by omega) (hc rfl)) (aD (aG rfl)))))) λb hb=>?_
        subst hb
        exact bU (aW _ (aJK h2 (hc rfl)) λr hr=>dD (hr.mono (by omega)))
  · match r,hr with
    | .inl u,hr=>exact dA (bG (dD ⟨⟨by first | omega | (simp only;omega),by first | omega | (simp only;omega),hr⟩,by first | omega | (simp only;omega)⟩))
    | .inr (.inr (.inr b)),hr=>exact vH hr
open Go.ChangeShapes Go.WideShapes Go.ChangeAt Go.RowKit
theorem aJ5 {P:Program} {f:FuncId} {args:List AV} {vs:Array Value} {w:World} (h:PP P f args (λy=>y=aZ true)) (ha:pE (s0 w) args vs) :
    Calls P f vs w λe w'=>e=.returned (.bool true)/\Below w.heap.size w w':=by
  refine (h (s0 w) vs (λ_ h=>h) ⟨0,λ_ _ h=>h⟩ ha).mono ?_
  rintro e w' ⟨y,s',v,rfl,_,rfl,rfl,h4,_,h6⟩
  have hv:=h4.kH
  subst hv
  exact ⟨rfl,⟨h6.os,h6.tape,h6.output,h6.size,λk hk=>h6.keep k hk λ⟨_,_,_,h,_⟩=>by cases h⟩⟩
end Go.Pv
