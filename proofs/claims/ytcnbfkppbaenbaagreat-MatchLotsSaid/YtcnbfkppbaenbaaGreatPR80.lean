import Derived.Test.YtcnbfkppbaenbaaGreatPK80
import Derived.Test.YtcnbfkppbaenbaaGreatPH80
set_option linter.unusedVariables false
set_option linter.unusedSimpArgs false
namespace Go.Pv
open Go.Proofs
set_option maxRecDepth 1000000
set_option maxHeartbeats 1000000
theorem aWC {a b:cO} (k0:nH a.Open b.Open) (k1:nH a.iW b.iW) (k2:nH a.jH b.jH) (k3:nH a.jG b.jG) (k4:nH a.iY b.iY) (k5:nH a.jF b.jF) (k6:nH a.jE b.jE) (k7:nH a.iX b.iX) (k8:nH a.jC b.jC) (k9:nH a.jD b.jD) (k10:nH a.jB b.jB):TA a b:=λj hj =>
  match j,hj with
  | 0,_=>k0
  | 1,_=>k1
  | 2,_=>k2
  | 3,_=>k3
  | 4,_=>k4
  | 5,_=>k5
  | 6,_=>k6
  | 7,_=>k7
  | 8,_=>k8
  | 9,_=>k9
  | 10,_=>k10
theorem aNL {s:aA} {n:Nat} (h:SS s) {e i:Int} {x:aQ} {r0 r:cO} (ht:gY s e i) (hx:s.bD[e.toNat]?=some x) (hr0:x.dQ[i.toNat]?=some r0):yC s e i r=some (xL s e i x r0 r):=by
  have hf:=h.toS0.iC
  have ht2:=ht.1;have ht3:=ht.2
  obtain ⟨bL,hm,_,_,hes⟩:=h.bL hx
  have hl2:=hes.iC hf.2.2
  refine fH ?_
  unfold yC SV
  simp only [WT.run,bS,FY h.toS0 h.ln,TC,Option.bind_some]
  rw [decide_eq_true ht]
  refine aF (bW (dD ht2.1 hx (dD ht3.1 hr0 ?_)))
  refine aU (λ(q:cO⊕(aA×Int))=>match q with | .inl g=>TA r0 r/\g=qU r0 r | .inr q=>q=(s,2)/\¬ TA r0 r) ?_ λq hq=>iZ (λg e=>?_) λq e=>?_
  · refine x_eq (a:=r.Open) rfl (aF (aI (λk=>bJ (aD ⟨by rw [(oI _ _).resolve_left k],λq=>k (kQ.2 (q 0 (by decide)))⟩)) λk0=>?_))
    have k0:=kQ.1 (Classical.not_not.1 k0)
    refine x_eq (a:=r.iW) rfl (aF (aI (λk=>bJ (aD ⟨by rw [(oI _ _).resolve_left k],λq=>k (kQ.2 (q 1 (by decide)))⟩)) λk1=>?_))
    have k1:=kQ.1 (Classical.not_not.1 k1)
    refine x_eq (a:=r.jH) rfl (aF (aI (λk=>bJ (aD ⟨by rw [(oI _ _).resolve_left k],λq=>k (kQ.2 (q 2 (by decide)))⟩)) λk2=>?_))
    have k2:=kQ.1 (Classical.not_not.1 k2)
    refine x_eq (a:=r.jG) rfl (aF (aI (λk=>bJ (aD ⟨by rw [(oI _ _).resolve_left k],λq=>k (kQ.2 (q 3 (by decide)))⟩)) λk3=>?_))
    have k3:=kQ.1 (Classical.not_not.1 k3)
    refine x_eq (a:=r.iY) rfl (aF (aI (λk=>bJ (aD ⟨by rw [(oI _ _).resolve_left k],λq=>k (kQ.2 (q 4 (by decide)))⟩)) λk4=>?_))
    have k4:=kQ.1 (Classical.not_not.1 k4)
    refine x_eq (a:=r.jF) rfl (aF (aI (λk=>bJ (aD ⟨by rw [(oI _ _).resolve_left k],λq=>k (kQ.2 (q 5 (by decide)))⟩)) λk5=>?_))
    have k5:=kQ.1 (Classical.not_not.1 k5)
    refine x_eq (a:=r.jE) rfl (aF (aI (λk=>bJ (aD ⟨by rw [(oI _ _).resolve_left k],λq=>k (kQ.2 (q 6 (by decide)))⟩)) λk6=>?_))
    have k6:=kQ.1 (Classical.not_not.1 k6)
    refine x_eq (a:=r.iX) rfl (aF (aI (λk=>bJ (aD ⟨by rw [(oI _ _).resolve_left k],λq=>k (kQ.2 (q 7 (by decide)))⟩)) λk7=>?_))
    have k7:=kQ.1 (Classical.not_not.1 k7)
    refine x_eq (a:=r.jC) rfl (aF (aI (λk=>bJ (aD ⟨by rw [(oI _ _).resolve_left k],λq=>k (kQ.2 (q 8 (by decide)))⟩)) λk8=>?_))
    have k8:=kQ.1 (Classical.not_not.1 k8)
    refine x_eq (a:=r.jD) rfl (aF (aI (λk=>bJ (aD ⟨by rw [(oI _ _).resolve_left k],λq=>k (kQ.2 (q 9 (by decide)))⟩)) λk9=>?_))
    have k9:=kQ.1 (Classical.not_not.1 k9)
    refine x_eq (a:=r.jB) rfl (aF (aI (λk=>bJ (aD ⟨by rw [(oI _ _).resolve_left k],λq=>k (kQ.2 (q 10 (by decide)))⟩)) λk10=>?_))
    have k10:=kQ.1 (Classical.not_not.1 k10)
    exact cK ⟨aWC k0 k1 k2 k3 k4 k5 k6 k7 k8 k9 k10,by rw [pZ k0,pZ k1,pZ k2,pZ k3,pZ k4,pZ k5,pZ k6,pZ k7,pZ k8,pZ k9,pZ k10];rfl⟩
  · subst e
    have hq:TA r0 r/\g=qU r0 r:=hq
    obtain ⟨q1,rfl⟩:=hq
    refine aU (λ_=>True) (dM (dD ht2.1 hx (aD trivial))) λ_ _=>dD ht2.1 hx (dM (dD ht3.1 hr0 (aF (aD ?_))))
    unfold xL;rw [if_pos q1];rfl
  · subst e
    have hq:q=(s,2)/\¬ TA r0 r:=hq
    unfold xL;rw [if_neg hq.2];exact hq.1
theorem aOE {s:aA} {n:Nat} (hn:66<n) (h:SS s) {e i:Int} {r:cO}:yC s e i r=nE n s e i r:=by
  by_cases ht:gY s e i
  · obtain ⟨x,hx⟩:=ht.at
    obtain ⟨bL,hm,_,_,hes⟩:=h.bL hx
    have hlr:=hes.lr
    have ht3:=ht.2
    have hr:=List.getElem?_eq_getElem (l:=x.dQ) (i:=i.toNat) (by omega)
    rw [aNL (n:=n) h ht hx hr,aD9 hn h ht hx hr]
  · have e1:yC s e i r=some (s,4):=by
      refine fH ?_
      unfold yC SV
      simp only [WT.run,bS,FY h.toS0 h.ln,Option.bind_some]
      rw [decide_eq_false ht]
      exact aF (dB (aD rfl))
    have e2:nE n s e i r=some (s,4):=by
      refine fH ?_
      unfold nE IJ
      simp only [WT.run,bS,sD h.toS0,Option.bind_some]
      rw [decide_eq_false ht]
      exact aF (dB (aD rfl))
    rw [e1,e2]
theorem JM {p q:Prop} [Decidable p] [Decidable q]:(bnd (decide p) λx=>cond x (bnd (decide q) λy=>some y) (some false))=some (decide (p/\q)):=by
  by_cases h:p <;> by_cases k:q <;> simp [bnd,h,k]
theorem GX {p q:Prop} [Decidable p] [Decidable q]:(bnd (decide p) λx=>cond x (some true) (bnd (decide q) λy=>some y))=some (decide (p\/q)):=by
  by_cases h:p <;> by_cases k:q <;> simp [bnd,h,k]
theorem NU {β:Type} {p:Prop} {_:Decidable p} {a b r:Option β} (h:p) (k:a=r):cond (decide p) a b=r:=by rw [decide_eq_true h];exact k
theorem PT {β:Type} {p:Prop} {_:Decidable p} {a b r:Option β} (h:¬ p) (k:b=r):cond (decide p) a b=r:=by rw [decide_eq_false h];exact k
theorem aRX {α:Type} {D P:Option α} (h:Ex (λr=>D=some r) P):P=D:=by obtain ⟨r,e,k⟩:=h;rw [e,k]
noncomputable def vQ (r:dG) (q:Int):Int:=if q=r.Open then r.gW else pt r.gW q r.Open
theorem GU {r:dG} {q:Int} {n:Nat} {m:fC} (hn:66<n) (h:tH m r) (hq:-9223372036854775808<=q/\q<=9223372036854775807):tJ n r q=some (vQ r q):=by
  obtain ⟨h1,h2,h3,h4,h5,h6,h7,h8⟩:=h
  refine fH ?_
  unfold tJ O1 vQ
  simp only [WT.run,bS]
  exact aF (aI (λk=>aD (by rw [if_pos k])) λk=>x_eq (oJ hn hq (by omega)) (aD (by rw [if_neg k])))
theorem VI {r:dG} {q:Int} {n:Nat} {m:fC} (hn:66<n) (h:tH m r) (hq:-9223372036854775808<=q/\q<=9223372036854775807):wY n r q=some (vQ r q):=by
  obtain ⟨h1,h2,h3,h4,h5,h6,h7,h8⟩:=h
  refine fH ?_
  unfold wY aED N6 U8 vQ
  simp only [WT.run,bS]
  refine aU _ (aF (aI (λk=>aD (by rw [if_pos k])) λk=>x_eq (FV hn hq (by omega)) (aD (by rw [if_neg k])))) λz hz=>aD hz
theorem aP2 {r:dG} {q:Int} {n:Nat} {m:fC} (hn:66<n) (h:tH m r) (hq:-9223372036854775808<=q/\q<=9223372036854775807):IW n r q=some (pt r.Value q r.aG):=by
  obtain ⟨h1,h2,h3,h4,h5,h6,h7,h8⟩:=h
  unfold IW WW
  simp only [WT.run,bS,FV hn hq (show -9223372036854775808<=r.aG/\r.aG<=9223372036854775807 by omega),Option.bind_some]
theorem aWK (a v:Int):wC a v=some ⟨a,v⟩:=rfl
theorem aM2 {K:Int} {s:aA} {o:bK} {n:Nat} (hn:66<n) (h:Inv K s) (hq:0<=o.aG/\o.aG<=288230376151711744) (ha:0<=o.bM/\o.bM<=288230376151711744):yU n s o=qT n s o:=by
  have hl1:=h.l1
  have hD:qT n s o=qT n s o:=rfl
  conv at hD=>rhs;unfold qT SN;simp only [WT.run,bS,JM,GX,Option.bind_some]
  refine aRX ?_
  unfold yU aBW
  simp only [WT.run,bS,JM,GX,Option.bind_some,aVY h.ss.toS0 h.ss.ln,aWK]
  refine aI (λk=>aD (hD.trans (NU k rfl))) λk1=>?_
  replace hD:=hD.trans (PT k1 rfl)
  refine aI (λk=>aD (hD.trans (NU k rfl))) λk2=>?_
  replace hD:=hD.trans (PT k2 rfl)
  have h0:0<=o.Ref:=by omega
  refine eT h0 (by omega) λx hx=>?_
  replace hD:=hD.trans (iV h0 hx rfl)
  obtain ⟨a,ea,hr⟩:=rE h x.eY x.Item
  refine x_eq ea ?_
  replace hD:=hD.trans (dK ea rfl)
  refine aF (aI (λk=>aD (hD.trans (fQ k (fK rfl)))) λk3=>?_)
  replace hD:=hD.trans (eU k3 (dF rfl))
  obtain ⟨ht,x',bL,hx',hm,ho⟩:=hr (by omega)
  have hk:=h.mD x (fE hx)
  have hk2:=hk
  obtain ⟨h1,h2,h3,h4,h5,h6,h7,h8⟩:=hk2
  have o0:=On.start hx' hm ho
  have fin:∀ (E:Option (aA×Int)),(∀ z,E=some z->qT n s o=some z)->∀ r:aA×Int×dG,((r.2.1≠0/\E=some (s,r.2.1))\/(r.2.1=0/\r.1.bY=s.bY/\E=some (⟨r.1.bH,r.1.bD,r.1.bY.set o.Ref.toNat r.2.2,r.1.eF,r.1.dL,r.1.Done⟩,0))) ->
      Ex (λz=>qT n s o=some z) (p2 (λ(a:aA) q0=>p2 (λ(b:Int) (c:dG)=>bnd (decide (b≠0)) λy=>cond y (some (s,b)) (iO (a.bY.length<=68719476736) ((ix a.bY o.Ref).bind λ_=>bnd (a.bY.set o.Ref.toNat c) λl=>some (⟨a.bH,a.bD,l,a.eF,a.dL,a.Done⟩,0)))) q0) r):=by
    intro E hE r hr
    refine bF (bF (aF (aI (λk=>aD (hE _ ?_)) λk=>?_)))
    · rcases hr with ⟨_,z⟩ | ⟨z,_⟩
      · exact z
      · exact absurd z k
    · rcases hr with ⟨z,_⟩ | ⟨_,z1,z2⟩
      · exact absurd z k
      · exact iR (by rw [z1];omega) (dD h0 (by rw [z1];exact hx) (aF (aD (hE _ z2))))
  refine aF (aI (λk4=>?_) λk4=>?_)
  · replace hD:=hD.trans (eU (show ¬ o.Kind=2 by omega) (dF rfl))
    have hE:vT n s o x=vT n s o x:=rfl
    conv at hE=>rhs;unfold vT QL;simp only [WT.run,bS,JM,GX,Option.bind_some]
    refine aU _ ?_ (fin (vT n s o x) λz hz=>hD.trans (dK hz rfl))
    refine bE (aF (aI (λk=>aD (.inl ⟨show (5:Int)≠0 by decide,hE.trans (iE (by omega) (fQ k (fK rfl)))⟩)) λk5=>?_))
    replace hE:=hE.trans (iE (by omega) (eU k5 (dF rfl)))
    refine aI (λk=>aD (.inl ⟨show (9:Int)≠0 by decide,hE.trans (NU k rfl)⟩)) λk6=>?_
    replace hE:=hE.trans (PT k6 rfl)
    obtain ⟨b,eb,hb⟩:=xQ (n:=n) (e:=x.eY) (i:=x.Item) (c:=x.Loc) (k:=3) (q:=o.aG) hn h.ss (by omega)
    refine x_eq ((aWJ hn h.ss (by omega)).trans eb) ?_
    replace hE:=hE.trans (dK eb rfl)
    refine aF (aF (aI (λk=>aD (.inl ⟨k,hE.trans (fQ k (fK rfl))⟩)) λk7=>?_))
    replace hE:=hE.trans (eU k7 (dF (dK (oJ hn (by omega) (by omega)) rfl)))
    rcases hb with ⟨_,hb⟩ | ⟨q,_⟩
    rotate_left
    · exact absurd q k7
    obtain ⟨f1,f2,f3,f4,f5,f6⟩:=hb.facts
    obtain ⟨x1,o1,p1,p2,p3⟩:=o0.wW hb
    have hv:=xB (w:=o.aG) (q:=x.aG) h5
    refine x_eq (aP2 hn hk (by omega)) ?_
    obtain ⟨d0,ed0,hd0⟩:=IC (n:=n) (q:=o.aG) hn hk (by omega)
    rw [GU hn hk (by omega)] at ed0
    cases ed0
    obtain ⟨a1,d,O,A,ev1,ev2,v1,v2⟩:∃ a1 d O A:Int,(bnd (decide (x.Open>0)) λz=>cond z ((tJ n x o.aG).bind λd=>bnd (bA (x.Open-o.aG)) λu=>bnd (bA (x.gW-d)) λw=>some ((1:Int),d,(⟨x.eY,x.Item,x.Loc,x.aG,x.Value,u,w,x.gP⟩:dG))) (some ((2:Int),pt x.Value o.aG x.aG,x)))=some (a1,d,⟨x.eY,x.Item,x.Loc,x.aG,x.Value,O,A,x.gP⟩) /\
        (bnd (decide (x.Open>0)) λz=>cond z ((wY n x o.aG).bind λd=>bnd (bA (x.Open-o.aG)) λu=>bnd (bA (x.gW-d)) λw=>some (d,(1:Int),(⟨x.eY,x.Item,x.Loc,x.aG,x.Value,u,w,x.gP⟩:dG))) (some (pt x.Value o.aG x.aG,(2:Int),x)))=some (d,a1,⟨x.eY,x.Item,x.Loc,x.aG,x.Value,O,A,x.gP⟩)/\(a1=1\/a1=2)/\(0<=d/\d<=288230376151711744):=by
      by_cases k8:x.Open>0
      · exact ⟨1,vQ x o.aG,x.Open-o.aG,x.gW-vQ x o.aG,fQ k8 (fK (dK (GU hn hk (by omega)) (iE (by omega) (iE (by omega) rfl)))),fQ k8 (fK (dK (VI hn hk (by omega)) (iE (by omega) (iE (by omega) rfl)))),.inl rfl,by omega⟩
      · exact ⟨2,pt x.Value o.aG x.aG,x.Open,x.gW,eU k8 (dF rfl),eU k8 (dF rfl),.inr rfl,by omega⟩
    have hE2:=hE.trans (b:=(bnd (decide (x.Open>0)) λz=>cond z ((tJ n x o.aG).bind λd=>bnd (bA (x.Open-o.aG)) λu=>bnd (bA (x.gW-d)) λw=>some ((1:Int),d,(⟨x.eY,x.Item,x.Loc,x.aG,x.Value,u,w,x.gP⟩:dG))) (some ((2:Int),pt x.Value o.aG x.aG,x))).bind _) rfl
    replace hE:=hE2.trans (dK ev1 (uI (uI rfl)))
    refine x_eq ev2 (bF (bF (bE (bE (bE ?_)))))
    replace hE:=hE.trans (iE (by first | omega | (simp only;omega)) (iE (by first | omega | (simp only;omega)) rfl))
    have s1:=o1.ss h.ss
    obtain ⟨c,ec,hc⟩:=nY (n:=n) (e:=x.eY) (l:=[⟨a1,d⟩,⟨6,b.2.1.Value-d⟩,⟨0,0-b.2.1.Value⟩]) hn s1 (by simp)
    refine x_eq ((post_eq hn s1 (by simp) (by rcases v1 with rfl | rfl <;> simp)).trans ec) ?_
    replace hE:=hE.trans (dK ec rfl)
    refine aF (aI (λk=>aD (.inl ⟨k,hE.trans (fQ k (fK rfl))⟩)) λk8=>?_)
    replace hE:=hE.trans (eU k8 (dF rfl))
    rcases hc with ⟨_,hc⟩ | ⟨q,_⟩
    rotate_left
    · exact absurd q k8
    obtain ⟨x2,o2,q1,q2,q3⟩:=o1.oV hc (by rcases v1 with rfl | rfl <;> simp [gB,fZ])
    have s2:=o2.ss h.ss
    obtain ⟨t,et,ht⟩:=sU (n:=n) (e:=x.eY) (i:=x.Item) (r:=⟨0,0,0,0,0,0,0,b.2.1.Value,0,0,0⟩) hn s2
    refine x_eq ((aOE hn s2).trans et) (aD ?_)
    replace hE:=hE.trans (dK et rfl)
    by_cases k9:t.2≠0
    · exact .inl ⟨k9,hE.trans (fQ k9 (fK rfl))⟩
    rcases ht with ⟨z,ht⟩ | ⟨q,_⟩
    rotate_left
    · exact absurd q k9
    obtain ⟨x3,o3,r1,r2⟩:=o2.uP ht
    obtain ⟨g1,g2,g3,g4,g5⟩:=o3.rc
    exact .inr ⟨z,g1,hE.trans (eU k9 (dF (iE (by omega) (dK (II h0 (by rw [g1];exact hx) (by rw [g1];exact hl1)) rfl))))⟩
  · replace hD:=hD.trans (fQ (show o.Kind=2 by omega) (fK rfl))
    have hE:vY n s o x=vY n s o x:=rfl
    conv at hE=>rhs;unfold vY N5;simp only [WT.run,bS,JM,GX,Option.bind_some]
    refine aU _ ?_ (fin (vY n s o x) λz hz=>hD.trans (dK hz rfl))
    refine aF (aI (λk=>aD (.inl ⟨show (5:Int)≠0 by decide,hE.trans (fQ k (fK rfl))⟩)) λk5=>?_)
    obtain ⟨d0,ed0,hd0⟩:=IC (n:=n) (q:=o.aG) hn hk (by omega)
    rw [GU hn hk (by omega)] at ed0
    cases ed0
    refine x_eq (VI hn hk (by omega)) (bE (bE ?_))
    replace hE:=hE.trans (eU k5 (dF (dK (GU hn hk (by omega)) (iE (by omega) (iE (by omega) rfl)))))
    obtain ⟨c,ec,hc⟩:=nY (n:=n) (e:=x.eY) (l:=[⟨1,vQ x o.aG⟩,⟨6,o.bM-vQ x o.aG⟩,⟨2,0-o.bM⟩]) hn h.ss (by simp)
    refine x_eq ((post_eq hn h.ss (by simp) (by simp)).trans ec) (bE (bE (aD ?_)))
    replace hE:=hE.trans (dK ec rfl)
    by_cases k8:c.2≠0
    · exact .inl ⟨k8,hE.trans (fQ k8 (fK rfl))⟩
    rcases hc with ⟨z,hc⟩ | ⟨q,_⟩
    rotate_left
    · exact absurd q k8
    obtain ⟨x2,o2,q1,q2,q3⟩:=o0.oV hc (by simp [gB,fZ])
    obtain ⟨g1,g2,g3,g4,g5⟩:=o2.rc
    exact .inr ⟨z,g1,hE.trans (eU k8 (dF (iE (by omega) (iE (by omega) (dK (II h0 (by rw [g1];exact hx) (by rw [g1];exact hl1)) rfl)))))⟩
theorem aH8 {o:bK} {v:Int} (h:o.fA.length<=3):Ex (λr=>r.fA.length<=4) (LX o v):=by
  unfold LX aCQ
  simp only [WT.run,bS]
  refine aU _ (KE (by decide)) λk hk=>?_
  have f1:=td (a:=k) (b:=16) hk.1 (by decide)
  have f2:=tm (a:=k.tdiv 16) (b:=12) f1.1 (by decide)
  refine bE (aF (eT f2.1 (by simpa using f2.2) λx hx=>aF ?_))
  repeat' with_reducible first | refine bE ?_ | refine dU ?_ | apply aF | apply bF | apply dY | apply dN | apply dV | apply dZ | apply d9 | apply dO | apply dW | apply dS | refine aI (λ_=>?_) λ_=>?_ | refine dJ (λ_=>?_) λ_=>?_ | apply dB | apply bW | apply cZ | apply bJ | apply aD | refine dM ?_
  all_goals try (show o.fA.length<=4;omega)
  all_goals (show (o.fA++[x]).length<=4;simp;omega)
theorem nA {α J:Type} {l:List α} {n:Nat} (hl:l.length<=60) (hn:66<n) {f:Int->Option (Int⊕(Unit⊕J))} (h1:∀ i x,0<=i->i<(l.length:Int)->l[i.toNat]?=some x->f i=some (.inl (i+1))) (h2:∀ i,¬ i<(l.length:Int)->f i=some (.inr (.inl ()))):iter f n 0=some (.inl ()):=by
  refine fH (fJ (λi=>0<=i/\i<=(l.length:Int)) (λi=>l.length-i.toNat) ?_ (v:=(0:Int)) (by simp) (by simp;omega))
  rintro i ⟨h0,h3⟩
  by_cases k:i<(l.length:Int)
  · have hx:=List.getElem?_eq_getElem (l:=l) (i:=i.toNat) (by omega)
    exact ⟨_,h1 i _ h0 k hx,⟨by omega,by omega⟩,by omega⟩
  · exact ⟨_,h2 i k,rfl⟩
theorem EV {l:List Int} {n:Nat} (hl:l.length<=60) (hn:66<n):rD n l l=some true:=by
  unfold rD Q9
  simp only [WT.run,bS]
  refine eU (by simp) (dF (dK (nA hl hn (λi x h0 h hx=>?_) λi h=>?_) rfl))
  · exact fQ h (fK (iV h0 hx (iV h0 hx (eU (by simp) (dF (iE (by omega) rfl))))))
  · exact eU h (dF rfl)
theorem YF {l:List (List Int)} {n:Nat} (hl:l.length<=60) (hn:66<n) (hk:∀ x∈l,x.length<=60):DX n l l=some true:=by
  unfold DX TV
  simp only [WT.run,bS]
  refine eU (by simp) (dF (dK (nA hl hn (λi x h0 h hx=>?_) λi h=>?_) rfl))
  · exact fQ h (fK (iV h0 hx (iV h0 hx (dK (EV (hk x (fE hx)) hn) (iA (dF (iE (by omega) rfl)))))))
  · exact eU h (dF rfl)
theorem aGW {m:fC} {n:Nat} (h:pM m) (hn:66<n):KR n m m=some true:=by
  have h1:=h.n1;have h2:=h.vL;have h3:=h.lm;have h4:=h.lc
  unfold KR U1
  simp only [WT.run,bS]
  refine dK (a:=true) (fQ (by first | trivial | rfl) (fK (fQ (by first | trivial | rfl) (fK (dK (EV (by omega) hn) (fK (dK (YF (by omega) hn λx hx=>by have:=(h.met x hx).1;omega) (fK (dK (YF (by omega) hn λx hx=>by have:=(h.cos x hx).1;omega) rfl))))))))) rfl
theorem aMF (x:aB):LK x x=some true:=by
  unfold LK aAP
  simp only [WT.run,bS]
  exact dK (a:=true) (fQ (by first | trivial | rfl) (fK (fQ (by first | trivial | rfl) (fK (fQ (by first | trivial | rfl) rfl))))) rfl
theorem aIG {l:List aB} {n:Nat} (hl:l.length<=60) (hn:66<n):GY n l l=some true:=by
  unfold GY aD7
  simp only [WT.run,bS]
  refine eU (by simp) (dF (dK (nA hl hn (λi x h0 h hx=>?_) λi h=>?_) rfl))
  · exact fQ h (fK (iV h0 hx (iV h0 hx (dK (aMF x) (iA (dF (iE (by omega) rfl)))))))
  · exact eU h (dF rfl)
theorem aV0 {p:aH} {n:Nat} (hl:p.aW.length<=60) (hn:66<n):L6 n p p=some true:=by
  unfold L6 aDS
  simp only [WT.run,bS]
  exact dK (a:=true) (dK (aIG hl hn) (fK (fQ (by first | trivial | rfl) (fK (fQ (by first | trivial | rfl) (fK (fQ (by first | trivial | rfl) rfl))))))) rfl
theorem aS5 {s:aA} {n:Nat} (h1:s.bY.length<=60) (h2:s.eF.length<=60) (h3:s.dL.length<=60) (hn:66<n):IA n s s=some true:=by
  unfold IA ZW
  simp only [WT.run,bS]
  refine dK (a:=false) (eU (by simp) (dF (eU (by simp) (dF (eU (by simp) rfl))))) (dF (dK (nA h1 hn (λi x h0 h hx=>?_) λi h=>?_) ?_))
  · exact fQ h (fK (iV h0 hx (iV h0 hx (iA (by rw [decide_eq_true (rfl:x=x)];exact dF (iE (by omega) rfl))))))
  · exact eU h (dF rfl)
  show Option.bind _ _=_
  refine dK (nA h2 hn (λi x h0 h hx=>?_) λi h=>?_) ?_
  · exact fQ h (fK (iV h0 hx (iV h0 hx (iA (by rw [decide_eq_true (rfl:x=x)];exact dF (iE (by omega) rfl))))))
  · exact eU h (dF rfl)
  show Option.bind _ _=_
  refine dK (nA h3 hn (λi x h0 h hx=>?_) λi h=>?_) rfl
  · exact fQ h (fK (iV h0 hx (iV h0 hx (iA (by rw [decide_eq_true (rfl:x=x)];exact dF (iE (by omega) rfl))))))
  · exact eU h (dF rfl)
def Sz (x:aQ):Prop:=x.bX.length<=10/\x.dQ.length<=10/\x.dR.length<=60/\x.gI.length<=60/\x.Down.length<=60/\∀ p∈x.bX,p.aW.length<=60
theorem XP {x:aQ} {n:Nat} (h:Sz x) (ha:x.fV.length<=1) (hn:90<n) (hy:∀ y∈x.fV,wQ n y y=some true):wQ (n+1) x x=some true:=by
  obtain ⟨a1,a2,a3,a4,a5,a6⟩:=h
  rw [aSS]
  unfold N9
  simp only [WT.run,bS]
  refine dK (a:=false) (eU (by simp) (dF (eU (by simp) (dF (eU (by simp) (dF (eU (by simp) (dF (eU (by simp) rfl))))))))) (dF ?_)
  refine dK (a:=.inl ()) (nA (l:=x.bX) (by omega) (by omega) (λi p h0 h hx=>?_) λi h=>eU h (dF rfl)) ?_
  · exact fQ h (fK (iV h0 hx (iV h0 hx (dK (aV0 (a6 p (fE hx)) (by omega)) (iA (dF (iE (by omega) rfl)))))))
  show Option.bind _ _=_
  refine dK (a:=.inl ()) (nA (l:=x.dQ) (by omega) (by omega) (λi p h0 h hx=>?_) λi h=>eU h (dF rfl)) ?_
  · refine fQ h (fK (iV h0 hx (dK rfl (iV h0 hx (dK rfl (iA ?_))))))
    rw [show (!decide ((_:jQ)=_))=false from by simp]
    exact dF (iE (by omega) rfl)
  show Option.bind _ _=_
  refine dK (a:=.inl ()) (nA (l:=x.fV) (by omega) (by omega) (λi y h0 h hx=>?_) λi h=>eU h (dF rfl)) ?_
  · exact fQ h (fK (iV h0 hx (iV h0 hx (dK (hy y (fE hx)) (iA (dF (iE (by omega) rfl)))))))
  show Option.bind _ _=_
  exact dK (a:=true) (dK (EV (by omega) (by omega)) (fK (dK (EV (by omega) (by omega)) (fK (dK (EV (by omega) (by omega)) rfl))))) rfl
theorem aA5 {x:aQ} {n:Nat} (h:Sz x) (ha:x.fV.length<=1) (hy:∀ y∈x.fV,Sz y/\y.fV=[]) (hn:100<n):wQ n x x=some true:=by
  obtain ⟨m,rfl⟩:∃ m,n=m+2:=⟨n-2,by omega⟩
  refine XP h ha (by omega) λy hy2=>?_
  obtain ⟨g1,g2⟩:=hy y hy2
  exact XP g1 (by rw [g2];simp) (by omega) λz hz=>by rw [g2] at hz;cases hz
theorem ES.sz {n:Nat} {bL:List Int} {iN:Int} {x:aQ} (h:ES n bL iN x) (hn:n<=5):Sz x:=by
  have hf:=h.iC hn
  exact ⟨hf.1,by omega,by omega,by omega,by omega,λp hp=>by have:=tC (h.pr p hp);omega⟩
theorem TS {K:Int} {s:aA} {n:Nat} (h:Inv K s) (hn:100<n):yZ n s s=some true:=by
  have hf:=h.ss.toS0.iC
  have h1:=h.l1;have h2:=h.l2;have h3:=h.l3
  unfold yZ aEH
  simp only [WT.run,bS]
  refine dK (a:=false) (dK (aGW h.jW (by omega)) (iA (dF (eU (by simp) (dF (eU (by simp) (dF (dK (aS5 (by omega) (by omega) (by omega) (by omega)) rfl)))))))) (dF (dK (nA (l:=s.bD) (by omega) (by omega) (λi x h0 hi hx=>?_) λi h=>?_) rfl))
  · obtain ⟨bL,hm,_,_,hes⟩:=h.ss.bL hx
    have hei:=h.ent _ _ _ hx hm
    have hs:wQ n x x=some true:=by
      rcases hei with o | ⟨y,c⟩
      · exact aA5 (hes.sz hf.2.2) (by rw [o.lH];simp) (λy hy=>by rw [o.lH] at hy;cases hy) hn
      · refine aA5 (hes.sz hf.2.2) (by rw [c.lH];simp) (λz hz=>?_) hn
        rw [c.lH,List.mem_singleton] at hz;subst hz
        exact ⟨c.eo.es.sz hf.2.2,c.eo.lH⟩
    exact fQ hi (fK (iV h0 hx (iV h0 hx (dK hs (iA (dF (iE (by omega) rfl)))))))
  · exact eU h (dF rfl)
theorem lG {a b:Int} (h:0<=a/\a<=b):jO a b=some true:=by rw [qF,decide_eq_true h]
theorem JQ {a:Int} (h:bQ a):nU a=some true:=by rw [zY,decide_eq_true h]
theorem aOT {K:Int} {s:aA} {n:Nat} (h:Inv K s) (hn:66<n):LH n s=some true:=by
  have hf:=h.ss.toS0.iC
  have h1:=h.l1;have h2:=h.l2;have h3:=h.l3;have hE:=h.len
  unfold LH aAM
  simp only [WT.run,bS]
  refine iE (by omega) (iE (by omega) (dK (nA (l:=s.bY) (by omega) hn (λi x h0 hi hx=>?_) λi hi=>eU hi (dF rfl)) ?_))
  · have hk:=h.mD x (fE hx)
    unfold tH at hk
    obtain ⟨a1,a2,a3,a4,a5,a6,a7,a8⟩:=hk
    exact fQ hi (fK (iV h0 hx (dK (a:=false) (dK (lG (by omega)) (iA (dF (dK (lG (by omega)) (iA (dF (dK (lG (by omega)) (iA (dF (dK (lG (by omega)) (iA (dF (dK (lG (by omega)) (iA (dF (dK (lG (by omega)) (iA (dF (dK (lG (by omega)) (iA (dF (dK (lG (by omega)) (iA rfl))))))))))))))))))))))) (dF (iE (by omega) rfl)))))
  show Option.bind _ _=_
  refine dK (nA (l:=s.eF) (by omega) hn (λi x h0 hi hx=>?_) λi hi=>eU hi (dF rfl)) ?_
  · have hk:=h.mO x (fE hx)
    unfold pI at hk
    obtain ⟨a1,a2,a3,a4,a5,a6,a7,a8⟩:=hk
    exact fQ hi (fK (iV h0 hx (dK (a:=false) (dK (lG (by omega)) (iA (dF (dK (lG (by omega)) (iA (dF (dK (lG (by omega)) (iA (dF (dK (lG (by omega)) (iA (dF (dK (lG (by omega)) (iA (dF (dK (lG (by omega)) (iA (dF (dK (JQ a7) (iA (dF (iE (by omega) (dK (lG (by omega)) (iA rfl)))))))))))))))))))))))) (dF (iE (by omega) rfl)))))
  show Option.bind _ _=_
  refine dK (nA (l:=s.dL) (by omega) hn (λi x h0 hi hx=>?_) λi hi=>eU hi (dF rfl)) ?_
  · have hk:=h.nP x (fE hx)
    unfold BH at hk
    obtain ⟨a1,a2,a3,a4,a5,a6⟩:=hk
    exact fQ hi (fK (iV h0 hx (dK (a:=false) (dK (lG (by omega)) (iA (dF (dK (lG (by omega)) (iA (dF (dK (lG (by omega)) (iA (dF (dK (lG (by omega)) (iA (dF (dK (lG (by omega)) (iA (dF (dK (JQ a6) (iA rfl))))))))))))))))) (dF (iE (by omega) rfl)))))
  exact dK (a:=true) (fQ (by omega) (fK (fQ (by omega) (fK (fQ (by omega) rfl))))) rfl
theorem NR {l:List Int} {k:Nat} {lo:Int} {n:Nat} (hk:l.length=k) (hl:l.length<=60) (hn:66<n) (h:∀ y∈l,lo<=y/\y<=288230376151711744):BA n l k lo=some true:=by
  unfold BA ZS
  simp only [WT.run,bS]
  refine eU (by omega) (dF (dK (nA (l:=l) hl hn (λi x h0 hi hx=>?_) λi hi=>eU (by omega) (dF rfl)) rfl))
  have:=h x (fE hx)
  exact fQ (by omega) (fK (dK (a:=false) (iV h0 hx (eU (by omega) (dF (iV h0 hx (eU (by omega) rfl))))) (dF (iE (by omega) rfl))))
theorem q_in {s:aA} {e:Int} (he:0<=e/\e<(s.bD.length:Int)):tY s e=some true:=by
  unfold tY UK
  simp only [WT.run,bS]
  exact dK (a:=true) (fQ he.1 (fK (fQ he.2 rfl))) rfl
theorem P4 {m:Int} {p:aH} {n:Nat} (hn:70<n) (h:PR m p):LZ n m p=some true:=by
  have hm:=h.mt;have h30:=tC h.ly
  have a0:=h.p0;have a1:=h.p1;have a2:=h.p2;have hs:=h.sum;have ho:=h.uQ;have hQ:=h.ly.2.2.1
  refine fH ?_
  unfold LZ aE4
  simp only [WT.run,bS]
  refine aU (λb=>b=false) ⟨_,eU (by omega) (dF (eU (by omega) (dF ?_))),rfl⟩ λb hb=>?_
  · obtain ⟨b,hb,hc⟩:=BK (l:=p.aW) (n:=n) (by omega) (by omega)
    have:b=true:=hc.2 h.ly
    subst this
    refine dK hb (iA (dF ?_))
    by_cases k1:m=1
    · exact eU (by omega) (dF rfl)
    · exact fQ k1 (fK (eU (by have:=h.one k1;omega) rfl))
  subst hb
  refine bW (x_eq (xJ (by omega) h.ly) (aU (λr=>r=.inl ()) (fJ (λ(v:Int×Int)=>(v.2=0/\v.1=tQ p.aW)\/(v.2=1/\v.1=tQ p.aW-p.bN.a0)\/(v.2=2/\v.1=tQ p.aW-p.bN.a0-p.bN.a1)\/v.2=3) (λv=>3-v.2.toNat) ?_ (.inl ⟨rfl,rfl⟩) (by simp;omega)) λr hr=>by subst hr;exact cZ (aD rfl)))
  rintro ⟨q,i⟩ hi
  rcases hi with ⟨rfl,hq⟩ | ⟨rfl,hq⟩ | ⟨rfl,hq⟩ | rfl
  all_goals try simp only at hq
  · have ho:=λk=>(ho k).1
    refine bF (aF (aI (λ_=>?_) λk=>absurd (show (0:Int)<3 by decide) k))
    refine aU (λr=>r=(.inl (q-p.bN.a0,0):(Int×Int)⊕((Int×Int)⊕(Unit⊕Bool)))) (aU (λr=>r=((0:Int),false)) ?_ λr hr=>?_) λr hr=>?_
    · repeat' with_reducible first | refine bE ?_ | refine dU ?_ | apply aF | apply bF | apply dY | apply dN | apply dV | apply dZ | apply d9 | apply dO | apply dW | apply dS | refine aI (λ_=>?_) λ_=>?_ | refine dJ (λ_=>?_) λ_=>?_ | apply dB | apply bW | apply cZ | apply bJ | apply aD | refine dM ?_
      all_goals try (exfalso;omega)
      all_goals try rfl
      simp [ho (by assumption)]
    · subst hr
      refine bF (bW ?_)
      repeat' with_reducible first | refine bE ?_ | refine dU ?_ | apply aF | apply bF | apply dY | apply dN | apply dV | apply dZ | apply d9 | apply dO | apply dW | apply dS | refine aI (λ_=>?_) λ_=>?_ | refine dJ (λ_=>?_) λ_=>?_ | apply dB | apply bW | apply cZ | apply bJ | apply aD | refine dM ?_
      all_goals try (exfalso;omega)
      all_goals exact cK rfl
    · subst hr
      exact cZ (bF (gU (show (-9223372036854775808:Int)<=0+1/\(0+1:Int)<=9223372036854775807 by decide) (cK ⟨by simp only;omega,by simp⟩)))
  · have ho:=λk=>(ho k).2.1
    refine bF (aF (aI (λ_=>?_) λk=>absurd (show (1:Int)<3 by decide) k))
    refine aU (λr=>r=(.inl (q-p.bN.a1,1):(Int×Int)⊕((Int×Int)⊕(Unit⊕Bool)))) (aU (λr=>r=((1:Int),false)) ?_ λr hr=>?_) λr hr=>?_
    · repeat' with_reducible first | refine bE ?_ | refine dU ?_ | apply aF | apply bF | apply dY | apply dN | apply dV | apply dZ | apply d9 | apply dO | apply dW | apply dS | refine aI (λ_=>?_) λ_=>?_ | refine dJ (λ_=>?_) λ_=>?_ | apply dB | apply bW | apply cZ | apply bJ | apply aD | refine dM ?_
      all_goals try (exfalso;omega)
      all_goals try rfl
      simp [ho (by assumption)]
    · subst hr
      refine bF (bW ?_)
      repeat' with_reducible first | refine bE ?_ | refine dU ?_ | apply aF | apply bF | apply dY | apply dN | apply dV | apply dZ | apply d9 | apply dO | apply dW | apply dS | refine aI (λ_=>?_) λ_=>?_ | refine dJ (λ_=>?_) λ_=>?_ | apply dB | apply bW | apply cZ | apply bJ | apply aD | refine dM ?_
      all_goals try (exfalso;omega)
      all_goals exact cK rfl
    · subst hr
      exact cZ (bF (gU (show (-9223372036854775808:Int)<=1+1/\(1+1:Int)<=9223372036854775807 by decide) (cK ⟨by simp only;omega,by simp⟩)))
  · have ho:=λk=>(ho k).2.2
    refine bF (aF (aI (λ_=>?_) λk=>absurd (show (2:Int)<3 by decide) k))
    refine aU (λr=>r=(.inl (q-p.bN.a2,2):(Int×Int)⊕((Int×Int)⊕(Unit⊕Bool)))) (aU (λr=>r=((2:Int),false)) ?_ λr hr=>?_) λr hr=>?_
    · repeat' with_reducible first | refine bE ?_ | refine dU ?_ | apply aF | apply bF | apply dY | apply dN | apply dV | apply dZ | apply d9 | apply dO | apply dW | apply dS | refine aI (λ_=>?_) λ_=>?_ | refine dJ (λ_=>?_) λ_=>?_ | apply dB | apply bW | apply cZ | apply bJ | apply aD | refine dM ?_
      all_goals try (exfalso;omega)
      all_goals try rfl
      simp [ho (by assumption)]
    · subst hr
      refine bF (bW ?_)
      repeat' with_reducible first | refine bE ?_ | refine dU ?_ | apply aF | apply bF | apply dY | apply dN | apply dV | apply dZ | apply d9 | apply dO | apply dW | apply dS | refine aI (λ_=>?_) λ_=>?_ | refine dJ (λ_=>?_) λ_=>?_ | apply dB | apply bW | apply cZ | apply bJ | apply aD | refine dM ?_
      all_goals try (exfalso;omega)
      all_goals exact cK rfl
    · subst hr
      exact cZ (bF (gU (show (-9223372036854775808:Int)<=2+1/\(2+1:Int)<=9223372036854775807 by decide) (cK ⟨by simp only;omega,by simp⟩)))
  · exact bF (aF (aI (λk=>absurd k (show ¬ (3:Int)<3 by decide)) λ_=>bJ (cK rfl)))
theorem aL0 {m:fC} {bL:List Int} {x:aQ} (hs:ES m.bZ.length bL m.gQ x) {i:Int} (h0:0<=i) (hi:i<(x.bX.length:Int)):∃ t p,bL[(i.tdiv 2).toNat]?=some t/\x.bX[i.toNat]?=some p/\PR t p:=by
  have hl:=hs.lp;have hm:=hs.lm
  have e1:i.tdiv 2=i / 2:=Int.tdiv_eq_ediv_of_nonneg h0
  have hj:(i.tdiv 2).toNat<m.bZ.length:=by omega
  have g1:=List.getElem?_eq_getElem (l:=bL) (i:=(i.tdiv 2).toNat) (by omega)
  have g2:=List.getElem?_eq_getElem (l:=x.bX) (i:=2*(i.tdiv 2).toNat) (by omega)
  have g3:=List.getElem?_eq_getElem (l:=x.bX) (i:=2*(i.tdiv 2).toNat+1) (by omega)
  have hp:=hs.AI _ _ _ _ g1 g2 g3
  rcases (show i.toNat=2*(i.tdiv 2).toNat\/i.toNat=2*(i.tdiv 2).toNat+1 by omega) with k | k
  · exact ⟨_,_,g1,(congrArg (x.bX[·]?) k).trans g2,hp.pp⟩
  · exact ⟨_,_,g1,(congrArg (x.bX[·]?) k).trans g3,hp.qq⟩
theorem aXN (r:cO):vM r=some ⟨r.Open,r.iW,r.jH,r.jG,r.iY,r.jF,r.jE,r.iX,r.jC,r.jD,r.jB⟩:=by
  unfold vM aEV
  simp only [WT.run,bS]
theorem O8 {m:fC} {bL:List Int} {x:aQ} {e:Int} {b:Bool} {n:Nat} (hM:pM m) (h0:0<=e) (hm:m.Methods[e.toNat]?=some bL) (hs:ES m.bZ.length bL m.gQ x) (hn:90<n) :
    yM (n+1) m e x b=bnd (decide ((x.fV.length:Int)=0)) λ(x46:Bool) =>
    cond x46 (bnd (!x.Closed) λ(x52:Bool) =>
    some ((x52:Bool))) ((show Option (Bool) from
    cond b (bnd x.Closed λ(x48:Bool) =>
    cond x48 (bnd (decide ((x.fV.length:Int)=1)) λ(x49:Bool) =>
    cond x49 ((ix x.fV 0).bind λ(x50:aQ) =>
    (yM n m e x50 false).bind λ(x51:Bool) =>
    some (x51:Bool)) (some (false:Bool))) (some (false:Bool))) (some (false:Bool))).bind <| λ(y8_1:Bool) =>
    some ((y8_1:Bool))):=by
  have h1:=hs.now;have h2:=hs.lp;have h3:=hs.lr;have h4:=hs.lb;have h5:=hs.lc;have h6:=hs.ld;have hw:=hM.n1
  rw [aTI]
  unfold PG
  simp only [WT.run,bS]
  refine dK (a:=false) (eU (by omega) (dF (eU (by omega) (dF (iE (by omega) (eU (by omega) (dF (eU (by omega) (dF (dK (NR (k:=17) h4 (by omega) (by omega) λy hy=>hs.gH y hy) (iA (dF (dK (NR (k:=m.bZ.length) h5 (by omega) (by omega) hs.pri) (iA (dF (dK (NR (k:=m.bZ.length) h6 (by omega) (by omega) hs.zX) rfl)))))))))))))))) (dF ?_)
  refine dK (a:=.inl ()) (nA (l:=x.bX) (by omega) (by omega) (λi p g0 hc hx=>?_) λi hc=>eU hc (dF rfl)) ?_
  · obtain ⟨t,p,w1,w2,w3⟩:=aL0 hs g0 hc
    have e1:i.tdiv 2=i / 2:=Int.tdiv_eq_ediv_of_nonneg g0
    exact fQ hc (fK (iV h0 hm (iE (by omega) (iV (by omega) w1 (iV g0 w2 (dK (P4 (by omega) w3) (iA (dF (iE (by omega) rfl)))))))))
  show Option.bind _ _=_
  refine dK (a:=.inl ()) (nA (l:=m.bZ) (by omega) (by omega) (λi _ g0 hc hx=>?_) λi hc=>eU hc (dF rfl)) rfl
  have g:=List.getElem?_eq_getElem (l:=x.dQ) (i:=i.toNat) (by omega)
  generalize x.dQ[i.toNat]'(by omega)=r at g
  obtain ⟨c0,c1,c2,c3,c4,c5,c6,c7,c8,c9,c10⟩:=hs.roll _ (fE g)
  have hl:([r.Open,r.iW,r.jH,r.jG,r.iY,r.jF,r.jE,r.iX,r.jC,r.jD,r.jB]:List Int).length=11:=rfl
  refine fQ hc (fK (dK (a:=(.inl ():Unit⊕(Int⊕(Unit⊕Bool)))) (iV g0 g (dK (aXN _) (dK (a:=(.inl ():Unit⊕(Unit⊕(Int⊕(Unit⊕Bool))))) (nA (l:=[r.Open,r.iW,r.jH,r.jG,r.iY,r.jF,r.jE,r.iX,r.jC,r.jD,r.jB]) (by omega) (by omega) (λj y j0 hj hy=>?_) λj hj=>eU (by omega) (dF rfl)) rfl))) (aQL (iE (by omega) rfl))))
  refine fQ (show j<11 by omega) (fK (qB ⟨j0,by omega⟩ (iV j0 hy (dK (JQ ?_) (iA (dF (iE (by omega) rfl)))))))
  have hy:=fE hy
  simp only [List.mem_cons,List.not_mem_nil,or_false] at hy
  rcases hy with rfl | rfl | rfl | rfl | rfl | rfl | rfl | rfl | rfl | rfl | rfl <;> assumption
theorem aL6 {m:fC} {bL:List Int} {x:aQ} {e:Int} {n:Nat} (hM:pM m) (h0:0<=e) (hm:m.Methods[e.toNat]?=some bL) (hs:EI m bL x) (hn:100<n):yM n m e x true=some true:=by
  obtain ⟨n,rfl⟩:∃ j,n=j+2:=⟨n-2,by omega⟩
  rcases hs with h | ⟨y,h⟩
  · rw [O8 hM h0 hm h.es (by omega)]
    have:=h.lH;have:=h.opn
    refine fQ (by simp [*]) (fK ?_)
    rw [h.opn];rfl
  · rw [O8 hM h0 hm h.es (by omega)]
    refine eU (by rw [h.lH];simp) (dF (dK (a:=true) (fK ?_) rfl))
    rw [h.LP,h.lH]
    refine iA (fK (fQ rfl (fK (iV (by decide) rfl (dK (a:=true) ?_ rfl)))))
    rw [O8 hM h0 hm h.eo.es (by omega)]
    refine fQ (by rw [h.eo.lH];rfl) (fK ?_)
    rw [h.eo.opn];rfl
end Go.Pv
