import Derived.Test.YtgoihillpibdjaaGreatPK80
import Derived.Test.YtgoihillpibdjaaGreatPG80
set_option linter.unusedVariables false
set_option linter.unusedSimpArgs false
namespace Go.Pv
open Go.Proofs
set_option maxRecDepth 1000000
set_option maxHeartbeats 1000000
theorem aQQ {a b:cK} (k0:nN a.Open b.Open) (k1:nN a.jC b.jC) (k2:nN a.jE b.jE) (k3:nN a.jD b.jD) (k4:nN a.jB b.jB) (k5:nN a.iZ b.iZ) (k6:nN a.jG b.jG) (k7:nN a.iX b.iX) (k8:nN a.iV b.iV) (k9:nN a.jF b.jF) (k10:nN a.jH b.jH):TA a b:=λj hj =>
  match j,hj with
  | 0,_=>k0
  | 1,_=>k1
  | 2,_=>k2
  | 3,_=>k3
  | 4,_=>k4
  | 5,_=>k5
  | 6,_=>k6
  | 7,_=>k7
  | 8,_=>k8
  | 9,_=>k9
  | 10,_=>k10
theorem aUA {s:aA} {n:Nat} (h:SS s) {e i:Int} {x:aP} {r0 r:cK} (ht:gM s e i) (hx:s.bC[e.toNat]?=some x) (hr0:x.dH[i.toNat]?=some r0):yK s e i r=some (xQ s e i x r0 r):=by
  have hf:=h.toS0.gU
  have ht2:=ht.1;have ht3:=ht.2
  obtain ⟨bL,hm,_,_,hes⟩:=h.bL hx
  have hl2:=hes.gU hf.2.2
  refine eT ?_
  unfold yK U4
  simp only [WT.run,bR,LK h.toS0 h.ln,VA,Option.bind_some]
  rw [decide_eq_true ht]
  refine aD (bU (bW ht2.1 hx (bW ht3.1 hr0 ?_)))
  refine aT (λ(q:cK⊕(aA×Int))=>match q with | .inl g=>TA r0 r/\g=qT r0 r | .inr q=>q=(s,2)/\¬ TA r0 r) ?_ λq hq=>jI (λg e=>?_) λq e=>?_
  · refine x_eq (a:=r.Open) rfl (aD (aH (λk=>bK (aF ⟨by rw [(oU _ _).resolve_left k],λq=>k (kL.2 (q 0 (by decide)))⟩)) λk0=>?_))
    have k0:=kL.1 (Classical.not_not.1 k0)
    refine x_eq (a:=r.jC) rfl (aD (aH (λk=>bK (aF ⟨by rw [(oU _ _).resolve_left k],λq=>k (kL.2 (q 1 (by decide)))⟩)) λk1=>?_))
    have k1:=kL.1 (Classical.not_not.1 k1)
    refine x_eq (a:=r.jE) rfl (aD (aH (λk=>bK (aF ⟨by rw [(oU _ _).resolve_left k],λq=>k (kL.2 (q 2 (by decide)))⟩)) λk2=>?_))
    have k2:=kL.1 (Classical.not_not.1 k2)
    refine x_eq (a:=r.jD) rfl (aD (aH (λk=>bK (aF ⟨by rw [(oU _ _).resolve_left k],λq=>k (kL.2 (q 3 (by decide)))⟩)) λk3=>?_))
    have k3:=kL.1 (Classical.not_not.1 k3)
    refine x_eq (a:=r.jB) rfl (aD (aH (λk=>bK (aF ⟨by rw [(oU _ _).resolve_left k],λq=>k (kL.2 (q 4 (by decide)))⟩)) λk4=>?_))
    have k4:=kL.1 (Classical.not_not.1 k4)
    refine x_eq (a:=r.iZ) rfl (aD (aH (λk=>bK (aF ⟨by rw [(oU _ _).resolve_left k],λq=>k (kL.2 (q 5 (by decide)))⟩)) λk5=>?_))
    have k5:=kL.1 (Classical.not_not.1 k5)
    refine x_eq (a:=r.jG) rfl (aD (aH (λk=>bK (aF ⟨by rw [(oU _ _).resolve_left k],λq=>k (kL.2 (q 6 (by decide)))⟩)) λk6=>?_))
    have k6:=kL.1 (Classical.not_not.1 k6)
    refine x_eq (a:=r.iX) rfl (aD (aH (λk=>bK (aF ⟨by rw [(oU _ _).resolve_left k],λq=>k (kL.2 (q 7 (by decide)))⟩)) λk7=>?_))
    have k7:=kL.1 (Classical.not_not.1 k7)
    refine x_eq (a:=r.iV) rfl (aD (aH (λk=>bK (aF ⟨by rw [(oU _ _).resolve_left k],λq=>k (kL.2 (q 8 (by decide)))⟩)) λk8=>?_))
    have k8:=kL.1 (Classical.not_not.1 k8)
    refine x_eq (a:=r.jF) rfl (aD (aH (λk=>bK (aF ⟨by rw [(oU _ _).resolve_left k],λq=>k (kL.2 (q 9 (by decide)))⟩)) λk9=>?_))
    have k9:=kL.1 (Classical.not_not.1 k9)
    refine x_eq (a:=r.jH) rfl (aD (aH (λk=>bK (aF ⟨by rw [(oU _ _).resolve_left k],λq=>k (kL.2 (q 10 (by decide)))⟩)) λk10=>?_))
    have k10:=kL.1 (Classical.not_not.1 k10)
    exact bX ⟨aQQ k0 k1 k2 k3 k4 k5 k6 k7 k8 k9 k10,by rw [qL k0,qL k1,qL k2,qL k3,qL k4,qL k5,qL k6,qL k7,qL k8,qL k9,qL k10];rfl⟩
  · subst e
    have hq:TA r0 r/\g=qT r0 r:=hq
    obtain ⟨q1,rfl⟩:=hq
    refine aT (λ_=>True) (dF (bW ht2.1 hx (aF trivial))) λ_ _=>bW ht2.1 hx (dF (bW ht3.1 hr0 (aD (aF ?_))))
    unfold xQ;rw [if_pos q1];rfl
  · subst e
    have hq:q=(s,2)/\¬ TA r0 r:=hq
    unfold xQ;rw [if_neg hq.2];exact hq.1
theorem aOX {s:aA} {n:Nat} (hn:66<n) (h:SS s) {e i:Int} {r:cK}:yK s e i r=mW n s e i r:=by
  by_cases ht:gM s e i
  · obtain ⟨x,hx⟩:=ht.at
    obtain ⟨bL,hm,_,_,hes⟩:=h.bL hx
    have hlr:=hes.lr
    have ht3:=ht.2
    have hr:=List.getElem?_eq_getElem (l:=x.dH) (i:=i.toNat) (by omega)
    rw [aUA (n:=n) h ht hx hr,aGL hn h ht hx hr]
  · have e1:yK s e i r=some (s,4):=by
      refine eT ?_
      unfold yK U4
      simp only [WT.run,bR,LK h.toS0 h.ln,Option.bind_some]
      rw [decide_eq_false ht]
      exact aD (cO (aF rfl))
    have e2:mW n s e i r=some (s,4):=by
      refine eT ?_
      unfold mW JQ
      simp only [WT.run,bR,qC h.toS0,Option.bind_some]
      rw [decide_eq_false ht]
      exact aD (cO (aF rfl))
    rw [e1,e2]
theorem g2o {p q:Prop} [Decidable p] [Decidable q]:(bnd (decide p) λx=>cond x (some true) (bnd (decide q) λy=>some y))=some (decide (p\/q)):=by
  by_cases h:p <;> by_cases k:q <;> simp [bnd,h,k]
theorem aGO {β:Type} {p:Prop} {_:Decidable p} {a b r:Option β} (h:p) (k:a=r):cond (decide p) a b=r:=by rw [decide_eq_true h];exact k
theorem VU {β:Type} {p:Prop} {_:Decidable p} {a b r:Option β} (h:¬ p) (k:b=r):cond (decide p) a b=r:=by rw [decide_eq_false h];exact k
theorem aPP {α:Type} {D P:Option α} (h:Ex (λr=>D=some r) P):P=D:=by obtain ⟨r,e,k⟩:=h;rw [e,k]
theorem MB (a v:Int):pJ a v=some ⟨a,v⟩:=rfl
def Qs (E:Option (aA×Int)) (s:aA) (r:aA×Int):Prop:=(r.2≠0/\E=some (s,r.2))\/(r.2=0/\E=some (r.1,0))
theorem Qs.mono {E F:Option (aA×Int)} {s:aA} {r:aA×Int} (h:Qs E s r) (hE:F=E):Qs F s r:=by rw [hE];exact h
theorem I8 {s:aA} {D E:Option (aA×Int)} (hE:∀ z,E=some z->D=some z) (r:aA×Int) (hr:Qs E s r) :
    Ex (λz=>D=some z) (bnd (decide (r.2≠0)) λy=>cond y (some (s,r.2)) (some (r.1,0))):=by
  refine aD (aH (λk=>aF (hE _ ?_)) λk=>aF (hE _ ?_))
  · rcases hr with ⟨_,z⟩ | ⟨z,_⟩
    · exact z
    · exact absurd z k
  · rcases hr with ⟨z,_⟩ | ⟨_,z⟩
    · exact absurd z k
    · exact z
theorem EF {s t:aA} {o:bM} {n:Nat} (hn:66<n) (h:SS t) {l:List aS} {r:cK} (hl:l.length<=19) (hd:(l.map (·.dM)).Nodup):Ex (Qs (qJ n s t o.E o.Item l r) s) (vT n t o r l):=by
  have hE:qJ n s t o.E o.Item l r=qJ n s t o.E o.Item l r:=rfl
  conv at hE=>rhs;unfold qJ SQ;simp only [WT.run,bR]
  unfold vT aIT
  simp only [WT.run,bR]
  obtain ⟨c,ec,hc⟩:=oP (n:=n) (e:=o.E) (l:=l) hn h (by omega)
  refine x_eq ((post_eq hn h hl hd).trans ec) ?_
  replace hE:=hE.trans (dA ec rfl)
  refine aD (aH (λk=>aF (.inl ⟨k,hE.trans (fJ k (fC rfl))⟩)) λk=>?_)
  replace hE:=hE.trans (eB k (dB rfl))
  rcases hc with ⟨_,hc⟩ | ⟨q,_⟩
  rotate_left
  · exact absurd q k
  obtain ⟨d,ed,hd2⟩:=sU (n:=n) (e:=o.E) (i:=o.Item) (r:=r) hn (hc.ss h)
  refine x_eq ((aOX hn (hc.ss h)).trans ed) (aF ?_)
  replace hE:=hE.trans (dA ed rfl)
  by_cases k2:d.2≠0
  · exact .inl ⟨k2,hE.trans (fJ k2 (fC rfl))⟩
  · exact .inr ⟨Classical.not_not.1 k2,hE.trans (eB k2 (dB rfl))⟩
theorem aSH {K:Int} {s:aA} {o:bM} {n:Nat} {x:aP} {bL:List Int} (hn:66<n) (h:Inv K s) (hq:0<=o.aI/\o.aI<=288230376151711744) (o0:On s o.E.toNat bL s x 0 (λ_=>0)):Ex (Qs (wE n s o) s) (xR n s o):=by
  have hE:wE n s o=wE n s o:=rfl
  conv at hE=>rhs;unfold wE Q7;simp only [WT.run,bR]
  unfold xR X8
  simp only [WT.run,bR,MB,Option.bind_some]
  obtain ⟨b,eb,hb⟩:=uM (n:=n) (e:=o.E) (i:=o.Item) (c:=o.Loc) (k:=1) (q:=o.aI) hn h.ss (by omega)
  refine x_eq ((O5 hn h.ss (by omega)).trans eb) ?_
  replace hE:=hE.trans (dA eb rfl)
  refine aD (aH (λk=>aF (.inl ⟨k,hE.trans (fJ k (fC rfl))⟩)) λk=>?_)
  rcases hb with ⟨_,hb⟩ | ⟨q,_⟩
  rotate_left
  · exact absurd q k
  obtain ⟨f1,f2,f3,f4,f5,f6⟩:=hb.facts
  obtain ⟨x1,o1,p1,p2,p3⟩:=o0.vP hb
  refine bF ?_
  replace hE:=hE.trans (eB k (dB (iO (by omega) rfl)))
  exact aT _ (EF hn (o1.ss h.ss) (by simp) (by simp)) λr hr=>aF (hr.elim (λz=>.inl ⟨z.1,hE.trans (dA z.2 rfl)⟩) λz=>.inr ⟨z.1,hE.trans (dA z.2 rfl)⟩)
theorem aN1 {K:Int} {s:aA} {o:bM} {n:Nat} {x:aP} {bL:List Int} (hn:66<n) (h:Inv K s) (hq:0<=o.aI/\o.aI<=288230376151711744) (o0:On s o.E.toNat bL s x 0 (λ_=>0)):Ex (Qs (xK n s o) s) (zT n s o):=by
  have hE:xK n s o=xK n s o:=rfl
  conv at hE=>rhs;unfold xK OX;simp only [WT.run,bR]
  unfold zT aI2
  simp only [WT.run,bR,MB,Option.bind_some]
  obtain ⟨b,eb,hb⟩:=uM (n:=n) (e:=o.E) (i:=o.Item) (c:=o.Loc) (k:=3) (q:=o.aI) hn h.ss (by omega)
  refine x_eq ((O5 hn h.ss (by omega)).trans eb) ?_
  replace hE:=hE.trans (dA eb rfl)
  refine aD (aH (λk=>aF (.inl ⟨k,hE.trans (fJ k (fC rfl))⟩)) λk=>?_)
  replace hE:=hE.trans (eB k (dB rfl))
  rcases hb with ⟨_,hb⟩ | ⟨q,_⟩
  rotate_left
  · exact absurd q k
  obtain ⟨f1,f2,f3,f4,f5,f6⟩:=hb.facts
  obtain ⟨x1,o1,p1,p2,p3⟩:=o0.vP hb
  have hbq:b.2.1.aI<=9223372036854775807:=by
    obtain ⟨y,m,o,p,p2,p',hs,e1,hio,hc,h1,h2,h3⟩:=hb
    obtain ⟨c1,c2,c3,c4,c5,c6,c7⟩:=hc
    have b1:=gN c1.ly;have b2:=gN hs.io.pp.ly
    omega
  have s1:=o1.ss h.ss
  obtain ⟨c,ec,hc⟩:=yS (n:=n) (s:=b.1) (e:=o.E) (i:=o.Item) (c:=o.To) (l:=b.2.1) hn s1 hbq
  refine x_eq ((XI hn s1 hbq).trans ec) ?_
  replace hE:=hE.trans (dA ec rfl)
  refine aD (aH (λk=>aF (.inl ⟨k,hE.trans (fJ k (fC rfl))⟩)) λk2=>?_)
  rcases hc with ⟨_,hc⟩ | ⟨q,_⟩
  rotate_left
  · exact absurd q k2
  obtain ⟨g1,g2,g3,g4,g5,g6,g7⟩:=hc.facts
  obtain ⟨x2,o2,q1,q2,q3⟩:=o1.brought hc
  refine bF (bF ?_)
  replace hE:=hE.trans (eB k2 (dB (iO (by omega) (iO (by omega) rfl))))
  exact aT _ (EF hn (o2.ss h.ss) (by simp) (by simp)) λr hr=>aF (hr.elim (λz=>.inl ⟨z.1,hE.trans (dA z.2 rfl)⟩) λz=>.inr ⟨z.1,hE.trans (dA z.2 rfl)⟩)
theorem YJ {p:aQ} {n:Nat} (hn:66<n) (hl:LR p.aG):HZ n p=some ⟨tQ p.aG,tV p.aG,tP p.aG⟩:=by
  have hb:=gN hl
  refine eT ?_
  unfold HZ Y9
  simp only [WT.run,bR]
  refine aT _ (SX (by omega) (by omega) hl.1) λr hr=>aF ?_
  rw [hr.1 (by omega) (by omega) (by omega)]
theorem aWP {m:Int} {p:aQ} {n:Nat} (hn:66<n) (h:PR m p):J9 n m p=some (tQ p.aG-p.bH.a0-p.bH.a1-p.bH.a2):=by
  refine eT ?_
  unfold J9 aFY
  simp only [WT.run,bR,YJ hn h.ly,Option.bind_some]
  refine aD (aH (λ_=>x_eq (QM hn h) (aF rfl)) λk=>aF ?_)
  obtain ⟨a,b,c⟩:=h.sZ k
  omega
theorem aVR {K:Int} {s:aA} {o:bM} {n:Nat} {x:aP} {bL:List Int} (hn:66<n) (h:Inv K s) (hq:0<=o.aI/\o.aI<=288230376151711744) (hlc:0<=o.Loc/\o.Loc<=1) (ht:gM s o.E o.Item) (hx:s.bC[o.E.toNat]?=some x) (o0:On s o.E.toNat bL s x 0 (λ_=>0)):Ex (Qs (xL n s o) s) (xV n s o):=by
  have hE:xL n s o=xL n s o:=rfl
  conv at hE=>rhs;unfold xL UP;simp only [WT.run,bR]
  unfold xV aAO
  simp only [WT.run,bR,MB,Option.bind_some]
  obtain ⟨x',m,k,p,p2,hs⟩:=h.ss.spot ht hlc
  have hx':=hs.en;rw [hx] at hx';cases hx'
  obtain ⟨ms',m1,m2⟩:=hs.ms
  obtain ⟨cs,c1,c2⟩:=hs.cs
  have hl:=gN hs.io.pp.ly
  have e0:=hs.io.pp.p0;have e1:=hs.io.pp.p1;have e2:=hs.io.pp.p2;have e3:=hs.io.pp.sum;have hkk:=hs.kk
  refine bW ht.1.1 m1 (bW ht.2.1 m2 (bW ht.1.1 c1 (bW ht.2.1 c2 (x_eq (EU h.ss.toS0 h.ss.ln ht hlc hx hs.pp (lQ hs.io.pp.ly)) (x_eq (aWP hn hs.io.pp) (bF ?_))))))
  replace hE:=hE.trans (iA ht.1.1 m1 (iA ht.2.1 m2 (dA (lU h.ss.toS0 ht hlc hx hs.pp) (dA (WJ hn hs.io.pp) (iO (by omega) rfl)))))
  refine aD (aH (λk0=>aF (.inr ⟨rfl,hE.trans (fJ k0 (fC rfl))⟩)) λk0=>?_)
  replace hE:=hE.trans (eB k0 (dB rfl))
  refine aD (aH (λk1=>?_) λk1=>?_)
  · refine bF ?_
    replace hE:=hE.trans (fJ k1 (fC (iO (by omega) rfl)))
    obtain ⟨b,eb,hb⟩:=uM (n:=n) (e:=o.E) (i:=o.Item) (c:=o.Loc) (k:=2) (q:=0-(o.aI-(tQ p.aG-p.bH.a0-p.bH.a1-p.bH.a2))) hn h.ss (by omega)
    refine x_eq ((O5 hn h.ss (by omega)).trans eb) ?_
    replace hE:=hE.trans (dA eb rfl)
    refine aD (aH (λk=>aF (.inl ⟨k,hE.trans (fJ k (fC rfl))⟩)) λk2=>?_)
    rcases hb with ⟨_,hb⟩ | ⟨q,_⟩
    rotate_left
    · exact absurd q k2
    obtain ⟨f1,f2,f3,f4,f5,f6⟩:=hb.facts
    obtain ⟨x1,o1,p1,p2,p3⟩:=o0.vP hb
    refine bF ?_
    replace hE:=hE.trans (eB k2 (dB (iO (by omega) rfl)))
    exact aT _ (EF hn (o1.ss h.ss) (by simp) (by simp)) λr hr=>aF (hr.elim (λz=>.inl ⟨z.1,hE.trans (dA z.2 rfl)⟩) λz=>.inr ⟨z.1,hE.trans (dA z.2 rfl)⟩)
  · refine x_eq (YJ hn hs.io.pp.ly) (aD ?_)
    replace hE:=hE.trans (eB k1 (dB (dA (wG hn hs.io.pp.ly) rfl)))
    obtain ⟨v,ev1,ev2,hv⟩:∃ v:Int×Int,(bnd (decide (m=4)) λy=>cond y ((ix s.bJ.gB o.E).bind λa=>(ix a o.Item).bind λb=>(nM n (o.aI-(tQ p.aG-p.bH.a0-p.bH.a1-p.bH.a2)) b 1).bind λc=>some (c.1,c.2.2)) (bnd (decide ((⟨tQ p.aG,tV p.aG,tP p.aG⟩:aB).aI>0)) λy=>cond y ((nM n (⟨tQ p.aG,tV p.aG,tP p.aG⟩:aB).Value (o.aI-(tQ p.aG-p.bH.a0-p.bH.a1-p.bH.a2)) (⟨tQ p.aG,tV p.aG,tP p.aG⟩:aB).aI).bind λc=>some (c.1,c.2.2)) (some (0,0))))=some v /\
        (cond (decide (m=4)) ((tF n (o.aI-(tQ p.aG-p.bH.a0-p.bH.a1-p.bH.a2)) k 1).bind λc=>some (c.1,c.2.2)) (bnd (decide ((⟨tQ p.aG,tV p.aG,tP p.aG⟩:aB).aI>0)) λy=>cond y ((tF n (⟨tQ p.aG,tV p.aG,tP p.aG⟩:aB).Value (o.aI-(tQ p.aG-p.bH.a0-p.bH.a1-p.bH.a2)) (⟨tQ p.aG,tV p.aG,tP p.aG⟩:aB).aI).bind λc=>some (c.1,c.2.2)) (some (0,0))))=some v/\(0<=v.1/\v.1<=288230376151711744):=by
      by_cases k4:m=4
      · have hm:=pF (o.aI-(tQ p.aG-p.bH.a0-p.bH.a1-p.bH.a2)) k 1
        exact ⟨((md (o.aI-(tQ p.aG-p.bH.a0-p.bH.a1-p.bH.a2)) k 1).1,(md (o.aI-(tQ p.aG-p.bH.a0-p.bH.a1-p.bH.a2)) k 1).2.2),fJ k4 (fC (iA ht.1.1 c1 (iA ht.2.1 c2 (dA (wY hn (by omega) (by omega) (by decide)) rfl)))),aGO k4 (dA (EW hn (by omega) (by omega) (by decide)) rfl),hm.1,hm.2.1⟩
      · by_cases k5:tQ p.aG>0
        · have hm:=pF (tV p.aG) (o.aI-(tQ p.aG-p.bH.a0-p.bH.a1-p.bH.a2)) (tQ p.aG)
          exact ⟨((md (tV p.aG) (o.aI-(tQ p.aG-p.bH.a0-p.bH.a1-p.bH.a2)) (tQ p.aG)).1,(md (tV p.aG) (o.aI-(tQ p.aG-p.bH.a0-p.bH.a1-p.bH.a2)) (tQ p.aG)).2.2),eB k4 (dB (fJ k5 (fC (dA (wY hn (by simp only;omega) (by omega) (by simp only;omega)) rfl)))),VU k4 (fJ k5 (fC (dA (EW hn (by simp only;omega) (by omega) (by simp only;omega)) rfl))),hm.1,hm.2.1⟩
        · exact ⟨(0,0),eB k4 (dB (eB k5 (dB rfl))),VU k4 (eB k5 (dB rfl)),by decide⟩
    have hE2:=hE.trans (b:=((bnd (decide (m=4)) λy=>cond y ((ix s.bJ.gB o.E).bind λa=>(ix a o.Item).bind λb=>(nM n (o.aI-(tQ p.aG-p.bH.a0-p.bH.a1-p.bH.a2)) b 1).bind λc=>some (c.1,c.2.2)) (bnd (decide ((⟨tQ p.aG,tV p.aG,tP p.aG⟩:aB).aI>0)) λy=>cond y ((nM n (⟨tQ p.aG,tV p.aG,tP p.aG⟩:aB).Value (o.aI-(tQ p.aG-p.bH.a0-p.bH.a1-p.bH.a2)) (⟨tQ p.aG,tV p.aG,tP p.aG⟩:aB).aI).bind λc=>some (c.1,c.2.2)) (some (0,0))))).bind _) rfl
    replace hE:=hE2.trans (dA ev1 (uS rfl))
    refine x_eq ev2 (bE (aD (aH (λk=>aF (.inl ⟨k,hE.trans (fJ k (fC rfl))⟩)) λk6=>?_)))
    replace hE:=hE.trans (eB k6 (dB rfl))
    obtain ⟨b,eb,hb⟩:=yS (n:=n) (s:=s) (e:=o.E) (i:=o.Item) (c:=o.Loc) (l:=⟨o.aI-(tQ p.aG-p.bH.a0-p.bH.a1-p.bH.a2),v.1,0⟩) hn h.ss (by simp only;omega)
    refine x_eq ((XI hn h.ss (by simp only;omega)).trans eb) ?_
    replace hE:=hE.trans (dA eb rfl)
    refine aD (aH (λk=>aF (.inl ⟨k,hE.trans (fJ k (fC rfl))⟩)) λk7=>?_)
    rcases hb with ⟨_,hb⟩ | ⟨q,_⟩
    rotate_left
    · exact absurd q k7
    obtain ⟨f1,f2,f3,f4,f5,f6,f7⟩:=hb.facts
    obtain ⟨x1,o1,p1,p2,p3⟩:=o0.brought hb
    refine bF (bF ?_)
    replace hE:=hE.trans (eB k7 (dB (iO (by omega) (iO (by omega) rfl))))
    exact aT _ (EF hn (o1.ss h.ss) (by simp) (by simp)) λr hr=>aF (hr.elim (λz=>.inl ⟨z.1,hE.trans (dA z.2 rfl)⟩) λz=>.inr ⟨z.1,hE.trans (dA z.2 rfl)⟩)
def rv (l:List aB) (c:Int):List aB×Int×Int:=if l.length=0 then (l,0,0) else if (md (tQ l) c 1).2.2≠0 then (l,0,2) else ([⟨tQ l,(md (tQ l) c 1).1,tP l⟩],(md (tQ l) c 1).1-tV l,0)
theorem aG5 {l:List aB} {c:Int} {n:Nat} (hn:66<n) (hl:LR l) (hc:0<=c/\c<=1073741824):vR n l c=some (rv l c):=by
  have hb:=gN hl
  have hm:=pF (tQ l) c 1
  refine eT ?_
  unfold vR U1 rv
  simp only [WT.run,bR,g2o,wM hn hl,Option.bind_some]
  refine aH (λk=>absurd k (by omega)) λ_=>aD (aH (λk=>aF (by rw [if_pos (by omega)])) λk=>?_)
  rw [if_neg (by omega)]
  refine x_eq (BZ hn (by omega) (by omega)) (aD (eX (λz=>aF ?_) λz=>?_))
  · rw [if_pos (by simpa using z)]
  · rw [if_neg (by simpa using z)]
    exact bF (aF rfl)
theorem aHG {l:List aB} {c:Int} {n:Nat} (hn:66<n) (hl:LR l) (h1:l.length<=1) (hc:0<=c/\c<=1073741824):AL n l c=some (rv l c):=by
  have hb:=gN hl
  refine eT ?_
  unfold AL WR rv
  simp only [WT.run,bR,US hc,Option.bind_some]
  refine dF (aD (bU (aD (aH (λk=>aF (by rw [if_pos (by omega)])) λk=>?_))))
  rw [if_neg (by omega)]
  match l,h1 with
  | [],_=>exact absurd rfl k
  | [x],_ =>
    obtain ⟨g1,g2,g3⟩:=hl.1 x (List.mem_cons_self ..)
    have eq:tQ [x]=x.aI:=by simp [tQ]
    have ev:tV [x]=x.Value:=by simp [tV]
    have ep:tP [x]=x.bN:=by simp [tP]
    rw [eq] at hb ⊢
    rw [ev] at hb ⊢
    rw [ep]
    have hm:=pF x.aI c 1
    refine bW (a:=x) (by decide) rfl (x_eq (TX hn hc (by omega) (by omega)) (aD (aH (λz=>aF ?_) λz=>bF (aD (aF ?_)))))
    · have z:(md x.aI c 1).2.2≠0:=z
      rw [if_pos z]
      have:(md x.aI c 1).2.2=2:=by
        unfold md at z ⊢
        rw [if_neg (by omega)] at z ⊢
        split at z
        · rw [if_pos (by assumption)]
        · exact absurd rfl z
      simp only [this]
    · have z:¬ (md x.aI c 1).2.2≠0:=z
      rw [if_neg z];rfl
theorem aCW {l:List aB} {c:Int} (hl:LR l):-288230376151711744<=(rv l c).2.1/\(rv l c).2.1<=288230376151711744:=by
  have hb:=gN hl
  have hm:=pF (tQ l) c 1
  unfold rv
  split
  · simp
  · split
    · simp
    · simp only;omega
theorem aUH {K:Int} {s:aA} {o:bM} {n:Nat} {x:aP} {bL:List Int} (hn:66<n) (h:Inv K s) (ha:0<=o.bO/\o.bO<=1073741824) (ht:gM s o.E o.Item) (hx:s.bC[o.E.toNat]?=some x) (hm:s.bJ.Methods[o.E.toNat]?=some bL) (ho:EO s.bJ bL x):Ex (Qs (vW n s o) s) (zJ n s o):=by
  have hE:vW n s o=vW n s o:=rfl
  conv at hE=>rhs;unfold vW UT;simp only [WT.run,bR]
  unfold zJ aBM
  simp only [WT.run,bR,MB,Option.bind_some]
  have o0:=On.start hx hm ho
  have hf:=h.ss.toS0.gU
  obtain ⟨mts',hm',hml,_,hes⟩:=h.ss.bL hx
  rw [hm] at hm';cases hm'
  have hfew:=hes.gU hf.2.2
  obtain ⟨cs,hc,hcl,hcb⟩:=h.cst (e:=o.E.toNat) (by have:=ht.1;omega)
  have ht1:=ht.1;have ht2:=ht.2
  have hlc:=h.jP.lc;have hme:=h.jP.vF
  have hmm:=List.getElem?_eq_getElem (l:=bL) (i:=o.Item.toNat) (by omega)
  generalize bL[o.Item.toNat]'(by omega)=m at hmm
  refine bW ht.1.1 hm (bW ht.2.1 hmm ?_)
  replace hE:=hE.trans (iA ht.1.1 hm (iA ht.2.1 hmm rfl))
  refine aD (aH (λk=>aF (.inl ⟨show (12:Int)≠0 by decide,hE.trans (fJ k (fC rfl))⟩)) λk4=>?_)
  replace hE:=hE.trans (eB k4 (dB rfl))
  have k4:m=4:=by omega
  subst k4
  have hci:=List.getElem?_eq_getElem (l:=cs) (i:=o.Item.toNat) (by omega)
  generalize cs[o.Item.toNat]'(by omega)=cc at hci
  obtain ⟨x',m',c',p,q,hs⟩:=h.ss.spot (c:=0) ht (by omega)
  have hx':=hs.en;rw [hx] at hx';cases hx'
  have hm4:=(hs.es bL hm).1
  rw [hmm] at hm4;cases hm4
  have hp1:=hs.io.pp.one (by decide)
  have hq1:=hs.io.qq.one (by decide)
  have pp:x.bS[2*o.Item.toNat]?=some p:=hs.pp
  have qq:x.bS[2*o.Item.toNat+1]?=some q:=hs.qq
  have bA:=aCW (c:=o.bO) hs.io.pp.ly
  have bB:=aCW (c:=o.bO) hs.io.qq.ly
  generalize hA:rv p.aG o.bO=A at bA
  generalize hB:rv q.aG o.bO=B at bB
  have rA:vR n p.aG o.bO=some A:=(aG5 hn hs.io.pp.ly ha).trans (by rw [hA])
  have rB:vR n q.aG o.bO=some B:=(aG5 hn hs.io.qq.ly ha).trans (by rw [hB])
  have pA:AL n p.aG o.bO=some A:=(aHG hn hs.io.pp.ly hp1 ha).trans (by rw [hA])
  have pB:AL n q.aG o.bO=some B:=(aHG hn hs.io.qq.ly hq1 ha).trans (by rw [hB])
  have fA:=H6 (VJ (c:=o.bO) hn hs.io.pp.ly hp1) rA
  have hi2:2*o.Item.toNat+1<x.bS.length:=(List.getElem?_eq_some_iff.1 qq).1
  have fB:=H6 (VJ (c:=o.bO) hn hs.io.qq.ly hq1) rB
  have oo:¬ A.2.2≠0->¬ B.2.2≠0->∃ x2 d f,On s o.E.toNat bL (kP s o.E.toNat { x with bS:=(x.bS.set (2*o.Item.toNat) ⟨A.1,p.bH⟩).set (2*o.Item.toNat+1) ⟨B.1,q.bH⟩ }) x2 d f:=by
    intro zA zB
    obtain ⟨b1,b2,b3,b4,b5,b6⟩:=fA (Classical.not_not.1 zA)
    have hio:IO 4 ⟨A.1,p.bH⟩ q:=⟨yJ hs.io.pp b1 (λ_=>b2) (by omega),hs.io.qq,by have:=hs.io.sq;simp only;omega,by have:=hs.io.ss;simp only;omega⟩
    obtain ⟨x1,o1,p1,_,_⟩:=o0.yZ hs hio (v:=A.2.1) (by simp only;omega)
    have s1:=o1.ss h.ss
    have htt:gM (lI s o.E o.Item 0 x ⟨A.1,p.bH⟩) o.E o.Item:=⟨⟨ht1.1,by show _<((s.bC.set _ _).length:Int);rw [List.length_set];exact ht1.2⟩,ht2⟩
    have en1:(lI s o.E o.Item 0 x ⟨A.1,p.bH⟩).bC[o.E.toNat]?=some { x with bS:=x.bS.set (2*o.Item.toNat) ⟨A.1,p.bH⟩ }:=GJ o0.en
    have ex1:=o1.at;rw [en1] at ex1;cases ex1
    obtain ⟨x2,m2,c2,p2',q2,hs1⟩:=s1.spot (c:=1) htt (by omega)
    have e2:=hs1.en;rw [en1] at e2;cases e2
    have hm5:=(hs1.es bL hm).1
    rw [hmm] at hm5;cases hm5
    have pp1:(x.bS.set (2*o.Item.toNat) ⟨A.1,p.bH⟩)[2*o.Item.toNat+1]?=some q:=by rw [List.getElem?_set_ne (by omega)];exact qq
    have e3:(x.bS.set (2*o.Item.toNat) ⟨A.1,p.bH⟩)[2*o.Item.toNat+1]?=some p2':=hs1.pp
    rw [pp1] at e3;cases e3
    obtain ⟨d1,d2,d3,d4,d5,d6⟩:=fB (Classical.not_not.1 zB)
    have hio1:IO 4 ⟨B.1,q.bH⟩ q2:=⟨yJ hs1.io.pp d1 (λ_=>d2) (by omega),hs1.io.qq,by have:=hs1.io.sq;simp only;omega,by have:=hs1.io.ss;simp only;omega⟩
    obtain ⟨x3,o3,_⟩:=o1.yZ hs1 hio1 (v:=B.2.1) (by simp only;omega)
    unfold lI at o3
    rw [NA] at o3
    exact ⟨_,_,_,o3⟩
  have docL:iter (λ(v:Int×Int×aA)=>p2 (λ(more:Int) q0=>p2 (λ(k:Int) (t:aA)=>bnd (decide (k<2)) λz=>cond z ((o7 t o.E o.Item k).bind λy=>(vR n y.aG o.bO).bind λw=>bnd (decide (w.2.2≠0)) λz=>cond z (esc (esc (some (s,w.2.2)))) ((uG t o.E o.Item k ⟨w.1,y.bH⟩).bind λu=>bnd (aW (more+w.2.1)) λe=>bnd (aW (k+1)) λf=>brk (e,f,u))) (esc (brk (more,t)))) q0) v) n (0,0,s) =
      some (if A.2.2≠0 then (.inr (s,A.2.2):(Int×aA)⊕(aA×Int)) else if B.2.2≠0 then .inr (s,B.2.2) else .inl (0+A.2.1+B.2.1,kP s o.E.toNat { x with bS:=(x.bS.set (2*o.Item.toNat) ⟨A.1,p.bH⟩).set (2*o.Item.toNat+1) ⟨B.1,q.bH⟩ })):=by
    obtain ⟨k,rfl⟩:∃ k,n=k+4:=⟨n-4,by omega⟩
    refine eT ?_
    show Ex _ (iter _ (k+3+1) _)
    by_cases zA:A.2.2≠0
    · rw [if_pos zA]
      refine aT (λr=>r=.inr (.inr (s,A.2.2))) ?_ λr hr=>by subst hr;exact mG rfl
      exact bE (bE (aD (aH (λ_=>x_eq (lU (c:=0) h.ss.toS0 ht (by omega) hx pp) (x_eq rA (aD (aH (λ_=>bK (bK (aF rfl))) λz=>absurd zA z)))) λz=>absurd (show (0:Int)<2 by decide) z)))
    rw [if_neg zA]
    obtain ⟨b1,b2,b3,b4,b5,b6⟩:=fA (Classical.not_not.1 zA)
    have hio:IO 4 ⟨A.1,p.bH⟩ q:=⟨yJ hs.io.pp b1 (λ_=>b2) (by omega),hs.io.qq,by have:=hs.io.sq;simp only;omega,by have:=hs.io.ss;simp only;omega⟩
    obtain ⟨x1,o1,p1,_,_⟩:=o0.yZ hs hio (v:=A.2.1) (by simp only;omega)
    refine aT (λr=>r=.inl (0+A.2.1,1,lI s o.E o.Item 0 x ⟨A.1,p.bH⟩)) ?_ λr hr=>?_
    · exact bE (bE (aD (aH (λ_=>x_eq (lU (c:=0) h.ss.toS0 ht (by omega) hx pp) (x_eq rA (aD (aH (λz=>absurd z zA) λ_=>x_eq (uE h.ss hs) (gL (by simp only;omega) (gL (show (-9223372036854775808:Int)<=0+1/\(0+1:Int)<=9223372036854775807 by decide) (bX rfl))))))) λz=>absurd (show (0:Int)<2 by decide) z)))
    subst hr
    refine bY ?_
    show Ex _ (iter _ (k+2+1) _)
    have s1:=o1.ss h.ss
    have htt:gM (lI s o.E o.Item 0 x ⟨A.1,p.bH⟩) o.E o.Item:=⟨⟨ht1.1,by show _<((s.bC.set _ _).length:Int);rw [List.length_set];exact ht1.2⟩,ht2⟩
    have en1:(lI s o.E o.Item 0 x ⟨A.1,p.bH⟩).bC[o.E.toNat]?=some { x with bS:=x.bS.set (2*o.Item.toNat) ⟨A.1,p.bH⟩ }:=GJ o0.en
    obtain ⟨x2,m2,c2,p2',q2,hs1⟩:=s1.spot (c:=1) htt (by omega)
    have e2:=hs1.en;rw [en1] at e2;cases e2
    have pp1:(x.bS.set (2*o.Item.toNat) ⟨A.1,p.bH⟩)[2*o.Item.toNat+1]?=some q:=by rw [List.getElem?_set_ne (by omega)];exact qq
    have e3:=hs1.pp
    have e3:(x.bS.set (2*o.Item.toNat) ⟨A.1,p.bH⟩)[2*o.Item.toNat+1]?=some p2':=e3
    rw [pp1] at e3;cases e3
    by_cases zB:B.2.2≠0
    · rw [if_pos zB]
      refine aT (λr=>r=.inr (.inr (s,B.2.2))) ?_ λr hr=>by subst hr;exact mG rfl
      exact bE (bE (aD (aH (λ_=>x_eq (lU (c:=1) s1.toS0 htt (by omega) en1 pp1) (x_eq rB (aD (aH (λ_=>bK (bK (aF rfl))) λz=>absurd zB z)))) λz=>absurd (show (1:Int)<2 by decide) z)))
    rw [if_neg zB]
    refine aT (λr=>r=.inl (0+A.2.1+B.2.1,2,kP s o.E.toNat { x with bS:=(x.bS.set (2*o.Item.toNat) ⟨A.1,p.bH⟩).set (2*o.Item.toNat+1) ⟨B.1,q.bH⟩ })) ?_ λr hr=>?_
    · refine bE (bE (aD (aH (λ_=>x_eq (lU (c:=1) s1.toS0 htt (by omega) en1 pp1) (x_eq rB (aD (aH (λz=>absurd z zB) λ_=>x_eq (uE s1 hs1) (gL (by simp only;omega) (gL (show (-9223372036854775808:Int)<=1+1/\(1+1:Int)<=9223372036854775807 by decide) (bX ?_))))))) λz=>absurd (show (1:Int)<2 by decide) z)))
      show Sum.inl _=Sum.inl _
      unfold lI
      rw [NA];rfl
    subst hr
    refine bY ?_
    show Ex _ (iter _ (k+1+1) _)
    refine aT (λr=>r=.inr (.inl (0+A.2.1+B.2.1,kP s o.E.toNat { x with bS:=(x.bS.set (2*o.Item.toNat) ⟨A.1,p.bH⟩).set (2*o.Item.toNat+1) ⟨B.1,q.bH⟩ }))) ?_ λr hr=>by subst hr;exact mG rfl
    exact bE (bE (aD (aH (λz=>absurd z (show ¬ (2:Int)<2 by decide)) λ_=>bK (bX rfl))))
  replace hE:=hE.trans (dA docL rfl)
  have e21:(o.Item*2).toNat=2*o.Item.toNat:=by omega
  have e23:((o.Item+1)*2).toNat-(o.Item*2).toNat=2:=by omega
  refine dF (bW ht.1.1 hc (dF (bW ht.2.1 hci (aD (dF (bW ht.1.1 hx (dF (bF (bF (bF (dF ?_)))))))))))
  refine aT (λ(r:(Int×List aQ)⊕(aA×Int))=>(A.2.2≠0/\∃ t,r=.inr (t,A.2.2))\/(¬ A.2.2≠0/\B.2.2≠0/\∃ t,r=.inr (t,B.2.2))\/(¬ A.2.2≠0/\¬ B.2.2≠0/\r=.inl (0+A.2.1+B.2.1,(x.bS.set (2*o.Item.toNat) ⟨A.1,p.bH⟩).set (2*o.Item.toNat+1) ⟨B.1,q.bH⟩))) ?_ λr hr=>?_
  · rw [e23,e21]
    clear hE docL
    obtain ⟨k,rfl⟩:∃ k,n=k+4:=⟨n-4,by omega⟩
    show Ex _ (iter _ (k+3+1) _)
    have i0:(((0+2*o.Item.toNat:Nat):Int)+0).toNat=2*o.Item.toNat:=by omega
    have i1:(((0+2*o.Item.toNat:Nat):Int)+1).toNat=2*o.Item.toNat+1:=by omega
    by_cases zA:A.2.2≠0
    · refine aT (λr=>∃ t,r=.inr (.inr (t,A.2.2))) ?_ λr hr=>by obtain ⟨t,rfl⟩:=hr;exact mG (.inl ⟨zA,t,rfl⟩)
      exact bE (bE (aD (aH (λ_=>iF (show (0:Int)<=0/\(0:Int)<((2:Nat):Int) by decide) (bW (a:=p) (by simp only;omega) (by simp only [i0];exact pp) (x_eq pA (aD (aH (λ_=>bK (bK (aF ⟨_,rfl⟩))) λz=>absurd zA z))))) λz=>absurd (show (0:Int)<((2:Nat):Int) by decide) z)))
    refine aT (λr=>r=.inl (0+A.2.1,1,x.bS.set (2*o.Item.toNat) ⟨A.1,p.bH⟩)) ?_ λr hr=>?_
    · refine bE (bE (aD (aH (λ_=>iF (show (0:Int)<=0/\(0:Int)<((2:Nat):Int) by decide) (bW (a:=p) (by simp only;omega) (by simp only [i0];exact pp) (x_eq pA (aD (aH (λz=>absurd z zA) λ_=>iF (show (0:Int)<=0/\(0:Int)<((2:Nat):Int) by decide) (aD (gL (by simp only;omega) (gL (show (-9223372036854775808:Int)<=0+1/\(0+1:Int)<=9223372036854775807 by decide) (bX ?_))))))))) λz=>absurd (show (0:Int)<((2:Nat):Int) by decide) z)))
      simp only [i0];rfl
    subst hr
    refine bY ?_
    show Ex _ (iter _ (k+2+1) _)
    have pp1:(x.bS.set (2*o.Item.toNat) ⟨A.1,p.bH⟩)[2*o.Item.toNat+1]?=some q:=by rw [List.getElem?_set_ne (by omega)];exact qq
    by_cases zB:B.2.2≠0
    · refine aT (λr=>∃ t,r=.inr (.inr (t,B.2.2))) ?_ λr hr=>by obtain ⟨t,rfl⟩:=hr;exact mG (.inr (.inl ⟨zA,zB,t,rfl⟩))
      exact bE (bE (aD (aH (λ_=>iF (show (0:Int)<=1/\(1:Int)<((2:Nat):Int) by decide) (bW (a:=q) (by simp only;omega) (by simp only [i1];exact pp1) (x_eq pB (aD (aH (λ_=>bK (bK (aF ⟨_,rfl⟩))) λz=>absurd zB z))))) λz=>absurd (show (1:Int)<((2:Nat):Int) by decide) z)))
    refine aT (λr=>r=.inl (0+A.2.1+B.2.1,2,(x.bS.set (2*o.Item.toNat) ⟨A.1,p.bH⟩).set (2*o.Item.toNat+1) ⟨B.1,q.bH⟩)) ?_ λr hr=>?_
    · refine bE (bE (aD (aH (λ_=>iF (show (0:Int)<=1/\(1:Int)<((2:Nat):Int) by decide) (bW (a:=q) (by simp only;omega) (by simp only [i1];exact pp1) (x_eq pB (aD (aH (λz=>absurd z zB) λ_=>iF (show (0:Int)<=1/\(1:Int)<((2:Nat):Int) by decide) (aD (gL (by simp only;omega) (gL (show (-9223372036854775808:Int)<=1+1/\(1+1:Int)<=9223372036854775807 by decide) (bX ?_))))))))) λz=>absurd (show (1:Int)<((2:Nat):Int) by decide) z)))
      simp only [i1];rfl
    subst hr
    refine bY ?_
    show Ex _ (iter _ (k+1+1) _)
    refine aT (λr=>r=.inr (.inl (0+A.2.1+B.2.1,(x.bS.set (2*o.Item.toNat) ⟨A.1,p.bH⟩).set (2*o.Item.toNat+1) ⟨B.1,q.bH⟩))) ?_ λr hr=>by subst hr;exact mG (.inr (.inr ⟨zA,zB,rfl⟩))
    exact bE (bE (aD (aH (λz=>absurd z (show ¬ (2:Int)<((2:Nat):Int) by decide)) λ_=>bK (bX rfl))))
  · rcases hr with ⟨zA,t,rfl⟩ | ⟨zA,zB,t,rfl⟩ | ⟨zA,zB,rfl⟩
    · rw [if_pos zA] at hE
      exact mG (.inl ⟨zA,hE⟩)
    · rw [if_neg zA,if_pos zB] at hE
      exact mG (.inl ⟨zB,hE⟩)
    · rw [if_neg zA,if_neg zB] at hE
      refine bY (bE (gL (by simp only;omega) ?_))
      have hcs:(cs.set o.Item.toNat o.bO).length=s.bJ.cB.length/\∀ x∈cs.set o.Item.toNat o.bO,0<=x/\x<=1073741824:=⟨by rw [List.length_set];exact hcl,oC hcb ha⟩
      replace hE:=hE.trans (WE (uS (oZ (by omega) (iA ht.1.1 hc (oZ (by omega) (iA ht.1.1 hc (iA ht.2.1 hci (gZ (iO (by omega) rfl)))))))))
      obtain ⟨x2,d,f,o2⟩:=oo zA zB
      have s2:=(o2.cost (g:=o.E.toNat) (c:=cs.set o.Item.toNat o.bO)).ss (h.cost (e:=o.E.toNat) hcs).ss
      exact aT _ (EF (s:=s) hn s2 (by simp) (by simp)) λr hr=>aF (hr.elim (λz=>.inl ⟨z.1,hE.trans (dA z.2 rfl)⟩) λz=>.inr ⟨z.1,hE.trans (dA z.2 rfl)⟩)
theorem aU7 {K:Int} {s:aA} {o:bM} {n:Nat} (hn:66<n) (h:Inv K s) (hq:0<=o.aI/\o.aI<=288230376151711744) (ha:0<=o.bO/\(o.Kind=9->o.bO<=1073741824)) (hlc:o.Kind=7->0<=o.Loc/\o.Loc<=1):aH4 n s o=qB n s o:=by
  have hD:qB n s o=qB n s o:=rfl
  conv at hD=>rhs;unfold qB R7;simp only [WT.run,bR,g2o,Option.bind_some]
  refine aPP ?_
  unfold aH4 aDZ
  simp only [WT.run,bR,aNQ h.ss.toS0 h.ss.ln]
  by_cases kd:o.Kind<6\/o.Kind>9
  · replace hD:=hD.trans (aGO kd rfl)
    exact aD (aH (λk=>by omega) λ_=>aD (aH (λk=>by omega) λ_=>aD (aH (λk=>by omega) λ_=>aD (aH (λk=>by omega) λ_=>dF (aF hD)))))
  replace hD:=hD.trans (VU kd rfl)
  obtain ⟨a,ea,hr⟩:=rQ h o.E o.Item
  replace hD:=hD.trans (dA ea rfl)
  by_cases ka:a≠0
  · replace hD:=hD.trans (fJ ka (fC rfl))
    have go:∀ F:Int->Option (aA×Int),Ex (λz=>qB n s o=some z) ((nD s o.E o.Item).bind λx=>bnd (decide (x≠0)) λy=>cond y (some (s,x)) (F x)):=λF=>x_eq ea (aD (aH (λ_=>aF hD) λk=>absurd ka k))
    exact aD (aH (λ_=>go _) λ_=>aD (aH (λ_=>go _) λ_=>aD (aH (λ_=>go _) λ_=>aD (aH (λ_=>go _) λ_=>by omega))))
  replace hD:=hD.trans (eB ka (dB rfl))
  obtain ⟨ht,x,bL,hx,hm,ho⟩:=hr (by omega)
  have o0:=On.start hx hm ho
  have go:∀ F:Int->Option (aA×Int),Ex (λz=>qB n s o=some z) (F a)->Ex (λz=>qB n s o=some z) ((nD s o.E o.Item).bind λx=>bnd (decide (x≠0)) λy=>cond y (some (s,x)) (F x)):=λF hF=>x_eq ea (aD (aH (λk=>absurd k ka) λ_=>hF))
  refine aD (aH (λk6=>go (λ_=>_) ?_) λk6=>aD (aH (λk7=>go (λ_=>_) ?_) λk7=>aD (aH (λk8=>go (λ_=>_) ?_) λk8=>aD (aH (λk9=>go (λ_=>_) ?_) λk9=>by omega))))
  · replace hD:=hD.trans (fJ k6 (fC rfl))
    exact aT _ (aSH hn h hq o0) λr hr=>I8 (λz hz=>hD.trans (dA hz rfl)) r hr
  · replace hD:=hD.trans (eB k6 (dB (fJ k7 (fC rfl))))
    exact aT _ (aVR hn h hq (hlc k7) ht hx o0) λr hr=>I8 (λz hz=>hD.trans (dA hz rfl)) r hr
  · replace hD:=hD.trans (eB k6 (dB (eB k7 (dB (fJ k8 (fC rfl))))))
    exact aT _ (aN1 hn h hq o0) λr hr=>I8 (λz hz=>hD.trans (dA hz rfl)) r hr
  · replace hD:=hD.trans (eB k6 (dB (eB k7 (dB (eB k8 (dB rfl))))))
    exact aT _ (aUH hn h ⟨ha.1,ha.2 k9⟩ ht hx hm ho) λr hr=>I8 (λz hz=>hD.trans (dA hz rfl)) r hr
end Go.Pv
