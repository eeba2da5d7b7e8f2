import Derived.Test.YtcnbfkppbaenbaaGreatOC70
set_option linter.unusedVariables false
set_option linter.unusedSimpArgs false
namespace Go.Pv
open Go.Proofs
set_option maxRecDepth 100000
set_option maxHeartbeats 1000000
theorem IC {r:dG} {q:Int} {n:Nat} {m:fC} (hn:66<n) (h:tH m r) (hq:-9223372036854775808<=q/\q<=9223372036854775807):Ex (λd=>0<=d/\d<=r.gW) (tJ n r q):=by
  obtain ⟨h1,h2,h3,h4,h5,h6,h7,h8⟩:=h
  unfold tJ O1
  simp only [WT.run,bS]
  refine aF (aI (λ_=>aD (by omega)) λ_=>x_eq (oJ hn hq (by omega)) (aD (xB h7)))
theorem II {s:aA} {i:Int} {y z:dG} (h0:0<=i) (hz:s.bY[i.toNat]?=some z) (hl:s.bY.length<=40):EK s i y=some { s with bY:=s.bY.set i.toNat y }:=by
  refine fH ?_
  unfold EK aFE
  simp only [WT.run,bS]
  exact dM (dD h0 hz (aF (aD rfl)))
theorem On.aEC {K:Int} {s:aA} (hI:Inv K s) {e:Int} {bL:List Int} {t:aA} {x y:aQ} {d:Int} {f:Nat->Int} (h:On s e.toNat bL t y d f) (hx:s.bD[e.toNat]?=some x) (hd:d=0) (hf:∀ i,f i=0) {k:Nat} {r r':dG} (hr:s.bY[k]?=some r) (hr':tH s.bH r') (he:r.eY=e) (he':r'.eY=e) (h0:0<=e)
    (b1:bl y 1-bl x 1=r.gW-r'.gW) (b12:bl y 12=bl x 12) (b13:bl y 13=bl x 13) (b14:bl y 14=bl x 14):Inv K { t with bY:=t.bY.set k r' }:=by
  obtain ⟨g1,g2,g3,g4,g5⟩:=h.rc
  rw [g1]
  refine h.inv hI hx hd hf (oG hI.mD hr') (by rw [g2];exact hI.mO) (by rw [g3];exact hI.nP) (by rw [List.length_set];exact hI.l1) (by rw [g2];exact hI.l2) (by rw [g3];exact hI.l3) ?_ ?_ (by rw [g3];omega) (by intro f _;rw [g3]) (by unfold kH;omega)
  · rw [rW _ hr];unfold iT
    rw [if_pos (by omega),if_pos (by omega)];omega
  · intro f hf;rw [rW _ hr];unfold iT
    rw [if_neg (by omega),if_neg (by omega)];omega
theorem aJ4 {K:Int} {s:aA} {o:bK} {n:Nat} {r:dG} {x:aQ} {bL:List Int} (hn:66<n) (h:Inv K s) (hq:0<=o.aG/\o.aG<=288230376151711744) (ha:0<=o.bM/\o.bM<=288230376151711744) (h0:0<=o.Ref) (hr:s.bY[o.Ref.toNat]?=some r) (hx:s.bD[r.eY.toNat]?=some x) (hm:s.bH.Methods[r.eY.toNat]?=some bL) (ho:EO s.bH bL x):Ex (Kept K s) (vY n s o r):=by
  have hk:=h.mD r (fE hr)
  have hk2:=hk
  obtain ⟨h1,h2,h3,h4,h5,h6,h7,h8⟩:=hk2
  have o0:=On.start hx hm ho
  have hl1:=h.l1
  unfold vY N5
  simp only [WT.run,bS]
  refine aF (aI (λ_=>aD (.inr ⟨by simp,rfl⟩)) λk1=>aU _ (IC hn hk (by omega)) λd hd=>bE (bE (aU _ (nY hn h.ss (by simp)) λc hc=>?_)))
  refine aF (aI (λk=>aD (.inr ⟨k,rfl⟩)) λkz=>?_)
  rcases hc with ⟨_,hc⟩ | ⟨k,_⟩
  rotate_left
  · exact absurd k kz
  obtain ⟨x2,o2,q1,q2,q3⟩:=o0.oV hc (by simp [gB,fZ])
  obtain ⟨g1,g2,g3,g4,g5⟩:=o2.rc
  have b1:=q1 1 (by decide);have b12:=q1 12 (by decide);have b13:=q1 13 (by decide);have b14:=q1 14 (by decide)
  simp [gB,fZ] at b1 b12 b13 b14
  refine bE (bE (x_eq (II h0 (by rw [g1];exact hr) (by rw [g1];exact hl1)) (aD (.inl ⟨rfl,?_⟩))))
  exact o2.aEC h hx (by simp [gB,fZ]) (by intro j;rfl) hr ⟨h1,h2,h3,h4,h5,by first | omega | (simp only;omega),by first | omega | (simp only;omega),h8⟩ rfl rfl h1.1 (by first | omega | (simp only;omega)) b12 b13 b14
theorem aIA {K:Int} {s:aA} {o:bK} {n:Nat} {r:dG} {x:aQ} {bL:List Int} (hn:66<n) (h:Inv K s) (hq:0<=o.aG/\o.aG<=288230376151711744) (h0:0<=o.Ref) (hr:s.bY[o.Ref.toNat]?=some r) (hx:s.bD[r.eY.toNat]?=some x) (hm:s.bH.Methods[r.eY.toNat]?=some bL) (ho:EO s.bH bL x):Ex (Kept K s) (vT n s o r):=by
  have hk:=h.mD r (fE hr)
  have hk2:=hk
  obtain ⟨h1,h2,h3,h4,h5,h6,h7,h8⟩:=hk2
  have o0:=On.start hx hm ho
  have hl1:=h.l1
  unfold vT QL
  simp only [WT.run,bS]
  refine bE (aF (aI (λ_=>aD (.inr ⟨by simp,rfl⟩)) λk1=>?_))
  refine aU (λ(b:Bool)=>b=false->r.Open>0->o.aG<=r.Open) ?_ λb hb=>fB (λ_=>aD (.inr ⟨by simp,rfl⟩)) λkb=>?_
  · refine aF (aI (λk=>aF (aD λk2 _=>?_)) λk=>aD λ_ k2=>absurd k2 k)
    have:=of_decide_eq_false k2;omega
  have hb:=hb kb
  refine aU _ (xQ hn h.ss (by omega)) λb hb=>?_
  refine aF (aI (λk=>aD (.inr ⟨k,rfl⟩)) λkz=>?_)
  rcases hb with ⟨_,hb⟩ | ⟨k,_⟩
  rotate_left
  · exact absurd k kz
  obtain ⟨f1,f2,f3,f4,f5,f6⟩:=hb.facts
  obtain ⟨x1,o1,p1,p2,p3⟩:=o0.wW hb
  have hv:=xB (w:=o.aG) (q:=r.aG) h5
  refine x_eq (oJ hn (by omega) (by omega)) (aF ?_)
  refine aU (λ(v:Int×Int×dG)=>(v.1=1\/v.1=2)/\(0<=v.2.1/\v.2.1<=288230376151711744)/\v.2.2=⟨r.eY,r.Item,r.Loc,r.aG,r.Value,v.2.2.Open,v.2.2.gW,r.gP⟩/\(0<=v.2.2.Open/\v.2.2.Open<=r.aG)/\(0<=v.2.2.gW/\v.2.2.gW<=288230376151711744)/\r.gW-v.2.2.gW=if v.1=1 then v.2.1 else 0) ?_ λv hv=>?_
  · refine aI (λk=>aU _ (IC hn hk (by omega)) λd hd=>bE (bE (aD ⟨.inl rfl,by first | omega | (simp only;omega),rfl,by first | omega | (simp only;omega),by first | omega | (simp only;omega),?_⟩))) λk=>aD ⟨.inr rfl,by first | omega | (simp only;omega),rfl,by first | omega | (simp only;omega),h7,?_⟩
    · simp only;rw [if_pos trivial];omega
    · simp only;rw [if_neg (by decide)];omega
  obtain ⟨a,d,y⟩:=v
  obtain ⟨v1,v2,v3,v4,v5,v6⟩:=hv
  simp only at v1 v2 v3 v4 v5 v6
  refine bF (bF (bE (bE (aU _ (nY hn (o1.ss h.ss) (by simp)) λc hc=>?_))))
  refine aF (aI (λk=>aD (.inr ⟨k,rfl⟩)) λkz=>?_)
  rcases hc with ⟨_,hc⟩ | ⟨k,_⟩
  rotate_left
  · exact absurd k kz
  have L:eP [⟨a,d⟩,⟨6,b.2.1.Value-d⟩,⟨0,0-b.2.1.Value⟩] 0=-b.2.1.Value/\eP [⟨a,d⟩,⟨6,b.2.1.Value-d⟩,⟨0,0-b.2.1.Value⟩] 1=(if a=1 then d else 0)/\eP [⟨a,d⟩,⟨6,b.2.1.Value-d⟩,⟨0,0-b.2.1.Value⟩] 11=0/\eP [⟨a,d⟩,⟨6,b.2.1.Value-d⟩,⟨0,0-b.2.1.Value⟩] 12=0/\eP [⟨a,d⟩,⟨6,b.2.1.Value-d⟩,⟨0,0-b.2.1.Value⟩] 13=0/\eP [⟨a,d⟩,⟨6,b.2.1.Value-d⟩,⟨0,0-b.2.1.Value⟩] 14=0:=by
    rcases v1 with rfl | rfl <;> simp [gB,fZ]
  obtain ⟨L0,L1,L11,L12,L13,L14⟩:=L
  obtain ⟨x2,o2,q1,q2,q3⟩:=o1.oV hc L11
  refine aU _ (sU hn (o2.ss h.ss)) λt ht=>?_
  refine aF (aI (λk=>aD (.inr ⟨k,rfl⟩)) λkz=>?_)
  rcases ht with ⟨_,ht⟩ | ⟨k,_⟩
  rotate_left
  · exact absurd k kz
  obtain ⟨x3,o3,r1,r2⟩:=o2.uP ht
  obtain ⟨g1,g2,g3,g4,g5⟩:=o3.rc
  have hB:∀ a':Nat,a' < 17->bl x3 a'=bl x a'+eP [⟨a,d⟩,⟨6,b.2.1.Value-d⟩,⟨0,0-b.2.1.Value⟩] a':=λa' ha=>by rw [mR r1,q1 a' ha,mR p1]
  have b1:bl x3 1=bl x 1+eP _ 1:=hB 1 (by decide)
  have b12:bl x3 12=bl x 12+eP _ 12:=hB 12 (by decide)
  have b13:bl x3 13=bl x 13+eP _ 13:=hB 13 (by decide)
  have b14:bl x3 14=bl x 14+eP _ 14:=hB 14 (by decide)
  rw [L1] at b1;rw [L12] at b12;rw [L13] at b13;rw [L14] at b14
  refine bE (x_eq (II h0 (by rw [g1];exact hr) (by rw [g1];exact hl1)) (aD (.inl ⟨rfl,?_⟩)))
  rw [v3]
  exact o3.aEC h hx (by rw [L0];omega) (sN (by simp [kM];try omega)) hr ⟨h1,h2,h3,h4,h5,by first | omega | (simp only;omega),by first | omega | (simp only;omega),by first | omega | (simp only;omega)⟩ rfl rfl h1.1 (by first | omega | (simp only;omega)) (by omega) (by omega) (by omega)
theorem UR {K:Int} {s:aA} {o:bK} {n:Nat} (hn:66<n) (h:Inv K s) (hq:0<=o.aG/\o.aG<=288230376151711744) (ha:0<=o.bM/\o.bM<=288230376151711744):Ex (Kept K s) (qT n s o):=by
  unfold qT SN
  simp only [WT.run,bS]
  repeat' with_reducible first | refine bE ?_ | refine dU ?_ | apply aF | apply bF | apply dY | apply dN | apply dV | apply dZ | apply d9 | apply dO | apply dW | apply dS | refine aI (λ_=>?_) λ_=>?_ | refine dJ (λ_=>?_) λ_=>?_ | apply dB | apply bW | apply cZ | apply bJ | apply aD
  all_goals try exact Or.inr ⟨by simp,rfl⟩
  all_goals
    refine eT (by omega) (by omega) λz hz=>?_
    refine aU _ (rE h z.eY z.Item) λr hr=>?_
    refine aF (aI (λk=>aD (.inr ⟨k,rfl⟩)) λkz=>?_)
    obtain ⟨ht,x,bL,hx,hm,ho⟩:=hr (by omega)
    refine aF (aI (λk=>aU _ (aJ4 hn h hq ha (by omega) hz hx hm ho) λr hr=>aD hr) λk=>aU _ (aIA hn h hq (by omega) hz hx hm ho) λr hr=>aD hr)
theorem On.aRJ {K:Int} {s:aA} (hI:Inv K s) {e:Int} {bL:List Int} {t:aA} {x y:aQ} {d:Int} {f:Nat->Int} (h:On s e.toNat bL t y d f) (hx:s.bD[e.toNat]?=some x) (hd:d=0) (hf:∀ i,f i=0) {k:Nat} {r r':fT} (hr:s.dL[k]?=some r) (hr':BH s.bH r') (he:r.To=e) (he':r'.To=e) (h0:0<=e)
    (b1:bl y 1=bl x 1) (b12:bl y 12-bl x 12=r'.Value-r.Value) (b13:bl y 13=bl x 13) (b14:bl y 14=bl x 14):Inv K { t with dL:=t.dL.set k r' }:=by
  obtain ⟨g1,g2,g3,g4,g5⟩:=h.rc
  rw [g3]
  refine h.inv hI hx hd hf (by rw [g1];exact hI.mD) (by rw [g2];exact hI.mO) (oG hI.nP hr') (by rw [g1];exact hI.l1) (by rw [g2];exact hI.l2) (by rw [List.length_set];exact hI.l3) (by rw [g1];omega) (by intro f _;rw [g1]) ?_ ?_ (by unfold kH;omega)
  · rw [rW _ hr];unfold iI
    rw [if_pos (by omega),if_pos (by omega)];omega
  · intro f hf;rw [rW _ hr];unfold iI
    rw [if_neg (by omega),if_neg (by omega)];omega
theorem aOO {K:Int} {s:aA} {o:bK} {n:Nat} (hn:66<n) (h:Inv K s) (hq:0<=o.aG/\o.aG<=288230376151711744):Ex (Kept K s) (KB n s o):=by
  unfold KB XC
  simp only [WT.run,bS]
  repeat' with_reducible first | refine bE ?_ | refine dU ?_ | apply aF | apply bF | apply dY | apply dN | apply dV | apply dZ | apply d9 | apply dO | apply dW | apply dS | refine aI (λ_=>?_) λ_=>?_ | refine dJ (λ_=>?_) λ_=>?_ | apply dB | apply bW | apply cZ | apply bJ | apply aD
  all_goals try exact Or.inr ⟨by simp,rfl⟩
  rename_i k1 k2
  refine eT (by omega) (by omega) λz hz=>?_
  have hz:s.dL[o.Ref.toNat]?=some z:=hz
  obtain ⟨z1,z2,z3,z4,z5,z6⟩:=h.nP z (fE hz)
  refine aU _ (rE h z.To z.Item) λr hr=>?_
  refine aF (aI (λk=>aD (.inr ⟨k,rfl⟩)) λkz=>?_)
  obtain ⟨ht,x,bL,hx,hm,ho⟩:=hr (by omega)
  have o0:=On.start hx hm ho
  have hl1:=h.l3
  refine aF (aI (λ_=>aD (.inr ⟨by simp,rfl⟩)) λk3=>?_)
  have hpc:=xB (w:=o.aG) (q:=z.aG) z5
  have hpp:=ZF (w:=o.aG) (q:=z.aG) z6
  refine x_eq (oJ hn (by omega) (by omega)) (x_eq (oJ hn (by omega) (by omega)) ?_)
  refine aU _ (DJ (l:=⟨o.aG,pt z.Value o.aG z.aG,pt z.bO o.aG z.aG⟩) hn h.ss (by simp only;omega)) λb hb=>?_
  refine aF (aI (λk=>aD (.inr ⟨k,rfl⟩)) λkz=>?_)
  rcases hb with ⟨_,hb⟩ | ⟨k,_⟩
  rotate_left
  · exact absurd k kz
  obtain ⟨f1,f2,f3,f4,f5,f6,f7⟩:=hb.facts
  obtain ⟨x1,o1,p1,p2,p3⟩:=o0.brought hb
  refine bE (aU _ (nY hn (o1.ss h.ss) (by simp)) λc hc=>?_)
  refine aF (aI (λk=>aD (.inr ⟨k,rfl⟩)) λkz=>?_)
  rcases hc with ⟨_,hc⟩ | ⟨k,_⟩
  rotate_left
  · exact absurd k kz
  obtain ⟨x2,o2,q1,q2,q3⟩:=o1.oV hc (by simp [gB,fZ])
  refine aU _ (sU hn (o2.ss h.ss)) λd hd=>?_
  refine aF (aI (λk=>aD (.inr ⟨k,rfl⟩)) λkz=>?_)
  rcases hd with ⟨_,hd⟩ | ⟨k,_⟩
  rotate_left
  · exact absurd k kz
  obtain ⟨x3,o3,r1,r2⟩:=o2.uP hd
  obtain ⟨g1,g2,g3,g4,g5⟩:=o3.rc
  have hB:∀ a:Nat,a<17->bl x3 a=bl x a+eP [⟨0,b.2.1⟩,⟨6,b.2.2.1⟩,⟨12,0-pt z.Value o.aG z.aG⟩] a:=λa ha=>by rw [mR r1,q1 a ha,mR p1]
  have b1:=hB 1 (by decide);have b12:=hB 12 (by decide);have b13:=hB 13 (by decide);have b14:=hB 14 (by decide)
  simp [gB,fZ] at b1 b12 b13 b14
  unfold bQ at hpp z6
  have lg:d.1.dL.length=s.dL.length:=by rw [g3]
  repeat' with_reducible first | refine bE ?_ | refine dU ?_ | apply aF | apply bF | apply dY | apply dN | apply dV | apply dZ | apply d9 | apply dO | apply dW | apply dS | refine aI (λ_=>?_) λ_=>?_ | refine dJ (λ_=>?_) λ_=>?_ | apply dB | apply bW | apply cZ | apply bJ | apply aD | refine dM ?_
  refine dD (by omega) (by rw [g3];exact hz) ?_
  repeat' with_reducible first | refine bE ?_ | refine dU ?_ | apply aF | apply bF | apply dY | apply dN | apply dV | apply dZ | apply d9 | apply dO | apply dW | apply dS | refine aI (λ_=>?_) λ_=>?_ | refine dJ (λ_=>?_) λ_=>?_ | apply dB | apply bW | apply cZ | apply bJ | apply aD
  refine .inl ⟨rfl,?_⟩
  rw [List.set_set,List.set_set]
  refine o3.aRJ h hx (by simp [gB,fZ]) (sN (by simp [kM];try omega)) hz ⟨z1,z2,z3,by first | omega | (simp only;omega),by first | omega | (simp only;omega),?_⟩ rfl rfl z2.1 b1 (by simp only;omega) b13 b14
  unfold bQ;simp only;omega
theorem aI3 {K:Int} {s:aA} {o:bK} {n:Nat} (hn:66<n) (h:Inv K s) (hq:0<=o.aG/\o.aG<=288230376151711744) (ha:0<=o.bM/\o.bM<=288230376151711744) (hne:o.E≠o.To):Ex (Kept K s) (GH n s o):=by
  unfold GH ZO
  simp only [WT.run,bS]
  refine aU _ (rE h o.E o.Item) λr hr=>?_
  refine aF (aI (λk=>aD (.inr ⟨k,rfl⟩)) λkz=>?_)
  obtain ⟨ht,x,bL,hx,hm,ho⟩:=hr (by omega)
  refine aU _ (rE h o.To o.Item) λr2 hr2=>?_
  refine aF (aI (λk=>aD (.inr ⟨k,rfl⟩)) λkz=>?_)
  obtain ⟨hty,y,mty,hy,hmy,hoy⟩:=hr2 (by omega)
  have o0:=On.start hx hm ho
  have hl3:=h.l3
  refine aF (aI (λ_=>aD (.inr ⟨by simp,rfl⟩)) λk1=>?_)
  refine aU _ (xQ hn h.ss (by omega)) λb hb=>?_
  refine aF (aI (λk=>aD (.inr ⟨k,rfl⟩)) λkz=>?_)
  rcases hb with ⟨_,hb⟩ | ⟨k,_⟩
  rotate_left
  · exact absurd k kz
  obtain ⟨f1,f2,f3,f4,f5,f6⟩:=hb.facts
  obtain ⟨x1,o1,p1,p2,p3⟩:=o0.wW hb
  refine bE (bE (aU _ (nY hn (o1.ss h.ss) (by simp)) λc hc=>?_))
  refine aF (aI (λk=>aD (.inr ⟨k,rfl⟩)) λkz=>?_)
  rcases hc with ⟨_,hc⟩ | ⟨k,_⟩
  rotate_left
  · exact absurd k kz
  obtain ⟨x2,o2,q1,q2,q3⟩:=o1.oV hc (by simp [gB,fZ])
  have ss2:=o2.ss h.ss
  refine bE (aU _ (nY hn ss2 (by simp)) λc2 hc2=>?_)
  refine aF (aI (λk=>aD (.inr ⟨k,rfl⟩)) λkz=>?_)
  rcases hc2 with ⟨_,hc2⟩ | ⟨k,_⟩
  rotate_left
  · exact absurd k kz
  have ss3:=hc2.ss ss2
  refine aU _ (sU hn ss3) λd hd=>?_
  refine aF (aI (λk=>aD (.inr ⟨k,rfl⟩)) λkz=>?_)
  rcases hd with ⟨_,hd⟩ | ⟨k,_⟩
  rotate_left
  · exact absurd k kz
  have h1:=ht.1;have h2:=hty.1
  have hlen:=h.len
  have hnn:o.E.toNat≠o.To.toNat:=by omega
  obtain ⟨y0,by',he2,hy0,hpy,e3⟩:=hc2
  have hy1:y0=y:=by
    rw [o2.eq] at hy0
    have hy0:(s.bD.set o.E.toNat x2)[o.To.toNat]?=some y0:=hy0
    rw [mK (by omega),if_neg hnn,hy] at hy0;cases hy0;rfl
  subst hy1
  obtain ⟨x0,r0,ht3,hx0,hr0,hrr,e4⟩:=hd
  have hx1:x0=x2:=by
    rw [e3,o2.eq] at hx0
    have hx0:((s.bD.set o.E.toNat x2).set o.To.toNat { y0 with dR:=by' })[o.E.toNat]?=some x0:=hx0
    rw [mK (by rw [List.length_set];omega),if_neg (Ne.symm hnn),mK (by omega),if_pos rfl] at hx0;cases hx0;rfl
  subst hx1
  have o3:=o2.set (o2.es.WO (i:=o.Item.toNat) hrr) (o2.eb.roll (r:=⟨0,0,0,0,0,0,b.2.1.Value,0,0,0,0⟩) hr0) rfl rfl
  have eE:d.1.bD=(s.bD.set o.E.toNat { x0 with dQ:=x0.dQ.set o.Item.toNat (qU r0 ⟨0,0,0,0,0,0,b.2.1.Value,0,0,0,0⟩) }).set o.To.toNat { y0 with dR:=by' }:=by
    rw [e4,e3,o2.eq]
    show (((s.bD.set o.E.toNat x0).set o.To.toNat _).set o.E.toNat _)=_
    rw [List.set_comm _ _ (Ne.symm hnn),List.set_set]
  have eR:d.1={ s with bD:=d.1.bD }:=by rw [e4,e3,o2.eq];rfl
  have lg:d.1.dL.length=s.dL.length:=by rw [eR]
  have hB:∀ a:Nat,a<17->bl x0 a=bl x a+eP [⟨13,o.bM⟩,⟨15,0-o.bM⟩,⟨16,b.2.1.Value⟩,⟨0,0-b.2.1.Value⟩] a:=λa ha=>by rw [q1 a ha,mR p1]
  have b1:=hB 1 (by decide);have b12:=hB 12 (by decide);have b13:=hB 13 (by decide);have b14:=hB 14 (by decide)
  simp [gB,fZ] at b1 b12 b13 b14
  have oy:=hoy.ee.x.post (l:=[⟨12,o.bM⟩,⟨14,0-o.bM⟩]) hpy (by simp [gB,fZ])
  have hC:∀ a:Nat,a<17->by'.getD a 0=bl y0 a+eP [⟨12,o.bM⟩,⟨14,0-o.bM⟩] a:=λa ha=>hpy.2.2.1 a ha
  have c1:=hC 1 (by decide);have c12:=hC 12 (by decide);have c13:=hC 13 (by decide);have c14:=hC 14 (by decide)
  simp [gB,fZ] at c1 c12 c13 c14
  refine bE (bE (x_eq (zY _) (aF (dJ (λ_=>aD (.inr ⟨by simp,rfl⟩)) λkp=>?_))))
  have kp:bQ (o.bM-b.2.1.Value+b.2.1.bO):=of_decide_eq_true kp
  repeat' with_reducible first | refine bE ?_ | refine dU ?_ | apply aF | apply bF | apply dY | apply dN | apply dV | apply dZ | apply d9 | apply dO | apply dW | apply dS | refine aI (λ_=>?_) λ_=>?_ | refine dJ (λ_=>?_) λ_=>?_ | apply dB | apply bW | apply cZ | apply bJ | apply aD | refine dM ?_
  refine .inl ⟨rfl,?_⟩
  have fin:=h.up2 (T:=s.dL++[⟨o.E,o.To,o.Item,o.aG,o.bM,o.bM-b.2.1.Value+b.2.1.bO⟩]) hnn hx hm (.inl (o3.done (by simp [gB,fZ]) (sN (by simp [kM];try omega)))) hy hmy
    (.inl ⟨hoy.es.G8 hpy.1 hpy.2.1,oy.done (by simp [gB,fZ]) (λ_=>rfl),hoy.opn,hoy.lH⟩)
    (mI h.nP ⟨by first | omega | (simp only;omega),by first | omega | (simp only;omega),ht.2,by first | omega | (simp only;omega),by first | omega | (simp only;omega),kp⟩) (by simp;omega) (by show bl x0 1=bl x 1;omega) (by show by'.getD 1 0=_;simp;omega) (by show bl x0 12=bl x 12;omega) ?_ ?_ ?_
  · rw [eR,eE];exact fin
  · rw [vV];simp only [eD,iI];rw [if_pos (by omega)];show _=by'.getD 12 0-bl y0 12;simp;omega
  · intro f hf;rw [vV];simp only [eD,iI];rw [if_neg (by omega)];omega
  · show bl x0 13+bl x0 14+(by'.getD 13 0+by'.getD 14 0)=bl x 13+bl x 14+(bl y0 13+bl y0 14);simp;omega
theorem r20 {K:Int} {s:aA} {o:bK} {n:Nat} (hn:66<n) (h:Inv K s) (hq:0<=o.aG/\o.aG<=288230376151711744) (ha:0<=o.bM/\o.bM<=288230376151711744) (hne:o.Kind=12->o.E≠o.To):Ex (Kept K s) (KL n s o):=by
  unfold KL X6
  simp only [WT.run,bS]
  refine aF (aI (λk=>aU _ (aI3 hn h hq ha (hne k)) λr hr=>aD hr) λ_=>aF (aI (λ_=>aU _ (aOO hn h hq) λr hr=>aD hr) λ_=>aD (.inr ⟨by simp,rfl⟩)))
theorem DZ {l:List Int} (h:∀ x∈l,0<=x):∀ x∈l,x<=dA l:=by
  induction l with
  | nil=>intro x hx;cases hx
  | cons y r ih =>
    intro x hx
    have h1:=h y (List.mem_cons_self ..)
    have h2:0<=dA r:=uK λz hz=>h z (List.mem_cons_of_mem _ hz)
    have e:dA (y :: r)=y+dA r:=rfl
    rcases List.mem_cons.1 hx with rfl | hx
    · omega
    · have:=ih (λz hz=>h z (List.mem_cons_of_mem _ hz)) x hx;omega
theorem sum_lt {l:List Int} {S:Int} (h:∀ x∈l,x<=S-1):dA l<=(l.length:Int)*(S-1):=by
  induction l with
  | nil=>simp [dA,eD]
  | cons y r ih =>
    have h1:=h y (List.mem_cons_self ..)
    have h2:=ih λz hz=>h z (List.mem_cons_of_mem _ hz)
    have e:dA (y :: r)=y+dA r:=rfl
    have e2:(((y :: r).length:Nat):Int)*(S-1)=(r.length:Int)*(S-1)+(S-1):=by
      rw [List.length_cons];push_cast;rw [Int.add_mul,Int.one_mul]
    rw [e,e2];omega
theorem CX (a b:List Int):dA (a++b)=dA a+dA b:=vV _ a b
theorem R9 {l:List Int} {i:Nat} {x:Int} (h:l[i]?=some x):dA (l.drop i)=x+dA (l.drop (i+1)):=tT _ h
def NW (total:Int) (w l:List Int):Prop:=l.length=w.length/\(∀ x∈l,0<=x/\x<=288230376151711744)/\dA l=total
noncomputable def splitB (a1 S:Int) (n:Nat) (a2:List Int) (v:Int×Int×List Int×List Int):Option ((Int×Int×List Int×List Int)⊕(Int×List Int×List Int)) :=
  p2 (λ(a:Int) (b:Int×List Int×List Int)=>p2 (λ(a_1:Int) (b:List Int×List Int)=>p2 (λ(a_2 b:List Int) =>
    bnd (decide (a_1<(a2.length:Int))) λ(x_2:Bool)=>cond x_2
      ((ix a2 a_1).bind λ(x_3:Int)=>(pU n a1 x_3 S).bind λ(x:Int×Int×Int)=>bnd (a_2++[x.fst]) λ(x_4:List Int)=>iO (x_4.length<=68719476736)
        (bnd (b++[x.snd.fst]) λ(x_5:List Int)=>iO (x_5.length<=68719476736) (bnd (bA (a-x.fst)) λ(x:Int)=>bnd (bA (a_1+1)) λ(x_6:Int)=>brk (x,x_6,x_4,x_5))))
      (esc (some (a,a_2,b)))) b) b) v
def OP (b:List Int) (v:Int×Int):Option ((Int×Int)⊕Int) :=
  p2 (λ(a b_1:Int)=>bnd (decide (b_1<(b.length:Int))) λ(x:Bool)=>cond x
    (((ix b b_1).bind λ(x:Int)=>(ix b a).bind λ(x_2:Int)=>bnd (decide (x>x_2)) λ(x:Bool)=>cond x (some b_1) (some a)).bind λ(y:Int)=>bnd (bA (b_1+1)) λ(x:Int)=>brk (y,x))
    (esc (some a))) v
def R8 (n:Nat) (v:Int×List Int×List Int):Option ((Int×List Int×List Int)⊕List Int) :=
  p2 (λ(a:Int) (b:List Int×List Int)=>p2 (λ(a_2 b:List Int)=>bnd (decide (a>0)) λ(x:Bool)=>cond x
    (((iter (OP b) n (0,1)).bind λ(y:Int)=>(ix a_2 y).bind λ(x:Int)=>bnd (bA (x+1)) λ(x:Int)=>bnd (a_2.set (Int.toNat y) x) λ(x:List Int)=>(ix b y).bind λ(x_2:Int)=>bnd (b.set (Int.toNat y) (-1)) λ(x_3:List Int)=>some (x,x_3)).bind
      λ(y:List Int×List Int)=>p2 (λ(a_3 b:List Int)=>bnd (bA (a-1)) λ(x:Int)=>brk (x,a_3,b)) y)
    (esc (some a_2))) b) v
noncomputable def RY {R:Type} (bad:Int->R) (good:List Int->R) (n:Nat) (a1:Int) (a2:List Int) (y:Bool):Option R :=
  ((bnd (decide (a1<0)) λ(x:Bool)=>cond x (some true) (bnd (decide (a1>288230376151711744)) λ(x:Bool)=>cond x (some true) (bnd (!y) λ(x:Bool)=>some x))).bind λ(y:Bool)=>cond y (some (bad 1))
    ((nI n a2).bind λ(x:Int×Int)=>bnd (decide (x.snd≠0)) λ(x_1:Bool)=>cond x_1 (some (bad x.snd))
      ((iter (splitB a1 x.1 n a2) n (a1,0,[],[])).bind λ(y:Int×List Int×List Int)=>p2 (λ(a:Int) (b:List Int×List Int)=>p2 (λ(a_1 b:List Int) =>
        (iter (R8 n) n (a,a_1,b)).bind λ(y:List Int)=>some (good y)) b) y)))
theorem aIR {b:List Int} {n:Nat} (hn:b.length<n) (h1:1<=b.length) (hl:b.length<=60):Ex (λ(y:Int)=>0<=y/\y<(b.length:Int)) (iter (OP b) n (0,1)):=by
  refine fJ (λ(v:Int×Int)=>(0<=v.1/\v.1<(b.length:Int))/\1<=v.2/\v.2<=(b.length:Int)) (λ(v:Int×Int)=>b.length-v.2.toNat) ?_ (by simp;omega) (by simp;omega)
  rintro ⟨best,i⟩ ⟨h2,h3,h4⟩
  simp only at h2 h3 h4
  unfold OP
  refine bF (aF (aI (λk=>?_) λk=>bJ (aD h2)))
  refine aU (λ(y:Int)=>0<=y/\y<(b.length:Int)) (eT (by omega) k λ_ _=>eT h2.1 h2.2 λ_ _=>aF (fB (λ_=>aD (by omega)) λ_=>aD h2)) λy hy=>bE (cK ⟨⟨hy,by first | omega | (simp only;omega),by first | omega | (simp only;omega)⟩,by first | omega | (simp only;omega)⟩)
theorem aHS {n:Nat} {left total:Int} {l rest:List Int} (hn:66<n) (h0:0<=left/\left<=60) (hl:l.length=rest.length) (h1:1<=l.length) (h6:l.length<=60) (hp:∀ x∈l,0<=x) (ht:left+dA l=total) (hM:total<=288230376151711744):Ex (λ(r:List Int)=>r.length=l.length/\(∀ x∈r,0<=x)/\dA r=total) (iter (R8 n) n (left,l,rest)):=by
  refine fJ (λ(v:Int×List Int×List Int)=>(0<=v.1/\v.1<=60)/\v.2.1.length=l.length/\v.2.2.length=l.length/\(∀ x∈v.2.1,0<=x)/\v.1+dA v.2.1=total) (λ(v:Int×List Int×List Int)=>v.1.toNat) ?_ ⟨h0,rfl,hl.symm,hp,ht⟩ (by simp;omega)
  rintro ⟨lf,m,r⟩ ⟨a1,a2,a3,a4,a5⟩
  simp only at a1 a2 a3 a4 a5
  unfold R8
  refine bF (bF (aF (aI (λk=>?_) λk=>bJ (aD ⟨a2,a4,by first | omega | (simp only;omega)⟩))))
  refine aU (λ(v:List Int×List Int)=>v.1.length=l.length/\v.2.length=l.length/\(∀ x∈v.1,0<=x)/\lf-1+dA v.1=total) ?_ λv hv=>bF (bE (cK ⟨⟨by first | omega | (simp only;omega),hv.1,hv.2.1,hv.2.2.1,hv.2.2.2⟩,by first | omega | (simp only;omega)⟩))
  refine aU _ (aIR (b:=r) (by omega) (by omega) (by omega)) λy hy=>eT hy.1 (by first | omega | (simp only;omega)) λx hx=>?_
  have hx:m[y.toNat]?=some x:=hx
  have hx1:=DZ a4 x (fE hx)
  have hx2:=a4 x (fE hx)
  refine bE (aF (eT hy.1 (by first | omega | (simp only;omega)) λ_ _=>aF (aD ⟨by rw [List.length_set];exact a2,by rw [List.length_set];exact a3,oG a4 (by omega),?_⟩)))
  have e:dA (m.set y.toNat (x+1))=dA m-x+(x+1):=rW _ hx
  show lf-1+dA (m.set y.toNat (x+1))=total
  omega
theorem aWZ {n:Nat} {a1 S:Int} {w:List Int} (hn:66<n) (hl:w.length<=60) (hw:∀ x∈w,0<=x/\x<=288230376151711744) (hS:S=dA w) (h1:1<=S/\S<=288230376151711744) (ha:0<=a1/\a1<=288230376151711744) :
    Ex (λ(r:Int×List Int×List Int)=>(0<=r.1/\r.1<=60)/\r.2.1.length=w.length/\r.2.2.length=w.length/\(∀ x∈r.2.1,0<=x)/\r.1+dA r.2.1=a1) (iter (splitB a1 S n w) n (a1,0,[],[])):=by
  have hw0:∀ x∈w,0<=x:=λx hx=>(hw x hx).1
  have hle:=DZ hw0
  refine fJ (λ(v:Int×Int×List Int×List Int)=>0<=v.2.1/\v.2.1<=(w.length:Int)/\(v.2.2.1.length:Int)=v.2.1/\(v.2.2.2.length:Int)=v.2.1/\(∀ x∈v.2.2.1,0<=x)/\(∀ x∈v.2.2.2,0<=x/\x<=S-1)/\v.1+dA v.2.2.1=a1/\0<=v.1/\v.1<=288230376151711744/\a1*dA (w.drop v.2.1.toNat)+dA v.2.2.1*S+dA v.2.2.2=a1*S) (λ(v:Int×Int×List Int×List Int)=>w.length-v.2.1.toNat) ?_ ?_ (by simp;omega)
  · rintro ⟨lf,i,l,rest⟩ ⟨a2,a3,a4,a5,a6,a7,a8,a9,l6,a11⟩
    simp only at a2 a3 a4 a5 a6 a7 a8 a9 l6 a11
    unfold splitB
    refine bF (bF (bF (aF (aI (λk=>?_) λk=>bJ (aD ?_)))))
    · have k:i<(w.length:Int):=k
      refine eT a2 k λx hx=>?_
      have hx:w[i.toNat]?=some x:=hx
      obtain ⟨g1,g2⟩:=hw x (fE hx)
      have g3:=hle x (fE hx)
      have hmd:md a1 x S=(a1*x / S,a1*x % S,0):=by
        unfold md
        have q:=rM (v:=a1) (q:=x) (n:=S) ha.1 (by omega) h1.1
        rw [if_neg (by omega),if_neg (by omega)]
      have q:=rM (v:=a1) (q:=x) (n:=S) ha.1 (by omega) h1.1
      have q2:0<=a1*x % S/\a1*x % S<S:=⟨Int.emod_nonneg _ (by omega),Int.emod_lt_of_pos _ (by omega)⟩
      have q3:S*(a1*x / S)+a1*x % S=a1*x:=Int.mul_ediv_add_emod _ _
      refine x_eq (zA hn (by omega) (by omega) (by omega)) ?_
      rw [hmd]
      have e:=R9 hx
      have e2:(i+1).toNat=i.toNat+1:=by omega
      have e3:dA (l++[a1*x / S])=dA l+a1*x / S:=by rw [CX];simp [dA,eD]
      have e4:dA (rest++[a1*x % S])=dA rest+a1*x % S:=by rw [CX];simp [dA,eD]
      have new:a1*dA (w.drop (i+1).toNat)+dA (l++[a1*x / S])*S+dA (rest++[a1*x % S])=a1*S:=by
        rw [e3,e4,e2]
        rw [e,Int.mul_add] at a11
        have e5:(dA l+a1*x / S)*S=dA l*S+S*(a1*x / S):=by rw [Int.add_mul,Int.mul_comm S]
        rw [e5];omega
      have low:0<=lf-a1*x / S:=by
        have n1:0<=a1*dA (w.drop (i+1).toNat):=Int.mul_nonneg ha.1 (uK λy hy=>hw0 y (List.mem_of_mem_drop hy))
        have n2:0<=dA (rest++[a1*x % S]):=uK (mI (λy hy=>(a7 y hy).1) q2.1)
        have n3:dA (l++[a1*x / S])<=a1:=Int.le_of_mul_le_mul_right (a:=S) (b:=dA (l++[a1*x / S])) (c:=a1) (by omega) (by omega)
        omega
      have len1:(l++[a1*x / S]).length=l.length+1:=by simp
      have len2:(rest++[a1*x % S]).length=rest.length+1:=by simp
      have ub:lf-a1*x / S<=288230376151711744:=by omega
      have tot:lf-a1*x / S+dA (l++[a1*x / S])=a1:=by rw [e3];omega
      repeat' with_reducible first | refine bE ?_ | refine dU ?_ | apply aF | apply bF | apply dY | apply dN | apply dV | apply dZ | apply d9 | apply dO | apply dW | apply dS | refine aI (λ_=>?_) λ_=>?_ | refine dJ (λ_=>?_) λ_=>?_ | apply dB | apply bW | apply cZ | apply bJ | apply aD | refine dM ?_
      refine cK ?_
      simp only
      exact ⟨⟨by first | omega | (simp only;omega),by first | omega | (simp only;omega),by first | omega | (simp only;omega),by first | omega | (simp only;omega),mI a6 q.1,mI a7 (by omega),tot,low,ub,new⟩,by first | omega | (simp only;omega)⟩
    · have k:¬ i<(w.length:Int):=k
      have hi:i=(w.length:Int):=by omega
      rw [List.drop_eq_nil_of_le (by omega)] at a11
      have z:dA ([]:List Int)=0:=rfl
      rw [z,Int.mul_zero,Int.zero_add] at a11
      have hr:=sum_lt (S:=S) (l:=rest) λx hx=>(a7 x hx).2
      have hr0:0<=dA rest:=uK λx hx=>(a7 x hx).1
      have e1:lf*S=dA rest:=by
        have:a1*S=(lf+dA l)*S:=by rw [a8]
        rw [Int.add_mul] at this;omega
      have b1:0<=lf:=by
        by_cases h:0<=lf
        · exact h
        · have:lf*S<=-1*S:=Int.mul_le_mul_of_nonneg_right (by omega) (by omega)
          omega
      have b2:lf<=(rest.length:Int):=by
        by_cases h:lf<=(rest.length:Int)
        · exact h
        · have h2:((rest.length:Int)+1)*S<=lf*S:=Int.mul_le_mul_of_nonneg_right (by omega) (by omega)
          rw [Int.add_mul,Int.one_mul] at h2
          rw [Int.mul_sub,Int.mul_one] at hr
          omega
      exact ⟨by first | omega | (simp only;omega),by first | omega | (simp only;omega),by first | omega | (simp only;omega),a6,a8⟩
  · refine ⟨by simp,by simp,by simp,by simp,by simp,by simp,by simp [dA,eD],by simp;omega,by simp;omega,?_⟩
    simp [dA,eD,hS]
theorem aW2 {R:Type} {bad:Int->R} {good:List Int->R} {n:Nat} {a1:Int} {w:List Int} {y:Bool} (hn:66<n) (hl:w.length<=60) (hw:∀ x∈w,0<=x/\x<=288230376151711744) (hy:y=true->1<=dA w) :
    Ex (λr=>(∃ e,e≠0/\r=bad e)\/(∃ l,NW a1 w l/\r=good l)) (RY bad good n a1 w y):=by
  unfold RY
  refine aU (λ(b:Bool)=>b=false->(0<=a1/\a1<=288230376151711744)/\y=true) ?_ λb hb=>fB (λ_=>aD (.inl ⟨1,by decide,rfl⟩)) λkb=>?_
  · refine aF (aI (λ_=>aD λk=>nomatch k) λk1=>aF (aI (λ_=>aD λk=>nomatch k) λk2=>aF (aD λk=>⟨by omega,by simpa using k⟩)))
  obtain ⟨ha,hyt⟩:=hb kb
  have h1:=hy hyt
  refine x_eq (tF (by omega) (by omega)) (aF (aI (λk=>aD (.inl ⟨_,k,rfl⟩)) λk=>?_))
  have hs:=aCH (l:=w) (by omega)
  have e1:(gM w).1=dA w:=by rw [hs.1]
  have hb2:=hs.2
  unfold bQ at hb2
  have hlen:1<=w.length:=by
    cases w with
    | nil=>simp [dA,eD] at h1
    | cons=>simp
  rw [e1]
  refine aU _ (aWZ hn hl hw rfl ⟨h1,hb2.2⟩ ha) λr hr=>?_
  obtain ⟨lf,l,rest⟩:=r
  obtain ⟨r1,r2,r3,r4,r5⟩:=hr
  simp only at r1 r2 r3 r4 r5
  refine bF (bF (aU _ (aHS (l:=l) (rest:=rest) (left:=lf) (total:=a1) hn r1 (by omega) (by omega) (by omega) r4 r5 ha.2) λz hz=>aD (.inr ⟨z,⟨by omega,λx hx=>⟨hz.2.1 x hx,?_⟩,hz.2.2⟩,rfl⟩)))
  have:=DZ hz.2.1 x hx
  omega
def TJ {R:Type} (bad:Int->R) (a2:List Int) (v:Bool×Int):Option ((Bool×Int)⊕(Bool⊕R)) :=
  p2 (λ(a:Bool) (b:Int)=>bnd (decide (b<(a2.length:Int))) λ(x:Bool)=>cond x
    (((ix a2 b).bind λ(x:Int)=>bnd (decide (x<0)) λ(x:Bool)=>cond x (some true) ((ix a2 b).bind λ(x:Int)=>bnd (decide (x>288230376151711744)) λ(x:Bool)=>some x)).bind λ(y:Bool) =>
      cond y (esc (esc (some (bad 1)))) ((cond a (some true) ((ix a2 b).bind λ(x:Int)=>bnd (decide (x>0)) λ(x:Bool)=>some x)).bind λ(y:Bool)=>bnd (bA (b+1)) λ(x:Int)=>brk (y,x)))
    (esc (brk a))) v
noncomputable def BZ {R:Type} (bad:Int->R) (good:List Int->R) (n:Nat) (a1:Int) (a2:List Int):Option R:=(iter (TJ bad a2) n (false,0)).bind (sel (RY bad good n a1 a2))
theorem aKN {R:Type} {bad:Int->R} {w:List Int} {n:Nat} (hn:66<n) (hl:w.length<=60):Ex (λr=>match r with | .inl y=>(∀ x∈w,0<=x/\x<=288230376151711744)/\(y=true->1<=dA w) | .inr r=>r=bad 1) (iter (TJ bad w) n (false,0)):=by
  refine fJ (λ(v:Bool×Int)=>0<=v.2/\v.2<=(w.length:Int)/\((∀ x∈w.drop v.2.toNat,0<=x/\x<=288230376151711744)->(∀ x∈w,0<=x/\x<=288230376151711744))/\(v.1=true->∃ x∈w,1<=x)) (λ(v:Bool×Int)=>w.length-v.2.toNat) ?_ (by simp) (by simp;omega)
  rintro ⟨some',i⟩ ⟨h0,h1,h2,h3⟩
  simp only at h0 h1 h2 h3
  unfold TJ
  refine bF (aF (aI (λk=>?_) λk=>bJ (cK ⟨?_,?_⟩)))
  · have k:i<(w.length:Int):=k
    refine aU (λ(b:Bool)=>∀ x,w[i.toNat]?=some x->b=false->0<=x/\x<=288230376151711744) ?_ λb hb=>fB (λ_=>bJ (bJ (aD rfl))) λkb=>?_
    · refine eT h0 k λx hx=>aF (aI (λ_=>aD λ_ _ k=>nomatch k) λk1=>eT h0 k λx' hx'=>aF (aD λy hy hk=>?_))
      have hx':w[i.toNat]?=some x':=hx'
      have hx:w[i.toNat]?=some x:=hx
      rw [hx] at hx' hy;cases hx';cases hy
      have:=of_decide_eq_false hk
      omega
    · refine aU (λ(b:Bool)=>b=true->∃ x∈w,1<=x) (fB (λkk=>aD λ_=>h3 kk) λ_=>eT h0 k λx hx=>aF (aD λkk=>⟨x,fE hx,by have:=of_decide_eq_true kk;omega⟩)) λc hc=>?_
      have hi:i.toNat<w.length:=by omega
      have hx:w[i.toNat]?=some w[i.toNat]:=List.getElem?_eq_getElem hi
      refine bE (cK ⟨⟨by first | omega | (simp only;omega),by first | omega | (simp only;omega),λhh=>h2 λy hy=>?_,hc⟩,by first | omega | (simp only;omega)⟩)
      rw [(drop_at hx).2] at hy
      rcases List.mem_cons.1 hy with rfl | hy
      · exact hb _ hx kb
      · exact hh y (by show y∈w.drop (i+1).toNat;rw [show (i+1).toNat=i.toNat+1 by omega];exact hy)
  · refine h2 λx hx=>?_
    have k:¬ i<(w.length:Int):=k
    rw [List.drop_eq_nil_of_le (by omega)] at hx;cases hx
  · intro ky
    obtain ⟨x,hx,h4⟩:=h3 ky
    have k:¬ i<(w.length:Int):=k
    have hw:=h2 λx hx=>by rw [List.drop_eq_nil_of_le (by omega)] at hx;cases hx
    have:=DZ (λx hx=>(hw x hx).1) x hx
    omega
theorem OZ {R:Type} {bad:Int->R} {good:List Int->R} {n:Nat} {a1:Int} {w:List Int} (hn:66<n) (hl:w.length<=60) :
    Ex (λr=>(∃ e,e≠0/\r=bad e)\/(∃ l,NW a1 w l/\r=good l)) (BZ bad good n a1 w):=by
  unfold BZ
  refine aU _ (aKN hn hl) λr hr=>?_
  cases r with
  | inl y=>exact cZ (aW2 hn hl hr.1 hr.2)
  | inr r=>exact yK (.inl ⟨1,by decide,hr⟩)
theorem aH0 (n:Nat) (a1:Int) (a2:List Int):EX n a1 a2=BZ (λe=>([],e)) (λl=>(l,0)) n a1 a2:=by
  unfold EX aAA
  simp only [WT.run,bS]
  rfl
theorem aXR {n:Nat} {a1:Int} {w:List Int} (hn:66<n) (hl:w.length<=60):Ex (λr=>r.2=0->NW a1 w r.1) (EX n a1 w):=by
  rw [aH0]
  refine IN (OZ hn hl) λr hr=>?_
  rcases hr with ⟨e,h1,rfl⟩ | ⟨l,h1,rfl⟩
  · exact λk=>absurd k h1
  · exact λ_=>h1
theorem aN6 {α β:Type} {i:Ix} {f:α->WT Tryz.prog i} {g:β->WT Tryz.prog i} {y:α⊕β}:(Sum.elim f g y).run=Sum.elim (λa=>(f a).run) (λb=>(g b).run) y:=by cases y <;> rfl
theorem aHP (n:Nat) (a1:Int) (a2:List Int):BL n a1 a2=bnd (decide (a1>=0)) λ(x:Bool)=>cond x
    ((BZ (R:=Int⊕List Int) .inl .inr n a1 a2).bind (Sum.elim (λe=>some ([],e)) λl=>some (l,0)))
    (bnd (bA (0-a1)) λ(y:Int)=>(BZ (R:=Int⊕List Int) .inl .inr n y a2).bind (Sum.elim (λe=>(iter (λ(_:Unit)=>(esc (some ()):Option (Unit⊕Unit))) n ()).bind λ_=>some ([],e))
      λl=>(iter (λ(v:Int×List Int)=>p2 (λ(i:Int) (m:List Int)=>bnd (decide (i<(m.length:Int))) λ(x:Bool)=>cond x ((ix m i).bind λ(x:Int)=>bnd (bA (0-x)) λ(x:Int)=>bnd (m.set (Int.toNat i) x) λ(z:List Int)=>bnd (bA (i+1)) λ(j:Int)=>brk (j,z)) (esc (some m))) v) n (0,l)).bind λm=>some (m,0))):=by
  unfold BL aA4
  simp only [WT.run,bS,aN6]
  rfl
theorem XM {n:Nat} {a1:Int} {w:List Int} (hn:66<n) (hl:w.length<=60) (ha:-288230376151711744<=a1/\a1<=288230376151711744):Ex (λr=>r.2=0->r.1.length=w.length/\(0<=a1->∀ x∈r.1,0<=x/\x<=288230376151711744)/\(∀ x∈r.1,bQ x)) (BL n a1 w):=by
  rw [aHP]
  refine aF (aI (λk=>?_) λk=>bE ?_)
  · refine aU _ (OZ hn hl) λr hr=>?_
    rcases hr with ⟨e,h1,rfl⟩ | ⟨l,h1,rfl⟩
    · exact aD λk=>absurd k h1
    · exact aD λ_=>⟨h1.1,λ_=>h1.2.1,λx hx=>by have:=h1.2.1 x hx;unfold bQ;omega⟩
  · refine aU _ (OZ hn hl) λr hr=>?_
    rcases hr with ⟨e,h1,rfl⟩ | ⟨l,h1,rfl⟩
    · obtain ⟨m,rfl⟩:∃ m,n=m+1:=⟨n-1,by omega⟩
      exact aD λk=>absurd k h1
    · show Ex _ ((iter _ n (0,l)).bind _)
      refine aU (λ(m:List Int)=>m.length=w.length/\∀ x∈m,bQ x) (fJ (λ(v:Int×List Int)=>0<=v.1/\v.1<=(w.length:Int)/\v.2.length=w.length/\∀ x∈v.2,bQ x) (λ(v:Int×List Int)=>w.length-v.1.toNat) ?_ ⟨by simp,by simp,h1.1,λx hx=>by have:=h1.2.1 x hx;unfold bQ;omega⟩ (by simp;omega)) λm hm=>aD λ_=>⟨hm.1,λh=>absurd h k,hm.2⟩
      rintro ⟨i,m⟩ ⟨h2,h3,h4,h5⟩
      simp only at h2 h3 h4 h5
      refine bF (aF (aI (λk=>?_) λk=>bJ (aD ⟨h4,h5⟩)))
      have k:i<(m.length:Int):=k
      refine eT h2 k λx hx=>?_
      have hx2:=h5 x (fE hx)
      unfold bQ at hx2
      refine bE (aF (bE (cK ⟨⟨by first | omega | (simp only;omega),by first | omega | (simp only;omega),by rw [List.length_set];exact h4,oG h5 (by unfold bQ;omega)⟩,by first | omega | (simp only;omega)⟩)))
theorem aV5 {l:List aB} {k:Nat} {a b:aB} (h:l[k]?=some a):tQ (l.set k b)=tQ l-a.aG+b.aG/\tV (l.set k b)=tV l-a.Value+b.Value/\tP (l.set k b)=tP l-a.bO+b.bO/\tS (l.set k b)=tS l-ab a.bO+ab b.bO:=by
  induction l generalizing k with
  | nil=>cases h
  | cons x r ih =>
    cases k with
    | zero=>cases h;simp only [List.set_cons_zero,tQ,tV,tP,tS];refine ⟨?_,?_,?_,?_⟩ <;> omega
    | succ k=>obtain ⟨h1,h2,h3,h4⟩:=ih h;simp only [List.set_cons_succ,tQ,tV,tP,tS,h1,h2,h3,h4];refine ⟨?_,?_,?_,?_⟩ <;> omega
theorem drop_set {α:Type} {l:List α} {i:Nat} {y:α}:(l.set i y).drop (i+1)=l.drop (i+1):=by
  apply List.ext_getElem?
  intro j
  rw [List.getElem?_drop,List.getElem?_drop,List.getElem?_set,if_neg (by omega)]
theorem aLY {m v:Int} {p:aH} {n:Nat} (hn:66<n) (h:PR m p) (hv:v<=288230376151711744):Ex (λr=>r.2=0->PR m r.1/\tQ r.1.aW=tQ p.aW/\tV r.1.aW=tV p.aW+v/\tS r.1.aW=tS p.aW) (GR n m p v):=by
  have hl:=gV h.ly
  unfold GR aBI
  simp only [WT.run,bS]
  refine aU (λ(b:Bool)=>b=false->0<=v) ?_ λb hb=>fB (λ_=>aD (λk=>absurd k (by simp))) λkb=>?_
  · refine aF (aI (λ_=>aD (λk=>nomatch k)) λk=>aF (aD λ_=>by omega))
  have hv0:=hb kb
  refine aF (aI (λ_=>aD (λk=>absurd k (by simp))) λk1=>aF (aI (λ_=>aD (λk=>absurd k (by simp))) λk2=>dM (x_eq (xJ hn h.ly) ?_)))
  refine aU (λ(l:List aB)=>l.length=p.aW.length/\tQ l=tQ p.aW/\tV l=tV p.aW+v/\tS l=tS p.aW) (fJ (λ(w:Int×Int×List aB)=>0<=w.2.1/\w.2.1<=(p.aW.length:Int)/\w.2.2.length=p.aW.length/\tQ w.2.2=tQ p.aW/\tV w.2.2+w.1=tV p.aW+v/\tS w.2.2=tS p.aW/\(∀ x∈w.2.2.drop w.2.1.toNat,jA x)/\(w.2.1=(p.aW.length:Int)->w.1=0)/\-288230376151711744*w.2.1<=w.1/\w.1<=288230376151711744) (λ(w:Int×Int×List aB)=>p.aW.length-w.2.1.toNat) ?_ (v:=(v,0,p.aW)) ⟨by simp,by simp,rfl,rfl,by simp,rfl,by simpa using h.ly.1,by simp;omega,by simp;omega,hv⟩ (by simp;omega)) λl hl2=>?_
  · rintro ⟨left,i,l⟩ ⟨a1,a2,a3,a4,a5,a6,a7,a8,a9,l6⟩
    simp only at a1 a2 a3 a4 a5 a6 a7 a8 a9 l6
    refine bF (bF (aF (aI (λk=>?_) λk=>bJ (aD ?_))))
    · have k:i<(p.aW.length:Int):=k
      have hx:l[i.toNat]?=some (l[i.toNat]'(by omega)):=List.getElem?_eq_getElem (by omega)
      generalize l[i.toNat]'(by omega)=x at hx
      obtain ⟨g1,g2,g3⟩:=a7 x (by rw [(drop_at hx).2];exact List.mem_cons_self ..)
      refine bE (aF ?_)
      refine aU (λ(y:Int)=>(-288230376151711744*i<=y/\y<=288230376151711744)/\(i=(p.aW.length:Int)-1->y=left)/\(i≠(p.aW.length:Int)-1->0<=y)) (aI (λkk=>dD a1 hx (x_eq (oJ hn (by first | omega | (simp only;omega)) (by first | omega | (simp only;omega))) (aD ?_))) λkk=>aD ?_) λy hy=>?_
      · have kk:i<(p.aW.length:Int)-1:=kk
        have:=xB (v:=v) (w:=x.aG) (q:=tQ p.aW) ⟨hv0,hv⟩
        simp only
        refine ⟨by omega,by omega,by omega⟩
      · have kk:¬ i<(p.aW.length:Int)-1:=kk
        exact ⟨⟨a9,l6⟩,λ_=>rfl,λk3=>absurd (by omega) k3⟩
      · obtain ⟨y1,y2,y3⟩:=hy
        obtain ⟨t1,t2,t3,t4⟩:=aV5 (b:=(⟨x.aG,x.Value+y,x.bO⟩:aB)) hx
        simp only at t1 t2 t3 t4
        have e2:(i+1).toNat=i.toNat+1:=by omega
        have hw1:-9223372036854775808<=x.Value+y/\x.Value+y<=9223372036854775807:=by omega
        have hw2:-9223372036854775808<=left-y/\left-y<=9223372036854775807:=by omega
        refine dD a1 hx (gU hw1 (gU hw2 (aF (bE (cK ?_)))))
        refine ⟨⟨by first | omega | (simp only;omega),by first | omega | (simp only;omega),by rw [List.length_set];exact a3,by first | omega | (simp only;omega),by first | omega | (simp only;omega),by first | omega | (simp only;omega),?_,?_,?_,?_⟩,by first | omega | (simp only;omega)⟩
        · show ∀ z∈(l.set i.toNat _).drop (i+1).toNat,jA z
          rw [e2,drop_set]
          intro z hz
          exact a7 z (by rw [(drop_at hx).2];exact List.mem_cons_of_mem _ hz)
        · show i+1=(p.aW.length:Int)->left-y=0
          intro k3;have:=y2 (by omega);omega
        · show -288230376151711744*(i+1)<=left-y;omega
        · show left-y<=288230376151711744
          by_cases k3:i=(p.aW.length:Int)-1
          · have:=y2 k3;omega
          · have:=y3 k3;omega
    · have k:¬ i<(p.aW.length:Int):=k
      have:=a8 (by omega)
      exact ⟨a3,a4,by first | omega | (simp only;omega),a6⟩
  · obtain ⟨b1,b2,b3,b4⟩:=hl2
    refine aU _ (BK (by omega) (by omega)) λr hr=>?_
    refine aF (dJ (λ_=>aD (λk=>absurd k (by simp))) λk=>aD λ_=>?_)
    have hL:=hr.1 k
    exact ⟨IY h hL (λk=>by have:=h.one k;omega) (by omega),b2,b3,b4⟩
theorem ZR {f:Nat->Int} {i:Nat} {a b:Int} (h:a+b=0):bump (bump f i a) i b=f:=by
  rw [aD2,h];funext j;unfold bump;simp
theorem aT2 {s t:aA} {e:Int} {bL:List Int} {x:aQ} {d:Int} {r:dG} {v:Int} {n:Nat} (hn:66<n) (hs:SS s) (hr:tH s.bH r) (h:On s e.toNat bL t x d (λ_=>0)) (he:r.eY=e) (hv:0<=v/\v<=288230376151711744) (ht:0<=e/\e<(s.bD.length:Int)) :
    Ex (λq=>q.2.2=0->(0<=q.2.1/\q.2.1<=v)/\∃ x',On s e.toNat bL q.1 x' (d+q.2.1) (λ_=>0)/\x'.dR=x.dR) (FQ n t r v):=by
  obtain ⟨h1,h2,h3,h4,h5,h6,h7,h8⟩:=hr
  obtain ⟨g1,g2,g3,g4,g5⟩:=h.rc
  have hst:=h.ss hs
  subst he
  have htt:gY t r.eY r.Item:=⟨⟨ht.1,by rw [g5];exact ht.2⟩,by rw [g4];exact h2⟩
  obtain ⟨x',m,k,p,q,sp⟩:=hst.spot htt h3
  have hx':=sp.en;rw [h.at] at hx';cases hx'
  obtain ⟨ms',m1,m2⟩:=sp.ms
  have hl:=gV sp.io.pp.ly
  unfold FQ aB6
  simp only [WT.run,bS]
  refine dD ht.1 m1 (dD h2.1 m2 (x_eq (pX hst.toS0 htt h3 h.at sp.pp) (bE (x_eq (xJ hn sp.io.pp.ly) (aF (x_eq (oJ hn ?_ (by omega)) ?_))))))
  · simp only;split <;> omega
  generalize (if (⟨tQ p.aW,tV p.aW,tP p.aW⟩:aB).aG<r.aG-r.gP then (⟨tQ p.aW,tV p.aW,tP p.aW⟩:aB).aG else r.aG-r.gP)=z
  have hc:=xB (v:=v) (w:=z) (q:=r.aG) hv
  refine aU (λ_=>True) (aF (aI (λ_=>aD trivial) λ_=>aF (aD trivial))) λb _=>fB (λ_=>aD λ_=>⟨by simp;omega,x,by simpa using h,rfl⟩) λ_=>?_
  refine aU _ (aLY hn sp.io.pp (by omega)) λa ha=>?_
  refine aF (aI (λk=>aD λk2=>absurd k2 k) λk=>?_)
  obtain ⟨a1,a2,a3,a4⟩:=ha (by omega)
  have hio:IO m a.1 q:=⟨a1,sp.io.qq,by have:=sp.io.sq;omega,by have:=sp.io.ss;omega⟩
  obtain ⟨x1,o1,p1,_,_⟩:=h.LV sp hio (v:=pt v z r.aG) (by omega)
  refine x_eq (xK hst sp) (aU _ (sU hn (o1.ss hs)) λc hc2=>aD λk3=>⟨hc,?_⟩)
  rcases hc2 with ⟨_,hc2⟩ | ⟨k,_⟩
  rotate_left
  · exact absurd k3 k
  obtain ⟨x2,o2,q1,q2⟩:=o1.uP hc2
  rw [ZR (by simp [kM];omega)] at o2
  exact ⟨x2,o2,q1.trans p1⟩
theorem aMD {s:aA} {refs:List Int} {b:Int} {n:Nat} (hn:66<n) (hl:refs.length<=60) (hr:s.bY.length<=40) (hi:∀ r∈s.bY,0<=r.Item/\r.Item<(s.bH.bZ.length:Int)):Ex (λ(l:List Int)=>l.length=refs.length) (JP n s refs b):=by
  unfold JP aDL
  simp only [WT.run,bS]
  refine aU (λ(l:List Int)=>l.length=refs.length) (fJ (λ(v:Int×List Int)=>0<=v.1/\v.1<=(refs.length:Int)/\(v.2.length:Int)=v.1) (λ(v:Int×List Int)=>refs.length-v.1.toNat) ?_ ⟨by simp,by simp,by simp⟩ (by simp;omega)) λl h=>aD h
  rintro ⟨i,l⟩ ⟨h0,h1,h2⟩
  simp only at h0 h1 h2
  refine bF (aF (aI (λk=>?_) λk=>bJ (aD ?_)))
  · have k:i<(refs.length:Int):=k
    have hx:refs[i.toNat]?=some (refs[i.toNat]'(by omega)):=List.getElem?_eq_getElem (by omega)
    generalize refs[i.toNat]'(by omega)=x at hx
    refine aU (λ(b:Bool)=>b=true->0<=x/\x<(s.bY.length:Int)) (dD h0 hx (aF (aI (λk1=>dD h0 hx (aF (aD λk2=>?_))) λ_=>aD λk=>nomatch k))) λb hb=>?_
    · have:=of_decide_eq_true k2;omega
    refine aU (λ_=>True) (fB (λkb=>?_) λ_=>aD trivial) λw _=>aF (dM (bE (cK ⟨⟨by first | omega | (simp only;omega),by first | omega | (simp only;omega),by simp;omega⟩,by first | omega | (simp only;omega)⟩)))
    obtain ⟨g1,g2⟩:=hb kb
    refine dD h0 hx (eT g1 g2 λy hy=>aF (aI (λ_=>aD trivial) λ_=>aF (aI (λ_=>aD trivial) λ_=>aF (aI (λ_=>?_) λ_=>aD trivial))))
    have:=hi y (fE hy)
    exact eT this.1 this.2 λ_ _=>aF (aD trivial)
  · have k:¬ i<(refs.length:Int):=k
    first | omega | (simp only;omega)
end Go.Pv
