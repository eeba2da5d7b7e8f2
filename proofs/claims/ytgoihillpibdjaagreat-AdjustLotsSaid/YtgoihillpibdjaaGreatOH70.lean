import Derived.Test.YtgoihillpibdjaaGreatOC70
set_option linter.unusedVariables false
set_option linter.unusedSimpArgs false
namespace Go.Pv
open Go.Proofs
set_option maxRecDepth 100000
set_option maxHeartbeats 1000000
theorem W9 {r:eU} {q:Int} {n:Nat} {m:fG} (hn:66<n) (h:yE m r) (hq:-9223372036854775808<=q/\q<=9223372036854775807):Ex (λd=>0<=d/\d<=r.jR) (EA n r q):=by
  obtain ⟨h1,h2,h3,h4,h5,h6,h7,h8⟩:=h
  unfold EA aH2
  simp only [WT.run,bR]
  refine aD (aH (λ_=>aF (by omega)) λ_=>x_eq (qF hn hq (by omega)) (aF (zN h7)))
theorem aFQ {s:aA} {i:Int} {y z:eU} (h0:0<=i) (hz:s.cZ[i.toNat]?=some z) (hl:s.cZ.length<=40):EP s i y=some { s with cZ:=s.cZ.set i.toNat y }:=by
  refine eT ?_
  unfold EP ZX
  simp only [WT.run,bR]
  exact dF (bW h0 hz (aD (aF rfl)))
theorem On.aH6 {K:Int} {s:aA} (hI:Inv K s) {e:Int} {bL:List Int} {t:aA} {x y:aP} {d:Int} {f:Nat->Int} (h:On s e.toNat bL t y d f) (hx:s.bC[e.toNat]?=some x) (hd:d=0) (hf:∀ i,f i=0) {k:Nat} {r r':eU} (hr:s.cZ[k]?=some r) (hr':yE s.bJ r') (he:r.fT=e) (he':r'.fT=e) (h0:0<=e)
    (b1:bl y 1-bl x 1=r.jR-r'.jR) (b12:bl y 12=bl x 12) (b13:bl y 13=bl x 13) (b14:bl y 14=bl x 14):Inv K { t with cZ:=t.cZ.set k r' }:=by
  obtain ⟨g1,g2,g3,g4,g5⟩:=h.rc
  rw [g1]
  refine h.inv hI hx hd hf (oC hI.mK hr') (by rw [g2];exact hI.nA) (by rw [g3];exact hI.nO) (by rw [List.length_set];exact hI.l1) (by rw [g2];exact hI.l2) (by rw [g3];exact hI.l3) ?_ ?_ (by rw [g3];omega) (by intro f _;rw [g3]) (by unfold kF;omega)
  · rw [qQ _ hr];unfold iU
    rw [if_pos (by omega),if_pos (by omega)];omega
  · intro f hf;rw [qQ _ hr];unfold iU
    rw [if_neg (by omega),if_neg (by omega)];omega
theorem aTW {K:Int} {s:aA} {o:bM} {n:Nat} {r:eU} {x:aP} {bL:List Int} (hn:66<n) (h:Inv K s) (hq:0<=o.aI/\o.aI<=288230376151711744) (ha:0<=o.bO/\o.bO<=288230376151711744) (h0:0<=o.Ref) (hr:s.cZ[o.Ref.toNat]?=some r) (hx:s.bC[r.fT.toNat]?=some x) (hm:s.bJ.Methods[r.fT.toNat]?=some bL) (ho:EO s.bJ bL x):Ex (Kept K s) (M9 n s o r):=by
  have hk:=h.mK r (fF hr)
  have hk2:=hk
  obtain ⟨h1,h2,h3,h4,h5,h6,h7,h8⟩:=hk2
  have o0:=On.start hx hm ho
  have hl1:=h.l1
  unfold M9 aDH
  simp only [WT.run,bR]
  refine aD (aH (λ_=>aF (.inr ⟨by simp,rfl⟩)) λk1=>aT _ (W9 hn hk (by omega)) λd hd=>bF (bF (aT _ (oP hn h.ss (by simp)) λc hc=>?_)))
  refine aD (aH (λk=>aF (.inr ⟨k,rfl⟩)) λkz=>?_)
  rcases hc with ⟨_,hc⟩ | ⟨k,_⟩
  rotate_left
  · exact absurd k kz
  obtain ⟨x2,o2,q1,q2,q3⟩:=o0.sH hc (by simp [gH,gF])
  obtain ⟨g1,g2,g3,g4,g5⟩:=o2.rc
  have b1:=q1 1 (by decide);have b12:=q1 12 (by decide);have b13:=q1 13 (by decide);have b14:=q1 14 (by decide)
  simp [gH,gF] at b1 b12 b13 b14
  refine bF (bF (x_eq (aFQ h0 (by rw [g1];exact hr) (by rw [g1];exact hl1)) (aF (.inl ⟨rfl,?_⟩))))
  exact o2.aH6 h hx (by simp [gH,gF]) (by intro j;rfl) hr ⟨h1,h2,h3,h4,h5,by first | omega | (simp only;omega),by first | omega | (simp only;omega),h8⟩ rfl rfl h1.1 (by first | omega | (simp only;omega)) b12 b13 b14
theorem aOW {K:Int} {s:aA} {o:bM} {n:Nat} {r:eU} {x:aP} {bL:List Int} (hn:66<n) (h:Inv K s) (hq:0<=o.aI/\o.aI<=288230376151711744) (h0:0<=o.Ref) (hr:s.cZ[o.Ref.toNat]?=some r) (hx:s.bC[r.fT.toNat]?=some x) (hm:s.bJ.Methods[r.fT.toNat]?=some bL) (ho:EO s.bJ bL x):Ex (Kept K s) (LG n s o r):=by
  have hk:=h.mK r (fF hr)
  have hk2:=hk
  obtain ⟨h1,h2,h3,h4,h5,h6,h7,h8⟩:=hk2
  have o0:=On.start hx hm ho
  have hl1:=h.l1
  unfold LG aHJ
  simp only [WT.run,bR]
  refine bF (aD (aH (λ_=>aF (.inr ⟨by simp,rfl⟩)) λk1=>?_))
  refine aT (λ(b:Bool)=>b=false->r.Open>0->o.aI<=r.Open) ?_ λb hb=>eX (λ_=>aF (.inr ⟨by simp,rfl⟩)) λkb=>?_
  · refine aD (aH (λk=>aD (aF λk2 _=>?_)) λk=>aF λ_ k2=>absurd k2 k)
    have:=of_decide_eq_false k2;omega
  have hb:=hb kb
  refine aT _ (uM hn h.ss (by omega)) λb hb=>?_
  refine aD (aH (λk=>aF (.inr ⟨k,rfl⟩)) λkz=>?_)
  rcases hb with ⟨_,hb⟩ | ⟨k,_⟩
  rotate_left
  · exact absurd k kz
  obtain ⟨f1,f2,f3,f4,f5,f6⟩:=hb.facts
  obtain ⟨x1,o1,p1,p2,p3⟩:=o0.vP hb
  have hv:=zN (w:=o.aI) (q:=r.aI) h5
  refine x_eq (qF hn (by omega) (by omega)) (aD ?_)
  refine aT (λ(v:Int×Int×eU)=>(v.1=1\/v.1=2)/\(0<=v.2.1/\v.2.1<=288230376151711744)/\v.2.2=⟨r.fT,r.Item,r.Loc,r.aI,r.Value,v.2.2.Open,v.2.2.jR,r.iP⟩/\(0<=v.2.2.Open/\v.2.2.Open<=r.aI)/\(0<=v.2.2.jR/\v.2.2.jR<=288230376151711744)/\r.jR-v.2.2.jR=if v.1=1 then v.2.1 else 0) ?_ λv hv=>?_
  · refine aH (λk=>aT _ (W9 hn hk (by omega)) λd hd=>bF (bF (aF ⟨.inl rfl,by first | omega | (simp only;omega),rfl,by first | omega | (simp only;omega),by first | omega | (simp only;omega),?_⟩))) λk=>aF ⟨.inr rfl,by first | omega | (simp only;omega),rfl,by first | omega | (simp only;omega),h7,?_⟩
    · simp only;rw [if_pos trivial];omega
    · simp only;rw [if_neg (by decide)];omega
  obtain ⟨a,d,y⟩:=v
  obtain ⟨v1,v2,v3,v4,v5,v6⟩:=hv
  simp only at v1 v2 v3 v4 v5 v6
  refine bE (bE (bF (bF (aT _ (oP hn (o1.ss h.ss) (by simp)) λc hc=>?_))))
  refine aD (aH (λk=>aF (.inr ⟨k,rfl⟩)) λkz=>?_)
  rcases hc with ⟨_,hc⟩ | ⟨k,_⟩
  rotate_left
  · exact absurd k kz
  have L:eD [⟨a,d⟩,⟨6,b.2.1.Value-d⟩,⟨0,0-b.2.1.Value⟩] 0=-b.2.1.Value/\eD [⟨a,d⟩,⟨6,b.2.1.Value-d⟩,⟨0,0-b.2.1.Value⟩] 1=(if a=1 then d else 0)/\eD [⟨a,d⟩,⟨6,b.2.1.Value-d⟩,⟨0,0-b.2.1.Value⟩] 11=0/\eD [⟨a,d⟩,⟨6,b.2.1.Value-d⟩,⟨0,0-b.2.1.Value⟩] 12=0/\eD [⟨a,d⟩,⟨6,b.2.1.Value-d⟩,⟨0,0-b.2.1.Value⟩] 13=0/\eD [⟨a,d⟩,⟨6,b.2.1.Value-d⟩,⟨0,0-b.2.1.Value⟩] 14=0:=by
    rcases v1 with rfl | rfl <;> simp [gH,gF]
  obtain ⟨L0,L1,L11,L12,L13,L14⟩:=L
  obtain ⟨x2,o2,q1,q2,q3⟩:=o1.sH hc L11
  refine aT _ (sU hn (o2.ss h.ss)) λt ht=>?_
  refine aD (aH (λk=>aF (.inr ⟨k,rfl⟩)) λkz=>?_)
  rcases ht with ⟨_,ht⟩ | ⟨k,_⟩
  rotate_left
  · exact absurd k kz
  obtain ⟨x3,o3,r1,r2⟩:=o2.xM ht
  obtain ⟨g1,g2,g3,g4,g5⟩:=o3.rc
  have hB:∀ a':Nat,a' < 17->bl x3 a'=bl x a'+eD [⟨a,d⟩,⟨6,b.2.1.Value-d⟩,⟨0,0-b.2.1.Value⟩] a':=λa' ha=>by rw [nI r1,q1 a' ha,nI p1]
  have b1:bl x3 1=bl x 1+eD _ 1:=hB 1 (by decide)
  have b12:bl x3 12=bl x 12+eD _ 12:=hB 12 (by decide)
  have b13:bl x3 13=bl x 13+eD _ 13:=hB 13 (by decide)
  have b14:bl x3 14=bl x 14+eD _ 14:=hB 14 (by decide)
  rw [L1] at b1;rw [L12] at b12;rw [L13] at b13;rw [L14] at b14
  refine bF (x_eq (aFQ h0 (by rw [g1];exact hr) (by rw [g1];exact hl1)) (aF (.inl ⟨rfl,?_⟩)))
  rw [v3]
  exact o3.aH6 h hx (by rw [L0];omega) (tJ (by simp [kQ];try omega)) hr ⟨h1,h2,h3,h4,h5,by first | omega | (simp only;omega),by first | omega | (simp only;omega),by first | omega | (simp only;omega)⟩ rfl rfl h1.1 (by first | omega | (simp only;omega)) (by omega) (by omega) (by omega)
theorem r18 {K:Int} {s:aA} {o:bM} {n:Nat} (hn:66<n) (h:Inv K s) (hq:0<=o.aI/\o.aI<=288230376151711744) (ha:0<=o.bO/\o.bO<=288230376151711744):Ex (Kept K s) (J3 n s o):=by
  unfold J3 XZ
  simp only [WT.run,bR]
  repeat' with_reducible first | refine bF ?_ | refine dP ?_ | apply aD | apply bE | apply dS | apply dI | apply dN | apply dR | apply dO | apply dL | apply dU | apply dQ | refine aH (λ_=>?_) λ_=>?_ | refine dG (λ_=>?_) λ_=>?_ | apply cO | apply bU | apply bY | apply bK | apply aF
  all_goals try exact Or.inr ⟨by simp,rfl⟩
  all_goals
    refine eF (by omega) (by omega) λz hz=>?_
    refine aT _ (rQ h z.fT z.Item) λr hr=>?_
    refine aD (aH (λk=>aF (.inr ⟨k,rfl⟩)) λkz=>?_)
    obtain ⟨ht,x,bL,hx,hm,ho⟩:=hr (by omega)
    refine aD (aH (λk=>aT _ (aTW hn h hq ha (by omega) hz hx hm ho) λr hr=>aF hr) λk=>aT _ (aOW hn h hq (by omega) hz hx hm ho) λr hr=>aF hr)
theorem On.aRS {K:Int} {s:aA} (hI:Inv K s) {e:Int} {bL:List Int} {t:aA} {x y:aP} {d:Int} {f:Nat->Int} (h:On s e.toNat bL t y d f) (hx:s.bC[e.toNat]?=some x) (hd:d=0) (hf:∀ i,f i=0) {k:Nat} {r r':fU} (hr:s.dJ[k]?=some r) (hr':DI s.bJ r') (he:r.To=e) (he':r'.To=e) (h0:0<=e)
    (b1:bl y 1=bl x 1) (b12:bl y 12-bl x 12=r'.Value-r.Value) (b13:bl y 13=bl x 13) (b14:bl y 14=bl x 14):Inv K { t with dJ:=t.dJ.set k r' }:=by
  obtain ⟨g1,g2,g3,g4,g5⟩:=h.rc
  rw [g3]
  refine h.inv hI hx hd hf (by rw [g1];exact hI.mK) (by rw [g2];exact hI.nA) (oC hI.nO hr') (by rw [g1];exact hI.l1) (by rw [g2];exact hI.l2) (by rw [List.length_set];exact hI.l3) (by rw [g1];omega) (by intro f _;rw [g1]) ?_ ?_ (by unfold kF;omega)
  · rw [qQ _ hr];unfold iI
    rw [if_pos (by omega),if_pos (by omega)];omega
  · intro f hf;rw [qQ _ hr];unfold iI
    rw [if_neg (by omega),if_neg (by omega)];omega
theorem aM2 {K:Int} {s:aA} {o:bM} {n:Nat} (hn:66<n) (h:Inv K s) (hq:0<=o.aI/\o.aI<=288230376151711744):Ex (Kept K s) (JR n s o):=by
  unfold JR aAK
  simp only [WT.run,bR]
  repeat' with_reducible first | refine bF ?_ | refine dP ?_ | apply aD | apply bE | apply dS | apply dI | apply dN | apply dR | apply dO | apply dL | apply dU | apply dQ | refine aH (λ_=>?_) λ_=>?_ | refine dG (λ_=>?_) λ_=>?_ | apply cO | apply bU | apply bY | apply bK | apply aF
  all_goals try exact Or.inr ⟨by simp,rfl⟩
  rename_i k1 k2
  refine eF (by omega) (by omega) λz hz=>?_
  have hz:s.dJ[o.Ref.toNat]?=some z:=hz
  obtain ⟨z1,z2,z3,z4,z5,z6⟩:=h.nO z (fF hz)
  refine aT _ (rQ h z.To z.Item) λr hr=>?_
  refine aD (aH (λk=>aF (.inr ⟨k,rfl⟩)) λkz=>?_)
  obtain ⟨ht,x,bL,hx,hm,ho⟩:=hr (by omega)
  have o0:=On.start hx hm ho
  have hl1:=h.l3
  refine aD (aH (λ_=>aF (.inr ⟨by simp,rfl⟩)) λk3=>?_)
  have hpc:=zN (w:=o.aI) (q:=z.aI) z5
  have hpp:=ZO (w:=o.aI) (q:=z.aI) z6
  refine x_eq (qF hn (by omega) (by omega)) (x_eq (qF hn (by omega) (by omega)) ?_)
  refine aT _ (yS (l:=⟨o.aI,pt z.Value o.aI z.aI,pt z.bN o.aI z.aI⟩) hn h.ss (by simp only;omega)) λb hb=>?_
  refine aD (aH (λk=>aF (.inr ⟨k,rfl⟩)) λkz=>?_)
  rcases hb with ⟨_,hb⟩ | ⟨k,_⟩
  rotate_left
  · exact absurd k kz
  obtain ⟨f1,f2,f3,f4,f5,f6,f7⟩:=hb.facts
  obtain ⟨x1,o1,p1,p2,p3⟩:=o0.brought hb
  refine bF (aT _ (oP hn (o1.ss h.ss) (by simp)) λc hc=>?_)
  refine aD (aH (λk=>aF (.inr ⟨k,rfl⟩)) λkz=>?_)
  rcases hc with ⟨_,hc⟩ | ⟨k,_⟩
  rotate_left
  · exact absurd k kz
  obtain ⟨x2,o2,q1,q2,q3⟩:=o1.sH hc (by simp [gH,gF])
  refine aT _ (sU hn (o2.ss h.ss)) λd hd=>?_
  refine aD (aH (λk=>aF (.inr ⟨k,rfl⟩)) λkz=>?_)
  rcases hd with ⟨_,hd⟩ | ⟨k,_⟩
  rotate_left
  · exact absurd k kz
  obtain ⟨x3,o3,r1,r2⟩:=o2.xM hd
  obtain ⟨g1,g2,g3,g4,g5⟩:=o3.rc
  have hB:∀ a:Nat,a<17->bl x3 a=bl x a+eD [⟨0,b.2.1⟩,⟨6,b.2.2.1⟩,⟨12,0-pt z.Value o.aI z.aI⟩] a:=λa ha=>by rw [nI r1,q1 a ha,nI p1]
  have b1:=hB 1 (by decide);have b12:=hB 12 (by decide);have b13:=hB 13 (by decide);have b14:=hB 14 (by decide)
  simp [gH,gF] at b1 b12 b13 b14
  unfold bQ at hpp z6
  have lg:d.1.dJ.length=s.dJ.length:=by rw [g3]
  repeat' with_reducible first | refine bF ?_ | refine dP ?_ | apply aD | apply bE | apply dS | apply dI | apply dN | apply dR | apply dO | apply dL | apply dU | apply dQ | refine aH (λ_=>?_) λ_=>?_ | refine dG (λ_=>?_) λ_=>?_ | apply cO | apply bU | apply bY | apply bK | apply aF | refine dF ?_
  refine bW (by omega) (by rw [g3];exact hz) ?_
  repeat' with_reducible first | refine bF ?_ | refine dP ?_ | apply aD | apply bE | apply dS | apply dI | apply dN | apply dR | apply dO | apply dL | apply dU | apply dQ | refine aH (λ_=>?_) λ_=>?_ | refine dG (λ_=>?_) λ_=>?_ | apply cO | apply bU | apply bY | apply bK | apply aF
  refine .inl ⟨rfl,?_⟩
  rw [List.set_set,List.set_set]
  refine o3.aRS h hx (by simp [gH,gF]) (tJ (by simp [kQ];try omega)) hz ⟨z1,z2,z3,by first | omega | (simp only;omega),by first | omega | (simp only;omega),?_⟩ rfl rfl z2.1 b1 (by simp only;omega) b13 b14
  unfold bQ;simp only;omega
theorem aKZ {K:Int} {s:aA} {o:bM} {n:Nat} (hn:66<n) (h:Inv K s) (hq:0<=o.aI/\o.aI<=288230376151711744) (ha:0<=o.bO/\o.bO<=288230376151711744) (hne:o.E≠o.To):Ex (Kept K s) (KR n s o):=by
  unfold KR aHI
  simp only [WT.run,bR]
  refine aT _ (rQ h o.E o.Item) λr hr=>?_
  refine aD (aH (λk=>aF (.inr ⟨k,rfl⟩)) λkz=>?_)
  obtain ⟨ht,x,bL,hx,hm,ho⟩:=hr (by omega)
  refine aT _ (rQ h o.To o.Item) λr2 hr2=>?_
  refine aD (aH (λk=>aF (.inr ⟨k,rfl⟩)) λkz=>?_)
  obtain ⟨hty,y,mty,hy,hmy,hoy⟩:=hr2 (by omega)
  have o0:=On.start hx hm ho
  have hl3:=h.l3
  refine aD (aH (λ_=>aF (.inr ⟨by simp,rfl⟩)) λk1=>?_)
  refine aT _ (uM hn h.ss (by omega)) λb hb=>?_
  refine aD (aH (λk=>aF (.inr ⟨k,rfl⟩)) λkz=>?_)
  rcases hb with ⟨_,hb⟩ | ⟨k,_⟩
  rotate_left
  · exact absurd k kz
  obtain ⟨f1,f2,f3,f4,f5,f6⟩:=hb.facts
  obtain ⟨x1,o1,p1,p2,p3⟩:=o0.vP hb
  refine bF (bF (aT _ (oP hn (o1.ss h.ss) (by simp)) λc hc=>?_))
  refine aD (aH (λk=>aF (.inr ⟨k,rfl⟩)) λkz=>?_)
  rcases hc with ⟨_,hc⟩ | ⟨k,_⟩
  rotate_left
  · exact absurd k kz
  obtain ⟨x2,o2,q1,q2,q3⟩:=o1.sH hc (by simp [gH,gF])
  have ss2:=o2.ss h.ss
  refine bF (aT _ (oP hn ss2 (by simp)) λc2 hc2=>?_)
  refine aD (aH (λk=>aF (.inr ⟨k,rfl⟩)) λkz=>?_)
  rcases hc2 with ⟨_,hc2⟩ | ⟨k,_⟩
  rotate_left
  · exact absurd k kz
  have ss3:=hc2.ss ss2
  refine aT _ (sU hn ss3) λd hd=>?_
  refine aD (aH (λk=>aF (.inr ⟨k,rfl⟩)) λkz=>?_)
  rcases hd with ⟨_,hd⟩ | ⟨k,_⟩
  rotate_left
  · exact absurd k kz
  have h1:=ht.1;have h2:=hty.1
  have hlen:=h.len
  have hnn:o.E.toNat≠o.To.toNat:=by omega
  obtain ⟨y0,by',he2,hy0,hpy,e3⟩:=hc2
  have hy1:y0=y:=by
    rw [o2.eq] at hy0
    have hy0:(s.bC.set o.E.toNat x2)[o.To.toNat]?=some y0:=hy0
    rw [lW (by omega),if_neg hnn,hy] at hy0;cases hy0;rfl
  subst hy1
  obtain ⟨x0,r0,ht3,hx0,hr0,hrr,e4⟩:=hd
  have hx1:x0=x2:=by
    rw [e3,o2.eq] at hx0
    have hx0:((s.bC.set o.E.toNat x2).set o.To.toNat { y0 with dK:=by' })[o.E.toNat]?=some x0:=hx0
    rw [lW (by rw [List.length_set];omega),if_neg (Ne.symm hnn),lW (by omega),if_pos rfl] at hx0;cases hx0;rfl
  subst hx1
  have o3:=o2.set (o2.es.aIZ (i:=o.Item.toNat) hrr) (o2.eb.roll (r:=⟨0,0,0,0,0,0,b.2.1.Value,0,0,0,0⟩) hr0) rfl rfl
  have eE:d.1.bC=(s.bC.set o.E.toNat { x0 with dH:=x0.dH.set o.Item.toNat (qT r0 ⟨0,0,0,0,0,0,b.2.1.Value,0,0,0,0⟩) }).set o.To.toNat { y0 with dK:=by' }:=by
    rw [e4,e3,o2.eq]
    show (((s.bC.set o.E.toNat x0).set o.To.toNat _).set o.E.toNat _)=_
    rw [List.set_comm _ _ (Ne.symm hnn),List.set_set]
  have eR:d.1={ s with bC:=d.1.bC }:=by rw [e4,e3,o2.eq];rfl
  have lg:d.1.dJ.length=s.dJ.length:=by rw [eR]
  have hB:∀ a:Nat,a<17->bl x0 a=bl x a+eD [⟨13,o.bO⟩,⟨15,0-o.bO⟩,⟨16,b.2.1.Value⟩,⟨0,0-b.2.1.Value⟩] a:=λa ha=>by rw [q1 a ha,nI p1]
  have b1:=hB 1 (by decide);have b12:=hB 12 (by decide);have b13:=hB 13 (by decide);have b14:=hB 14 (by decide)
  simp [gH,gF] at b1 b12 b13 b14
  have oy:=hoy.ee.x.post (l:=[⟨12,o.bO⟩,⟨14,0-o.bO⟩]) hpy (by simp [gH,gF])
  have hC:∀ a:Nat,a<17->by'.getD a 0=bl y0 a+eD [⟨12,o.bO⟩,⟨14,0-o.bO⟩] a:=λa ha=>hpy.2.2.1 a ha
  have c1:=hC 1 (by decide);have c12:=hC 12 (by decide);have c13:=hC 13 (by decide);have c14:=hC 14 (by decide)
  simp [gH,gF] at c1 c12 c13 c14
  refine bF (bF (x_eq (CL _) (aD (dG (λ_=>aF (.inr ⟨by simp,rfl⟩)) λkp=>?_))))
  have kp:bQ (o.bO-b.2.1.Value+b.2.1.bN):=of_decide_eq_true kp
  repeat' with_reducible first | refine bF ?_ | refine dP ?_ | apply aD | apply bE | apply dS | apply dI | apply dN | apply dR | apply dO | apply dL | apply dU | apply dQ | refine aH (λ_=>?_) λ_=>?_ | refine dG (λ_=>?_) λ_=>?_ | apply cO | apply bU | apply bY | apply bK | apply aF | refine dF ?_
  refine .inl ⟨rfl,?_⟩
  have fin:=h.up2 (T:=s.dJ++[⟨o.E,o.To,o.Item,o.aI,o.bO,o.bO-b.2.1.Value+b.2.1.bN⟩]) hnn hx hm (.inl (o3.done (by simp [gH,gF]) (tJ (by simp [kQ];try omega)))) hy hmy
    (.inl ⟨hoy.es.KU hpy.1 hpy.2.1,oy.done (by simp [gH,gF]) (λ_=>rfl),hoy.opn,hoy.lF⟩)
    (mQ h.nO ⟨by first | omega | (simp only;omega),by first | omega | (simp only;omega),ht.2,by first | omega | (simp only;omega),by first | omega | (simp only;omega),kp⟩) (by simp;omega) (by show bl x0 1=bl x 1;omega) (by show by'.getD 1 0=_;simp;omega) (by show bl x0 12=bl x 12;omega) ?_ ?_ ?_
  · rw [eR,eE];exact fin
  · rw [xD];simp only [dZ,iI];rw [if_pos (by omega)];show _=by'.getD 12 0-bl y0 12;simp;omega
  · intro f hf;rw [xD];simp only [dZ,iI];rw [if_neg (by omega)];omega
  · show bl x0 13+bl x0 14+(by'.getD 13 0+by'.getD 14 0)=bl x 13+bl x 14+(bl y0 13+bl y0 14);simp;omega
theorem r20 {K:Int} {s:aA} {o:bM} {n:Nat} (hn:66<n) (h:Inv K s) (hq:0<=o.aI/\o.aI<=288230376151711744) (ha:0<=o.bO/\o.bO<=288230376151711744) (hne:o.Kind=12->o.E≠o.To):Ex (Kept K s) (KP n s o):=by
  unfold KP WS
  simp only [WT.run,bR]
  refine aD (aH (λk=>aT _ (aKZ hn h hq ha (hne k)) λr hr=>aF hr) λ_=>aD (aH (λ_=>aT _ (aM2 hn h hq) λr hr=>aF hr) λ_=>aF (.inr ⟨by simp,rfl⟩)))
theorem DU {l:List Int} (h:∀ x∈l,0<=x):∀ x∈l,x<=dD l:=by
  induction l with
  | nil=>intro x hx;cases hx
  | cons y r ih =>
    intro x hx
    have h1:=h y (List.mem_cons_self ..)
    have h2:0<=dD r:=uW λz hz=>h z (List.mem_cons_of_mem _ hz)
    have e:dD (y :: r)=y+dD r:=rfl
    rcases List.mem_cons.1 hx with rfl | hx
    · omega
    · have:=ih (λz hz=>h z (List.mem_cons_of_mem _ hz)) x hx;omega
theorem sum_lt {l:List Int} {S:Int} (h:∀ x∈l,x<=S-1):dD l<=(l.length:Int)*(S-1):=by
  induction l with
  | nil=>simp [dD,dZ]
  | cons y r ih =>
    have h1:=h y (List.mem_cons_self ..)
    have h2:=ih λz hz=>h z (List.mem_cons_of_mem _ hz)
    have e:dD (y :: r)=y+dD r:=rfl
    have e2:(((y :: r).length:Nat):Int)*(S-1)=(r.length:Int)*(S-1)+(S-1):=by
      rw [List.length_cons];push_cast;rw [Int.add_mul,Int.one_mul]
    rw [e,e2];omega
theorem FY (a b:List Int):dD (a++b)=dD a+dD b:=xD _ a b
theorem QY {l:List Int} {i:Nat} {x:Int} (h:l[i]?=some x):dD (l.drop i)=x+dD (l.drop (i+1)):=uR _ h
def RY (total:Int) (w l:List Int):Prop:=l.length=w.length/\(∀ x∈l,0<=x/\x<=288230376151711744)/\dD l=total
noncomputable def splitB (a1 S:Int) (n:Nat) (a2:List Int) (v:Int×Int×List Int×List Int):Option ((Int×Int×List Int×List Int)⊕(Int×List Int×List Int)) :=
  p2 (λ(a:Int) (b:Int×List Int×List Int)=>p2 (λ(a_1:Int) (b:List Int×List Int)=>p2 (λ(a_2 b:List Int) =>
    bnd (decide (a_1<(a2.length:Int))) λ(x_2:Bool)=>cond x_2
      ((ix a2 a_1).bind λ(x_3:Int)=>(nM n a1 x_3 S).bind λ(x:Int×Int×Int)=>bnd (a_2++[x.fst]) λ(x_4:List Int)=>iQ (x_4.length<=68719476736)
        (bnd (b++[x.snd.fst]) λ(x_5:List Int)=>iQ (x_5.length<=68719476736) (bnd (aW (a-x.fst)) λ(x:Int)=>bnd (aW (a_1+1)) λ(x_6:Int)=>brk (x,x_6,x_4,x_5))))
      (esc (some (a,a_2,b)))) b) b) v
def UD (b:List Int) (v:Int×Int):Option ((Int×Int)⊕Int) :=
  p2 (λ(a b_1:Int)=>bnd (decide (b_1<(b.length:Int))) λ(x:Bool)=>cond x
    (((ix b b_1).bind λ(x:Int)=>(ix b a).bind λ(x_2:Int)=>bnd (decide (x>x_2)) λ(x:Bool)=>cond x (some b_1) (some a)).bind λ(y:Int)=>bnd (aW (b_1+1)) λ(x:Int)=>brk (y,x))
    (esc (some a))) v
def UM (n:Nat) (v:Int×List Int×List Int):Option ((Int×List Int×List Int)⊕List Int) :=
  p2 (λ(a:Int) (b:List Int×List Int)=>p2 (λ(a_2 b:List Int)=>bnd (decide (a>0)) λ(x:Bool)=>cond x
    (((iter (UD b) n (0,1)).bind λ(y:Int)=>(ix a_2 y).bind λ(x:Int)=>bnd (aW (x+1)) λ(x:Int)=>bnd (a_2.set (Int.toNat y) x) λ(x:List Int)=>(ix b y).bind λ(x_2:Int)=>bnd (b.set (Int.toNat y) (-1)) λ(x_3:List Int)=>some (x,x_3)).bind
      λ(y:List Int×List Int)=>p2 (λ(a_3 b:List Int)=>bnd (aW (a-1)) λ(x:Int)=>brk (x,a_3,b)) y)
    (esc (some a_2))) b) v
noncomputable def VT {R:Type} (bad:Int->R) (good:List Int->R) (n:Nat) (a1:Int) (a2:List Int) (y:Bool):Option R :=
  ((bnd (decide (a1<0)) λ(x:Bool)=>cond x (some true) (bnd (decide (a1>288230376151711744)) λ(x:Bool)=>cond x (some true) (bnd (!y) λ(x:Bool)=>some x))).bind λ(y:Bool)=>cond y (some (bad 1))
    ((nK n a2).bind λ(x:Int×Int)=>bnd (decide (x.snd≠0)) λ(x_1:Bool)=>cond x_1 (some (bad x.snd))
      ((iter (splitB a1 x.1 n a2) n (a1,0,[],[])).bind λ(y:Int×List Int×List Int)=>p2 (λ(a:Int) (b:List Int×List Int)=>p2 (λ(a_1 b:List Int) =>
        (iter (UM n) n (a,a_1,b)).bind λ(y:List Int)=>some (good y)) b) y)))
theorem aJU {b:List Int} {n:Nat} (hn:b.length<n) (h1:1<=b.length) (hl:b.length<=60):Ex (λ(y:Int)=>0<=y/\y<(b.length:Int)) (iter (UD b) n (0,1)):=by
  refine fM (λ(v:Int×Int)=>(0<=v.1/\v.1<(b.length:Int))/\1<=v.2/\v.2<=(b.length:Int)) (λ(v:Int×Int)=>b.length-v.2.toNat) ?_ (by simp;omega) (by simp;omega)
  rintro ⟨best,i⟩ ⟨h2,h3,h4⟩
  simp only at h2 h3 h4
  unfold UD
  refine bE (aD (aH (λk=>?_) λk=>bK (aF h2)))
  refine aT (λ(y:Int)=>0<=y/\y<(b.length:Int)) (eF (by omega) k λ_ _=>eF h2.1 h2.2 λ_ _=>aD (eX (λ_=>aF (by omega)) λ_=>aF h2)) λy hy=>bF (bX ⟨⟨hy,by first | omega | (simp only;omega),by first | omega | (simp only;omega)⟩,by first | omega | (simp only;omega)⟩)
theorem aML {n:Nat} {left total:Int} {l rest:List Int} (hn:66<n) (h0:0<=left/\left<=60) (hl:l.length=rest.length) (h1:1<=l.length) (h6:l.length<=60) (hp:∀ x∈l,0<=x) (ht:left+dD l=total) (hM:total<=288230376151711744):Ex (λ(r:List Int)=>r.length=l.length/\(∀ x∈r,0<=x)/\dD r=total) (iter (UM n) n (left,l,rest)):=by
  refine fM (λ(v:Int×List Int×List Int)=>(0<=v.1/\v.1<=60)/\v.2.1.length=l.length/\v.2.2.length=l.length/\(∀ x∈v.2.1,0<=x)/\v.1+dD v.2.1=total) (λ(v:Int×List Int×List Int)=>v.1.toNat) ?_ ⟨h0,rfl,hl.symm,hp,ht⟩ (by simp;omega)
  rintro ⟨lf,m,r⟩ ⟨a1,a2,a3,a4,a5⟩
  simp only at a1 a2 a3 a4 a5
  unfold UM
  refine bE (bE (aD (aH (λk=>?_) λk=>bK (aF ⟨a2,a4,by first | omega | (simp only;omega)⟩))))
  refine aT (λ(v:List Int×List Int)=>v.1.length=l.length/\v.2.length=l.length/\(∀ x∈v.1,0<=x)/\lf-1+dD v.1=total) ?_ λv hv=>bE (bF (bX ⟨⟨by first | omega | (simp only;omega),hv.1,hv.2.1,hv.2.2.1,hv.2.2.2⟩,by first | omega | (simp only;omega)⟩))
  refine aT _ (aJU (b:=r) (by omega) (by omega) (by omega)) λy hy=>eF hy.1 (by first | omega | (simp only;omega)) λx hx=>?_
  have hx:m[y.toNat]?=some x:=hx
  have hx1:=DU a4 x (fF hx)
  have hx2:=a4 x (fF hx)
  refine bF (aD (eF hy.1 (by first | omega | (simp only;omega)) λ_ _=>aD (aF ⟨by rw [List.length_set];exact a2,by rw [List.length_set];exact a3,oC a4 (by omega),?_⟩)))
  have e:dD (m.set y.toNat (x+1))=dD m-x+(x+1):=qQ _ hx
  show lf-1+dD (m.set y.toNat (x+1))=total
  omega
theorem aJP {n:Nat} {a1 S:Int} {w:List Int} (hn:66<n) (hl:w.length<=60) (hw:∀ x∈w,0<=x/\x<=288230376151711744) (hS:S=dD w) (h1:1<=S/\S<=288230376151711744) (ha:0<=a1/\a1<=288230376151711744) :
    Ex (λ(r:Int×List Int×List Int)=>(0<=r.1/\r.1<=60)/\r.2.1.length=w.length/\r.2.2.length=w.length/\(∀ x∈r.2.1,0<=x)/\r.1+dD r.2.1=a1) (iter (splitB a1 S n w) n (a1,0,[],[])):=by
  have hw0:∀ x∈w,0<=x:=λx hx=>(hw x hx).1
  have hle:=DU hw0
  refine fM (λ(v:Int×Int×List Int×List Int)=>0<=v.2.1/\v.2.1<=(w.length:Int)/\(v.2.2.1.length:Int)=v.2.1/\(v.2.2.2.length:Int)=v.2.1/\(∀ x∈v.2.2.1,0<=x)/\(∀ x∈v.2.2.2,0<=x/\x<=S-1)/\v.1+dD v.2.2.1=a1/\0<=v.1/\v.1<=288230376151711744/\a1*dD (w.drop v.2.1.toNat)+dD v.2.2.1*S+dD v.2.2.2=a1*S) (λ(v:Int×Int×List Int×List Int)=>w.length-v.2.1.toNat) ?_ ?_ (by simp;omega)
  · rintro ⟨lf,i,l,rest⟩ ⟨a2,a3,a4,a5,a6,a7,a8,a9,mF,a11⟩
    simp only at a2 a3 a4 a5 a6 a7 a8 a9 mF a11
    unfold splitB
    refine bE (bE (bE (aD (aH (λk=>?_) λk=>bK (aF ?_)))))
    · have k:i<(w.length:Int):=k
      refine eF a2 k λx hx=>?_
      have hx:w[i.toNat]?=some x:=hx
      obtain ⟨g1,g2⟩:=hw x (fF hx)
      have g3:=hle x (fF hx)
      have hmd:md a1 x S=(a1*x / S,a1*x % S,0):=by
        unfold md
        have q:=qZ (v:=a1) (q:=x) (n:=S) ha.1 (by omega) h1.1
        rw [if_neg (by omega),if_neg (by omega)]
      have q:=qZ (v:=a1) (q:=x) (n:=S) ha.1 (by omega) h1.1
      have q2:0<=a1*x % S/\a1*x % S<S:=⟨Int.emod_nonneg _ (by omega),Int.emod_lt_of_pos _ (by omega)⟩
      have q3:S*(a1*x / S)+a1*x % S=a1*x:=Int.mul_ediv_add_emod _ _
      refine x_eq (wY hn (by omega) (by omega) (by omega)) ?_
      rw [hmd]
      have e:=QY hx
      have e2:(i+1).toNat=i.toNat+1:=by omega
      have e3:dD (l++[a1*x / S])=dD l+a1*x / S:=by rw [FY];simp [dD,dZ]
      have e4:dD (rest++[a1*x % S])=dD rest+a1*x % S:=by rw [FY];simp [dD,dZ]
      have new:a1*dD (w.drop (i+1).toNat)+dD (l++[a1*x / S])*S+dD (rest++[a1*x % S])=a1*S:=by
        rw [e3,e4,e2]
        rw [e,Int.mul_add] at a11
        have e5:(dD l+a1*x / S)*S=dD l*S+S*(a1*x / S):=by rw [Int.add_mul,Int.mul_comm S]
        rw [e5];omega
      have low:0<=lf-a1*x / S:=by
        have n1:0<=a1*dD (w.drop (i+1).toNat):=Int.mul_nonneg ha.1 (uW λy hy=>hw0 y (List.mem_of_mem_drop hy))
        have n2:0<=dD (rest++[a1*x % S]):=uW (mQ (λy hy=>(a7 y hy).1) q2.1)
        have n3:dD (l++[a1*x / S])<=a1:=Int.le_of_mul_le_mul_right (a:=S) (b:=dD (l++[a1*x / S])) (c:=a1) (by omega) (by omega)
        omega
      have len1:(l++[a1*x / S]).length=l.length+1:=by simp
      have len2:(rest++[a1*x % S]).length=rest.length+1:=by simp
      have ub:lf-a1*x / S<=288230376151711744:=by omega
      have tot:lf-a1*x / S+dD (l++[a1*x / S])=a1:=by rw [e3];omega
      repeat' with_reducible first | refine bF ?_ | refine dP ?_ | apply aD | apply bE | apply dS | apply dI | apply dN | apply dR | apply dO | apply dL | apply dU | apply dQ | refine aH (λ_=>?_) λ_=>?_ | refine dG (λ_=>?_) λ_=>?_ | apply cO | apply bU | apply bY | apply bK | apply aF | refine dF ?_
      refine bX ?_
      simp only
      exact ⟨⟨by first | omega | (simp only;omega),by first | omega | (simp only;omega),by first | omega | (simp only;omega),by first | omega | (simp only;omega),mQ a6 q.1,mQ a7 (by omega),tot,low,ub,new⟩,by first | omega | (simp only;omega)⟩
    · have k:¬ i<(w.length:Int):=k
      have hi:i=(w.length:Int):=by omega
      rw [List.drop_eq_nil_of_le (by omega)] at a11
      have z:dD ([]:List Int)=0:=rfl
      rw [z,Int.mul_zero,Int.zero_add] at a11
      have hr:=sum_lt (S:=S) (l:=rest) λx hx=>(a7 x hx).2
      have hr0:0<=dD rest:=uW λx hx=>(a7 x hx).1
      have e1:lf*S=dD rest:=by
        have:a1*S=(lf+dD l)*S:=by rw [a8]
        rw [Int.add_mul] at this;omega
      have b1:0<=lf:=by
        by_cases h:0<=lf
        · exact h
        · have:lf*S<=-1*S:=Int.mul_le_mul_of_nonneg_right (by omega) (by omega)
          omega
      have b2:lf<=(rest.length:Int):=by
        by_cases h:lf<=(rest.length:Int)
        · exact h
        · have h2:((rest.length:Int)+1)*S<=lf*S:=Int.mul_le_mul_of_nonneg_right (by omega) (by omega)
          rw [Int.add_mul,Int.one_mul] at h2
          rw [Int.mul_sub,Int.mul_one] at hr
          omega
      exact ⟨by first | omega | (simp only;omega),by first | omega | (simp only;omega),by first | omega | (simp only;omega),a6,a8⟩
  · refine ⟨by simp,by simp,by simp,by simp,by simp,by simp,by simp [dD,dZ],by simp;omega,by simp;omega,?_⟩
    simp [dD,dZ,hS]
theorem aVA {R:Type} {bad:Int->R} {good:List Int->R} {n:Nat} {a1:Int} {w:List Int} {y:Bool} (hn:66<n) (hl:w.length<=60) (hw:∀ x∈w,0<=x/\x<=288230376151711744) (hy:y=true->1<=dD w) :
    Ex (λr=>(∃ e,e≠0/\r=bad e)\/(∃ l,RY a1 w l/\r=good l)) (VT bad good n a1 w y):=by
  unfold VT
  refine aT (λ(b:Bool)=>b=false->(0<=a1/\a1<=288230376151711744)/\y=true) ?_ λb hb=>eX (λ_=>aF (.inl ⟨1,by decide,rfl⟩)) λkb=>?_
  · refine aD (aH (λ_=>aF λk=>nomatch k) λk1=>aD (aH (λ_=>aF λk=>nomatch k) λk2=>aD (aF λk=>⟨by omega,by simpa using k⟩)))
  obtain ⟨ha,hyt⟩:=hb kb
  have h1:=hy hyt
  refine x_eq (uH (by omega) (by omega)) (aD (aH (λk=>aF (.inl ⟨_,k,rfl⟩)) λk=>?_))
  have hs:=aEY (l:=w) (by omega)
  have e1:(gG w).1=dD w:=by rw [hs.1]
  have hb2:=hs.2
  unfold bQ at hb2
  have hlen:1<=w.length:=by
    cases w with
    | nil=>simp [dD,dZ] at h1
    | cons=>simp
  rw [e1]
  refine aT _ (aJP hn hl hw rfl ⟨h1,hb2.2⟩ ha) λr hr=>?_
  obtain ⟨lf,l,rest⟩:=r
  obtain ⟨r1,r2,r3,r4,r5⟩:=hr
  simp only at r1 r2 r3 r4 r5
  refine bE (bE (aT _ (aML (l:=l) (rest:=rest) (left:=lf) (total:=a1) hn r1 (by omega) (by omega) (by omega) r4 r5 ha.2) λz hz=>aF (.inr ⟨z,⟨by omega,λx hx=>⟨hz.2.1 x hx,?_⟩,hz.2.2⟩,rfl⟩)))
  have:=DU hz.2.1 x hx
  omega
def UW {R:Type} (bad:Int->R) (a2:List Int) (v:Bool×Int):Option ((Bool×Int)⊕(Bool⊕R)) :=
  p2 (λ(a:Bool) (b:Int)=>bnd (decide (b<(a2.length:Int))) λ(x:Bool)=>cond x
    (((ix a2 b).bind λ(x:Int)=>bnd (decide (x<0)) λ(x:Bool)=>cond x (some true) ((ix a2 b).bind λ(x:Int)=>bnd (decide (x>288230376151711744)) λ(x:Bool)=>some x)).bind λ(y:Bool) =>
      cond y (esc (esc (some (bad 1)))) ((cond a (some true) ((ix a2 b).bind λ(x:Int)=>bnd (decide (x>0)) λ(x:Bool)=>some x)).bind λ(y:Bool)=>bnd (aW (b+1)) λ(x:Int)=>brk (y,x)))
    (esc (brk a))) v
noncomputable def GK {R:Type} (bad:Int->R) (good:List Int->R) (n:Nat) (a1:Int) (a2:List Int):Option R:=(iter (UW bad a2) n (false,0)).bind (sel (VT bad good n a1 a2))
theorem aMJ {R:Type} {bad:Int->R} {w:List Int} {n:Nat} (hn:66<n) (hl:w.length<=60):Ex (λr=>match r with | .inl y=>(∀ x∈w,0<=x/\x<=288230376151711744)/\(y=true->1<=dD w) | .inr r=>r=bad 1) (iter (UW bad w) n (false,0)):=by
  refine fM (λ(v:Bool×Int)=>0<=v.2/\v.2<=(w.length:Int)/\((∀ x∈w.drop v.2.toNat,0<=x/\x<=288230376151711744)->(∀ x∈w,0<=x/\x<=288230376151711744))/\(v.1=true->∃ x∈w,1<=x)) (λ(v:Bool×Int)=>w.length-v.2.toNat) ?_ (by simp) (by simp;omega)
  rintro ⟨some',i⟩ ⟨h0,h1,h2,h3⟩
  simp only at h0 h1 h2 h3
  unfold UW
  refine bE (aD (aH (λk=>?_) λk=>bK (bX ⟨?_,?_⟩)))
  · have k:i<(w.length:Int):=k
    refine aT (λ(b:Bool)=>∀ x,w[i.toNat]?=some x->b=false->0<=x/\x<=288230376151711744) ?_ λb hb=>eX (λ_=>bK (bK (aF rfl))) λkb=>?_
    · refine eF h0 k λx hx=>aD (aH (λ_=>aF λ_ _ k=>nomatch k) λk1=>eF h0 k λx' hx'=>aD (aF λy hy hk=>?_))
      have hx':w[i.toNat]?=some x':=hx'
      have hx:w[i.toNat]?=some x:=hx
      rw [hx] at hx' hy;cases hx';cases hy
      have:=of_decide_eq_false hk
      omega
    · refine aT (λ(b:Bool)=>b=true->∃ x∈w,1<=x) (eX (λkk=>aF λ_=>h3 kk) λ_=>eF h0 k λx hx=>aD (aF λkk=>⟨x,fF hx,by have:=of_decide_eq_true kk;omega⟩)) λc hc=>?_
      have hi:i.toNat<w.length:=by omega
      have hx:w[i.toNat]?=some w[i.toNat]:=List.getElem?_eq_getElem hi
      refine bF (bX ⟨⟨by first | omega | (simp only;omega),by first | omega | (simp only;omega),λhh=>h2 λy hy=>?_,hc⟩,by first | omega | (simp only;omega)⟩)
      rw [(drop_at hx).2] at hy
      rcases List.mem_cons.1 hy with rfl | hy
      · exact hb _ hx kb
      · exact hh y (by show y∈w.drop (i+1).toNat;rw [show (i+1).toNat=i.toNat+1 by omega];exact hy)
  · refine h2 λx hx=>?_
    have k:¬ i<(w.length:Int):=k
    rw [List.drop_eq_nil_of_le (by omega)] at hx;cases hx
  · intro ky
    obtain ⟨x,hx,h4⟩:=h3 ky
    have k:¬ i<(w.length:Int):=k
    have hw:=h2 λx hx=>by rw [List.drop_eq_nil_of_le (by omega)] at hx;cases hx
    have:=DU (λx hx=>(hw x hx).1) x hx
    omega
theorem PY {R:Type} {bad:Int->R} {good:List Int->R} {n:Nat} {a1:Int} {w:List Int} (hn:66<n) (hl:w.length<=60) :
    Ex (λr=>(∃ e,e≠0/\r=bad e)\/(∃ l,RY a1 w l/\r=good l)) (GK bad good n a1 w):=by
  unfold GK
  refine aT _ (aMJ hn hl) λr hr=>?_
  cases r with
  | inl y=>exact bY (aVA hn hl hr.1 hr.2)
  | inr r=>exact mG (.inl ⟨1,by decide,hr⟩)
theorem aWN (n:Nat) (a1:Int) (a2:List Int):HY n a1 a2=GK (λe=>([],e)) (λl=>(l,0)) n a1 a2:=by
  unfold HY WY
  simp only [WT.run,bR]
  rfl
theorem aX6 {n:Nat} {a1:Int} {w:List Int} (hn:66<n) (hl:w.length<=60):Ex (λr=>r.2=0->RY a1 w r.1) (HY n a1 w):=by
  rw [aWN]
  refine N8 (PY hn hl) λr hr=>?_
  rcases hr with ⟨e,h1,rfl⟩ | ⟨l,h1,rfl⟩
  · exact λk=>absurd k h1
  · exact λ_=>h1
theorem aW7 {α β:Type} {i:Ix} {f:α->WT Tryz.prog i} {g:β->WT Tryz.prog i} {y:α⊕β}:(Sum.elim f g y).run=Sum.elim (λa=>(f a).run) (λb=>(g b).run) y:=by cases y <;> rfl
theorem aS4 (n:Nat) (a1:Int) (a2:List Int):A7 n a1 a2=bnd (decide (a1>=0)) λ(x:Bool)=>cond x
    ((GK (R:=Int⊕List Int) .inl .inr n a1 a2).bind (Sum.elim (λe=>some ([],e)) λl=>some (l,0)))
    (bnd (aW (0-a1)) λ(y:Int)=>(GK (R:=Int⊕List Int) .inl .inr n y a2).bind (Sum.elim (λe=>(iter (λ(_:Unit)=>(esc (some ()):Option (Unit⊕Unit))) n ()).bind λ_=>some ([],e))
      λl=>(iter (λ(v:Int×List Int)=>p2 (λ(i:Int) (m:List Int)=>bnd (decide (i<(m.length:Int))) λ(x:Bool)=>cond x ((ix m i).bind λ(x:Int)=>bnd (aW (0-x)) λ(x:Int)=>bnd (m.set (Int.toNat i) x) λ(z:List Int)=>bnd (aW (i+1)) λ(j:Int)=>brk (j,z)) (esc (some m))) v) n (0,l)).bind λm=>some (m,0))):=by
  unfold A7 V9
  simp only [WT.run,bR,aW7]
  rfl
theorem aGA {n:Nat} {a1:Int} {w:List Int} (hn:66<n) (hl:w.length<=60) (ha:-288230376151711744<=a1/\a1<=288230376151711744):Ex (λr=>r.2=0->r.1.length=w.length/\(0<=a1->∀ x∈r.1,0<=x/\x<=288230376151711744)/\(∀ x∈r.1,bQ x)) (A7 n a1 w):=by
  rw [aS4]
  refine aD (aH (λk=>?_) λk=>bF ?_)
  · refine aT _ (PY hn hl) λr hr=>?_
    rcases hr with ⟨e,h1,rfl⟩ | ⟨l,h1,rfl⟩
    · exact aF λk=>absurd k h1
    · exact aF λ_=>⟨h1.1,λ_=>h1.2.1,λx hx=>by have:=h1.2.1 x hx;unfold bQ;omega⟩
  · refine aT _ (PY hn hl) λr hr=>?_
    rcases hr with ⟨e,h1,rfl⟩ | ⟨l,h1,rfl⟩
    · obtain ⟨m,rfl⟩:∃ m,n=m+1:=⟨n-1,by omega⟩
      exact aF λk=>absurd k h1
    · show Ex _ ((iter _ n (0,l)).bind _)
      refine aT (λ(m:List Int)=>m.length=w.length/\∀ x∈m,bQ x) (fM (λ(v:Int×List Int)=>0<=v.1/\v.1<=(w.length:Int)/\v.2.length=w.length/\∀ x∈v.2,bQ x) (λ(v:Int×List Int)=>w.length-v.1.toNat) ?_ ⟨by simp,by simp,h1.1,λx hx=>by have:=h1.2.1 x hx;unfold bQ;omega⟩ (by simp;omega)) λm hm=>aF λ_=>⟨hm.1,λh=>absurd h k,hm.2⟩
      rintro ⟨i,m⟩ ⟨h2,h3,h4,h5⟩
      simp only at h2 h3 h4 h5
      refine bE (aD (aH (λk=>?_) λk=>bK (aF ⟨h4,h5⟩)))
      have k:i<(m.length:Int):=k
      refine eF h2 k λx hx=>?_
      have hx2:=h5 x (fF hx)
      unfold bQ at hx2
      refine bF (aD (bF (bX ⟨⟨by first | omega | (simp only;omega),by first | omega | (simp only;omega),by rw [List.length_set];exact h4,oC h5 (by unfold bQ;omega)⟩,by first | omega | (simp only;omega)⟩)))
theorem aUY {l:List aB} {k:Nat} {a b:aB} (h:l[k]?=some a):tQ (l.set k b)=tQ l-a.aI+b.aI/\tV (l.set k b)=tV l-a.Value+b.Value/\tP (l.set k b)=tP l-a.bN+b.bN/\tS (l.set k b)=tS l-ab a.bN+ab b.bN:=by
  induction l generalizing k with
  | nil=>cases h
  | cons x r ih =>
    cases k with
    | zero=>cases h;simp only [List.set_cons_zero,tQ,tV,tP,tS];refine ⟨?_,?_,?_,?_⟩ <;> omega
    | succ k=>obtain ⟨h1,h2,h3,h4⟩:=ih h;simp only [List.set_cons_succ,tQ,tV,tP,tS,h1,h2,h3,h4];refine ⟨?_,?_,?_,?_⟩ <;> omega
theorem drop_set {α:Type} {l:List α} {i:Nat} {y:α}:(l.set i y).drop (i+1)=l.drop (i+1):=by
  apply List.ext_getElem?
  intro j
  rw [List.getElem?_drop,List.getElem?_drop,List.getElem?_set,if_neg (by omega)]
theorem aLP {m v:Int} {p:aQ} {n:Nat} (hn:66<n) (h:PR m p) (hv:v<=288230376151711744):Ex (λr=>r.2=0->PR m r.1/\tQ r.1.aG=tQ p.aG/\tV r.1.aG=tV p.aG+v/\tS r.1.aG=tS p.aG) (IC n m p v):=by
  have hl:=gN h.ly
  unfold IC aHX
  simp only [WT.run,bR]
  refine aT (λ(b:Bool)=>b=false->0<=v) ?_ λb hb=>eX (λ_=>aF (λk=>absurd k (by simp))) λkb=>?_
  · refine aD (aH (λ_=>aF (λk=>nomatch k)) λk=>aD (aF λ_=>by omega))
  have hv0:=hb kb
  refine aD (aH (λ_=>aF (λk=>absurd k (by simp))) λk1=>aD (aH (λ_=>aF (λk=>absurd k (by simp))) λk2=>dF (x_eq (wG hn h.ly) ?_)))
  refine aT (λ(l:List aB)=>l.length=p.aG.length/\tQ l=tQ p.aG/\tV l=tV p.aG+v/\tS l=tS p.aG) (fM (λ(w:Int×Int×List aB)=>0<=w.2.1/\w.2.1<=(p.aG.length:Int)/\w.2.2.length=p.aG.length/\tQ w.2.2=tQ p.aG/\tV w.2.2+w.1=tV p.aG+v/\tS w.2.2=tS p.aG/\(∀ x∈w.2.2.drop w.2.1.toNat,jA x)/\(w.2.1=(p.aG.length:Int)->w.1=0)/\-288230376151711744*w.2.1<=w.1/\w.1<=288230376151711744) (λ(w:Int×Int×List aB)=>p.aG.length-w.2.1.toNat) ?_ (v:=(v,0,p.aG)) ⟨by simp,by simp,rfl,rfl,by simp,rfl,by simpa using h.ly.1,by simp;omega,by simp;omega,hv⟩ (by simp;omega)) λl hl2=>?_
  · rintro ⟨left,i,l⟩ ⟨a1,a2,a3,a4,a5,a6,a7,a8,a9,mF⟩
    simp only at a1 a2 a3 a4 a5 a6 a7 a8 a9 mF
    refine bE (bE (aD (aH (λk=>?_) λk=>bK (aF ?_))))
    · have k:i<(p.aG.length:Int):=k
      have hx:l[i.toNat]?=some (l[i.toNat]'(by omega)):=List.getElem?_eq_getElem (by omega)
      generalize l[i.toNat]'(by omega)=x at hx
      obtain ⟨g1,g2,g3⟩:=a7 x (by rw [(drop_at hx).2];exact List.mem_cons_self ..)
      refine bF (aD ?_)
      refine aT (λ(y:Int)=>(-288230376151711744*i<=y/\y<=288230376151711744)/\(i=(p.aG.length:Int)-1->y=left)/\(i≠(p.aG.length:Int)-1->0<=y)) (aH (λkk=>bW a1 hx (x_eq (qF hn (by first | omega | (simp only;omega)) (by first | omega | (simp only;omega))) (aF ?_))) λkk=>aF ?_) λy hy=>?_
      · have kk:i<(p.aG.length:Int)-1:=kk
        have:=zN (v:=v) (w:=x.aI) (q:=tQ p.aG) ⟨hv0,hv⟩
        simp only
        refine ⟨by omega,by omega,by omega⟩
      · have kk:¬ i<(p.aG.length:Int)-1:=kk
        exact ⟨⟨a9,mF⟩,λ_=>rfl,λk3=>absurd (by omega) k3⟩
      · obtain ⟨y1,y2,y3⟩:=hy
        obtain ⟨t1,t2,t3,t4⟩:=aUY (b:=(⟨x.aI,x.Value+y,x.bN⟩:aB)) hx
        simp only at t1 t2 t3 t4
        have e2:(i+1).toNat=i.toNat+1:=by omega
        have hw1:-9223372036854775808<=x.Value+y/\x.Value+y<=9223372036854775807:=by omega
        have hw2:-9223372036854775808<=left-y/\left-y<=9223372036854775807:=by omega
        refine bW a1 hx (gL hw1 (gL hw2 (aD (bF (bX ?_)))))
        refine ⟨⟨by first | omega | (simp only;omega),by first | omega | (simp only;omega),by rw [List.length_set];exact a3,by first | omega | (simp only;omega),by first | omega | (simp only;omega),by first | omega | (simp only;omega),?_,?_,?_,?_⟩,by first | omega | (simp only;omega)⟩
        · show ∀ z∈(l.set i.toNat _).drop (i+1).toNat,jA z
          rw [e2,drop_set]
          intro z hz
          exact a7 z (by rw [(drop_at hx).2];exact List.mem_cons_of_mem _ hz)
        · show i+1=(p.aG.length:Int)->left-y=0
          intro k3;have:=y2 (by omega);omega
        · show -288230376151711744*(i+1)<=left-y;omega
        · show left-y<=288230376151711744
          by_cases k3:i=(p.aG.length:Int)-1
          · have:=y2 k3;omega
          · have:=y3 k3;omega
    · have k:¬ i<(p.aG.length:Int):=k
      have:=a8 (by omega)
      exact ⟨a3,a4,by first | omega | (simp only;omega),a6⟩
  · obtain ⟨b1,b2,b3,b4⟩:=hl2
    refine aT _ (CO (by omega) (by omega)) λr hr=>?_
    refine aD (dG (λ_=>aF (λk=>absurd k (by simp))) λk=>aF λ_=>?_)
    have hL:=hr.1 k
    exact ⟨yJ h hL (λk=>by have:=h.one k;omega) (by omega),b2,b3,b4⟩
theorem aAE {f:Nat->Int} {i:Nat} {a b:Int} (h:a+b=0):bump (bump f i a) i b=f:=by
  rw [YT,h];funext j;unfold bump;simp
theorem aMH {s t:aA} {e:Int} {bL:List Int} {x:aP} {d:Int} {r:eU} {v:Int} {n:Nat} (hn:66<n) (hs:SS s) (hr:yE s.bJ r) (h:On s e.toNat bL t x d (λ_=>0)) (he:r.fT=e) (hv:0<=v/\v<=288230376151711744) (ht:0<=e/\e<(s.bC.length:Int)) :
    Ex (λq=>q.2.2=0->(0<=q.2.1/\q.2.1<=v)/\∃ x',On s e.toNat bL q.1 x' (d+q.2.1) (λ_=>0)/\x'.dK=x.dK) (NF n t r v):=by
  obtain ⟨h1,h2,h3,h4,h5,h6,h7,h8⟩:=hr
  obtain ⟨g1,g2,g3,g4,g5⟩:=h.rc
  have hst:=h.ss hs
  subst he
  have htt:gM t r.fT r.Item:=⟨⟨ht.1,by rw [g5];exact ht.2⟩,by rw [g4];exact h2⟩
  obtain ⟨x',m,k,p,q,sp⟩:=hst.spot htt h3
  have hx':=sp.en;rw [h.at] at hx';cases hx'
  obtain ⟨ms',m1,m2⟩:=sp.ms
  have hl:=gN sp.io.pp.ly
  unfold NF aAU
  simp only [WT.run,bR]
  refine bW ht.1 m1 (bW h2.1 m2 (x_eq (lU hst.toS0 htt h3 h.at sp.pp) (bF (x_eq (wG hn sp.io.pp.ly) (aD (x_eq (qF hn ?_ (by omega)) ?_))))))
  · simp only;split <;> omega
  generalize (if (⟨tQ p.aG,tV p.aG,tP p.aG⟩:aB).aI<r.aI-r.iP then (⟨tQ p.aG,tV p.aG,tP p.aG⟩:aB).aI else r.aI-r.iP)=z
  have hc:=zN (v:=v) (w:=z) (q:=r.aI) hv
  refine aT (λ_=>True) (aD (aH (λ_=>aF trivial) λ_=>aD (aF trivial))) λb _=>eX (λ_=>aF λ_=>⟨by simp;omega,x,by simpa using h,rfl⟩) λ_=>?_
  refine aT _ (aLP hn sp.io.pp (by omega)) λa ha=>?_
  refine aD (aH (λk=>aF λk2=>absurd k2 k) λk=>?_)
  obtain ⟨a1,a2,a3,a4⟩:=ha (by omega)
  have hio:IO m a.1 q:=⟨a1,sp.io.qq,by have:=sp.io.sq;omega,by have:=sp.io.ss;omega⟩
  obtain ⟨x1,o1,p1,_,_⟩:=h.yZ sp hio (v:=pt v z r.aI) (by omega)
  refine x_eq (uE hst sp) (aT _ (sU hn (o1.ss hs)) λc hc2=>aF λk3=>⟨hc,?_⟩)
  rcases hc2 with ⟨_,hc2⟩ | ⟨k,_⟩
  rotate_left
  · exact absurd k3 k
  obtain ⟨x2,o2,q1,q2⟩:=o1.xM hc2
  rw [aAE (by simp [kQ];omega)] at o2
  exact ⟨x2,o2,q1.trans p1⟩
theorem aPG {s:aA} {refs:List Int} {b:Int} {n:Nat} (hn:66<n) (hl:refs.length<=60) (hr:s.cZ.length<=40) (hi:∀ r∈s.cZ,0<=r.Item/\r.Item<(s.bJ.cB.length:Int)):Ex (λ(l:List Int)=>l.length=refs.length) (IQ n s refs b):=by
  unfold IQ aES
  simp only [WT.run,bR]
  refine aT (λ(l:List Int)=>l.length=refs.length) (fM (λ(v:Int×List Int)=>0<=v.1/\v.1<=(refs.length:Int)/\(v.2.length:Int)=v.1) (λ(v:Int×List Int)=>refs.length-v.1.toNat) ?_ ⟨by simp,by simp,by simp⟩ (by simp;omega)) λl h=>aF h
  rintro ⟨i,l⟩ ⟨h0,h1,h2⟩
  simp only at h0 h1 h2
  refine bE (aD (aH (λk=>?_) λk=>bK (aF ?_)))
  · have k:i<(refs.length:Int):=k
    have hx:refs[i.toNat]?=some (refs[i.toNat]'(by omega)):=List.getElem?_eq_getElem (by omega)
    generalize refs[i.toNat]'(by omega)=x at hx
    refine aT (λ(b:Bool)=>b=true->0<=x/\x<(s.cZ.length:Int)) (bW h0 hx (aD (aH (λk1=>bW h0 hx (aD (aF λk2=>?_))) λ_=>aF λk=>nomatch k))) λb hb=>?_
    · have:=of_decide_eq_true k2;omega
    refine aT (λ_=>True) (eX (λkb=>?_) λ_=>aF trivial) λw _=>aD (dF (bF (bX ⟨⟨by first | omega | (simp only;omega),by first | omega | (simp only;omega),by simp;omega⟩,by first | omega | (simp only;omega)⟩)))
    obtain ⟨g1,g2⟩:=hb kb
    refine bW h0 hx (eF g1 g2 λy hy=>aD (aH (λ_=>aF trivial) λ_=>aD (aH (λ_=>aF trivial) λ_=>aD (aH (λ_=>?_) λ_=>aF trivial))))
    have:=hi y (fF hy)
    exact eF this.1 this.2 λ_ _=>aD (aF trivial)
  · have k:¬ i<(refs.length:Int):=k
    first | omega | (simp only;omega)
end Go.Pv
