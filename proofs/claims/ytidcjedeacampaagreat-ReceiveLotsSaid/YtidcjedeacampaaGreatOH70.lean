import Derived.Test.YtidcjedeacampaaGreatOC70
set_option linter.unusedVariables false
set_option linter.unusedSimpArgs false
namespace Go.Pv
open Go.Proofs
set_option maxRecDepth 100000
set_option maxHeartbeats 1000000
theorem XU {r:dX} {q:Int} {n:Nat} {m:fM} (hn:66<n) (h:zD m r) (hq:-9223372036854775808<=q/\q<=9223372036854775807):Ex (λd=>0<=d/\d<=r.jW) (EW n r q):=by
  obtain ⟨h1,h2,h3,h4,h5,h6,h7,h8⟩:=h
  unfold EW aD1
  simp only [WT.run,bT]
  refine aD (aQ (λ_=>aG (by omega)) λ_=>x_eq (uY hn hq (by omega)) (aG (AY h7)))
theorem VT {s:aB} {i:Int} {y z:dX} (h0:0<=i) (hz:s.bX[i.toNat]?=some z) (hl:s.bX.length<=40):FH s i y=some { s with bX:=s.bX.set i.toNat y }:=by
  refine gF ?_
  unfold FH Z5
  simp only [WT.run,bT]
  exact dO (dB h0 hz (aD (aG rfl)))
theorem On.TY {K:Int} {s:aB} (hI:Inv K s) {e:Int} {bH:List Int} {t:aB} {x y:aP} {d:Int} {f:Nat->Int} (h:On s e.toNat bH t y d f) (hx:s.bA[e.toNat]?=some x) (hd:d=0) (hf:∀ i,f i=0) {k:Nat} {r r':dX} (hr:s.bX[k]?=some r) (hr':zD s.bF r') (he:r.fU=e) (he':r'.fU=e) (h0:0<=e)
    (b1:bl y 1-bl x 1=r.jW-r'.jW) (b12:bl y 12=bl x 12) (b13:bl y 13=bl x 13) (b14:bl y 14=bl x 14):Inv K { t with bX:=t.bX.set k r' }:=by
  obtain ⟨g1,g2,g3,g4,g5⟩:=h.rc
  rw [g1]
  refine h.inv hI hx hd hf (p8 hI.nO hr') (by rw [g2];exact hI.oD) (by rw [g3];exact hI.oO) (by rw [List.length_set];exact hI.l1) (by rw [g2];exact hI.l2) (by rw [g3];exact hI.l3) ?_ ?_ (by rw [g3];omega) (by intro f _;rw [g3]) (by unfold lC;omega)
  · rw [tT _ hr];unfold jO
    rw [if_pos (by omega),if_pos (by omega)];omega
  · intro f hf;rw [tT _ hr];unfold jO
    rw [if_neg (by omega),if_neg (by omega)];omega
theorem aRV {K:Int} {s:aB} {o:bJ} {n:Nat} {r:dX} {x:aP} {bH:List Int} (hn:66<n) (h:Inv K s) (hq:0<=o.aT/\o.aT<=288230376151711744) (ha:0<=o.bM/\o.bM<=288230376151711744) (h0:0<=o.Ref) (hr:s.bX[o.Ref.toNat]?=some r) (hx:s.bA[r.fU.toNat]?=some x) (hm:s.bF.Methods[r.fU.toNat]?=some bH) (ho:EO s.bF bH x):Ex (Kept K s) (KA n s o r):=by
  have hk:=h.nO r (fO hr)
  have hk2:=hk
  obtain ⟨h1,h2,h3,h4,h5,h6,h7,h8⟩:=hk2
  have o0:=On.start hx hm ho
  have hl1:=h.l1
  unfold KA UW
  simp only [WT.run,bT]
  refine aD (aQ (λ_=>aG (.inr ⟨by simp,rfl⟩)) λk1=>aW _ (XU hn hk (by omega)) λd hd=>bG (bG (aW _ (qA hn h.ss (by simp)) λc hc=>?_)))
  refine aD (aQ (λk=>aG (.inr ⟨k,rfl⟩)) λkz=>?_)
  rcases hc with ⟨_,hc⟩ | ⟨k,_⟩
  rotate_left
  · exact absurd k kz
  obtain ⟨x2,o2,q1,q2,q3⟩:=o0.rR hc (by simp [gM,gI])
  obtain ⟨g1,g2,g3,g4,g5⟩:=o2.rc
  have b1:=q1 1 (by decide);have b12:=q1 12 (by decide);have b13:=q1 13 (by decide);have b14:=q1 14 (by decide)
  simp [gM,gI] at b1 b12 b13 b14
  refine bG (bG (x_eq (VT h0 (by rw [g1];exact hr) (by rw [g1];exact hl1)) (aG (.inl ⟨rfl,?_⟩))))
  exact o2.TY h hx (by simp [gM,gI]) (by intro j;rfl) hr ⟨h1,h2,h3,h4,h5,by first | omega | (simp only;omega),by first | omega | (simp only;omega),h8⟩ rfl rfl h1.1 (by first | omega | (simp only;omega)) b12 b13 b14
theorem aMY {K:Int} {s:aB} {o:bJ} {n:Nat} {r:dX} {x:aP} {bH:List Int} (hn:66<n) (h:Inv K s) (hq:0<=o.aT/\o.aT<=288230376151711744) (h0:0<=o.Ref) (hr:s.bX[o.Ref.toNat]?=some r) (hx:s.bA[r.fU.toNat]?=some x) (hm:s.bF.Methods[r.fU.toNat]?=some bH) (ho:EO s.bF bH x):Ex (Kept K s) (J5 n s o r):=by
  have hk:=h.nO r (fO hr)
  have hk2:=hk
  obtain ⟨h1,h2,h3,h4,h5,h6,h7,h8⟩:=hk2
  have o0:=On.start hx hm ho
  have hl1:=h.l1
  unfold J5 aDL
  simp only [WT.run,bT]
  refine bG (aD (aQ (λ_=>aG (.inr ⟨by simp,rfl⟩)) λk1=>?_))
  refine aW (λ(b:Bool)=>b=false->r.Open>0->o.aT<=r.Open) ?_ λb hb=>fJ (λ_=>aG (.inr ⟨by simp,rfl⟩)) λkb=>?_
  · refine aD (aQ (λk=>aD (aG λk2 _=>?_)) λk=>aG λ_ k2=>absurd k2 k)
    have:=of_decide_eq_false k2;omega
  have hb:=hb kb
  refine aW _ (CW hn h.ss (by omega)) λb hb=>?_
  refine aD (aQ (λk=>aG (.inr ⟨k,rfl⟩)) λkz=>?_)
  rcases hb with ⟨_,hb⟩ | ⟨k,_⟩
  rotate_left
  · exact absurd k kz
  obtain ⟨f1,f2,f3,f4,f5,f6⟩:=hb.facts
  obtain ⟨x1,o1,p1,p2,p3⟩:=o0.DN hb
  have hv:=AY (w:=o.aT) (q:=r.aT) h5
  refine x_eq (uY hn (by omega) (by omega)) (aD ?_)
  refine aW (λ(v:Int×Int×dX)=>(v.1=1\/v.1=2)/\(0<=v.2.1/\v.2.1<=288230376151711744)/\v.2.2=⟨r.fU,r.Item,r.Loc,r.aT,r.Value,v.2.2.Open,v.2.2.jW,r.jB⟩/\(0<=v.2.2.Open/\v.2.2.Open<=r.aT)/\(0<=v.2.2.jW/\v.2.2.jW<=288230376151711744)/\r.jW-v.2.2.jW=if v.1=1 then v.2.1 else 0) ?_ λv hv=>?_
  · refine aQ (λk=>aW _ (XU hn hk (by omega)) λd hd=>bG (bG (aG ⟨.inl rfl,by first | omega | (simp only;omega),rfl,by first | omega | (simp only;omega),by first | omega | (simp only;omega),?_⟩))) λk=>aG ⟨.inr rfl,by first | omega | (simp only;omega),rfl,by first | omega | (simp only;omega),h7,?_⟩
    · simp only;rw [if_pos trivial];omega
    · simp only;rw [if_neg (by decide)];omega
  obtain ⟨a,d,y⟩:=v
  obtain ⟨v1,v2,v3,v4,v5,v6⟩:=hv
  simp only at v1 v2 v3 v4 v5 v6
  refine bK (bK (bG (bG (aW _ (qA hn (o1.ss h.ss) (by simp)) λc hc=>?_))))
  refine aD (aQ (λk=>aG (.inr ⟨k,rfl⟩)) λkz=>?_)
  rcases hc with ⟨_,hc⟩ | ⟨k,_⟩
  rotate_left
  · exact absurd k kz
  have L:eU [⟨a,d⟩,⟨6,b.2.1.Value-d⟩,⟨0,0-b.2.1.Value⟩] 0=-b.2.1.Value/\eU [⟨a,d⟩,⟨6,b.2.1.Value-d⟩,⟨0,0-b.2.1.Value⟩] 1=(if a=1 then d else 0)/\eU [⟨a,d⟩,⟨6,b.2.1.Value-d⟩,⟨0,0-b.2.1.Value⟩] 11=0/\eU [⟨a,d⟩,⟨6,b.2.1.Value-d⟩,⟨0,0-b.2.1.Value⟩] 12=0/\eU [⟨a,d⟩,⟨6,b.2.1.Value-d⟩,⟨0,0-b.2.1.Value⟩] 13=0/\eU [⟨a,d⟩,⟨6,b.2.1.Value-d⟩,⟨0,0-b.2.1.Value⟩] 14=0:=by
    rcases v1 with rfl | rfl <;> simp [gM,gI]
  obtain ⟨L0,L1,L11,L12,L13,L14⟩:=L
  obtain ⟨x2,o2,q1,q2,q3⟩:=o1.rR hc L11
  refine aW _ (sK hn (o2.ss h.ss)) λt ht=>?_
  refine aD (aQ (λk=>aG (.inr ⟨k,rfl⟩)) λkz=>?_)
  rcases ht with ⟨_,ht⟩ | ⟨k,_⟩
  rotate_left
  · exact absurd k kz
  obtain ⟨x3,o3,r1,r2⟩:=o2.wP ht
  obtain ⟨g1,g2,g3,g4,g5⟩:=o3.rc
  have hB:∀ a':Nat,a' < 17->bl x3 a'=bl x a'+eU [⟨a,d⟩,⟨6,b.2.1.Value-d⟩,⟨0,0-b.2.1.Value⟩] a':=λa' ha=>by rw [oM r1,q1 a' ha,oM p1]
  have b1:bl x3 1=bl x 1+eU _ 1:=hB 1 (by decide)
  have b12:bl x3 12=bl x 12+eU _ 12:=hB 12 (by decide)
  have b13:bl x3 13=bl x 13+eU _ 13:=hB 13 (by decide)
  have b14:bl x3 14=bl x 14+eU _ 14:=hB 14 (by decide)
  rw [L1] at b1;rw [L12] at b12;rw [L13] at b13;rw [L14] at b14
  refine bG (x_eq (VT h0 (by rw [g1];exact hr) (by rw [g1];exact hl1)) (aG (.inl ⟨rfl,?_⟩)))
  rw [v3]
  exact o3.TY h hx (by rw [L0];omega) (uR (by simp [lD];try omega)) hr ⟨h1,h2,h3,h4,h5,by first | omega | (simp only;omega),by first | omega | (simp only;omega),by first | omega | (simp only;omega)⟩ rfl rfl h1.1 (by first | omega | (simp only;omega)) (by omega) (by omega) (by omega)
theorem r18 {K:Int} {s:aB} {o:bJ} {n:Nat} (hn:66<n) (h:Inv K s) (hq:0<=o.aT/\o.aT<=288230376151711744) (ha:0<=o.bM/\o.bM<=288230376151711744):Ex (Kept K s) (JG n s o):=by
  unfold JG XC
  simp only [WT.run,bT]
  repeat' with_reducible first | refine bG ?_ | refine dZ ?_ | apply aD | apply bK | apply dY | apply dN | apply eB | apply d9 | apply dV | apply dQ | apply dW | apply dU | refine aQ (λ_=>?_) λ_=>?_ | refine dK (λ_=>?_) λ_=>?_ | apply dF | apply bU | apply dA | apply bL | apply aG
  all_goals try exact Or.inr ⟨by simp,rfl⟩
  all_goals
    refine eZ (by omega) (by omega) λz hz=>?_
    refine aW _ (tZ h z.fU z.Item) λr hr=>?_
    refine aD (aQ (λk=>aG (.inr ⟨k,rfl⟩)) λkz=>?_)
    obtain ⟨ht,x,bH,hx,hm,ho⟩:=hr (by omega)
    refine aD (aQ (λk=>aW _ (aRV hn h hq ha (by omega) hz hx hm ho) λr hr=>aG hr) λk=>aW _ (aMY hn h hq (by omega) hz hx hm ho) λr hr=>aG hr)
theorem On.aET {K:Int} {s:aB} (hI:Inv K s) {e:Int} {bH:List Int} {t:aB} {x y:aP} {d:Int} {f:Nat->Int} (h:On s e.toNat bH t y d f) (hx:s.bA[e.toNat]?=some x) (hd:d=0) (hf:∀ i,f i=0) {k:Nat} {r r':fP} (hr:s.dH[k]?=some r) (hr':CE s.bF r') (he:r.To=e) (he':r'.To=e) (h0:0<=e)
    (b1:bl y 1=bl x 1) (b12:bl y 12-bl x 12=r'.Value-r.Value) (b13:bl y 13=bl x 13) (b14:bl y 14=bl x 14):Inv K { t with dH:=t.dH.set k r' }:=by
  obtain ⟨g1,g2,g3,g4,g5⟩:=h.rc
  rw [g3]
  refine h.inv hI hx hd hf (by rw [g1];exact hI.nO) (by rw [g2];exact hI.oD) (p8 hI.oO hr') (by rw [g1];exact hI.l1) (by rw [g2];exact hI.l2) (by rw [List.length_set];exact hI.l3) (by rw [g1];omega) (by intro f _;rw [g1]) ?_ ?_ (by unfold lC;omega)
  · rw [tT _ hr];unfold iV
    rw [if_pos (by omega),if_pos (by omega)];omega
  · intro f hf;rw [tT _ hr];unfold iV
    rw [if_neg (by omega),if_neg (by omega)];omega
theorem aJL {K:Int} {s:aB} {o:bJ} {n:Nat} (hn:66<n) (h:Inv K s) (hq:0<=o.aT/\o.aT<=288230376151711744):Ex (Kept K s) (MU n s o):=by
  unfold MU aB2
  simp only [WT.run,bT]
  repeat' with_reducible first | refine bG ?_ | refine dZ ?_ | apply aD | apply bK | apply dY | apply dN | apply eB | apply d9 | apply dV | apply dQ | apply dW | apply dU | refine aQ (λ_=>?_) λ_=>?_ | refine dK (λ_=>?_) λ_=>?_ | apply dF | apply bU | apply dA | apply bL | apply aG
  all_goals try exact Or.inr ⟨by simp,rfl⟩
  rename_i k1 k2
  refine eZ (by omega) (by omega) λz hz=>?_
  have hz:s.dH[o.Ref.toNat]?=some z:=hz
  obtain ⟨z1,z2,z3,z4,z5,z6⟩:=h.oO z (fO hz)
  refine aW _ (tZ h z.To z.Item) λr hr=>?_
  refine aD (aQ (λk=>aG (.inr ⟨k,rfl⟩)) λkz=>?_)
  obtain ⟨ht,x,bH,hx,hm,ho⟩:=hr (by omega)
  have o0:=On.start hx hm ho
  have hl1:=h.l3
  refine aD (aQ (λ_=>aG (.inr ⟨by simp,rfl⟩)) λk3=>?_)
  have hpc:=AY (w:=o.aT) (q:=z.aT) z5
  have hpp:=aBP (w:=o.aT) (q:=z.aT) z6
  refine x_eq (uY hn (by omega) (by omega)) (x_eq (uY hn (by omega) (by omega)) ?_)
  refine aW _ (CP (l:=⟨o.aT,pt z.Value o.aT z.aT,pt z.bO o.aT z.aT⟩) hn h.ss (by simp only;omega)) λb hb=>?_
  refine aD (aQ (λk=>aG (.inr ⟨k,rfl⟩)) λkz=>?_)
  rcases hb with ⟨_,hb⟩ | ⟨k,_⟩
  rotate_left
  · exact absurd k kz
  obtain ⟨f1,f2,f3,f4,f5,f6,f7⟩:=hb.facts
  obtain ⟨x1,o1,p1,p2,p3⟩:=o0.brought hb
  refine bG (aW _ (qA hn (o1.ss h.ss) (by simp)) λc hc=>?_)
  refine aD (aQ (λk=>aG (.inr ⟨k,rfl⟩)) λkz=>?_)
  rcases hc with ⟨_,hc⟩ | ⟨k,_⟩
  rotate_left
  · exact absurd k kz
  obtain ⟨x2,o2,q1,q2,q3⟩:=o1.rR hc (by simp [gM,gI])
  refine aW _ (sK hn (o2.ss h.ss)) λd hd=>?_
  refine aD (aQ (λk=>aG (.inr ⟨k,rfl⟩)) λkz=>?_)
  rcases hd with ⟨_,hd⟩ | ⟨k,_⟩
  rotate_left
  · exact absurd k kz
  obtain ⟨x3,o3,r1,r2⟩:=o2.wP hd
  obtain ⟨g1,g2,g3,g4,g5⟩:=o3.rc
  have hB:∀ a:Nat,a<17->bl x3 a=bl x a+eU [⟨0,b.2.1⟩,⟨6,b.2.2.1⟩,⟨12,0-pt z.Value o.aT z.aT⟩] a:=λa ha=>by rw [oM r1,q1 a ha,oM p1]
  have b1:=hB 1 (by decide);have b12:=hB 12 (by decide);have b13:=hB 13 (by decide);have b14:=hB 14 (by decide)
  simp [gM,gI] at b1 b12 b13 b14
  unfold bN at hpp z6
  have lg:d.1.dH.length=s.dH.length:=by rw [g3]
  repeat' with_reducible first | refine bG ?_ | refine dZ ?_ | apply aD | apply bK | apply dY | apply dN | apply eB | apply d9 | apply dV | apply dQ | apply dW | apply dU | refine aQ (λ_=>?_) λ_=>?_ | refine dK (λ_=>?_) λ_=>?_ | apply dF | apply bU | apply dA | apply bL | apply aG | refine dO ?_
  refine dB (by omega) (by rw [g3];exact hz) ?_
  repeat' with_reducible first | refine bG ?_ | refine dZ ?_ | apply aD | apply bK | apply dY | apply dN | apply eB | apply d9 | apply dV | apply dQ | apply dW | apply dU | refine aQ (λ_=>?_) λ_=>?_ | refine dK (λ_=>?_) λ_=>?_ | apply dF | apply bU | apply dA | apply bL | apply aG
  refine .inl ⟨rfl,?_⟩
  rw [List.set_set,List.set_set]
  refine o3.aET h hx (by simp [gM,gI]) (uR (by simp [lD];try omega)) hz ⟨z1,z2,z3,by first | omega | (simp only;omega),by first | omega | (simp only;omega),?_⟩ rfl rfl z2.1 b1 (by simp only;omega) b13 b14
  unfold bN;simp only;omega
theorem aLU {K:Int} {s:aB} {o:bJ} {n:Nat} (hn:66<n) (h:Inv K s) (hq:0<=o.aT/\o.aT<=288230376151711744) (ha:0<=o.bM/\o.bM<=288230376151711744) (hne:o.E≠o.To):Ex (Kept K s) (KX n s o):=by
  unfold KX VZ
  simp only [WT.run,bT]
  refine aW _ (tZ h o.E o.Item) λr hr=>?_
  refine aD (aQ (λk=>aG (.inr ⟨k,rfl⟩)) λkz=>?_)
  obtain ⟨ht,x,bH,hx,hm,ho⟩:=hr (by omega)
  refine aW _ (tZ h o.To o.Item) λr2 hr2=>?_
  refine aD (aQ (λk=>aG (.inr ⟨k,rfl⟩)) λkz=>?_)
  obtain ⟨hty,y,mty,hy,hmy,hoy⟩:=hr2 (by omega)
  have o0:=On.start hx hm ho
  have hl3:=h.l3
  refine aD (aQ (λ_=>aG (.inr ⟨by simp,rfl⟩)) λk1=>?_)
  refine aW _ (CW hn h.ss (by omega)) λb hb=>?_
  refine aD (aQ (λk=>aG (.inr ⟨k,rfl⟩)) λkz=>?_)
  rcases hb with ⟨_,hb⟩ | ⟨k,_⟩
  rotate_left
  · exact absurd k kz
  obtain ⟨f1,f2,f3,f4,f5,f6⟩:=hb.facts
  obtain ⟨x1,o1,p1,p2,p3⟩:=o0.DN hb
  refine bG (bG (aW _ (qA hn (o1.ss h.ss) (by simp)) λc hc=>?_))
  refine aD (aQ (λk=>aG (.inr ⟨k,rfl⟩)) λkz=>?_)
  rcases hc with ⟨_,hc⟩ | ⟨k,_⟩
  rotate_left
  · exact absurd k kz
  obtain ⟨x2,o2,q1,q2,q3⟩:=o1.rR hc (by simp [gM,gI])
  have ss2:=o2.ss h.ss
  refine bG (aW _ (qA hn ss2 (by simp)) λc2 hc2=>?_)
  refine aD (aQ (λk=>aG (.inr ⟨k,rfl⟩)) λkz=>?_)
  rcases hc2 with ⟨_,hc2⟩ | ⟨k,_⟩
  rotate_left
  · exact absurd k kz
  have ss3:=hc2.ss ss2
  refine aW _ (sK hn ss3) λd hd=>?_
  refine aD (aQ (λk=>aG (.inr ⟨k,rfl⟩)) λkz=>?_)
  rcases hd with ⟨_,hd⟩ | ⟨k,_⟩
  rotate_left
  · exact absurd k kz
  have h1:=ht.1;have h2:=hty.1
  have hlen:=h.len
  have hnn:o.E.toNat≠o.To.toNat:=by omega
  obtain ⟨y0,by',he2,hy0,hpy,e3⟩:=hc2
  have hy1:y0=y:=by
    rw [o2.eq] at hy0
    have hy0:(s.bA.set o.E.toNat x2)[o.To.toNat]?=some y0:=hy0
    rw [mE (by omega),if_neg hnn,hy] at hy0;cases hy0;rfl
  subst hy1
  obtain ⟨x0,r0,ht3,hx0,hr0,hrr,e4⟩:=hd
  have hx1:x0=x2:=by
    rw [e3,o2.eq] at hx0
    have hx0:((s.bA.set o.E.toNat x2).set o.To.toNat { y0 with dI:=by' })[o.E.toNat]?=some x0:=hx0
    rw [mE (by rw [List.length_set];omega),if_neg (Ne.symm hnn),mE (by omega),if_pos rfl] at hx0;cases hx0;rfl
  subst hx1
  have o3:=o2.set (o2.es.TN (i:=o.Item.toNat) hrr) (o2.eb.roll (r:=⟨0,0,0,0,0,0,b.2.1.Value,0,0,0,0⟩) hr0) rfl rfl
  have eE:d.1.bA=(s.bA.set o.E.toNat { x0 with dJ:=x0.dJ.set o.Item.toNat (sZ r0 ⟨0,0,0,0,0,0,b.2.1.Value,0,0,0,0⟩) }).set o.To.toNat { y0 with dI:=by' }:=by
    rw [e4,e3,o2.eq]
    show (((s.bA.set o.E.toNat x0).set o.To.toNat _).set o.E.toNat _)=_
    rw [List.set_comm _ _ (Ne.symm hnn),List.set_set]
  have eR:d.1={ s with bA:=d.1.bA }:=by rw [e4,e3,o2.eq];rfl
  have lg:d.1.dH.length=s.dH.length:=by rw [eR]
  have hB:∀ a:Nat,a<17->bl x0 a=bl x a+eU [⟨13,o.bM⟩,⟨15,0-o.bM⟩,⟨16,b.2.1.Value⟩,⟨0,0-b.2.1.Value⟩] a:=λa ha=>by rw [q1 a ha,oM p1]
  have b1:=hB 1 (by decide);have b12:=hB 12 (by decide);have b13:=hB 13 (by decide);have b14:=hB 14 (by decide)
  simp [gM,gI] at b1 b12 b13 b14
  have oy:=hoy.ee.x.post (l:=[⟨12,o.bM⟩,⟨14,0-o.bM⟩]) hpy (by simp [gM,gI])
  have hC:∀ a:Nat,a<17->by'.getD a 0=bl y0 a+eU [⟨12,o.bM⟩,⟨14,0-o.bM⟩] a:=λa ha=>hpy.2.2.1 a ha
  have c1:=hC 1 (by decide);have c12:=hC 12 (by decide);have c13:=hC 13 (by decide);have c14:=hC 14 (by decide)
  simp [gM,gI] at c1 c12 c13 c14
  refine bG (bG (x_eq (BX _) (aD (dK (λ_=>aG (.inr ⟨by simp,rfl⟩)) λkp=>?_))))
  have kp:bN (o.bM-b.2.1.Value+b.2.1.bO):=of_decide_eq_true kp
  repeat' with_reducible first | refine bG ?_ | refine dZ ?_ | apply aD | apply bK | apply dY | apply dN | apply eB | apply d9 | apply dV | apply dQ | apply dW | apply dU | refine aQ (λ_=>?_) λ_=>?_ | refine dK (λ_=>?_) λ_=>?_ | apply dF | apply bU | apply dA | apply bL | apply aG | refine dO ?_
  refine .inl ⟨rfl,?_⟩
  have fin:=h.up2 (T:=s.dH++[⟨o.E,o.To,o.Item,o.aT,o.bM,o.bM-b.2.1.Value+b.2.1.bO⟩]) hnn hx hm (.inl (o3.done (by simp [gM,gI]) (uR (by simp [lD];try omega)))) hy hmy
    (.inl ⟨hoy.es.JN hpy.1 hpy.2.1,oy.done (by simp [gM,gI]) (λ_=>rfl),hoy.opn,hoy.mH⟩)
    (nE h.oO ⟨by first | omega | (simp only;omega),by first | omega | (simp only;omega),ht.2,by first | omega | (simp only;omega),by first | omega | (simp only;omega),kp⟩) (by simp;omega) (by show bl x0 1=bl x 1;omega) (by show by'.getD 1 0=_;simp;omega) (by show bl x0 12=bl x 12;omega) ?_ ?_ ?_
  · rw [eR,eE];exact fin
  · rw [yN];simp only [eD,iV];rw [if_pos (by omega)];show _=by'.getD 12 0-bl y0 12;simp;omega
  · intro f hf;rw [yN];simp only [eD,iV];rw [if_neg (by omega)];omega
  · show bl x0 13+bl x0 14+(by'.getD 13 0+by'.getD 14 0)=bl x 13+bl x 14+(bl y0 13+bl y0 14);simp;omega
theorem r20 {K:Int} {s:aB} {o:bJ} {n:Nat} (hn:66<n) (h:Inv K s) (hq:0<=o.aT/\o.aT<=288230376151711744) (ha:0<=o.bM/\o.bM<=288230376151711744) (hne:o.Kind=12->o.E≠o.To):Ex (Kept K s) (K7 n s o):=by
  unfold K7 UL
  simp only [WT.run,bT]
  refine aD (aQ (λk=>aW _ (aLU hn h hq ha (hne k)) λr hr=>aG hr) λ_=>aD (aQ (λ_=>aW _ (aJL hn h hq) λr hr=>aG hr) λ_=>aG (.inr ⟨by simp,rfl⟩)))
theorem EV {l:List Int} (h:∀ x∈l,0<=x):∀ x∈l,x<=cZ l:=by
  induction l with
  | nil=>intro x hx;cases hx
  | cons y r ih =>
    intro x hx
    have h1:=h y (List.mem_cons_self ..)
    have h2:0<=cZ r:=vU λz hz=>h z (List.mem_cons_of_mem _ hz)
    have e:cZ (y :: r)=y+cZ r:=rfl
    rcases List.mem_cons.1 hx with rfl | hx
    · omega
    · have:=ih (λz hz=>h z (List.mem_cons_of_mem _ hz)) x hx;omega
theorem sum_lt {l:List Int} {S:Int} (h:∀ x∈l,x<=S-1):cZ l<=(l.length:Int)*(S-1):=by
  induction l with
  | nil=>simp [cZ,eD]
  | cons y r ih =>
    have h1:=h y (List.mem_cons_self ..)
    have h2:=ih λz hz=>h z (List.mem_cons_of_mem _ hz)
    have e:cZ (y :: r)=y+cZ r:=rfl
    have e2:(((y :: r).length:Nat):Int)*(S-1)=(r.length:Int)*(S-1)+(S-1):=by
      rw [List.length_cons];push_cast;rw [Int.add_mul,Int.one_mul]
    rw [e,e2];omega
theorem EU (a b:List Int):cZ (a++b)=cZ a+cZ b:=yN _ a b
theorem SB {l:List Int} {i:Nat} {x:Int} (h:l[i]?=some x):cZ (l.drop i)=x+cZ (l.drop (i+1)):=wS _ h
def SV (total:Int) (w l:List Int):Prop:=l.length=w.length/\(∀ x∈l,0<=x/\x<=288230376151711744)/\cZ l=total
noncomputable def splitB (a1 S:Int) (n:Nat) (a2:List Int) (v:Int×Int×List Int×List Int):Option ((Int×Int×List Int×List Int)⊕(Int×List Int×List Int)) :=
  p2 (λ(a:Int) (b:Int×List Int×List Int)=>p2 (λ(a_1:Int) (b:List Int×List Int)=>p2 (λ(a_2 b:List Int) =>
    bnd (decide (a_1<(a2.length:Int))) λ(x_2:Bool)=>cond x_2
      ((ix a2 a_1).bind λ(x_3:Int)=>(qZ n a1 x_3 S).bind λ(x:Int×Int×Int)=>bnd (a_2++[x.fst]) λ(x_4:List Int)=>gV (x_4.length<=68719476736)
        (bnd (b++[x.snd.fst]) λ(x_5:List Int)=>gV (x_5.length<=68719476736) (bnd (bE (a-x.fst)) λ(x:Int)=>bnd (bE (a_1+1)) λ(x_6:Int)=>brk (x,x_6,x_4,x_5))))
      (esc (some (a,a_2,b)))) b) b) v
def QF (b:List Int) (v:Int×Int):Option ((Int×Int)⊕Int) :=
  p2 (λ(a b_1:Int)=>bnd (decide (b_1<(b.length:Int))) λ(x:Bool)=>cond x
    (((ix b b_1).bind λ(x:Int)=>(ix b a).bind λ(x_2:Int)=>bnd (decide (x>x_2)) λ(x:Bool)=>cond x (some b_1) (some a)).bind λ(y:Int)=>bnd (bE (b_1+1)) λ(x:Int)=>brk (y,x))
    (esc (some a))) v
def ON (n:Nat) (v:Int×List Int×List Int):Option ((Int×List Int×List Int)⊕List Int) :=
  p2 (λ(a:Int) (b:List Int×List Int)=>p2 (λ(a_2 b:List Int)=>bnd (decide (a>0)) λ(x:Bool)=>cond x
    (((iter (QF b) n (0,1)).bind λ(y:Int)=>(ix a_2 y).bind λ(x:Int)=>bnd (bE (x+1)) λ(x:Int)=>bnd (a_2.set (Int.toNat y) x) λ(x:List Int)=>(ix b y).bind λ(x_2:Int)=>bnd (b.set (Int.toNat y) (-1)) λ(x_3:List Int)=>some (x,x_3)).bind
      λ(y:List Int×List Int)=>p2 (λ(a_3 b:List Int)=>bnd (bE (a-1)) λ(x:Int)=>brk (x,a_3,b)) y)
    (esc (some a_2))) b) v
noncomputable def SC {R:Type} (bad:Int->R) (good:List Int->R) (n:Nat) (a1:Int) (a2:List Int) (y:Bool):Option R :=
  ((bnd (decide (a1<0)) λ(x:Bool)=>cond x (some true) (bnd (decide (a1>288230376151711744)) λ(x:Bool)=>cond x (some true) (bnd (!y) λ(x:Bool)=>some x))).bind λ(y:Bool)=>cond y (some (bad 1))
    ((oQ n a2).bind λ(x:Int×Int)=>bnd (decide (x.snd≠0)) λ(x_1:Bool)=>cond x_1 (some (bad x.snd))
      ((iter (splitB a1 x.1 n a2) n (a1,0,[],[])).bind λ(y:Int×List Int×List Int)=>p2 (λ(a:Int) (b:List Int×List Int)=>p2 (λ(a_1 b:List Int) =>
        (iter (ON n) n (a,a_1,b)).bind λ(y:List Int)=>some (good y)) b) y)))
theorem aK7 {b:List Int} {n:Nat} (hn:b.length<n) (h1:1<=b.length) (hl:b.length<=60):Ex (λ(y:Int)=>0<=y/\y<(b.length:Int)) (iter (QF b) n (0,1)):=by
  refine gB (λ(v:Int×Int)=>(0<=v.1/\v.1<(b.length:Int))/\1<=v.2/\v.2<=(b.length:Int)) (λ(v:Int×Int)=>b.length-v.2.toNat) ?_ (by simp;omega) (by simp;omega)
  rintro ⟨best,i⟩ ⟨h2,h3,h4⟩
  simp only at h2 h3 h4
  unfold QF
  refine bK (aD (aQ (λk=>?_) λk=>bL (aG h2)))
  refine aW (λ(y:Int)=>0<=y/\y<(b.length:Int)) (eZ (by omega) k λ_ _=>eZ h2.1 h2.2 λ_ _=>aD (fJ (λ_=>aG (by omega)) λ_=>aG h2)) λy hy=>bG (dD ⟨⟨hy,by first | omega | (simp only;omega),by first | omega | (simp only;omega)⟩,by first | omega | (simp only;omega)⟩)
theorem aKF {n:Nat} {left total:Int} {l rest:List Int} (hn:66<n) (h0:0<=left/\left<=60) (hl:l.length=rest.length) (h1:1<=l.length) (h6:l.length<=60) (hp:∀ x∈l,0<=x) (ht:left+cZ l=total) (hM:total<=288230376151711744):Ex (λ(r:List Int)=>r.length=l.length/\(∀ x∈r,0<=x)/\cZ r=total) (iter (ON n) n (left,l,rest)):=by
  refine gB (λ(v:Int×List Int×List Int)=>(0<=v.1/\v.1<=60)/\v.2.1.length=l.length/\v.2.2.length=l.length/\(∀ x∈v.2.1,0<=x)/\v.1+cZ v.2.1=total) (λ(v:Int×List Int×List Int)=>v.1.toNat) ?_ ⟨h0,rfl,hl.symm,hp,ht⟩ (by simp;omega)
  rintro ⟨lf,m,r⟩ ⟨a1,a2,a3,a4,a5⟩
  simp only at a1 a2 a3 a4 a5
  unfold ON
  refine bK (bK (aD (aQ (λk=>?_) λk=>bL (aG ⟨a2,a4,by first | omega | (simp only;omega)⟩))))
  refine aW (λ(v:List Int×List Int)=>v.1.length=l.length/\v.2.length=l.length/\(∀ x∈v.1,0<=x)/\lf-1+cZ v.1=total) ?_ λv hv=>bK (bG (dD ⟨⟨by first | omega | (simp only;omega),hv.1,hv.2.1,hv.2.2.1,hv.2.2.2⟩,by first | omega | (simp only;omega)⟩))
  refine aW _ (aK7 (b:=r) (by omega) (by omega) (by omega)) λy hy=>eZ hy.1 (by first | omega | (simp only;omega)) λx hx=>?_
  have hx:m[y.toNat]?=some x:=hx
  have hx1:=EV a4 x (fO hx)
  have hx2:=a4 x (fO hx)
  refine bG (aD (eZ hy.1 (by first | omega | (simp only;omega)) λ_ _=>aD (aG ⟨by rw [List.length_set];exact a2,by rw [List.length_set];exact a3,p8 a4 (by omega),?_⟩)))
  have e:cZ (m.set y.toNat (x+1))=cZ m-x+(x+1):=tT _ hx
  show lf-1+cZ (m.set y.toNat (x+1))=total
  omega
theorem aQ5 {n:Nat} {a1 S:Int} {w:List Int} (hn:66<n) (hl:w.length<=60) (hw:∀ x∈w,0<=x/\x<=288230376151711744) (hS:S=cZ w) (h1:1<=S/\S<=288230376151711744) (ha:0<=a1/\a1<=288230376151711744) :
    Ex (λ(r:Int×List Int×List Int)=>(0<=r.1/\r.1<=60)/\r.2.1.length=w.length/\r.2.2.length=w.length/\(∀ x∈r.2.1,0<=x)/\r.1+cZ r.2.1=a1) (iter (splitB a1 S n w) n (a1,0,[],[])):=by
  have hw0:∀ x∈w,0<=x:=λx hx=>(hw x hx).1
  have hle:=EV hw0
  refine gB (λ(v:Int×Int×List Int×List Int)=>0<=v.2.1/\v.2.1<=(w.length:Int)/\(v.2.2.1.length:Int)=v.2.1/\(v.2.2.2.length:Int)=v.2.1/\(∀ x∈v.2.2.1,0<=x)/\(∀ x∈v.2.2.2,0<=x/\x<=S-1)/\v.1+cZ v.2.2.1=a1/\0<=v.1/\v.1<=288230376151711744/\a1*cZ (w.drop v.2.1.toNat)+cZ v.2.2.1*S+cZ v.2.2.2=a1*S) (λ(v:Int×Int×List Int×List Int)=>w.length-v.2.1.toNat) ?_ ?_ (by simp;omega)
  · rintro ⟨lf,i,l,rest⟩ ⟨a2,a3,a4,a5,a6,a7,a8,a9,jU,a11⟩
    simp only at a2 a3 a4 a5 a6 a7 a8 a9 jU a11
    unfold splitB
    refine bK (bK (bK (aD (aQ (λk=>?_) λk=>bL (aG ?_)))))
    · have k:i<(w.length:Int):=k
      refine eZ a2 k λx hx=>?_
      have hx:w[i.toNat]?=some x:=hx
      obtain ⟨g1,g2⟩:=hw x (fO hx)
      have g3:=hle x (fO hx)
      have hmd:md a1 x S=(a1*x / S,a1*x % S,0):=by
        unfold md
        have q:=vF (v:=a1) (q:=x) (n:=S) ha.1 (by omega) h1.1
        rw [if_neg (by omega),if_neg (by omega)]
      have q:=vF (v:=a1) (q:=x) (n:=S) ha.1 (by omega) h1.1
      have q2:0<=a1*x % S/\a1*x % S<S:=⟨Int.emod_nonneg _ (by omega),Int.emod_lt_of_pos _ (by omega)⟩
      have q3:S*(a1*x / S)+a1*x % S=a1*x:=Int.mul_ediv_add_emod _ _
      refine x_eq (BO hn (by omega) (by omega) (by omega)) ?_
      rw [hmd]
      have e:=SB hx
      have e2:(i+1).toNat=i.toNat+1:=by omega
      have e3:cZ (l++[a1*x / S])=cZ l+a1*x / S:=by rw [EU];simp [cZ,eD]
      have e4:cZ (rest++[a1*x % S])=cZ rest+a1*x % S:=by rw [EU];simp [cZ,eD]
      have new:a1*cZ (w.drop (i+1).toNat)+cZ (l++[a1*x / S])*S+cZ (rest++[a1*x % S])=a1*S:=by
        rw [e3,e4,e2]
        rw [e,Int.mul_add] at a11
        have e5:(cZ l+a1*x / S)*S=cZ l*S+S*(a1*x / S):=by rw [Int.add_mul,Int.mul_comm S]
        rw [e5];omega
      have low:0<=lf-a1*x / S:=by
        have n1:0<=a1*cZ (w.drop (i+1).toNat):=Int.mul_nonneg ha.1 (vU λy hy=>hw0 y (List.mem_of_mem_drop hy))
        have n2:0<=cZ (rest++[a1*x % S]):=vU (nE (λy hy=>(a7 y hy).1) q2.1)
        have n3:cZ (l++[a1*x / S])<=a1:=Int.le_of_mul_le_mul_right (a:=S) (b:=cZ (l++[a1*x / S])) (c:=a1) (by omega) (by omega)
        omega
      have len1:(l++[a1*x / S]).length=l.length+1:=by simp
      have len2:(rest++[a1*x % S]).length=rest.length+1:=by simp
      have ub:lf-a1*x / S<=288230376151711744:=by omega
      have tot:lf-a1*x / S+cZ (l++[a1*x / S])=a1:=by rw [e3];omega
      repeat' with_reducible first | refine bG ?_ | refine dZ ?_ | apply aD | apply bK | apply dY | apply dN | apply eB | apply d9 | apply dV | apply dQ | apply dW | apply dU | refine aQ (λ_=>?_) λ_=>?_ | refine dK (λ_=>?_) λ_=>?_ | apply dF | apply bU | apply dA | apply bL | apply aG | refine dO ?_
      refine dD ?_
      simp only
      exact ⟨⟨by first | omega | (simp only;omega),by first | omega | (simp only;omega),by first | omega | (simp only;omega),by first | omega | (simp only;omega),nE a6 q.1,nE a7 (by omega),tot,low,ub,new⟩,by first | omega | (simp only;omega)⟩
    · have k:¬ i<(w.length:Int):=k
      have hi:i=(w.length:Int):=by omega
      rw [List.drop_eq_nil_of_le (by omega)] at a11
      have z:cZ ([]:List Int)=0:=rfl
      rw [z,Int.mul_zero,Int.zero_add] at a11
      have hr:=sum_lt (S:=S) (l:=rest) λx hx=>(a7 x hx).2
      have hr0:0<=cZ rest:=vU λx hx=>(a7 x hx).1
      have e1:lf*S=cZ rest:=by
        have:a1*S=(lf+cZ l)*S:=by rw [a8]
        rw [Int.add_mul] at this;omega
      have b1:0<=lf:=by
        by_cases h:0<=lf
        · exact h
        · have:lf*S<=-1*S:=Int.mul_le_mul_of_nonneg_right (by omega) (by omega)
          omega
      have b2:lf<=(rest.length:Int):=by
        by_cases h:lf<=(rest.length:Int)
        · exact h
        · have h2:((rest.length:Int)+1)*S<=lf*S:=Int.mul_le_mul_of_nonneg_right (by omega) (by omega)
          rw [Int.add_mul,Int.one_mul] at h2
          rw [Int.mul_sub,Int.mul_one] at hr
          omega
      exact ⟨by first | omega | (simp only;omega),by first | omega | (simp only;omega),by first | omega | (simp only;omega),a6,a8⟩
  · refine ⟨by simp,by simp,by simp,by simp,by simp,by simp,by simp [cZ,eD],by simp;omega,by simp;omega,?_⟩
    simp [cZ,eD,hS]
theorem aG6 {R:Type} {bad:Int->R} {good:List Int->R} {n:Nat} {a1:Int} {w:List Int} {y:Bool} (hn:66<n) (hl:w.length<=60) (hw:∀ x∈w,0<=x/\x<=288230376151711744) (hy:y=true->1<=cZ w) :
    Ex (λr=>(∃ e,e≠0/\r=bad e)\/(∃ l,SV a1 w l/\r=good l)) (SC bad good n a1 w y):=by
  unfold SC
  refine aW (λ(b:Bool)=>b=false->(0<=a1/\a1<=288230376151711744)/\y=true) ?_ λb hb=>fJ (λ_=>aG (.inl ⟨1,by decide,rfl⟩)) λkb=>?_
  · refine aD (aQ (λ_=>aG λk=>nomatch k) λk1=>aD (aQ (λ_=>aG λk=>nomatch k) λk2=>aD (aG λk=>⟨by omega,by simpa using k⟩)))
  obtain ⟨ha,hyt⟩:=hb kb
  have h1:=hy hyt
  refine x_eq (uM (by omega) (by omega)) (aD (aQ (λk=>aG (.inl ⟨_,k,rfl⟩)) λk=>?_))
  have hs:=WA (l:=w) (by omega)
  have e1:(gP w).1=cZ w:=by rw [hs.1]
  have hb2:=hs.2
  unfold bN at hb2
  have hlen:1<=w.length:=by
    cases w with
    | nil=>simp [cZ,eD] at h1
    | cons=>simp
  rw [e1]
  refine aW _ (aQ5 hn hl hw rfl ⟨h1,hb2.2⟩ ha) λr hr=>?_
  obtain ⟨lf,l,rest⟩:=r
  obtain ⟨r1,r2,r3,r4,r5⟩:=hr
  simp only at r1 r2 r3 r4 r5
  refine bK (bK (aW _ (aKF (l:=l) (rest:=rest) (left:=lf) (total:=a1) hn r1 (by omega) (by omega) (by omega) r4 r5 ha.2) λz hz=>aG (.inr ⟨z,⟨by omega,λx hx=>⟨hz.2.1 x hx,?_⟩,hz.2.2⟩,rfl⟩)))
  have:=EV hz.2.1 x hx
  omega
def OC {R:Type} (bad:Int->R) (a2:List Int) (v:Bool×Int):Option ((Bool×Int)⊕(Bool⊕R)) :=
  p2 (λ(a:Bool) (b:Int)=>bnd (decide (b<(a2.length:Int))) λ(x:Bool)=>cond x
    (((ix a2 b).bind λ(x:Int)=>bnd (decide (x<0)) λ(x:Bool)=>cond x (some true) ((ix a2 b).bind λ(x:Int)=>bnd (decide (x>288230376151711744)) λ(x:Bool)=>some x)).bind λ(y:Bool) =>
      cond y (esc (esc (some (bad 1)))) ((cond a (some true) ((ix a2 b).bind λ(x:Int)=>bnd (decide (x>0)) λ(x:Bool)=>some x)).bind λ(y:Bool)=>bnd (bE (b+1)) λ(x:Int)=>brk (y,x)))
    (esc (brk a))) v
noncomputable def GK {R:Type} (bad:Int->R) (good:List Int->R) (n:Nat) (a1:Int) (a2:List Int):Option R:=(iter (OC bad a2) n (false,0)).bind (sel (SC bad good n a1 a2))
theorem aL6 {R:Type} {bad:Int->R} {w:List Int} {n:Nat} (hn:66<n) (hl:w.length<=60):Ex (λr=>match r with | .inl y=>(∀ x∈w,0<=x/\x<=288230376151711744)/\(y=true->1<=cZ w) | .inr r=>r=bad 1) (iter (OC bad w) n (false,0)):=by
  refine gB (λ(v:Bool×Int)=>0<=v.2/\v.2<=(w.length:Int)/\((∀ x∈w.drop v.2.toNat,0<=x/\x<=288230376151711744)->(∀ x∈w,0<=x/\x<=288230376151711744))/\(v.1=true->∃ x∈w,1<=x)) (λ(v:Bool×Int)=>w.length-v.2.toNat) ?_ (by simp) (by simp;omega)
  rintro ⟨some',i⟩ ⟨h0,h1,h2,h3⟩
  simp only at h0 h1 h2 h3
  unfold OC
  refine bK (aD (aQ (λk=>?_) λk=>bL (dD ⟨?_,?_⟩)))
  · have k:i<(w.length:Int):=k
    refine aW (λ(b:Bool)=>∀ x,w[i.toNat]?=some x->b=false->0<=x/\x<=288230376151711744) ?_ λb hb=>fJ (λ_=>bL (bL (aG rfl))) λkb=>?_
    · refine eZ h0 k λx hx=>aD (aQ (λ_=>aG λ_ _ k=>nomatch k) λk1=>eZ h0 k λx' hx'=>aD (aG λy hy hk=>?_))
      have hx':w[i.toNat]?=some x':=hx'
      have hx:w[i.toNat]?=some x:=hx
      rw [hx] at hx' hy;cases hx';cases hy
      have:=of_decide_eq_false hk
      omega
    · refine aW (λ(b:Bool)=>b=true->∃ x∈w,1<=x) (fJ (λkk=>aG λ_=>h3 kk) λ_=>eZ h0 k λx hx=>aD (aG λkk=>⟨x,fO hx,by have:=of_decide_eq_true kk;omega⟩)) λc hc=>?_
      have hi:i.toNat<w.length:=by omega
      have hx:w[i.toNat]?=some w[i.toNat]:=List.getElem?_eq_getElem hi
      refine bG (dD ⟨⟨by first | omega | (simp only;omega),by first | omega | (simp only;omega),λhh=>h2 λy hy=>?_,hc⟩,by first | omega | (simp only;omega)⟩)
      rw [(drop_at hx).2] at hy
      rcases List.mem_cons.1 hy with rfl | hy
      · exact hb _ hx kb
      · exact hh y (by show y∈w.drop (i+1).toNat;rw [show (i+1).toNat=i.toNat+1 by omega];exact hy)
  · refine h2 λx hx=>?_
    have k:¬ i<(w.length:Int):=k
    rw [List.drop_eq_nil_of_le (by omega)] at hx;cases hx
  · intro ky
    obtain ⟨x,hx,h4⟩:=h3 ky
    have k:¬ i<(w.length:Int):=k
    have hw:=h2 λx hx=>by rw [List.drop_eq_nil_of_le (by omega)] at hx;cases hx
    have:=EV (λx hx=>(hw x hx).1) x hx
    omega
theorem QH {R:Type} {bad:Int->R} {good:List Int->R} {n:Nat} {a1:Int} {w:List Int} (hn:66<n) (hl:w.length<=60) :
    Ex (λr=>(∃ e,e≠0/\r=bad e)\/(∃ l,SV a1 w l/\r=good l)) (GK bad good n a1 w):=by
  unfold GK
  refine aW _ (aL6 hn hl) λr hr=>?_
  cases r with
  | inl y=>exact dA (aG6 hn hl hr.1 hr.2)
  | inr r=>exact vH (.inl ⟨1,by decide,hr⟩)
theorem aT2 (n:Nat) (a1:Int) (a2:List Int):EG n a1 a2=GK (λe=>([],e)) (λl=>(l,0)) n a1 a2:=by
  unfold EG X0
  simp only [WT.run,bT]
  rfl
theorem aHT {n:Nat} {a1:Int} {w:List Int} (hn:66<n) (hl:w.length<=60):Ex (λr=>r.2=0->SV a1 w r.1) (EG n a1 w):=by
  rw [aT2]
  refine B8 (QH hn hl) λr hr=>?_
  rcases hr with ⟨e,h1,rfl⟩ | ⟨l,h1,rfl⟩
  · exact λk=>absurd k h1
  · exact λ_=>h1
theorem aQO {α β:Type} {i:Ix} {f:α->WT Tryz.prog i} {g:β->WT Tryz.prog i} {y:α⊕β}:(Sum.elim f g y).run=Sum.elim (λa=>(f a).run) (λb=>(g b).run) y:=by cases y <;> rfl
theorem aP5 (n:Nat) (a1:Int) (a2:List Int):DU n a1 a2=bnd (decide (a1>=0)) λ(x:Bool)=>cond x
    ((GK (R:=Int⊕List Int) .inl .inr n a1 a2).bind (Sum.elim (λe=>some ([],e)) λl=>some (l,0)))
    (bnd (bE (0-a1)) λ(y:Int)=>(GK (R:=Int⊕List Int) .inl .inr n y a2).bind (Sum.elim (λe=>(iter (λ(_:Unit)=>(esc (some ()):Option (Unit⊕Unit))) n ()).bind λ_=>some ([],e))
      λl=>(iter (λ(v:Int×List Int)=>p2 (λ(i:Int) (m:List Int)=>bnd (decide (i<(m.length:Int))) λ(x:Bool)=>cond x ((ix m i).bind λ(x:Int)=>bnd (bE (0-x)) λ(x:Int)=>bnd (m.set (Int.toNat i) x) λ(z:List Int)=>bnd (bE (i+1)) λ(j:Int)=>brk (j,z)) (esc (some m))) v) n (0,l)).bind λm=>some (m,0))):=by
  unfold DU aAD
  simp only [WT.run,bT,aQO]
  rfl
theorem aC8 {n:Nat} {a1:Int} {w:List Int} (hn:66<n) (hl:w.length<=60) (ha:-288230376151711744<=a1/\a1<=288230376151711744):Ex (λr=>r.2=0->r.1.length=w.length/\(0<=a1->∀ x∈r.1,0<=x/\x<=288230376151711744)/\(∀ x∈r.1,bN x)) (DU n a1 w):=by
  rw [aP5]
  refine aD (aQ (λk=>?_) λk=>bG ?_)
  · refine aW _ (QH hn hl) λr hr=>?_
    rcases hr with ⟨e,h1,rfl⟩ | ⟨l,h1,rfl⟩
    · exact aG λk=>absurd k h1
    · exact aG λ_=>⟨h1.1,λ_=>h1.2.1,λx hx=>by have:=h1.2.1 x hx;unfold bN;omega⟩
  · refine aW _ (QH hn hl) λr hr=>?_
    rcases hr with ⟨e,h1,rfl⟩ | ⟨l,h1,rfl⟩
    · obtain ⟨m,rfl⟩:∃ m,n=m+1:=⟨n-1,by omega⟩
      exact aG λk=>absurd k h1
    · show Ex _ ((iter _ n (0,l)).bind _)
      refine aW (λ(m:List Int)=>m.length=w.length/\∀ x∈m,bN x) (gB (λ(v:Int×List Int)=>0<=v.1/\v.1<=(w.length:Int)/\v.2.length=w.length/\∀ x∈v.2,bN x) (λ(v:Int×List Int)=>w.length-v.1.toNat) ?_ ⟨by simp,by simp,h1.1,λx hx=>by have:=h1.2.1 x hx;unfold bN;omega⟩ (by simp;omega)) λm hm=>aG λ_=>⟨hm.1,λh=>absurd h k,hm.2⟩
      rintro ⟨i,m⟩ ⟨h2,h3,h4,h5⟩
      simp only at h2 h3 h4 h5
      refine bK (aD (aQ (λk=>?_) λk=>bL (aG ⟨h4,h5⟩)))
      have k:i<(m.length:Int):=k
      refine eZ h2 k λx hx=>?_
      have hx2:=h5 x (fO hx)
      unfold bN at hx2
      refine bG (aD (bG (dD ⟨⟨by first | omega | (simp only;omega),by first | omega | (simp only;omega),by rw [List.length_set];exact h4,p8 h5 (by unfold bN;omega)⟩,by first | omega | (simp only;omega)⟩)))
theorem aHI {l:List aF} {k:Nat} {a b:aF} (h:l[k]?=some a):tQ (l.set k b)=tQ l-a.aT+b.aT/\tV (l.set k b)=tV l-a.Value+b.Value/\tP (l.set k b)=tP l-a.bO+b.bO/\tS (l.set k b)=tS l-ab a.bO+ab b.bO:=by
  induction l generalizing k with
  | nil=>cases h
  | cons x r ih =>
    cases k with
    | zero=>cases h;simp only [List.set_cons_zero,tQ,tV,tP,tS];refine ⟨?_,?_,?_,?_⟩ <;> omega
    | succ k=>obtain ⟨h1,h2,h3,h4⟩:=ih h;simp only [List.set_cons_succ,tQ,tV,tP,tS,h1,h2,h3,h4];refine ⟨?_,?_,?_,?_⟩ <;> omega
theorem drop_set {α:Type} {l:List α} {i:Nat} {y:α}:(l.set i y).drop (i+1)=l.drop (i+1):=by
  apply List.ext_getElem?
  intro j
  rw [List.getElem?_drop,List.getElem?_drop,List.getElem?_set,if_neg (by omega)]
theorem aUX {m v:Int} {p:aS} {n:Nat} (hn:66<n) (h:PR m p) (hv:v<=288230376151711744):Ex (λr=>r.2=0->PR m r.1/\tQ r.1.aI=tQ p.aI/\tV r.1.aI=tV p.aI+v/\tS r.1.aI=tS p.aI) (I1 n m p v):=by
  have hl:=jA h.ly
  unfold I1 TU
  simp only [WT.run,bT]
  refine aW (λ(b:Bool)=>b=false->0<=v) ?_ λb hb=>fJ (λ_=>aG (λk=>absurd k (by simp))) λkb=>?_
  · refine aD (aQ (λ_=>aG (λk=>nomatch k)) λk=>aD (aG λ_=>by omega))
  have hv0:=hb kb
  refine aD (aQ (λ_=>aG (λk=>absurd k (by simp))) λk1=>aD (aQ (λ_=>aG (λk=>absurd k (by simp))) λk2=>dO (x_eq (y8 hn h.ly) ?_)))
  refine aW (λ(l:List aF)=>l.length=p.aI.length/\tQ l=tQ p.aI/\tV l=tV p.aI+v/\tS l=tS p.aI) (gB (λ(w:Int×Int×List aF)=>0<=w.2.1/\w.2.1<=(p.aI.length:Int)/\w.2.2.length=p.aI.length/\tQ w.2.2=tQ p.aI/\tV w.2.2+w.1=tV p.aI+v/\tS w.2.2=tS p.aI/\(∀ x∈w.2.2.drop w.2.1.toNat,jT x)/\(w.2.1=(p.aI.length:Int)->w.1=0)/\-288230376151711744*w.2.1<=w.1/\w.1<=288230376151711744) (λ(w:Int×Int×List aF)=>p.aI.length-w.2.1.toNat) ?_ (v:=(v,0,p.aI)) ⟨by simp,by simp,rfl,rfl,by simp,rfl,by simpa using h.ly.1,by simp;omega,by simp;omega,hv⟩ (by simp;omega)) λl hl2=>?_
  · rintro ⟨left,i,l⟩ ⟨a1,a2,a3,a4,a5,a6,a7,a8,a9,jU⟩
    simp only at a1 a2 a3 a4 a5 a6 a7 a8 a9 jU
    refine bK (bK (aD (aQ (λk=>?_) λk=>bL (aG ?_))))
    · have k:i<(p.aI.length:Int):=k
      have hx:l[i.toNat]?=some (l[i.toNat]'(by omega)):=List.getElem?_eq_getElem (by omega)
      generalize l[i.toNat]'(by omega)=x at hx
      obtain ⟨g1,g2,g3⟩:=a7 x (by rw [(drop_at hx).2];exact List.mem_cons_self ..)
      refine bG (aD ?_)
      refine aW (λ(y:Int)=>(-288230376151711744*i<=y/\y<=288230376151711744)/\(i=(p.aI.length:Int)-1->y=left)/\(i≠(p.aI.length:Int)-1->0<=y)) (aQ (λkk=>dB a1 hx (x_eq (uY hn (by first | omega | (simp only;omega)) (by first | omega | (simp only;omega))) (aG ?_))) λkk=>aG ?_) λy hy=>?_
      · have kk:i<(p.aI.length:Int)-1:=kk
        have:=AY (v:=v) (w:=x.aT) (q:=tQ p.aI) ⟨hv0,hv⟩
        simp only
        refine ⟨by omega,by omega,by omega⟩
      · have kk:¬ i<(p.aI.length:Int)-1:=kk
        exact ⟨⟨a9,jU⟩,λ_=>rfl,λk3=>absurd (by omega) k3⟩
      · obtain ⟨y1,y2,y3⟩:=hy
        obtain ⟨t1,t2,t3,t4⟩:=aHI (b:=(⟨x.aT,x.Value+y,x.bO⟩:aF)) hx
        simp only at t1 t2 t3 t4
        have e2:(i+1).toNat=i.toNat+1:=by omega
        have hw1:-9223372036854775808<=x.Value+y/\x.Value+y<=9223372036854775807:=by omega
        have hw2:-9223372036854775808<=left-y/\left-y<=9223372036854775807:=by omega
        refine dB a1 hx (lI hw1 (lI hw2 (aD (bG (dD ?_)))))
        refine ⟨⟨by first | omega | (simp only;omega),by first | omega | (simp only;omega),by rw [List.length_set];exact a3,by first | omega | (simp only;omega),by first | omega | (simp only;omega),by first | omega | (simp only;omega),?_,?_,?_,?_⟩,by first | omega | (simp only;omega)⟩
        · show ∀ z∈(l.set i.toNat _).drop (i+1).toNat,jT z
          rw [e2,drop_set]
          intro z hz
          exact a7 z (by rw [(drop_at hx).2];exact List.mem_cons_of_mem _ hz)
        · show i+1=(p.aI.length:Int)->left-y=0
          intro k3;have:=y2 (by omega);omega
        · show -288230376151711744*(i+1)<=left-y;omega
        · show left-y<=288230376151711744
          by_cases k3:i=(p.aI.length:Int)-1
          · have:=y2 k3;omega
          · have:=y3 k3;omega
    · have k:¬ i<(p.aI.length:Int):=k
      have:=a8 (by omega)
      exact ⟨a3,a4,by first | omega | (simp only;omega),a6⟩
  · obtain ⟨b1,b2,b3,b4⟩:=hl2
    refine aW _ (BY (by omega) (by omega)) λr hr=>?_
    refine aD (dK (λ_=>aG (λk=>absurd k (by simp))) λk=>aG λ_=>?_)
    have hL:=hr.1 k
    exact ⟨M4 h hL (λk=>by have:=h.one k;omega) (by omega),b2,b3,b4⟩
theorem ZK {f:Nat->Int} {i:Nat} {a b:Int} (h:a+b=0):bump (bump f i a) i b=f:=by
  rw [aCS,h];funext j;unfold bump;simp
theorem aF4 {s t:aB} {e:Int} {bH:List Int} {x:aP} {d:Int} {r:dX} {v:Int} {n:Nat} (hn:66<n) (hs:SS s) (hr:zD s.bF r) (h:On s e.toNat bH t x d (λ_=>0)) (he:r.fU=e) (hv:0<=v/\v<=288230376151711744) (ht:0<=e/\e<(s.bA.length:Int)) :
    Ex (λq=>q.2.2=0->(0<=q.2.1/\q.2.1<=v)/\∃ x',On s e.toNat bH q.1 x' (d+q.2.1) (λ_=>0)/\x'.dI=x.dI) (LF n t r v):=by
  obtain ⟨h1,h2,h3,h4,h5,h6,h7,h8⟩:=hr
  obtain ⟨g1,g2,g3,g4,g5⟩:=h.rc
  have hst:=h.ss hs
  subst he
  have htt:iH t r.fU r.Item:=⟨⟨ht.1,by rw [g5];exact ht.2⟩,by rw [g4];exact h2⟩
  obtain ⟨x',m,k,p,q,sp⟩:=hst.spot htt h3
  have hx':=sp.en;rw [h.at] at hx';cases hx'
  obtain ⟨ms',m1,m2⟩:=sp.ms
  have hl:=jA sp.io.pp.ly
  unfold LF aEP
  simp only [WT.run,bT]
  refine dB ht.1 m1 (dB h2.1 m2 (x_eq (pX hst.toS0 htt h3 h.at sp.pp) (bG (x_eq (y8 hn sp.io.pp.ly) (aD (x_eq (uY hn ?_ (by omega)) ?_))))))
  · simp only;split <;> omega
  generalize (if (⟨tQ p.aI,tV p.aI,tP p.aI⟩:aF).aT<r.aT-r.jB then (⟨tQ p.aI,tV p.aI,tP p.aI⟩:aF).aT else r.aT-r.jB)=z
  have hc:=AY (v:=v) (w:=z) (q:=r.aT) hv
  refine aW (λ_=>True) (aD (aQ (λ_=>aG trivial) λ_=>aD (aG trivial))) λb _=>fJ (λ_=>aG λ_=>⟨by simp;omega,x,by simpa using h,rfl⟩) λ_=>?_
  refine aW _ (aUX hn sp.io.pp (by omega)) λa ha=>?_
  refine aD (aQ (λk=>aG λk2=>absurd k2 k) λk=>?_)
  obtain ⟨a1,a2,a3,a4⟩:=ha (by omega)
  have hio:IO m a.1 q:=⟨a1,sp.io.qq,by have:=sp.io.sq;omega,by have:=sp.io.ss;omega⟩
  obtain ⟨x1,o1,p1,_,_⟩:=h.MJ sp hio (v:=pt v z r.aT) (by omega)
  refine x_eq (yY hst sp) (aW _ (sK hn (o1.ss hs)) λc hc2=>aG λk3=>⟨hc,?_⟩)
  rcases hc2 with ⟨_,hc2⟩ | ⟨k,_⟩
  rotate_left
  · exact absurd k3 k
  obtain ⟨x2,o2,q1,q2⟩:=o1.wP hc2
  rw [ZK (by simp [lD];omega)] at o2
  exact ⟨x2,o2,q1.trans p1⟩
theorem aND {s:aB} {refs:List Int} {b:Int} {n:Nat} (hn:66<n) (hl:refs.length<=60) (hr:s.bX.length<=40) (hi:∀ r∈s.bX,0<=r.Item/\r.Item<(s.bF.bW.length:Int)):Ex (λ(l:List Int)=>l.length=refs.length) (LW n s refs b):=by
  unfold LW TZ
  simp only [WT.run,bT]
  refine aW (λ(l:List Int)=>l.length=refs.length) (gB (λ(v:Int×List Int)=>0<=v.1/\v.1<=(refs.length:Int)/\(v.2.length:Int)=v.1) (λ(v:Int×List Int)=>refs.length-v.1.toNat) ?_ ⟨by simp,by simp,by simp⟩ (by simp;omega)) λl h=>aG h
  rintro ⟨i,l⟩ ⟨h0,h1,h2⟩
  simp only at h0 h1 h2
  refine bK (aD (aQ (λk=>?_) λk=>bL (aG ?_)))
  · have k:i<(refs.length:Int):=k
    have hx:refs[i.toNat]?=some (refs[i.toNat]'(by omega)):=List.getElem?_eq_getElem (by omega)
    generalize refs[i.toNat]'(by omega)=x at hx
    refine aW (λ(b:Bool)=>b=true->0<=x/\x<(s.bX.length:Int)) (dB h0 hx (aD (aQ (λk1=>dB h0 hx (aD (aG λk2=>?_))) λ_=>aG λk=>nomatch k))) λb hb=>?_
    · have:=of_decide_eq_true k2;omega
    refine aW (λ_=>True) (fJ (λkb=>?_) λ_=>aG trivial) λw _=>aD (dO (bG (dD ⟨⟨by first | omega | (simp only;omega),by first | omega | (simp only;omega),by simp;omega⟩,by first | omega | (simp only;omega)⟩)))
    obtain ⟨g1,g2⟩:=hb kb
    refine dB h0 hx (eZ g1 g2 λy hy=>aD (aQ (λ_=>aG trivial) λ_=>aD (aQ (λ_=>aG trivial) λ_=>aD (aQ (λ_=>?_) λ_=>aG trivial))))
    have:=hi y (fO hy)
    exact eZ this.1 this.2 λ_ _=>aD (aG trivial)
  · have k:¬ i<(refs.length:Int):=k
    first | omega | (simp only;omega)
end Go.Pv
