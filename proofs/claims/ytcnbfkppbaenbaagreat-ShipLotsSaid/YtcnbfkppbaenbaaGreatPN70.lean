/- States by numbers: all agrees. -/
import Derived.Test.YtcnbfkppbaenbaaGreatPM70
set_option linter.unusedVariables false
set_option linter.unusedSimpArgs false
namespace Go.Pv
open Go.Proofs
set_option maxRecDepth 100000
set_option maxHeartbeats 1000000
def Ez (m:fC) (x:aQ):Prop:=(∀ bL:List Int,bL.length=m.bZ.length->(∀ y∈bL,1<=y/\y<=4)->EO m bL x)/\(∀ a,bl x a=0)
theorem wE {α:Type} {n:Nat} {a x:α} (h:x∈List.replicate n a):x=a:=List.eq_of_mem_replicate h
theorem D8 {α:Type} {n k:Nat} {a x:α} (h:(List.replicate n a)[k]?=some x):x=a:=wE (fE h)
theorem e0 {m:fC} (h:pM m) {P:List Int} (hP:P.length=m.bZ.length) (hb:∀ y∈P,-1<=y/\y<=288230376151711744):Ez m ⟨1,false,List.replicate ((m.bZ.length:Int)*2).toNat ⟨[],⟨0,0,0⟩⟩,List.replicate 17 0,List.replicate ((m.bZ.length:Int)).toNat ⟨0,0,0,0,0,0,0,0,0,0,0⟩,P,List.replicate ((m.bZ.length:Int)).toNat 0,[]⟩:=by
  have hp:=h.iN
  have hb0:∀ a,(List.replicate 17 (0:Int)).getD a 0=0:=by
    intro a;rw [List.getD_eq_getElem?_getD,List.getElem?_replicate];split <;> rfl
  have hio:∀ mt:Int,1<=mt/\mt<=4->IO mt ⟨[],⟨0,0,0⟩⟩ ⟨[],⟨0,0,0⟩⟩:=by
    intro mt h
    have pr:PR mt ⟨[],⟨0,0,0⟩⟩:=⟨h,aTT,λ_=>by simp,by simp,by simp,by simp,by simp [tQ],λ_=>⟨rfl,rfl,rfl⟩⟩
    exact ⟨pr,pr,by simp [tQ],by simp [tS]⟩
  refine ⟨λbL h1 h2=>⟨⟨by simp only;omega,by simp;omega,by simp,by simp,hP,by simp,h1,?_,hb,?_,?_,?_⟩,⟨?_,?_,?_,?_⟩,rfl,rfl⟩,hb0⟩
  · intro b hb;rw [wE hb];decide
  · intro b hb;rw [wE hb];decide
  · intro i mt p q hm hp hq
    rw [D8 hp,D8 hq];exact hio mt (h2 _ (fE hm))
  · intro r hr;rw [wE hr];unfold wX bQ;simp
  · show sV _=(List.replicate 17 (0:Int)).getD 0 0
    rw [hb0];exact JA λx hx=>by rw [wE hx];rfl
  · show dA _=-(List.replicate 17 (0:Int)).getD 11 0
    rw [hb0];exact JA λx hx=>by rw [wE hx]
  · exact JA λx hx=>by rw [wE hx]
  · intro i r p q hr hp hq
    rw [D8 hr,D8 hp,D8 hq];rfl
theorem ZQ {m:fC}:∀ (k:Nat) {n:Nat} {i:Int} {l:List Int},i+k=(m.bZ.length:Int)->k<n->0<=i->l.length=m.bZ.length->m.bZ.length<=5->(∀ y∈l,-1<=y/\y<=288230376151711744)->Ex (λr=>r.length=m.bZ.length/\∀ y∈r,-1<=y/\y<=288230376151711744) (vN m n i l)
  | _,0,_,_,_,hn,_,_,_,_=>absurd hn (Nat.not_lt_zero _)
  | 0,n+1,i,l,hi,_,h0,hl,h5,hb=>by
    unfold vN
    exact aF (aI (λk=>absurd k (by omega)) λ_=>aD ⟨hl,hb⟩)
  | k+1,n+1,i,l,hi,hn,h0,hl,h5,hb=>by
    unfold vN
    refine aF (aI (λ_=>eT h0 (by omega) λ_ _=>aF (bE ?_)) λh=>absurd (show i<(m.bZ.length:Int) by omega) h)
    exact ZQ k (i:=i+1) (by omega) (by omega) (by omega) (by rw [List.length_set];exact hl) h5 (oG hb (by omega))
theorem aA8 {m:fC} (h:pM m):∀ (k:Nat) {n:Nat} {i:Int} {l:List aQ},i+k=m.gG->k+7<n->0<=i->(l.length:Int)=i->(∀ x∈l,Ez m x)->Ex (λr=>(r.length:Int)=m.gG/\∀ x∈r,Ez m x) (vI m n i l)
  | _,0,_,_,_,hn,_,_,_=>absurd hn (Nat.not_lt_zero _)
  | 0,n+1,i,l,hi,_,h0,hl,hb=>by
    unfold vI
    exact aF (aI (λk=>absurd k (by omega)) λ_=>aD ⟨by omega,hb⟩)
  | k+1,n+1,i,l,hi,hn,h0,hl,hb=>by
    have h3:=h.n1;have h4:=h.vL
    unfold vI
    refine aF (aI (λ_=>?_) λh=>absurd (show i<m.gG by omega) h)
    refine aU (λ(r:List aQ)=>(r.length:Int)=i+1/\∀ x∈r,Ez m x) ?_ λr hr=>bE (aA8 h k (i:=i+1) (by omega) (by omega) (by omega) hr.1 hr.2)
    refine bE (dM (aF (iR (by decide) (aF (dM (aF (dM (aF (dM (aF ?_))))))))))
    refine aU _ (ZQ (m:=m) m.bZ.length (i:=0) (by omega) (by omega) (by omega) (by simp) (by omega) (λy hy=>by rw [wE hy];decide)) λP hP=>aF (dM (aD ⟨by simp;omega,mI hb (e0 h hP.1 hP.2)⟩))
theorem aJO {m:fC} {n:Nat} (hn:66<n) (h:pM m):Ex (λr=>Inv 0 r.1/\r.1.bH=m) (BR n m):=by
  have h4:=h.vL;have h5:=h.lm
  unfold BR
  rw [aBJ hn h]
  refine x_eq rfl (aF (dJ (λk=>nomatch k) λ_=>?_))
  refine aU _ (aA8 h m.gG.toNat (i:=0) (by omega) (by omega) (by omega) rfl (λ_ h=>nomatch h)) λl hl=>aD ⟨?_,rfl⟩
  refine ⟨h,hl.1,by simp,(λ_ h=>nomatch h),(λ_ h=>nomatch h),(λ_ h=>nomatch h),by simp,by simp,by simp,?_,?_,?_,?_⟩
  · intro e x bL hx hm
    have g:=h.met bL (fE hm)
    exact .inl ((hl.2 x (fE hx)).1 bL g.1 g.2)
  · intro e x hx;rw [(hl.2 x (fE hx)).2];rfl
  · intro e x hx;rw [(hl.2 x (fE hx)).2];rfl
  · exact JA λx hx=>by unfold kH;rw [(hl.2 x hx).2,(hl.2 x hx).2];rfl
theorem SK {m:fC} {v:Int} (h:MN m):Ex (λo=>o.fA.length<=3) (zN m v):=by
  obtain ⟨h,he2⟩:=h
  have h3:=h.n1;have h4:=h.vL
  unfold zN U7
  simp only [WT.run,bS]
  refine aU _ (KE (by decide)) λk hk=>?_
  have f1:=td (a:=k) (b:=32) hk.1 (by decide)
  have f2:=tm (a:=k.tdiv 32) (b:=m.gG) f1.1 (by omega)
  have f3:=td (a:=k) (b:=128) hk.1 (by decide)
  have f4:=tm (a:=k.tdiv 128) (b:=(m.bZ.length:Int)) f3.1 (by omega)
  have f5:=td (a:=k) (b:=1024) hk.1 (by decide)
  have f6:=tm (a:=k.tdiv 1024) (b:=8) f5.1 (by decide)
  have f7:=td (a:=(k.tdiv 1024).tmod 8) (b:=7) f6.1 (by decide)
  have f8:=td (a:=k) (b:=8192) hk.1 (by decide)
  have f9:=tm (a:=k.tdiv 8192) (b:=24) f8.1 (by decide)
  have f10:=td (a:=k) (b:=196608) hk.1 (by decide)
  have f11:=tm (a:=k.tdiv 196608) (b:=900) f10.1 (by decide)
  have f12:=td (a:=k) (b:=7000000) hk.1 (by decide)
  have f13:=tm (a:=k.tdiv 7000000) (b:=12) f12.1 (by decide)
  have q0:0<=1+(k.tdiv 8192).tmod 24:=by omega
  have g1:=td (a:=1+(k.tdiv 8192).tmod 24) (b:=3) q0 (by decide)
  have g2:=td (a:=1+(k.tdiv 8192).tmod 24) (b:=6) q0 (by decide)
  have g3:=td (a:=1+(k.tdiv 8192).tmod 24) (b:=8) q0 (by decide)
  have g4:=td (a:=1+(k.tdiv 8192).tmod 24) (b:=4) q0 (by decide)
  have g5:=tm (a:=1+(k.tdiv 8192).tmod 24) (b:=3) q0 (by decide)
  have g6:=tm (a:=(k.tdiv 196608).tmod 900) (b:=m.gG-1) f11.1 (by omega)
  repeat' with_reducible first | refine bE ?_ | refine dU ?_ | apply aF | apply bF | apply dY | apply dN | apply dV | apply dZ | apply d9 | apply dO | apply dW | apply dS | refine aI (λ_=>?_) λ_=>?_ | refine dJ (λ_=>?_) λ_=>?_ | apply dB | apply bW | apply cZ | apply bJ | apply aD | refine dM ?_
  all_goals try (show List.length []<=3;exact Nat.zero_le _)
  · refine eT g5.1 g5.2 λl hl=>?_
    repeat' with_reducible first | refine bE ?_ | refine dU ?_ | apply aF | apply bF | apply dY | apply dN | apply dV | apply dZ | apply d9 | apply dO | apply dW | apply dS | refine aI (λ_=>?_) λ_=>?_ | refine dJ (λ_=>?_) λ_=>?_ | apply dB | apply bW | apply cZ | apply bJ | apply aD | refine dM ?_
    have:=fE hl
    simp only [List.mem_cons,List.not_mem_nil,or_false] at this
    rcases this with rfl | rfl | rfl <;> simp
theorem aRM {m:fC} {l:List Int} {n:Nat} (hn:200<n) (h:MN m):Ex (λr=>r.length<=120/\∀ o∈r,o.fA.length<=3) (M3 n m l):=by
  unfold M3 TQ
  simp only [WT.run,bS]
  refine aU (λ(r:List bK)=>r.length<=120/\∀ o∈r,o.fA.length<=3) (fJ (λ(v:Int×List bK)=>0<=v.1/\v.1<=120/\(v.2.length:Int)=v.1/\∀ o∈v.2,o.fA.length<=3) (λ(v:Int×List bK)=>120-v.1.toNat) ?_ (v:=(0,[])) ⟨by simp,by simp,rfl,λ_ h=>nomatch h⟩ (by simp;omega)) λr hr=>aD hr
  rintro ⟨i,r⟩ ⟨a1,a2,a3,a4⟩
  simp only at a1 a2 a3 a4
  refine bF ?_
  refine aU (λ(b:Bool)=>b=true->i<(l.length:Int)/\i<120) (aF (aI (λk=>aF (aD λk2=>⟨k,of_decide_eq_true k2⟩)) λ_=>aD (λk=>nomatch k))) λb hb=>fB (λkb=>?_) λ_=>bJ (aD ⟨by first | omega | (simp only;omega),a4⟩)
  obtain ⟨k1,k2⟩:=hb kb
  refine eT a1 k1 λx hx=>aU _ (SK h) λo ho=>aF (dM (bE (cK ⟨⟨by first | omega | (simp only;omega),by first | omega | (simp only;omega),by simp;omega,mI a4 ho⟩,by first | omega | (simp only;omega)⟩)))
theorem aLL (k:Int):Ex (λl=>l.length<=6/\(k=12->l[3]?=some 116)) (I8 k):=by
  unfold I8 aCG
  simp only [WT.run,bS]
  repeat' with_reducible first | refine bE ?_ | refine dU ?_ | apply aF | apply bF | apply dY | apply dN | apply dV | apply dZ | apply d9 | apply dO | apply dW | apply dS | refine aI (λ_=>?_) λ_=>?_ | refine dJ (λ_=>?_) λ_=>?_ | apply dB | apply bW | apply cZ | apply bJ | apply aD
  all_goals exact ⟨by simp,λh=>by first | rfl | omega⟩
theorem aS9 (o:bK):Ex (λr=>r=true->o.Kind=12->o.E≠o.To) (I9 o):=by
  unfold I9 WE
  simp only [WT.run,bS]
  repeat' with_reducible first | refine bE ?_ | refine dU ?_ | apply aF | apply bF | apply dY | apply dN | apply dV | apply dZ | apply d9 | apply dO | apply dW | apply dS | refine aI (λ_=>?_) λ_=>?_ | refine dJ (λ_=>?_) λ_=>?_ | apply dB | apply bW | apply cZ | apply bJ | apply aD
  all_goals first
    | (intro k;cases k;done)
    | (intro k h;first | omega | (have:=of_decide_eq_true k;omega))
theorem aHC {l:List Int} {n:Nat} (hn:66<n) (hl:l.length<=60):Ex (λ_=>True) (GC n l):=by
  unfold GC aDG
  simp only [WT.run,bS]
  refine aU (λ(r:Unit⊕Bool)=>True) (fJ (λ(i:Int)=>0<=i/\i<=(l.length:Int)) (λ(i:Int)=>l.length-i.toNat) ?_ (v:=0) ⟨by simp,by simp⟩ (by simp;omega)) λr _=>iZ (λ_ _=>?_) λ_ _=>trivial
  · rintro i ⟨h0,h1⟩
    refine aF (aI (λk=>?_) λk=>bJ (cK trivial))
    refine aU (λ(r:Unit⊕(Int⊕(Unit⊕Bool)))=>match r with | .inl _=>True | .inr (.inl _)=>False | .inr (.inr _)=>True) ?_ λr hr=>iZ (λ_ _=>bE (cK ⟨⟨by omega,by omega⟩,by omega⟩)) λq e=>by subst e;rcases q with q | q;exact hr.elim;trivial
    refine aU (λ_=>True) (eT h0 k λ_ _=>aF (aI (λ_=>aD trivial) λ_=>eT h0 k λ_ _=>aF (aD trivial))) λb _=>fB (λ_=>bJ (bJ (bJ (aD trivial)))) λ_=>?_
    refine aU (λ(r:Unit⊕(Unit⊕(Int⊕(Unit⊕Bool))))=>match r with | .inr (.inl _)=>False | .inr (.inr (.inl _))=>False | _=>True) (fJ (λ(j:Int)=>0<=j/\j<=i) (λ(j:Int)=>i.toNat-j.toNat) ?_ (v:=0) ⟨by simp,h0⟩ (by simp;omega)) λr hr=>iZ (λ_ _=>cK trivial) λq e=>by subst e;rcases q with q | q | q;exact hr.elim;exact hr.elim;trivial
    rintro j ⟨j0,j1⟩
    refine aF (aI (λkj=>eT j0 (by omega) λ_ _=>eT h0 k λ_ _=>aF (aI (λ_=>bJ (bJ (bJ (bJ (bJ (aD trivial)))))) λ_=>bE (cK ⟨⟨by omega,by omega⟩,by omega⟩))) λ_=>bJ (cK trivial))
  · repeat' with_reducible first | refine bE ?_ | refine dU ?_ | apply aF | apply bF | apply dY | apply dN | apply dV | apply dZ | apply d9 | apply dO | apply dW | apply dS | refine aI (λ_=>?_) λ_=>?_ | refine dJ (λ_=>?_) λ_=>?_ | apply dB | apply bW | apply cZ | apply bJ | apply aD
    all_goals trivial
def BB (o x:bK):Prop:=(x.aG=0\/(0<=o.aG/\o.aG<=1073741824/\x.aG=o.aG))/\(x.bM=0\/(0<=o.bM/\o.bM<=1125899906842624/\(o.Kind=9->o.bM<=1073741824)/\x.bM=o.bM))/\(x.Loc=0\/(0<=o.Loc/\o.Loc<=1/\x.Loc=o.Loc))
theorem aQW {o x:bK} {c:Int} {n:Nat} (hn:66<n) (hR:o.fA.length<=60) (hb:BB o x):Ex (λr=>r.2=true->BB o r.1/\(c=116->o.Kind=12->o.E≠o.To)) (KC n o x c):=by
  obtain ⟨b1,b2,b3⟩:=hb
  unfold KC X3
  simp only [WT.run,bS]
  refine aF (aI (λk=>aU (λ_=>True) ?_ λb _=>aD λ_=>⟨⟨b1,b2,b3⟩,λh=>absurd h (by omega)⟩) λk1=>?_)
  · repeat' with_reducible first | refine bE ?_ | refine dU ?_ | apply aF | apply bF | apply dY | apply dN | apply dV | apply dZ | apply d9 | apply dO | apply dW | apply dS | refine aI (λ_=>?_) λ_=>?_ | refine dJ (λ_=>?_) λ_=>?_ | apply dB | apply bW | apply cZ | apply bJ | apply aD
    all_goals trivial
  refine aF (aI (λk=>aU (λ_=>True) ?_ λb _=>aD λ_=>⟨⟨b1,b2,b3⟩,λh=>absurd h (by omega)⟩) λk2=>?_)
  · repeat' with_reducible first | refine bE ?_ | refine dU ?_ | apply aF | apply bF | apply dY | apply dN | apply dV | apply dZ | apply d9 | apply dO | apply dW | apply dS | refine aI (λ_=>?_) λ_=>?_ | refine dJ (λ_=>?_) λ_=>?_ | apply dB | apply bW | apply cZ | apply bJ | apply aD
    all_goals trivial
  refine aF (aI (λk=>aU (λ(b:Bool)=>b=true->0<=o.Loc/\o.Loc<=1) ?_ λb hb=>aD λkb=>⟨⟨b1,b2,.inr ⟨(hb kb).1,(hb kb).2,rfl⟩⟩,λh=>absurd h (by omega)⟩) λk3=>?_)
  · refine aF (aI (λ_=>aF (aD λk=>by have:=of_decide_eq_true k;omega)) λ_=>aD (λk=>nomatch k))
  refine aF (aI (λk=>aU _ (aS9 o) λb hb=>aD λkb=>⟨⟨b1,b2,b3⟩,λ_=>hb kb⟩) λk4=>?_)
  refine aF (aI (λk=>aU (λ(b:Bool)=>b=true->0<=o.aG/\o.aG<=1073741824) ?_ λb hb=>aD λkb=>⟨⟨.inr ⟨(hb kb).1,(hb kb).2,rfl⟩,b2,b3⟩,λh=>absurd h (by omega)⟩) λk5=>?_)
  · repeat' with_reducible first | refine bE ?_ | refine dU ?_ | apply aF | apply bF | apply dY | apply dN | apply dV | apply dZ | apply d9 | apply dO | apply dW | apply dS | refine aI (λ_=>?_) λ_=>?_ | refine dJ (λ_=>?_) λ_=>?_ | apply dB | apply bW | apply cZ | apply bJ | apply aD
    all_goals first
      | (intro k;cases k;done)
      | (intro k;omega)
  refine aF (aI (λk=>aU (λ(b:Bool)=>b=true->0<=o.bM/\o.bM<=1125899906842624/\(o.Kind=9->o.bM<=1073741824)) ?_ λb hb=>aD λkb=>⟨⟨b1,.inr ⟨(hb kb).1,(hb kb).2.1,(hb kb).2.2,rfl⟩,b3⟩,λh=>absurd h (by omega)⟩) λk6=>?_)
  · repeat' with_reducible first | refine bE ?_ | refine dU ?_ | apply aF | apply bF | apply dY | apply dN | apply dV | apply dZ | apply d9 | apply dO | apply dW | apply dS | refine aI (λ_=>?_) λ_=>?_ | refine dJ (λ_=>?_) λ_=>?_ | apply dB | apply bW | apply cZ | apply bJ | apply aD
    all_goals first
      | (intro k;cases k;done)
      | (intro k;omega)
  refine aF (aI (λk=>aU (λ_=>True) ?_ λb _=>aD λ_=>⟨⟨b1,b2,b3⟩,λh=>absurd h (by omega)⟩) λk7=>?_)
  · repeat' with_reducible first | refine bE ?_ | refine dU ?_ | apply aF | apply bF | apply dY | apply dN | apply dV | apply dZ | apply d9 | apply dO | apply dW | apply dS | refine aI (λ_=>?_) λ_=>?_ | refine dJ (λ_=>?_) λ_=>?_ | apply dB | apply bW | apply cZ | apply bJ | apply aD
    all_goals trivial
  exact aU _ (aHC hn hR) λb _=>aD λ_=>⟨⟨b1,b2,b3⟩,λh=>absurd h (by omega)⟩
theorem aQ7 {a b:List Int} {n:Nat} (hn:66<n) (ha:a.length<=60):Ex (λ_=>True) (rD n a b):=by
  unfold rD Q9
  simp only [WT.run,bS]
  refine aF (aI (λ_=>aD trivial) λkl=>?_)
  refine aU (λ(r:Unit⊕Bool)=>True) (fJ (λ(i:Int)=>0<=i/\i<=(a.length:Int)) (λ(i:Int)=>a.length-i.toNat) ?_ (v:=0) ⟨by simp,by simp⟩ (by simp;omega)) λr _=>iZ (λ_ _=>aD trivial) λ_ _=>trivial
  rintro i ⟨h0,h1⟩
  exact aF (aI (λk=>eT h0 k λ_ _=>eT h0 (by omega) λ_ _=>aF (aI (λ_=>bJ (bJ (aD trivial))) λ_=>bE (cK ⟨⟨by omega,by omega⟩,by omega⟩))) λ_=>bJ (cK trivial))
theorem aQP {a b:bK} {n:Nat} (hn:66<n) (ha:a.fA.length<=60):Ex (λr=>r=true->a.aG=b.aG/\a.bM=b.bM/\a.Loc=b.Loc) (KI n a b):=by
  unfold KI aDK
  simp only [WT.run,bS]
  repeat' with_reducible first | refine bE ?_ | refine dU ?_ | apply aF | apply bF | apply dY | apply dN | apply dV | apply dZ | apply d9 | apply dO | apply dW | apply dS | refine aI (λ_=>?_) λ_=>?_ | refine dJ (λ_=>?_) λ_=>?_ | apply dB | apply bW | apply cZ | apply bJ | apply aD
  all_goals try exact (λk=>by cases k;done)
  refine aU _ (aQ7 hn ha) λb _=>?_
  repeat' with_reducible first | refine bE ?_ | refine dU ?_ | apply aF | apply bF | apply dY | apply dN | apply dV | apply dZ | apply d9 | apply dO | apply dW | apply dS | refine aI (λ_=>?_) λ_=>?_ | refine dJ (λ_=>?_) λ_=>?_ | apply dB | apply bW | apply cZ | apply bJ | apply aD
  exact λ_=>⟨by assumption,by assumption,by assumption⟩
theorem TW {o:bK} {n:Nat} (hn:66<n) (hR:o.fA.length<=60):Ex (λr=>r=true->zV o) (wI n o):=by
  unfold wI aCI
  simp only [WT.run,bS]
  refine aU _ (aLL o.Kind) λh hh=>?_
  obtain ⟨h6,h12⟩:=hh
  refine aU (λ(r:bK⊕Bool)=>match r with | .inl x=>BB o x/\∀ j:Nat,j<h.length->h[j]?=some 116->o.Kind=12->o.E≠o.To | .inr b=>b=false)
    (fJ (λ(v:Int×bK)=>0<=v.1/\v.1<=(h.length:Int)/\BB o v.2/\∀ j:Nat,(j:Int)<v.1->h[j]?=some 116->o.Kind=12->o.E≠o.To) (λ(v:Int×bK)=>h.length-v.1.toNat) ?_ (v:=(0,⟨o.Kind,0,0,0,0,0,0,0,[]⟩)) ⟨by simp,by simp,⟨.inl rfl,.inl rfl,.inl rfl⟩,λj hj=>absurd hj (by simp)⟩ (by simp;omega)) λr hr=>iZ (λx e=>?_) λb e=>?_
  · rintro ⟨i,x⟩ ⟨a1,a2,a3,a4⟩
    simp only at a1 a2 a3 a4
    refine bF (aF (aI (λk=>?_) λk=>bJ (cK ⟨a3,λj hj=>a4 j ?_⟩)))
    · have k:i<(h.length:Int):=k
      refine eT a1 k λc hc=>aU _ (aQW hn hR a3) λr hr=>aF (aF (dJ (λ_=>bJ (bJ (aD rfl))) λkb=>?_))
      obtain ⟨r1,r2⟩:=hr kb
      have hc:h[i.toNat]?=some c:=hc
      refine bE (cK ⟨⟨by first | omega | (simp only;omega),by first | omega | (simp only;omega),r1,λj hj hj2=>?_⟩,by first | omega | (simp only;omega)⟩)
      have hj:(j:Int)<i+1:=hj
      by_cases hij:j=i.toNat
      · subst hij;rw [hc] at hj2;cases hj2;exact r2 rfl
      · exact a4 j (by omega) hj2
    · have k:¬ i<(h.length:Int):=k
      first | omega | (simp only;omega)
  · subst e
    obtain ⟨⟨b1,b2,b3⟩,b4⟩:=hr
    refine aF ?_
    refine aU (λ(b:Bool)=>b=true->zV o) (fB (λ_=>aU _ (aQP (b:=x) hn hR) λb hb=>aD λkb=>?_) λ_=>aD (λk=>nomatch k)) λb hb=>aD hb
    obtain ⟨s1,s2,s3⟩:=hb kb
    refine ⟨by omega,by omega,λk9=>?_,λ_=>by omega,λk12=>?_,hR⟩
    · rcases b2 with b2 | ⟨_,_,b2,_⟩
      · omega
      · exact b2 k9
    · have:=h12 k12
      exact b4 3 (List.getElem?_eq_some_iff.1 this).1 this k12
  · subst e
    have hb:b=false:=hr
    subst hb;exact λk=>nomatch k
theorem aT7 {m:fC} {l:List Int} {n:Nat} (hn:200<n) (h:MN m):Ex (λs=>Inv 1000 s) (KV n m l):=by
  unfold KV aC2
  simp only [WT.run,bS]
  refine aU _ (aJO (by omega) h.1) λs hs=>aU _ (aRM hn h) λo ho=>?_
  obtain ⟨o1,o2⟩:=ho
  refine aU (λs=>Inv 1000 s) (fJ (λ(v:Int×aA)=>0<=v.1/\v.1<=(o.length:Int)/\Inv v.1 v.2) (λ(v:Int×aA)=>o.length-v.1.toNat) ?_ (v:=(0,s.1)) ⟨by simp,by simp,hs.1⟩ (by simp;omega)) λs hs=>aD hs
  rintro ⟨i,t⟩ ⟨a1,a2,a3⟩
  simp only at a1 a2 a3
  refine bF (aF (aI (λk=>?_) λk=>bJ (aD (a3.mono (by omega)))))
  have k:i<(o.length:Int):=k
  refine eT a1 k λx hx=>aU _ (aUQ (by omega) a3 (by omega) (TW (by omega) (by have:=o2 x (fE hx);omega))) λr hr=>bE (cK ⟨⟨by first | omega | (simp only;omega),by first | omega | (simp only;omega),hr⟩,by first | omega | (simp only;omega)⟩)
end Go.Pv
