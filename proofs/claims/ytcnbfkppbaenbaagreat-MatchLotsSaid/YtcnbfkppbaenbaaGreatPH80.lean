import Derived.Test.YtcnbfkppbaenbaaGreatPM70
import Derived.Test.YtcnbfkppbaenbaaGreatI70
import Derived.Test.YtcnbfkppbaenbaaGreatG71
set_option linter.unusedVariables false
set_option linter.unusedSimpArgs false
namespace Go.Pv
open Go.Proofs
set_option maxRecDepth 100000
set_option maxHeartbeats 1000000
def Ez (m:fC) (x:aQ):Prop:=(∀ bL:List Int,bL.length=m.bZ.length->(∀ y∈bL,1<=y/\y<=4)->EO m bL x)/\(∀ a,bl x a=0)
theorem wE {α:Type} {n:Nat} {a x:α} (h:x∈List.replicate n a):x=a:=List.eq_of_mem_replicate h
theorem D8 {α:Type} {n k:Nat} {a x:α} (h:(List.replicate n a)[k]?=some x):x=a:=wE (fE h)
theorem e0 {m:fC} (h:pM m) {P:List Int} (hP:P.length=m.bZ.length) (hb:∀ y∈P,-1<=y/\y<=288230376151711744):Ez m ⟨1,false,List.replicate ((m.bZ.length:Int)*2).toNat ⟨[],⟨0,0,0⟩⟩,List.replicate 17 0,List.replicate ((m.bZ.length:Int)).toNat ⟨0,0,0,0,0,0,0,0,0,0,0⟩,P,List.replicate ((m.bZ.length:Int)).toNat 0,[]⟩:=by
  have hp:=h.iN
  have hb0:∀ a,(List.replicate 17 (0:Int)).getD a 0=0:=by
    intro a;rw [List.getD_eq_getElem?_getD,List.getElem?_replicate];split <;> rfl
  have hio:∀ mt:Int,1<=mt/\mt<=4->IO mt ⟨[],⟨0,0,0⟩⟩ ⟨[],⟨0,0,0⟩⟩:=by
    intro mt h
    have pr:PR mt ⟨[],⟨0,0,0⟩⟩:=⟨h,aTT,λ_=>by simp,by simp,by simp,by simp,by simp [tQ],λ_=>⟨rfl,rfl,rfl⟩⟩
    exact ⟨pr,pr,by simp [tQ],by simp [tS]⟩
  refine ⟨λbL h1 h2=>⟨⟨by simp only;omega,by simp;omega,by simp,by simp,hP,by simp,h1,?_,hb,?_,?_,?_⟩,⟨?_,?_,?_,?_⟩,rfl,rfl⟩,hb0⟩
  · intro b hb;rw [wE hb];decide
  · intro b hb;rw [wE hb];decide
  · intro i mt p q hm hp hq
    rw [D8 hp,D8 hq];exact hio mt (h2 _ (fE hm))
  · intro r hr;rw [wE hr];unfold wX bQ;simp
  · show sV _=(List.replicate 17 (0:Int)).getD 0 0
    rw [hb0];exact JA λx hx=>by rw [wE hx];rfl
  · show dA _=-(List.replicate 17 (0:Int)).getD 11 0
    rw [hb0];exact JA λx hx=>by rw [wE hx]
  · exact JA λx hx=>by rw [wE hx]
  · intro i r p q hr hp hq
    rw [D8 hr,D8 hp,D8 hq];rfl
theorem ZQ {m:fC}:∀ (k:Nat) {n:Nat} {i:Int} {l:List Int},i+k=(m.bZ.length:Int)->k<n->0<=i->l.length=m.bZ.length->m.bZ.length<=5->(∀ y∈l,-1<=y/\y<=288230376151711744)->Ex (λr=>r.length=m.bZ.length/\∀ y∈r,-1<=y/\y<=288230376151711744) (vN m n i l)
  | _,0,_,_,_,hn,_,_,_,_=>absurd hn (Nat.not_lt_zero _)
  | 0,n+1,i,l,hi,_,h0,hl,h5,hb=>by
    unfold vN
    exact aF (aI (λk=>absurd k (by omega)) λ_=>aD ⟨hl,hb⟩)
  | k+1,n+1,i,l,hi,hn,h0,hl,h5,hb=>by
    unfold vN
    refine aF (aI (λ_=>eT h0 (by omega) λ_ _=>aF (bE ?_)) λh=>absurd (show i<(m.bZ.length:Int) by omega) h)
    exact ZQ k (i:=i+1) (by omega) (by omega) (by omega) (by rw [List.length_set];exact hl) h5 (oG hb (by omega))
theorem aA8 {m:fC} (h:pM m):∀ (k:Nat) {n:Nat} {i:Int} {l:List aQ},i+k=m.gG->k+7<n->0<=i->(l.length:Int)=i->(∀ x∈l,Ez m x)->Ex (λr=>(r.length:Int)=m.gG/\∀ x∈r,Ez m x) (vI m n i l)
  | _,0,_,_,_,hn,_,_,_=>absurd hn (Nat.not_lt_zero _)
  | 0,n+1,i,l,hi,_,h0,hl,hb=>by
    unfold vI
    exact aF (aI (λk=>absurd k (by omega)) λ_=>aD ⟨by omega,hb⟩)
  | k+1,n+1,i,l,hi,hn,h0,hl,hb=>by
    have h3:=h.n1;have h4:=h.vL
    unfold vI
    refine aF (aI (λ_=>?_) λh=>absurd (show i<m.gG by omega) h)
    refine aU (λ(r:List aQ)=>(r.length:Int)=i+1/\∀ x∈r,Ez m x) ?_ λr hr=>bE (aA8 h k (i:=i+1) (by omega) (by omega) (by omega) hr.1 hr.2)
    refine bE (dM (aF (iR (by decide) (aF (dM (aF (dM (aF (dM (aF ?_))))))))))
    refine aU _ (ZQ (m:=m) m.bZ.length (i:=0) (by omega) (by omega) (by omega) (by simp) (by omega) (λy hy=>by rw [wE hy];decide)) λP hP=>aF (dM (aD ⟨by simp;omega,mI hb (e0 h hP.1 hP.2)⟩))
theorem aJO {m:fC} {n:Nat} (hn:66<n) (h:pM m):Ex (λr=>Inv 0 r.1/\r.1.bH=m) (BR n m):=by
  have h4:=h.vL;have h5:=h.lm
  unfold BR
  rw [aBJ hn h]
  refine x_eq rfl (aF (dJ (λk=>nomatch k) λ_=>?_))
  refine aU _ (aA8 h m.gG.toNat (i:=0) (by omega) (by omega) (by omega) rfl (λ_ h=>nomatch h)) λl hl=>aD ⟨?_,rfl⟩
  refine ⟨h,hl.1,by simp,(λ_ h=>nomatch h),(λ_ h=>nomatch h),(λ_ h=>nomatch h),by simp,by simp,by simp,?_,?_,?_,?_⟩
  · intro e x bL hx hm
    have g:=h.met bL (fE hm)
    exact .inl ((hl.2 x (fE hx)).1 bL g.1 g.2)
  · intro e x hx;rw [(hl.2 x (fE hx)).2];rfl
  · intro e x hx;rw [(hl.2 x (fE hx)).2];rfl
  · exact JA λx hx=>by unfold kH;rw [(hl.2 x hx).2,(hl.2 x hx).2];rfl
theorem SK {m:fC} {v:Int} (h:MN m):Ex (λo=>o.fA.length<=3) (zN m v):=by
  obtain ⟨h,he2⟩:=h
  have h3:=h.n1;have h4:=h.vL
  unfold zN U7
  simp only [WT.run,bS]
  refine aU _ (KE (by decide)) λk hk=>?_
  have f1:=td (a:=k) (b:=32) hk.1 (by decide)
  have f2:=tm (a:=k.tdiv 32) (b:=m.gG) f1.1 (by omega)
  have f3:=td (a:=k) (b:=128) hk.1 (by decide)
  have f4:=tm (a:=k.tdiv 128) (b:=(m.bZ.length:Int)) f3.1 (by omega)
  have f5:=td (a:=k) (b:=1024) hk.1 (by decide)
  have f6:=tm (a:=k.tdiv 1024) (b:=8) f5.1 (by decide)
  have f7:=td (a:=(k.tdiv 1024).tmod 8) (b:=7) f6.1 (by decide)
  have f8:=td (a:=k) (b:=8192) hk.1 (by decide)
  have f9:=tm (a:=k.tdiv 8192) (b:=24) f8.1 (by decide)
  have f10:=td (a:=k) (b:=196608) hk.1 (by decide)
  have f11:=tm (a:=k.tdiv 196608) (b:=900) f10.1 (by decide)
  have f12:=td (a:=k) (b:=7000000) hk.1 (by decide)
  have f13:=tm (a:=k.tdiv 7000000) (b:=12) f12.1 (by decide)
  have q0:0<=1+(k.tdiv 8192).tmod 24:=by omega
  have g1:=td (a:=1+(k.tdiv 8192).tmod 24) (b:=3) q0 (by decide)
  have g2:=td (a:=1+(k.tdiv 8192).tmod 24) (b:=6) q0 (by decide)
  have g3:=td (a:=1+(k.tdiv 8192).tmod 24) (b:=8) q0 (by decide)
  have g4:=td (a:=1+(k.tdiv 8192).tmod 24) (b:=4) q0 (by decide)
  have g5:=tm (a:=1+(k.tdiv 8192).tmod 24) (b:=3) q0 (by decide)
  have g6:=tm (a:=(k.tdiv 196608).tmod 900) (b:=m.gG-1) f11.1 (by omega)
  repeat' with_reducible first | refine bE ?_ | refine dU ?_ | apply aF | apply bF | apply dY | apply dN | apply dV | apply dZ | apply d9 | apply dO | apply dW | apply dS | refine aI (λ_=>?_) λ_=>?_ | refine dJ (λ_=>?_) λ_=>?_ | apply dB | apply bW | apply cZ | apply bJ | apply aD | refine dM ?_
  all_goals try (show List.length []<=3;exact Nat.zero_le _)
  · refine eT g5.1 g5.2 λl hl=>?_
    repeat' with_reducible first | refine bE ?_ | refine dU ?_ | apply aF | apply bF | apply dY | apply dN | apply dV | apply dZ | apply d9 | apply dO | apply dW | apply dS | refine aI (λ_=>?_) λ_=>?_ | refine dJ (λ_=>?_) λ_=>?_ | apply dB | apply bW | apply cZ | apply bJ | apply aD | refine dM ?_
    have:=fE hl
    simp only [List.mem_cons,List.not_mem_nil,or_false] at this
    rcases this with rfl | rfl | rfl <;> simp
theorem aRM {m:fC} {l:List Int} {n:Nat} (hn:200<n) (h:MN m):Ex (λr=>r.length<=120/\∀ o∈r,o.fA.length<=3) (M3 n m l):=by
  unfold M3 TQ
  simp only [WT.run,bS]
  refine aU (λ(r:List bK)=>r.length<=120/\∀ o∈r,o.fA.length<=3) (fJ (λ(v:Int×List bK)=>0<=v.1/\v.1<=120/\(v.2.length:Int)=v.1/\∀ o∈v.2,o.fA.length<=3) (λ(v:Int×List bK)=>120-v.1.toNat) ?_ (v:=(0,[])) ⟨by simp,by simp,rfl,λ_ h=>nomatch h⟩ (by simp;omega)) λr hr=>aD hr
  rintro ⟨i,r⟩ ⟨a1,a2,a3,a4⟩
  simp only at a1 a2 a3 a4
  refine bF ?_
  refine aU (λ(b:Bool)=>b=true->i<(l.length:Int)/\i<120) (aF (aI (λk=>aF (aD λk2=>⟨k,of_decide_eq_true k2⟩)) λ_=>aD (λk=>nomatch k))) λb hb=>fB (λkb=>?_) λ_=>bJ (aD ⟨by first | omega | (simp only;omega),a4⟩)
  obtain ⟨k1,k2⟩:=hb kb
  refine eT a1 k1 λx hx=>aU _ (SK h) λo ho=>aF (dM (bE (cK ⟨⟨by first | omega | (simp only;omega),by first | omega | (simp only;omega),by simp;omega,mI a4 ho⟩,by first | omega | (simp only;omega)⟩)))
theorem aLL (k:Int):Ex (λl=>l.length<=6/\(k=12->l[3]?=some 116)) (I8 k):=by
  unfold I8 aCG
  simp only [WT.run,bS]
  repeat' with_reducible first | refine bE ?_ | refine dU ?_ | apply aF | apply bF | apply dY | apply dN | apply dV | apply dZ | apply d9 | apply dO | apply dW | apply dS | refine aI (λ_=>?_) λ_=>?_ | refine dJ (λ_=>?_) λ_=>?_ | apply dB | apply bW | apply cZ | apply bJ | apply aD
  all_goals exact ⟨by simp,λh=>by first | rfl | omega⟩
theorem aS9 (o:bK):Ex (λr=>r=true->o.Kind=12->o.E≠o.To) (I9 o):=by
  unfold I9 WE
  simp only [WT.run,bS]
  repeat' with_reducible first | refine bE ?_ | refine dU ?_ | apply aF | apply bF | apply dY | apply dN | apply dV | apply dZ | apply d9 | apply dO | apply dW | apply dS | refine aI (λ_=>?_) λ_=>?_ | refine dJ (λ_=>?_) λ_=>?_ | apply dB | apply bW | apply cZ | apply bJ | apply aD
  all_goals first
    | (intro k;cases k;done)
    | (intro k h;first | omega | (have:=of_decide_eq_true k;omega))
theorem aHC {l:List Int} {n:Nat} (hn:66<n) (hl:l.length<=60):Ex (λ_=>True) (GC n l):=by
  unfold GC aDG
  simp only [WT.run,bS]
  refine aU (λ(r:Unit⊕Bool)=>True) (fJ (λ(i:Int)=>0<=i/\i<=(l.length:Int)) (λ(i:Int)=>l.length-i.toNat) ?_ (v:=0) ⟨by simp,by simp⟩ (by simp;omega)) λr _=>iZ (λ_ _=>?_) λ_ _=>trivial
  · rintro i ⟨h0,h1⟩
    refine aF (aI (λk=>?_) λk=>bJ (cK trivial))
    refine aU (λ(r:Unit⊕(Int⊕(Unit⊕Bool)))=>match r with | .inl _=>True | .inr (.inl _)=>False | .inr (.inr _)=>True) ?_ λr hr=>iZ (λ_ _=>bE (cK ⟨⟨by omega,by omega⟩,by omega⟩)) λq e=>by subst e;rcases q with q | q;exact hr.elim;trivial
    refine aU (λ_=>True) (eT h0 k λ_ _=>aF (aI (λ_=>aD trivial) λ_=>eT h0 k λ_ _=>aF (aD trivial))) λb _=>fB (λ_=>bJ (bJ (bJ (aD trivial)))) λ_=>?_
    refine aU (λ(r:Unit⊕(Unit⊕(Int⊕(Unit⊕Bool))))=>match r with | .inr (.inl _)=>False | .inr (.inr (.inl _))=>False | _=>True) (fJ (λ(j:Int)=>0<=j/\j<=i) (λ(j:Int)=>i.toNat-j.toNat) ?_ (v:=0) ⟨by simp,h0⟩ (by simp;omega)) λr hr=>iZ (λ_ _=>cK trivial) λq e=>by subst e;rcases q with q | q | q;exact hr.elim;exact hr.elim;trivial
    rintro j ⟨j0,j1⟩
    refine aF (aI (λkj=>eT j0 (by omega) λ_ _=>eT h0 k λ_ _=>aF (aI (λ_=>bJ (bJ (bJ (bJ (bJ (aD trivial)))))) λ_=>bE (cK ⟨⟨by omega,by omega⟩,by omega⟩))) λ_=>bJ (cK trivial))
  · repeat' with_reducible first | refine bE ?_ | refine dU ?_ | apply aF | apply bF | apply dY | apply dN | apply dV | apply dZ | apply d9 | apply dO | apply dW | apply dS | refine aI (λ_=>?_) λ_=>?_ | refine dJ (λ_=>?_) λ_=>?_ | apply dB | apply bW | apply cZ | apply bJ | apply aD
    all_goals trivial
def BB (o x:bK):Prop:=(x.aG=0\/(0<=o.aG/\o.aG<=1073741824/\x.aG=o.aG))/\(x.bM=0\/(0<=o.bM/\o.bM<=1125899906842624/\(o.Kind=9->o.bM<=1073741824)/\x.bM=o.bM))/\(x.Loc=0\/(0<=o.Loc/\o.Loc<=1/\x.Loc=o.Loc))
theorem aQW {o x:bK} {c:Int} {n:Nat} (hn:66<n) (hR:o.fA.length<=60) (hb:BB o x):Ex (λr=>r.2=true->BB o r.1/\(c=116->o.Kind=12->o.E≠o.To)) (KC n o x c):=by
  obtain ⟨b1,b2,b3⟩:=hb
  unfold KC X3
  simp only [WT.run,bS]
  refine aF (aI (λk=>aU (λ_=>True) ?_ λb _=>aD λ_=>⟨⟨b1,b2,b3⟩,λh=>absurd h (by omega)⟩) λk1=>?_)
  · repeat' with_reducible first | refine bE ?_ | refine dU ?_ | apply aF | apply bF | apply dY | apply dN | apply dV | apply dZ | apply d9 | apply dO | apply dW | apply dS | refine aI (λ_=>?_) λ_=>?_ | refine dJ (λ_=>?_) λ_=>?_ | apply dB | apply bW | apply cZ | apply bJ | apply aD
    all_goals trivial
  refine aF (aI (λk=>aU (λ_=>True) ?_ λb _=>aD λ_=>⟨⟨b1,b2,b3⟩,λh=>absurd h (by omega)⟩) λk2=>?_)
  · repeat' with_reducible first | refine bE ?_ | refine dU ?_ | apply aF | apply bF | apply dY | apply dN | apply dV | apply dZ | apply d9 | apply dO | apply dW | apply dS | refine aI (λ_=>?_) λ_=>?_ | refine dJ (λ_=>?_) λ_=>?_ | apply dB | apply bW | apply cZ | apply bJ | apply aD
    all_goals trivial
  refine aF (aI (λk=>aU (λ(b:Bool)=>b=true->0<=o.Loc/\o.Loc<=1) ?_ λb hb=>aD λkb=>⟨⟨b1,b2,.inr ⟨(hb kb).1,(hb kb).2,rfl⟩⟩,λh=>absurd h (by omega)⟩) λk3=>?_)
  · refine aF (aI (λ_=>aF (aD λk=>by have:=of_decide_eq_true k;omega)) λ_=>aD (λk=>nomatch k))
  refine aF (aI (λk=>aU _ (aS9 o) λb hb=>aD λkb=>⟨⟨b1,b2,b3⟩,λ_=>hb kb⟩) λk4=>?_)
  refine aF (aI (λk=>aU (λ(b:Bool)=>b=true->0<=o.aG/\o.aG<=1073741824) ?_ λb hb=>aD λkb=>⟨⟨.inr ⟨(hb kb).1,(hb kb).2,rfl⟩,b2,b3⟩,λh=>absurd h (by omega)⟩) λk5=>?_)
  · repeat' with_reducible first | refine bE ?_ | refine dU ?_ | apply aF | apply bF | apply dY | apply dN | apply dV | apply dZ | apply d9 | apply dO | apply dW | apply dS | refine aI (λ_=>?_) λ_=>?_ | refine dJ (λ_=>?_) λ_=>?_ | apply dB | apply bW | apply cZ | apply bJ | apply aD
    all_goals first
      | (intro k;cases k;done)
      | (intro k;omega)
  refine aF (aI (λk=>aU (λ(b:Bool)=>b=true->0<=o.bM/\o.bM<=1125899906842624/\(o.Kind=9->o.bM<=1073741824)) ?_ λb hb=>aD λkb=>⟨⟨b1,.inr ⟨(hb kb).1,(hb kb).2.1,(hb kb).2.2,rfl⟩,b3⟩,λh=>absurd h (by omega)⟩) λk6=>?_)
  · repeat' with_reducible first | refine bE ?_ | refine dU ?_ | apply aF | apply bF | apply dY | apply dN | apply dV | apply dZ | apply d9 | apply dO | apply dW | apply dS | refine aI (λ_=>?_) λ_=>?_ | refine dJ (λ_=>?_) λ_=>?_ | apply dB | apply bW | apply cZ | apply bJ | apply aD
    all_goals first
      | (intro k;cases k;done)
      | (intro k;omega)
  refine aF (aI (λk=>aU (λ_=>True) ?_ λb _=>aD λ_=>⟨⟨b1,b2,b3⟩,λh=>absurd h (by omega)⟩) λk7=>?_)
  · repeat' with_reducible first | refine bE ?_ | refine dU ?_ | apply aF | apply bF | apply dY | apply dN | apply dV | apply dZ | apply d9 | apply dO | apply dW | apply dS | refine aI (λ_=>?_) λ_=>?_ | refine dJ (λ_=>?_) λ_=>?_ | apply dB | apply bW | apply cZ | apply bJ | apply aD
    all_goals trivial
  exact aU _ (aHC hn hR) λb _=>aD λ_=>⟨⟨b1,b2,b3⟩,λh=>absurd h (by omega)⟩
theorem aQ7 {a b:List Int} {n:Nat} (hn:66<n) (ha:a.length<=60):Ex (λ_=>True) (rD n a b):=by
  unfold rD Q9
  simp only [WT.run,bS]
  refine aF (aI (λ_=>aD trivial) λkl=>?_)
  refine aU (λ(r:Unit⊕Bool)=>True) (fJ (λ(i:Int)=>0<=i/\i<=(a.length:Int)) (λ(i:Int)=>a.length-i.toNat) ?_ (v:=0) ⟨by simp,by simp⟩ (by simp;omega)) λr _=>iZ (λ_ _=>aD trivial) λ_ _=>trivial
  rintro i ⟨h0,h1⟩
  exact aF (aI (λk=>eT h0 k λ_ _=>eT h0 (by omega) λ_ _=>aF (aI (λ_=>bJ (bJ (aD trivial))) λ_=>bE (cK ⟨⟨by omega,by omega⟩,by omega⟩))) λ_=>bJ (cK trivial))
theorem aQP {a b:bK} {n:Nat} (hn:66<n) (ha:a.fA.length<=60):Ex (λr=>r=true->a.aG=b.aG/\a.bM=b.bM/\a.Loc=b.Loc) (KI n a b):=by
  unfold KI aDK
  simp only [WT.run,bS]
  repeat' with_reducible first | refine bE ?_ | refine dU ?_ | apply aF | apply bF | apply dY | apply dN | apply dV | apply dZ | apply d9 | apply dO | apply dW | apply dS | refine aI (λ_=>?_) λ_=>?_ | refine dJ (λ_=>?_) λ_=>?_ | apply dB | apply bW | apply cZ | apply bJ | apply aD
  all_goals try exact (λk=>by cases k;done)
  refine aU _ (aQ7 hn ha) λb _=>?_
  repeat' with_reducible first | refine bE ?_ | refine dU ?_ | apply aF | apply bF | apply dY | apply dN | apply dV | apply dZ | apply d9 | apply dO | apply dW | apply dS | refine aI (λ_=>?_) λ_=>?_ | refine dJ (λ_=>?_) λ_=>?_ | apply dB | apply bW | apply cZ | apply bJ | apply aD
  exact λ_=>⟨by assumption,by assumption,by assumption⟩
theorem TW {o:bK} {n:Nat} (hn:66<n) (hR:o.fA.length<=60):Ex (λr=>r=true->zV o) (wI n o):=by
  unfold wI aCI
  simp only [WT.run,bS]
  refine aU _ (aLL o.Kind) λh hh=>?_
  obtain ⟨h6,h12⟩:=hh
  refine aU (λ(r:bK⊕Bool)=>match r with | .inl x=>BB o x/\∀ j:Nat,j<h.length->h[j]?=some 116->o.Kind=12->o.E≠o.To | .inr b=>b=false)
    (fJ (λ(v:Int×bK)=>0<=v.1/\v.1<=(h.length:Int)/\BB o v.2/\∀ j:Nat,(j:Int)<v.1->h[j]?=some 116->o.Kind=12->o.E≠o.To) (λ(v:Int×bK)=>h.length-v.1.toNat) ?_ (v:=(0,⟨o.Kind,0,0,0,0,0,0,0,[]⟩)) ⟨by simp,by simp,⟨.inl rfl,.inl rfl,.inl rfl⟩,λj hj=>absurd hj (by simp)⟩ (by simp;omega)) λr hr=>iZ (λx e=>?_) λb e=>?_
  · rintro ⟨i,x⟩ ⟨a1,a2,a3,a4⟩
    simp only at a1 a2 a3 a4
    refine bF (aF (aI (λk=>?_) λk=>bJ (cK ⟨a3,λj hj=>a4 j ?_⟩)))
    · have k:i<(h.length:Int):=k
      refine eT a1 k λc hc=>aU _ (aQW hn hR a3) λr hr=>aF (aF (dJ (λ_=>bJ (bJ (aD rfl))) λkb=>?_))
      obtain ⟨r1,r2⟩:=hr kb
      have hc:h[i.toNat]?=some c:=hc
      refine bE (cK ⟨⟨by first | omega | (simp only;omega),by first | omega | (simp only;omega),r1,λj hj hj2=>?_⟩,by first | omega | (simp only;omega)⟩)
      have hj:(j:Int)<i+1:=hj
      by_cases hij:j=i.toNat
      · subst hij;rw [hc] at hj2;cases hj2;exact r2 rfl
      · exact a4 j (by omega) hj2
    · have k:¬ i<(h.length:Int):=k
      first | omega | (simp only;omega)
  · subst e
    obtain ⟨⟨b1,b2,b3⟩,b4⟩:=hr
    refine aF ?_
    refine aU (λ(b:Bool)=>b=true->zV o) (fB (λ_=>aU _ (aQP (b:=x) hn hR) λb hb=>aD λkb=>?_) λ_=>aD (λk=>nomatch k)) λb hb=>aD hb
    obtain ⟨s1,s2,s3⟩:=hb kb
    refine ⟨by omega,by omega,λk9=>?_,λ_=>by omega,λk12=>?_,hR⟩
    · rcases b2 with b2 | ⟨_,_,b2,_⟩
      · omega
      · exact b2 k9
    · have:=h12 k12
      exact b4 3 (List.getElem?_eq_some_iff.1 this).1 this k12
  · subst e
    have hb:b=false:=hr
    subst hb;exact λk=>nomatch k
theorem aT7 {m:fC} {l:List Int} {n:Nat} (hn:200<n) (h:MN m):Ex (λs=>Inv 1000 s) (KV n m l):=by
  unfold KV aC2
  simp only [WT.run,bS]
  refine aU _ (aJO (by omega) h.1) λs hs=>aU _ (aRM hn h) λo ho=>?_
  obtain ⟨o1,o2⟩:=ho
  refine aU (λs=>Inv 1000 s) (fJ (λ(v:Int×aA)=>0<=v.1/\v.1<=(o.length:Int)/\Inv v.1 v.2) (λ(v:Int×aA)=>o.length-v.1.toNat) ?_ (v:=(0,s.1)) ⟨by simp,by simp,hs.1⟩ (by simp;omega)) λs hs=>aD hs
  rintro ⟨i,t⟩ ⟨a1,a2,a3⟩
  simp only at a1 a2 a3
  refine bF (aF (aI (λk=>?_) λk=>bJ (aD (a3.mono (by omega)))))
  have k:i<(o.length:Int):=k
  refine eT a1 k λx hx=>aU _ (aUQ (by omega) a3 (by omega) (TW (by omega) (by have:=o2 x (fE hx);omega))) λr hr=>bE (cK ⟨⟨by first | omega | (simp only;omega),by first | omega | (simp only;omega),hr⟩,by first | omega | (simp only;omega)⟩)
set_option maxRecDepth 1000000
theorem aSV (v a b:Int):GA v a b=some (decide (a<=v/\v<=b)):=by
  unfold GA X5
  simp only [WT.run,bS]
  by_cases h1:v>=a
  · by_cases h2:v<=b
    · exact dK (a:=true) (fQ h1 (fK (fQ h2 rfl))) (by simp;omega)
    · exact dK (a:=false) (fQ h1 (fK (eU h2 rfl))) (by simp;omega)
  · exact dK (a:=false) (eU h1 (dF rfl)) (by simp;omega)
def Ln (s:aA):Prop:=∀ (e:Nat) x,s.bD[e]?=some x->x.bX.length=2*s.bH.bZ.length/\x.dQ.length=s.bH.bZ.length
theorem SS.ln {s:aA} (h:SS s):Ln s:=λe x hx=>by
  obtain ⟨bL,_,_,_,hes⟩:=h.bL hx
  exact ⟨hes.lp,hes.lr⟩
theorem FY {s:aA} (h:S0 s) (hl:Ln s) (e i:Int):AT s e i=some (decide (gY s e i)):=by
  have hf:=h.iC
  have h2:=h.len;have h3:=h.jW.lm;have h4:=h.jW.lc
  refine fH ?_
  unfold AT TY
  simp only [WT.run,bS]
  refine aU (λb=>b=true↔¬ gY s e i) ?_ λb hb=>fB (λk=>aD (decide_eq_false (hb.1 k)).symm) λk=>?_
  · unfold gY
    repeat' with_reducible first | refine bE ?_ | refine dU ?_ | apply aF | apply bF | apply dY | apply dN | apply dV | apply dZ | apply d9 | apply dO | apply dW | apply dS | refine aI (λ_=>?_) λ_=>?_ | refine dJ (λ_=>?_) λ_=>?_ | apply dB | apply bW | apply cZ | apply bJ | apply aD
    all_goals try (exact ⟨λ_=>by omega,λ_=>rfl⟩)
    rw [decide_eq_true_eq];exact ⟨λ_=>by omega,λ_=>by omega⟩
  · have ht:gY s e i:=Classical.not_not.1 λq=>by rw [hb.2 q] at k;cases k
    rw [decide_eq_true ht]
    obtain ⟨t1,t2⟩:=ht
    obtain ⟨x,hx⟩:=gY.at (s:=s) (e:=e) (i:=i) ⟨t1,t2⟩
    obtain ⟨l1,l2⟩:=hl _ _ hx
    have m1:e.toNat<s.bH.Methods.length:=by omega
    have c1:e.toNat<s.bH.gL.length:=by omega
    have em:=List.getElem?_eq_getElem m1
    have ec:=List.getElem?_eq_getElem c1
    have gm:=(h.jW.met _ (fE em)).1
    have gc:=(h.jW.cos _ (fE ec)).1
    refine dD t1.1 hx (aU (λb=>b=true) ?_ λb hb=>aD hb)
    refine bE (aF (aI (λ_=>aF (aI (λ_=>aF (aI (λ_=>aF (aI (λ_=>dD t1.1 em (aF (aI (λ_=>dD t1.1 ec (aF (aD ?_))) λk=>?_))) λk=>?_)) λk=>?_)) λk=>?_)) λk=>?_))
    · exact decide_eq_true (by omega)
    all_goals (exfalso;omega)
theorem aVY {s:aA} (h:S0 s) (hl:Ln s) (e i:Int):JK s e i=oC s e i:=by
  unfold JK WV oC PN
  simp only [WT.run,bS,FY h hl,sD h,Option.bind_some]
noncomputable def H8 (s:aA) (e i c:Int):Int:=open Classical in if gY s e i/\0<=c/\c<=1 then i*2+c else -1
theorem aGO {s:aA} (h:S0 s) (hl:Ln s) (e i c:Int):J8 s e i c=some (H8 s e i c):=by
  have hf:=h.iC
  refine fH ?_
  unfold J8 aGK H8
  simp only [WT.run,bS,FY h hl,aSV,Option.bind_some]
  refine aU (λb=>b=true↔¬ (gY s e i/\0<=c/\c<=1)) ?_ λb hb=>fB (λk=>aD (if_neg (hb.1 k)).symm) λk=>?_
  · by_cases k1:gY s e i
    · rw [decide_eq_true k1]
      refine aF (bW (aF (aD ?_)))
      by_cases k2:0<=c/\c<=1
      · rw [decide_eq_true k2];exact ⟨(λq=>nomatch q),λq=>absurd ⟨k1,k2⟩ q⟩
      · rw [decide_eq_false k2];exact ⟨λ_ q=>k2 q.2,λ_=>rfl⟩
    · rw [decide_eq_false k1];exact aF (dB (aD ⟨λ_ q=>k1 q.1,λ_=>rfl⟩))
  · have ht:gY s e i/\0<=c/\c<=1:=Classical.not_not.1 λq=>by rw [hb.2 q] at k;cases k
    rw [if_pos ht]
    obtain ⟨⟨t1,t2⟩,t3⟩:=ht
    exact bE (bE (aD rfl))
structure Beh (s:aA) (e i c:Int) (x:aQ) (m k:Int) (p q:aH) (l:aB) (r:aH×Int×Int) (a b:aH):Prop where
  s0:S0 (qD s e i c x r.1)
  ln:Ln (qD s e i c x r.1)
  th:gY (qD s e i c x r.1) e i
  en:(qD s e i c x r.1).bD[e.toNat]?=some { x with bX:=x.bX.set (2*i.toNat+c.toNat) r.1 }
  pa:(x.bX.set (2*i.toNat+c.toNat) r.1)[2*i.toNat]?=some a
  pb:(x.bX.set (2*i.toNat+c.toNat) r.1)[2*i.toNat+1]?=some b
  la:LR a.aW
  lb:LR b.aW
  ab0:-288230376151711744<=r.2.1/\r.2.1<=288230376151711744
  lv:0<=l.Value/\l.Value<=288230376151711744
noncomputable def F9 (s:aA) (e i c:Int) (x:aQ) (r:aH×aB×Bool×Int):aA×aB×Bool×Int :=
  if r.2.2.2≠0 then (s,⟨0,0,0⟩,false,r.2.2.2) else (qD s e i c x r.1,r.2.1,r.2.2.1,0)
theorem aXB {s:aA} {n:Nat} (hn:66<n) (h:SS s) {e i c k z m u:Int} {x:aQ} {p q:aH} (hs:nT s e i c x m u p q) (hz:-9223372036854775808<=z/\z<=9223372036854775807) :
    xV n s e i c k z=some (F9 s e i c x (yF m u p k z)):=by
  have hf:=h.toS0.iC
  have ht:=hs.th
  have hlc:=hs.lc
  obtain ⟨bL,m1,m2⟩:=hs.ms
  obtain ⟨cs,c1,c2⟩:=hs.cs
  obtain ⟨mts',_,_,hes⟩:=hs.es'
  have hfew:=hes.iC hf.2.2
  have e0:H8 s e i c=i*2+c:=if_pos ⟨ht,hlc⟩
  have ei:(i*2+c).toNat=2*i.toNat+c.toNat:=by have:=ht.2;omega
  have t2:=ht.2
  refine fH ?_
  unfold xV SB
  simp only [WT.run,bS,aGO h.toS0 h.ln,e0,Option.bind_some]
  refine aF (aI (λk=>?_) λ_=>?_)
  · exfalso;omega
  refine dD ht.1.1 m1 (dD ht.2.1 m2 (dD ht.1.1 c1 (dD ht.2.1 c2 (dD ht.1.1 hs.en (dD (by omega) (by rw [ei];exact hs.pp) (x_eq (aRF hn hs.io.pp hs.kk hz) (aF (aF (aI (λkz=>aD (if_pos kz).symm) λkz=>?_)))))))))
  refine aU (λr=>r=(x.fU,x.Closed,x.dR,x.dQ,x.gI,x.Down,x.fV,x.bX.set (2*i.toNat+c.toNat) (yF m u p k z).1)) ?_ λr hr=>?_
  · exact aU (λ_=>True) (dM (dD ht.1.1 hs.en (aD trivial))) λ_ _=>dD ht.1.1 hs.en (dM (dD (by omega) (by rw [ei];exact hs.pp) (aF (aD (by rw [ei])))))
  · subst hr
    refine bF (bF (bF (bF (bF (bF (bF (dD ht.1.1 hs.en (aD ?_))))))))
    unfold F9
    rw [if_neg kz];rfl
theorem aTP {s:aA} {n:Nat} (hn:66<n) (h:SS s) {e i c k z m u:Int} {x:aQ} {p q:aH} (hs:nT s e i c x m u p q) (hz:-9223372036854775808<=z/\z<=9223372036854775807) :
    oM n s e i c k z=some (F9 s e i c x (yF m u p k z)):=by
  have hf:=h.toS0.iC
  have ht:=hs.th
  have hlc:=hs.lc
  obtain ⟨bL,m1,m2⟩:=hs.ms
  obtain ⟨cs,c1,c2⟩:=hs.cs
  refine fH ?_
  unfold oM IR
  simp only [WT.run,bS,sD h.toS0,qF,Option.bind_some]
  rw [decide_eq_true ht,decide_eq_true (p:=0<=c/\c<=1) hlc]
  refine aU (λz=>z=false) (aF (bW (aF (aD rfl)))) λz hz=>?_
  subst hz
  refine bW (dD ht.1.1 m1 (dD ht.2.1 m2 (dD ht.1.1 c1 (dD ht.2.1 c2 (x_eq (pX h.toS0 ht hlc hs.en hs.pp) (x_eq (aPG hn hs.io.pp hs.kk (by assumption)) (aF (aF (aI (λkz=>aD (if_pos kz).symm) λkz=>x_eq (xK h hs) (aD ?_))))))))))
  unfold F9
  rw [if_neg kz];rfl
theorem aWJ {s:aA} {n:Nat} (hn:66<n) (h:SS s) {e i c k z:Int} (hz:-9223372036854775808<=z/\z<=9223372036854775807):xV n s e i c k z=oM n s e i c k z:=by
  by_cases w:gY s e i/\0<=c/\c<=1
  · obtain ⟨x,m,u,p,q,hs⟩:=h.spot w.1 w.2
    rw [aXB hn h hs hz,aTP hn h hs hz]
  · have e1:xV n s e i c k z=some (s,⟨0,0,0⟩,false,4):=by
      refine fH ?_
      unfold xV SB
      simp only [WT.run,bS,aGO h.toS0 h.ln,show H8 s e i c=-1 from if_neg w,Option.bind_some]
      exact aF (aI (λ_=>aD rfl) λz=>absurd (by decide) z)
    have e2:oM n s e i c k z=some (s,⟨0,0,0⟩,false,4):=by
      refine fH ?_
      unfold oM IR
      simp only [WT.run,bS,sD h.toS0,qF,Option.bind_some]
      refine aU (λz=>z=true) ?_ λz hz=>by subst hz;exact dB (aD rfl)
      by_cases k1:gY s e i
      · rw [decide_eq_true k1,decide_eq_false (p:=0<=c/\c<=1) λz=>w ⟨k1,z⟩]
        exact aF (bW (aF (aD rfl)))
      · rw [decide_eq_false k1];exact aF (dB (aD rfl))
    rw [e1,e2]
def lK (l:List aN):Prop:=l.Pairwise λa b=>a.dI<b.dI
theorem U4:∀ {a b:List aN},lK a->lK b->(∀ y,y∈a↔y∈b)->a=b
  | [],[],_,_,_=>rfl
  | [],y :: b,_,_,h=>absurd ((h y).2 (List.mem_cons_self ..)) (by simp)
  | x :: a,[],_,_,h=>absurd ((h x).1 (List.mem_cons_self ..)) (by simp)
  | x :: a,y :: b,ha,hb,h=>by
    have ha':=List.pairwise_cons.1 ha
    have hb':=List.pairwise_cons.1 hb
    have e:x=y:=by
      rcases List.mem_cons.1 ((h x).1 (List.mem_cons_self ..)) with e | hm
      · exact e
      · rcases List.mem_cons.1 ((h y).2 (List.mem_cons_self ..)) with e | hm2
        · exact e.symm
        · have:=hb'.1 x hm;have:=ha'.1 y hm2;omega
    subst e
    rw [U4 ha'.2 hb'.2 λz=>?_]
    constructor
    · intro hz
      rcases List.mem_cons.1 ((h z).1 (List.mem_cons_of_mem _ hz)) with e | hm
      · subst e;have:=ha'.1 z hz;omega
      · exact hm
    · intro hz
      rcases List.mem_cons.1 ((h z).2 (List.mem_cons_of_mem _ hz)) with e | hm
      · subst e;have:=hb'.1 z hz;omega
      · exact hm
theorem aJK {x:aN} {R:List aN} {f:Int×List aN->Option ((Int×List aN)⊕List aN)}
    (hz:∀ l,f (0,l)=some (.inr l)) (hs:∀ (A:List aN) y T,A.length<=40->f ((A.length:Int)+1,A++y :: x :: T)=some (if x.dI<y.dI then .inl ((A.length:Int),A++x :: y :: T) else .inr (A++y :: x :: T))) :
    ∀ {n:Nat} {A B:List aN},A.length<n->A.length<=40->lK (A++B)->(∀ y∈A++B,y.dI≠x.dI)->(∀ b∈B,x.dI<b.dI) ->
      Ex (λr=>∃ S,r=S++R/\lK S/\S.Perm (A++B++[x])) (iter f n ((A.length:Int),A++x :: (B++R))):=by
  intro n
  induction n with
  | zero=>intro A B hn;exact absurd hn (Nat.not_lt_zero _)
  | succ n ih =>
    intro A B hn h40 hS hne hB
    show Ex _ ((f _).bind _)
    rcases List.eq_nil_or_concat A with rfl | ⟨A',y,rfl⟩
    · rw [show ((([]:List aN).length:Int))=0 from rfl,hz]
      refine ⟨_,rfl,x :: B,rfl,?_,?_⟩
      · exact List.pairwise_cons.2 ⟨hB,hS⟩
      · exact (List.perm_append_singleton x B).symm
    · have el:((A'++[y]).length:Int)=(A'.length:Int)+1:=by simp
      have ea:A'++[y]++x :: (B++R)=A'++y :: x :: (B++R):=by simp
      have hl':A'.length<=40:=by simp at h40;omega
      rw [List.concat_eq_append] at *
      rw [el,ea,hs A' y (B++R) hl']
      by_cases k:x.dI<y.dI
      · rw [if_pos k]
        have e2:A'++x :: y :: (B++R)=A'++x :: ((y :: B)++R):=rfl
        show Ex _ (iter f n _)
        rw [e2]
        have e3:A'++[y]++B=A'++(y :: B):=by simp
        rw [e3] at hS hne ⊢
        exact ih (by simp at hn;omega) hl' hS hne λb hb=>by
          rcases List.mem_cons.1 hb with rfl | hb
          · exact k
          · exact hB b hb
      · rw [if_neg k]
        have hy:y.dI<x.dI:=by have:=hne y (by simp);omega
        refine ⟨_,rfl,A'++[y]++x :: B,by simp,?_,?_⟩
        · have hS2:lK (A'++[y]++B):=hS
          unfold lK at hS2 ⊢
          rw [List.pairwise_append] at hS2 ⊢
          refine ⟨hS2.1,List.pairwise_cons.2 ⟨hB,hS2.2.1⟩,λa ha b hb=>?_⟩
          have hax:a.dI<=y.dI:=by
            rcases List.mem_append.1 ha with h1 | h1
            · have:=(List.pairwise_append.1 hS2.1).2.2 a h1 y (by simp);omega
            · rw [List.mem_singleton.1 h1];omega
          rcases List.mem_cons.1 hb with rfl | hb
          · omega
          · exact hS2.2.2 a ha b hb
        · have:(A'++[y]++x :: B).Perm (A'++[y]++(B++[x])):=List.Perm.append_left _ (List.perm_append_singleton x B).symm
          rw [<- List.append_assoc] at this
          exact this
theorem aHB (a:Int):C7 a=some false:=by
  unfold C7 aF2
  simp only [WT.run,bS]
  exact eU (λk=>k rfl) rfl
theorem aU1 (a b:Int):Ex (λr=>r<0↔a<b) (GD a b):=by
  unfold GD YK
  simp only [WT.run,bS,aHB,Option.bind_some]
  refine bW (bW (aF (aI (λk=>aD ⟨λ_=>k,λ_=>by decide⟩) λk=>aF (aI (λ_=>aD ⟨λq=>absurd q (by decide),λq=>absurd q k⟩) λ_=>aD ⟨λq=>absurd q (by decide),λq=>absurd q k⟩))))
theorem aEN {α:Type} (A:List α) (x:α) (T:List α):(A++x :: T)[A.length]?=some x:=by simp
theorem aMN {α:Type} (A:List α) (y x:α) (T:List α):(A++y :: x :: T)[A.length+1]?=some x:=by
  rw [List.getElem?_append_right (by omega)];simp
theorem US {α:Type}:∀ (A:List α) (y x:α) (T:List α),((A++y :: x :: T).set (A.length+1) y).set A.length x=A++x :: y :: T
  | [],_,_,_=>rfl
  | a :: A,y,x,T=>by
    have:=US A y x T
    simp only [List.cons_append,List.length_cons,List.set_cons_succ,this]
theorem aAH (a:Int):DK a=some (decide (0<=a/\a<17)):=by
  unfold DK aF1
  simp only [WT.run,bS]
  by_cases h1:a>=0
  · by_cases h2:a<17
    · exact dK (a:=true) (fQ h1 (fK (fQ h2 rfl))) (by simp;omega)
    · exact dK (a:=false) (fQ h1 (fK (eU h2 rfl))) (by simp;omega)
  · exact dK (a:=false) (eU h1 (dF rfl)) (by simp;omega)
theorem aDH (a:Int):CZ a=some (decide (bQ a)):=by
  unfold CZ aBP
  simp only [WT.run,bS]
  by_cases h1:a>=-288230376151711744
  · by_cases h2:a<=288230376151711744
    · exact dK (a:=true) (fQ h1 (fK (fQ h2 rfl))) (congrArg some (decide_eq_true (p:=bQ a) ⟨h1,h2⟩).symm)
    · exact dK (a:=false) (fQ h1 (fK (eU h2 rfl))) (congrArg some (decide_eq_false (p:=bQ a) λq=>h2 q.2).symm)
  · exact dK (a:=false) (eU h1 (dF rfl)) (congrArg some (decide_eq_false (p:=bQ a) λq=>h1 q.1).symm)
theorem aKQ (x:aN):Ex (λr=>r=true↔¬ iP x) (MW x):=by
  unfold MW V5 iP
  simp only [WT.run,bS,aAH,aDH,Option.bind_some]
  refine aU (λb=>b=true↔¬ ((0<=x.dI/\x.dI<17)/\bQ x.bM)) ?_ λb hb=>aD hb
  by_cases k1:0<=x.dI/\x.dI<17
  · rw [decide_eq_true k1]
    refine aF (bW (aF (aD ?_)))
    by_cases k2:bQ x.bM
    · rw [decide_eq_true k2];exact ⟨(λq=>nomatch q),λq=>absurd ⟨k1,k2⟩ q⟩
    · rw [decide_eq_false k2];exact ⟨λ_ q=>k2 q.2,λ_=>rfl⟩
  · rw [decide_eq_false k1];exact aF (dB (aD ⟨λ_ q=>k1 q.1,λ_=>rfl⟩))
def VA (l:List aN) (r:List aN×Int):Prop:=r.2=0/\lK r.1/\∀ y,y∈r.1↔y∈l/\y.bM≠0
theorem IX {l:List aN} {n:Nat} (hn:66<n) (hl:l.length<=19) (hd:(l.map (·.dI)).Nodup) :
    Ex (λr=>((∀ x∈l,iP x)->VA l r)/\((¬ ∀ x∈l,iP x)->r=([],1))) (vU n l):=by
  obtain ⟨n',hn'⟩:∃ m,n=m+1:=⟨n-1,by omega⟩
  unfold vU aGC
  simp only [WT.run,bS]
  refine aU (λb=>b=true↔¬ ∀ x∈l,iP x) (aU (λ(v:Int)=>v>=0↔¬ ∀ x∈l,iP x) ?_ λv hv=>aF (aD (by simpa using hv))) λb hb=>?_
  · refine aU (λ(r:Unit⊕Int)=>match r with | .inl _=>∀ x∈l,iP x | .inr v=>v>=0/\¬ ∀ x∈l,iP x)
      (fJ (λ(v:Int)=>0<=v/\v<=(l.length:Int)/\((∀ x∈l.drop v.toNat,iP x)->∀ x∈l,iP x)) (λ(v:Int)=>l.length-v.toNat) ?_ (v:=0) (by simp) (by simp;omega)) λr hr=>iZ (λa e=>?_) λb e=>?_
    · rintro i ⟨h0,h1,h2⟩
      refine aF (aI (λh=>?_) λh=>?_)
      · refine eT h0 h λx hx=>aU _ (aKQ x) λb hb=>fB (λk=>bJ (bJ (aD ⟨h0,λhh=>hb.1 k (hh x (fE hx))⟩))) λk=>bE (cK ⟨⟨by omega,by omega,λhh=>h2 λy hy=>?_⟩,by omega⟩)
        have e:(i+1).toNat=i.toNat+1:=by omega
        rw [e] at hh
        rw [(drop_at hx).2] at hy
        rcases List.mem_cons.1 hy with rfl | hy
        · exact Classical.not_not.1 λq=>by rw [hb.2 q] at k;cases k
        · exact hh y hy
      · refine bJ (cK (h2 λx hx=>?_))
        rw [List.drop_eq_nil_of_le (by omega)] at hx;cases hx
    · subst e;exact aD ⟨λk=>absurd k (by decide),λk=>absurd hr k⟩
    · subst e;exact ⟨λ_=>hr.2,λ_=>hr.1⟩
  refine fB (λk=>aD ⟨λq=>absurd q (hb.1 k),λ_=>rfl⟩) λk=>dM ?_
  have hk:∀ x∈l,iP x:=Classical.not_not.1 λq=>by rw [hb.2 q] at k;cases k
  refine aU (λ(r:List aN)=>lK r/\r.Perm l) (aU (λ(r:List aN)=>lK r/\r.Perm l) (aU (λ(r:List aN)=>lK r/\r.Perm l) (aU (λ_=>True) ?_ λ_ _=>aU (λ(r:List aN)=>lK r/\r.Perm l) (aU (λ(r:List aN)=>lK r/\r.Perm l) ?_ λy hy=>aD hy) λy hy=>iR hy.2.length_eq (aU (λ_=>True) ?_ λ_ _=>aD hy)) λy hy=>aD hy) λy hy=>aD hy) λs hs=>?_
  · exact fJ (λ_=>True) (λ_=>0) (λv _=>aF (iR (decide_eq_false (by omega)) (bJ (aD trivial)))) trivial (by omega)
  rotate_left
  · exact fJ (λ_=>True) (λ_=>0) (λv _=>aF (iR (decide_eq_false (by omega)) (bJ (aD trivial)))) trivial (by omega)
  · have hsl:=hs.2.length_eq
    refine iR hsl ?_
    refine aU (λ(r:List aN⊕(List aN×Int))=>r=.inl s) (fJ (λ(v:Int×List aN)=>0<=v.1/\v.1<=(s.length:Int)/\v.2=s.take v.1.toNat) (λv=>s.length-v.1.toNat) ?_ (v:=(0,[])) (by simp) (by simp;omega)) λr hr=>?_
    · rintro ⟨i,acc⟩ ⟨h0,h1,h2⟩
      simp only at h0 h1 h2
      subst h2
      refine bF (aF (aI (λh=>?_) λh=>?_))
      · have hx:=List.getElem?_eq_getElem (l:=s) (i:=i.toNat) (by omega)
        generalize s[i.toNat]'(by omega)=x at hx
        have ei:(i+1).toNat=i.toNat+1:=by omega
        have hal:(s.take i.toNat).length=i.toNat:=by rw [List.length_take];omega
        refine aU (λr=>r=.inl (s.take (i.toNat+1))) (dD h0 hx (gU (by rw [hal];omega) ?_)) λr hr=>?_
        · refine aU (λb=>b=false) ?_ λb hb=>?_
          · refine aF (aI (λq=>?_) λ_=>aD rfl)
            rw [hal] at q
            have hy:=List.getElem?_eq_getElem (l:=s) (i:=i.toNat-1) (by omega)
            generalize hyy:s[i.toNat-1]'(by omega)=y at hy
            have hlt:y.dI<x.dI:=by
              have e1:s=s.take i.toNat++x :: s.drop (i.toNat+1):=by rw [<- (drop_at hx).2,List.take_append_drop]
              have hss:=hs.1
              unfold lK at hss
              rw [e1,List.pairwise_append] at hss
              refine hss.2.2 y ?_ x (by simp)
              refine List.mem_of_getElem? (i:=i.toNat-1) ?_
              rw [List.getElem?_take_of_lt (by omega)];exact hy
            rw [hal]
            refine dD (a:=y) (by omega) ?_ (aF (aD (decide_eq_false (by omega))))
            rw [List.getElem?_take_of_lt (by omega),show ((i.toNat:Nat):Int)-1=i-1 by omega,show (i-1).toNat=i.toNat-1 by omega];exact hy
          · subst hb
            refine bW (aF (dM (cK ?_)))
            have:=take_at (f:=id) hx
            simp only [List.map_id,id] at this
            rw [this]
        · subst hr
          exact cZ (bE (cK ⟨⟨by simp only;omega,by simp only;omega,by simp only [ei]⟩,by simp only;omega⟩))
      · refine bJ (cK ?_)
        show _=_
        rw [List.take_of_length_le (by omega)]
    · subst hr
      refine cZ ?_
      refine aU (λ(a:Nat×Nat×List aN)=>a.1+a.2.1<=a.2.2.length/\(a.2.2.drop a.1).take a.2.1=s.filter (λz=>decide (z.bM≠0))) ?_ λa ha=>bF (bF (iR ha.1 (aD ⟨λ_=>⟨rfl,?_,?_⟩,λq=>absurd hk q⟩)))
      · refine aU (λ(v:Int)=>(v=-1/\∀ z∈s,z.bM≠0)\/(0<=v/\v<(s.length:Int)/\(∀ z∈s.take v.toNat,z.bM≠0)/\∃ z,s[v.toNat]?=some z/\z.bM=0)) ?_ λv hv=>?_
        · refine aU (λ(r:Unit⊕Int)=>match r with | .inl _=>∀ z∈s,z.bM≠0 | .inr v=>0<=v/\v<(s.length:Int)/\(∀ z∈s.take v.toNat,z.bM≠0)/\∃ z,s[v.toNat]?=some z/\z.bM=0)
            (fJ (λ(v:Int)=>0<=v/\v<=(s.length:Int)/\∀ z∈s.take v.toNat,z.bM≠0) (λ(v:Int)=>s.length-v.toNat) ?_ (v:=0) (by simp) (by simp;omega)) λr hr=>iZ (λa e=>?_) λb e=>?_
          · rintro i ⟨h0,h1,h2⟩
            refine aF (aI (λh=>eT h0 h λx hx=>x_eq (a:=decide (x.bM=0)) rfl (aI (λk=>bJ (bJ (aD ⟨h0,h,h2,x,hx,k⟩))) λk=>bE (cK ⟨⟨by omega,by omega,λz hz=>?_⟩,by omega⟩))) λh=>bJ (cK λz hz=>?_))
            · rw [show (i+1).toNat=i.toNat+1 by omega,List.take_add_one,hx] at hz
              rcases List.mem_append.1 hz with hz | hz
              · exact h2 z hz
              · have:z=x:=by simpa using hz
                rw [this];exact k
            · rw [List.take_of_length_le (by omega)] at h2;exact h2 z hz
          · subst e;exact aD (.inl ⟨rfl,hr⟩)
          · subst e;exact .inr hr
        · refine aF (aI (λk=>aD ⟨by simp,?_⟩) λk=>?_)
          · rcases hv with ⟨_,hv⟩ | ⟨q,_⟩
            · simp only [List.drop_zero,List.take_length]
              exact (List.filter_eq_self.2 λz hz=>decide_eq_true (hv z hz)).symm
            · exfalso;omega
          · rcases hv with ⟨q,_⟩ | ⟨v0,v1,v2,z0,v3,v4⟩
            · exact absurd q k
            refine bE (aU (λ(r:Int×List aN)=>0<=r.1/\r.1<(r.2.length:Int)/\r.2.length=s.length/\r.2.take r.1.toNat=s.filter (λz=>decide (z.bM≠0)))
              (fJ (λ(u:Int×Int×List aN)=>0<=u.1/\u.1<u.2.1/\u.2.1<=(s.length:Int)/\u.2.2.length=s.length/\u.2.2.take u.1.toNat=(s.take u.2.1.toNat).filter (λz=>decide (z.bM≠0))/\u.2.2.drop u.2.1.toNat=s.drop u.2.1.toNat) (λu=>s.length-u.2.1.toNat) ?_ (v:=(v,v+1,s)) ⟨v0,by simp only;omega,by simp only;omega,rfl,?_,rfl⟩ (by simp only;omega)) λr hr=>bF (iR ⟨hr.1,hr.2.1⟩ (aF (iR ⟨hr.1,by omega⟩ (aD ⟨?_,?_⟩)))))
            · rintro ⟨w,j,L⟩ ⟨h0,h1,h2,h3,h4,h5⟩
              simp only at h0 h1 h2 h3 h4 h5
              refine bF (bF (aF (aI (λh=>?_) λh=>?_)))
              · have h:j<(L.length:Int):=h
                have hx:=List.getElem?_eq_getElem (l:=s) (i:=j.toNat) (by omega)
                generalize s[j.toNat]'(by omega)=x at hx
                have hxL:L[j.toNat]?=some x:=by
                  have e1:(L.drop j.toNat)[0]?=(s.drop j.toNat)[0]?:=by rw [h5]
                  rw [List.getElem?_drop,List.getElem?_drop,Nat.add_zero] at e1
                  rw [e1];exact hx
                have ej:(j+1).toNat=j.toNat+1:=by omega
                have ew:(w+1).toNat=w.toNat+1:=by omega
                have d5:L.drop (j.toNat+1)=s.drop (j.toNat+1):=by
                  have:=congrArg (List.drop 1) h5
                  rwa [List.drop_drop,List.drop_drop] at this
                have f5:(s.take (j.toNat+1)).filter (λz=>decide (z.bM≠0))=(s.take j.toNat).filter (λz=>decide (z.bM≠0))++[x].filter (λz=>decide (z.bM≠0)):=by
                  rw [List.take_add_one,hx,List.filter_append];rfl
                refine aU (λ(r:Int×List aN)=>0<=r.1/\r.1<j+1/\r.2.length=s.length/\r.2.take r.1.toNat=(s.take (j.toNat+1)).filter (λz=>decide (z.bM≠0))/\r.2.drop (j.toNat+1)=s.drop (j.toNat+1)) ?_ λr hr=>bF (gU (by have:=hr.2.1;have:=hr.1;first | omega | (simp only;omega)) (cK ⟨⟨hr.1,hr.2.1,by simp only;omega,hr.2.2.1,by simp only [ej];exact hr.2.2.2.1,by simp only [ej];exact hr.2.2.2.2⟩,by simp only;omega⟩))
                refine dD (show 0<=j by omega) hxL (x_eq (a:=decide (x.bM=0)) rfl (aF ?_))
                by_cases q:x.bM=0
                · rw [decide_eq_true q]
                  refine bW (aD ⟨h0,by simp only;omega,h3,?_,d5⟩)
                  rw [f5,h4];simp [q]
                · rw [decide_eq_false q]
                  have hwL:=List.getElem?_eq_getElem (l:=L) (i:=w.toNat) (by omega)
                  refine dB (dD h0 hwL (aF (bE (aD ⟨by simp only;omega,by simp only;omega,by simp only [List.length_set];exact h3,?_,?_⟩))))
                  · simp only [ew]
                    rw [f5,List.take_add_one,List.getElem?_set_self (by omega),List.take_set_of_le (by omega),h4];simp [q]
                  · simp only
                    rw [List.drop_set_of_lt (by omega)];exact d5
              · have h:¬ j<(L.length:Int):=h
                refine bJ (aD ⟨h0,by simp only;omega,h3,?_⟩)
                simp only
                rw [h4,List.take_of_length_le (by omega)]
            · simp only
              rw [show (v+1).toNat=v.toNat+1 by omega,List.take_add_one,v3,List.filter_append]
              have e1:(s.take v.toNat).filter (λz=>decide (z.bM≠0))=s.take v.toNat:=List.filter_eq_self.2 λz hz=>decide_eq_true (v2 z hz)
              rw [e1];simp [v4]
            · simp;omega
            · simp only [Nat.zero_add,Nat.sub_zero,List.drop_zero,List.take_take,Nat.min_self];exact hr.2.2.2
      · simp only [ha.2]
        exact List.Pairwise.filter _ hs.1
      · intro y
        simp only [ha.2]
        rw [List.mem_filter,hs.2.mem_iff,decide_eq_true_eq]
  · refine fJ (λ(v:Int×List aN)=>1<=v.1/\∃ S,v.2=S++l.drop v.1.toNat/\lK S/\S.Perm (l.take v.1.toNat)) (λv=>l.length-v.1.toNat) ?_ (v:=(1,l)) ⟨by simp,l.take 1,by show l=l.take 1++l.drop 1;rw [List.take_append_drop],?_,List.Perm.refl _⟩ (by simp;omega)
    · rintro ⟨i,L⟩ ⟨h0,S,h1,h2,h3⟩
      simp only at h0 h1 h2 h3
      subst h1
      refine bF (aF (aI (λh=>?_) λh=>?_))
      · have hx:=List.getElem?_eq_getElem (l:=l) (i:=i.toNat) (by omega)
        generalize l[i.toNat]'(by omega)=x at hx
        have hsl:S.length=i.toNat:=by rw [h3.length_eq,List.length_take];omega
        have ei:(i+1).toNat=i.toNat+1:=by omega
        have hne:∀ y∈S,y.dI≠x.dI:=by
          intro y hy e
          have hy:=h3.mem_iff.1 hy
          have e1:l=l.take i.toNat++x :: l.drop (i.toNat+1):=by rw [<- (drop_at hx).2,List.take_append_drop]
          rw [e1,List.map_append,List.map_cons] at hd
          exact (List.nodup_append.1 hd).2.2 _ (List.mem_map_of_mem hy) x.dI (by simp) e
        have fin:∀ S':List aN,S'.Perm (S++[x])->S'.Perm (l.take (i.toNat+1)):=λS' hp=>by
          rw [List.take_add_one,hx]
          exact hp.trans (List.Perm.append_right _ h3)
        rw [(drop_at hx).2]
        refine aU (λr=>∃ S',r=S'++l.drop (i.toNat+1)/\lK S'/\S'.Perm (S++[x])) (aU (λr=>∃ S',r=S'++l.drop (i.toNat+1)/\lK S'/\S'.Perm (S++[x])) ?_ λy hy=>aD hy) λy hy=>?_
        · have:=aJK (x:=x) (R:=l.drop (i.toNat+1)) (n:=n) (A:=S) (B:=[]) (f:=?f) ?_ ?_ (by omega) (by omega) (by simpa using h2) (by simpa using hne) (by simp)
          · rw [show ((S.length:Nat):Int)=i by omega] at this
            simpa using this
          · intro z
            refine fH (bF (aU (λb=>b=false) (aF (aI (λh=>absurd h (show ¬ (0:Int)>0 by decide)) λ_=>aD rfl)) λb hb=>?_))
            subst hb;exact bW (bJ (aD rfl))
          · intro A y T hA
            have i1:((A.length:Int)+1).toNat=A.length+1:=by omega
            have i2:((A.length:Int)+1-1).toNat=A.length:=by omega
            have g1:(A++y :: x :: T)[((A.length:Int)+1).toNat]?=some x:=by rw [i1];exact aMN A y x T
            have g2:(A++y :: x :: T)[((A.length:Int)+1-1).toNat]?=some y:=by rw [i2];exact aEN A y (x :: T)
            refine fH (bF (aU (λb=>b=true↔x.dI<y.dI) ?_ λb hb=>?_))
            · refine aF (aI (λ_=>dD (by omega) g1 (bE (dD (by omega) g2 (aU (λv=>v<0↔x.dI<y.dI) ?_ λv hv=>aF (aD ?_))))) λk=>?_)
              · exact x_eq (a:=x.dI) rfl (x_eq (a:=y.dI) rfl (aU1 _ _))
              · rw [decide_eq_true_eq];exact hv
              · exfalso;omega
            · refine fB (λk=>?_) λk=>bJ (aD ?_)
              · rw [if_pos (hb.1 k)]
                refine bE (bE (dD (by omega) g2 (dD (by omega) g1 (aF (dD (a:=y) (by omega) ?_ (aF (bE (cK ?_))))))))
                · rw [i1,i2,List.getElem?_set_ne (by omega)];exact aEN A y (x :: T)
                · rw [i1,i2,US,show ((A.length:Int)+1-1)=(A.length:Int) by omega]
              · rw [if_neg λq=>by rw [hb.2 q] at k;cases k]
        · obtain ⟨S',rfl,q1,q2⟩:=hy
          exact bE (cK ⟨⟨by simp only;omega,S',by simp only [ei],q1,by simp only [ei];exact fin S' q2⟩,by simp only;omega⟩)
      · refine bJ (aD ?_)
        rw [List.drop_eq_nil_of_le (by omega),List.append_nil]
        rw [List.take_of_length_le (by omega)] at h3
        exact ⟨h2,h3⟩
    · cases l with
      | nil=>exact List.Pairwise.nil
      | cons a r=>exact List.pairwise_singleton _ _
end Go.Pv
