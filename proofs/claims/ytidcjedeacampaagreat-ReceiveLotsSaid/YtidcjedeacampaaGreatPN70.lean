/- States by numbers: all agrees. -/
import Derived.Test.YtidcjedeacampaaGreatPM70
set_option linter.unusedVariables false
set_option linter.unusedSimpArgs false
namespace Go.Pv
open Go.Proofs
set_option maxRecDepth 100000
set_option maxHeartbeats 1000000
def Ez (m:fM) (x:aP):Prop:=(∀ bH:List Int,bH.length=m.bW.length->(∀ y∈bH,1<=y/\y<=4)->EO m bH x)/\(∀ a,bl x a=0)
theorem yV {α:Type} {n:Nat} {a x:α} (h:x∈List.replicate n a):x=a:=List.eq_of_mem_replicate h
theorem EA {α:Type} {n k:Nat} {a x:α} (h:(List.replicate n a)[k]?=some x):x=a:=yV (fO h)
theorem e0 {m:fM} (h:qL m) {P:List Int} (hP:P.length=m.bW.length) (hb:∀ y∈P,-1<=y/\y<=288230376151711744):Ez m ⟨1,false,List.replicate ((m.bW.length:Int)*2).toNat ⟨[],⟨0,0,0⟩⟩,List.replicate 17 0,List.replicate ((m.bW.length:Int)).toNat ⟨0,0,0,0,0,0,0,0,0,0,0⟩,P,List.replicate ((m.bW.length:Int)).toNat 0,[]⟩:=by
  have hp:=h.iZ
  have hb0:∀ a,(List.replicate 17 (0:Int)).getD a 0=0:=by
    intro a;rw [List.getD_eq_getElem?_getD,List.getElem?_replicate];split <;> rfl
  have hio:∀ mt:Int,1<=mt/\mt<=4->IO mt ⟨[],⟨0,0,0⟩⟩ ⟨[],⟨0,0,0⟩⟩:=by
    intro mt h
    have pr:PR mt ⟨[],⟨0,0,0⟩⟩:=⟨h,aSQ,λ_=>by simp,by simp,by simp,by simp,by simp [tQ],λ_=>⟨rfl,rfl,rfl⟩⟩
    exact ⟨pr,pr,by simp [tQ],by simp [tS]⟩
  refine ⟨λbH h1 h2=>⟨⟨by simp only;omega,by simp;omega,by simp,by simp,hP,by simp,h1,?_,hb,?_,?_,?_⟩,⟨?_,?_,?_,?_⟩,rfl,rfl⟩,hb0⟩
  · intro b hb;rw [yV hb];decide
  · intro b hb;rw [yV hb];decide
  · intro i mt p q hm hp hq
    rw [EA hp,EA hq];exact hio mt (h2 _ (fO hm))
  · intro r hr;rw [yV hr];unfold y9 bN;simp
  · show sV _=(List.replicate 17 (0:Int)).getD 0 0
    rw [hb0];exact MC λx hx=>by rw [yV hx];rfl
  · show cZ _=-(List.replicate 17 (0:Int)).getD 11 0
    rw [hb0];exact MC λx hx=>by rw [yV hx]
  · exact MC λx hx=>by rw [yV hx]
  · intro i r p q hr hp hq
    rw [EA hr,EA hp,EA hq];rfl
theorem T6 {m:fM}:∀ (k:Nat) {n:Nat} {i:Int} {l:List Int},i+k=(m.bW.length:Int)->k<n->0<=i->l.length=m.bW.length->m.bW.length<=5->(∀ y∈l,-1<=y/\y<=288230376151711744)->Ex (λr=>r.length=m.bW.length/\∀ y∈r,-1<=y/\y<=288230376151711744) (yQ m n i l)
  | _,0,_,_,_,hn,_,_,_,_=>absurd hn (Nat.not_lt_zero _)
  | 0,n+1,i,l,hi,_,h0,hl,h5,hb=>by
    unfold yQ
    exact aD (aQ (λk=>absurd k (by omega)) λ_=>aG ⟨hl,hb⟩)
  | k+1,n+1,i,l,hi,hn,h0,hl,h5,hb=>by
    unfold yQ
    refine aD (aQ (λ_=>eZ h0 (by omega) λ_ _=>aD (bG ?_)) λh=>absurd (show i<(m.bW.length:Int) by omega) h)
    exact T6 k (i:=i+1) (by omega) (by omega) (by omega) (by rw [List.length_set];exact hl) h5 (p8 hb (by omega))
theorem XI {m:fM} (h:qL m):∀ (k:Nat) {n:Nat} {i:Int} {l:List aP},i+k=m.gG->k+7<n->0<=i->(l.length:Int)=i->(∀ x∈l,Ez m x)->Ex (λr=>(r.length:Int)=m.gG/\∀ x∈r,Ez m x) (xK m n i l)
  | _,0,_,_,_,hn,_,_,_=>absurd hn (Nat.not_lt_zero _)
  | 0,n+1,i,l,hi,_,h0,hl,hb=>by
    unfold xK
    exact aD (aQ (λk=>absurd k (by omega)) λ_=>aG ⟨by omega,hb⟩)
  | k+1,n+1,i,l,hi,hn,h0,hl,hb=>by
    have h3:=h.n1;have h4:=h.xE
    unfold xK
    refine aD (aQ (λ_=>?_) λh=>absurd (show i<m.gG by omega) h)
    refine aW (λ(r:List aP)=>(r.length:Int)=i+1/\∀ x∈r,Ez m x) ?_ λr hr=>bG (XI h k (i:=i+1) (by omega) (by omega) (by omega) hr.1 hr.2)
    refine bG (dO (aD (jX (by decide) (aD (dO (aD (dO (aD (dO (aD ?_))))))))))
    refine aW _ (T6 (m:=m) m.bW.length (i:=0) (by omega) (by omega) (by omega) (by simp) (by omega) (λy hy=>by rw [yV hy];decide)) λP hP=>aD (dO (aG ⟨by simp;omega,nE hb (e0 h hP.1 hP.2)⟩))
theorem aF7 {m:fM} {n:Nat} (hn:66<n) (h:qL m):Ex (λr=>Inv 0 r.1/\r.1.bF=m) (BK n m):=by
  have h4:=h.xE;have h5:=h.lm
  unfold BK
  rw [aAW hn h]
  refine x_eq rfl (aD (dK (λk=>nomatch k) λ_=>?_))
  refine aW _ (XI h m.gG.toNat (i:=0) (by omega) (by omega) (by omega) rfl (λ_ h=>nomatch h)) λl hl=>aG ⟨?_,rfl⟩
  refine ⟨h,hl.1,by simp,(λ_ h=>nomatch h),(λ_ h=>nomatch h),(λ_ h=>nomatch h),by simp,by simp,by simp,?_,?_,?_,?_⟩
  · intro e x bH hx hm
    have g:=h.met bH (fO hm)
    exact .inl ((hl.2 x (fO hx)).1 bH g.1 g.2)
  · intro e x hx;rw [(hl.2 x (fO hx)).2];rfl
  · intro e x hx;rw [(hl.2 x (fO hx)).2];rfl
  · exact MC λx hx=>by unfold lC;rw [(hl.2 x hx).2,(hl.2 x hx).2];rfl
theorem QL {m:fM} {v:Int} (h:MN m):Ex (λo=>o.fG.length<=3) (CG m v):=by
  obtain ⟨h,he2⟩:=h
  have h3:=h.n1;have h4:=h.xE
  unfold CG aBW
  simp only [WT.run,bT]
  refine aW _ (LX (by decide)) λk hk=>?_
  have f1:=td (a:=k) (b:=32) hk.1 (by decide)
  have f2:=tm (a:=k.tdiv 32) (b:=m.gG) f1.1 (by omega)
  have f3:=td (a:=k) (b:=128) hk.1 (by decide)
  have f4:=tm (a:=k.tdiv 128) (b:=(m.bW.length:Int)) f3.1 (by omega)
  have f5:=td (a:=k) (b:=1024) hk.1 (by decide)
  have f6:=tm (a:=k.tdiv 1024) (b:=8) f5.1 (by decide)
  have f7:=td (a:=(k.tdiv 1024).tmod 8) (b:=7) f6.1 (by decide)
  have f8:=td (a:=k) (b:=8192) hk.1 (by decide)
  have f9:=tm (a:=k.tdiv 8192) (b:=24) f8.1 (by decide)
  have f10:=td (a:=k) (b:=196608) hk.1 (by decide)
  have f11:=tm (a:=k.tdiv 196608) (b:=900) f10.1 (by decide)
  have f12:=td (a:=k) (b:=7000000) hk.1 (by decide)
  have f13:=tm (a:=k.tdiv 7000000) (b:=12) f12.1 (by decide)
  have q0:0<=1+(k.tdiv 8192).tmod 24:=by omega
  have g1:=td (a:=1+(k.tdiv 8192).tmod 24) (b:=3) q0 (by decide)
  have g2:=td (a:=1+(k.tdiv 8192).tmod 24) (b:=6) q0 (by decide)
  have g3:=td (a:=1+(k.tdiv 8192).tmod 24) (b:=8) q0 (by decide)
  have g4:=td (a:=1+(k.tdiv 8192).tmod 24) (b:=4) q0 (by decide)
  have g5:=tm (a:=1+(k.tdiv 8192).tmod 24) (b:=3) q0 (by decide)
  have g6:=tm (a:=(k.tdiv 196608).tmod 900) (b:=m.gG-1) f11.1 (by omega)
  repeat' with_reducible first | refine bG ?_ | refine dZ ?_ | apply aD | apply bK | apply dY | apply dN | apply eB | apply d9 | apply dV | apply dQ | apply dW | apply dU | refine aQ (λ_=>?_) λ_=>?_ | refine dK (λ_=>?_) λ_=>?_ | apply dF | apply bU | apply dA | apply bL | apply aG | refine dO ?_
  all_goals try (show List.length []<=3;exact Nat.zero_le _)
  · refine eZ g5.1 g5.2 λl hl=>?_
    repeat' with_reducible first | refine bG ?_ | refine dZ ?_ | apply aD | apply bK | apply dY | apply dN | apply eB | apply d9 | apply dV | apply dQ | apply dW | apply dU | refine aQ (λ_=>?_) λ_=>?_ | refine dK (λ_=>?_) λ_=>?_ | apply dF | apply bU | apply dA | apply bL | apply aG | refine dO ?_
    have:=fO hl
    simp only [List.mem_cons,List.not_mem_nil,or_false] at this
    rcases this with rfl | rfl | rfl <;> simp
theorem aLF {m:fM} {l:List Int} {n:Nat} (hn:200<n) (h:MN m):Ex (λr=>r.length<=120/\∀ o∈r,o.fG.length<=3) (J4 n m l):=by
  unfold J4 TQ
  simp only [WT.run,bT]
  refine aW (λ(r:List bJ)=>r.length<=120/\∀ o∈r,o.fG.length<=3) (gB (λ(v:Int×List bJ)=>0<=v.1/\v.1<=120/\(v.2.length:Int)=v.1/\∀ o∈v.2,o.fG.length<=3) (λ(v:Int×List bJ)=>120-v.1.toNat) ?_ (v:=(0,[])) ⟨by simp,by simp,rfl,λ_ h=>nomatch h⟩ (by simp;omega)) λr hr=>aG hr
  rintro ⟨i,r⟩ ⟨a1,a2,a3,a4⟩
  simp only at a1 a2 a3 a4
  refine bK ?_
  refine aW (λ(b:Bool)=>b=true->i<(l.length:Int)/\i<120) (aD (aQ (λk=>aD (aG λk2=>⟨k,of_decide_eq_true k2⟩)) λ_=>aG (λk=>nomatch k))) λb hb=>fJ (λkb=>?_) λ_=>bL (aG ⟨by first | omega | (simp only;omega),a4⟩)
  obtain ⟨k1,k2⟩:=hb kb
  refine eZ a1 k1 λx hx=>aW _ (QL h) λo ho=>aD (dO (bG (dD ⟨⟨by first | omega | (simp only;omega),by first | omega | (simp only;omega),by simp;omega,nE a4 ho⟩,by first | omega | (simp only;omega)⟩)))
theorem aJC (k:Int):Ex (λl=>l.length<=6/\(k=12->l[3]?=some 116)) (IK k):=by
  unfold IK ZT
  simp only [WT.run,bT]
  repeat' with_reducible first | refine bG ?_ | refine dZ ?_ | apply aD | apply bK | apply dY | apply dN | apply eB | apply d9 | apply dV | apply dQ | apply dW | apply dU | refine aQ (λ_=>?_) λ_=>?_ | refine dK (λ_=>?_) λ_=>?_ | apply dF | apply bU | apply dA | apply bL | apply aG
  all_goals exact ⟨by simp,λh=>by first | rfl | omega⟩
theorem aIM (o:bJ):Ex (λr=>r=true->o.Kind=12->o.E≠o.To) (J7 o):=by
  unfold J7 aBF
  simp only [WT.run,bT]
  repeat' with_reducible first | refine bG ?_ | refine dZ ?_ | apply aD | apply bK | apply dY | apply dN | apply eB | apply d9 | apply dV | apply dQ | apply dW | apply dU | refine aQ (λ_=>?_) λ_=>?_ | refine dK (λ_=>?_) λ_=>?_ | apply dF | apply bU | apply dA | apply bL | apply aG
  all_goals first
    | (intro k;cases k;done)
    | (intro k h;first | omega | (have:=of_decide_eq_true k;omega))
theorem aG3 {l:List Int} {n:Nat} (hn:66<n) (hl:l.length<=60):Ex (λ_=>True) (MH n l):=by
  unfold MH U0
  simp only [WT.run,bT]
  refine aW (λ(r:Unit⊕Bool)=>True) (gB (λ(i:Int)=>0<=i/\i<=(l.length:Int)) (λ(i:Int)=>l.length-i.toNat) ?_ (v:=0) ⟨by simp,by simp⟩ (by simp;omega)) λr _=>jQ (λ_ _=>?_) λ_ _=>trivial
  · rintro i ⟨h0,h1⟩
    refine aD (aQ (λk=>?_) λk=>bL (dD trivial))
    refine aW (λ(r:Unit⊕(Int⊕(Unit⊕Bool)))=>match r with | .inl _=>True | .inr (.inl _)=>False | .inr (.inr _)=>True) ?_ λr hr=>jQ (λ_ _=>bG (dD ⟨⟨by omega,by omega⟩,by omega⟩)) λq e=>by subst e;rcases q with q | q;exact hr.elim;trivial
    refine aW (λ_=>True) (eZ h0 k λ_ _=>aD (aQ (λ_=>aG trivial) λ_=>eZ h0 k λ_ _=>aD (aG trivial))) λb _=>fJ (λ_=>bL (bL (bL (aG trivial)))) λ_=>?_
    refine aW (λ(r:Unit⊕(Unit⊕(Int⊕(Unit⊕Bool))))=>match r with | .inr (.inl _)=>False | .inr (.inr (.inl _))=>False | _=>True) (gB (λ(j:Int)=>0<=j/\j<=i) (λ(j:Int)=>i.toNat-j.toNat) ?_ (v:=0) ⟨by simp,h0⟩ (by simp;omega)) λr hr=>jQ (λ_ _=>dD trivial) λq e=>by subst e;rcases q with q | q | q;exact hr.elim;exact hr.elim;trivial
    rintro j ⟨j0,j1⟩
    refine aD (aQ (λkj=>eZ j0 (by omega) λ_ _=>eZ h0 k λ_ _=>aD (aQ (λ_=>bL (bL (bL (bL (bL (aG trivial)))))) λ_=>bG (dD ⟨⟨by omega,by omega⟩,by omega⟩))) λ_=>bL (dD trivial))
  · repeat' with_reducible first | refine bG ?_ | refine dZ ?_ | apply aD | apply bK | apply dY | apply dN | apply eB | apply d9 | apply dV | apply dQ | apply dW | apply dU | refine aQ (λ_=>?_) λ_=>?_ | refine dK (λ_=>?_) λ_=>?_ | apply dF | apply bU | apply dA | apply bL | apply aG
    all_goals trivial
def BB (o x:bJ):Prop:=(x.aT=0\/(0<=o.aT/\o.aT<=1073741824/\x.aT=o.aT))/\(x.bM=0\/(0<=o.bM/\o.bM<=1125899906842624/\(o.Kind=9->o.bM<=1073741824)/\x.bM=o.bM))/\(x.Loc=0\/(0<=o.Loc/\o.Loc<=1/\x.Loc=o.Loc))
theorem aJR {o x:bJ} {c:Int} {n:Nat} (hn:66<n) (hR:o.fG.length<=60) (hb:BB o x):Ex (λr=>r.2=true->BB o r.1/\(c=116->o.Kind=12->o.E≠o.To)) (NG n o x c):=by
  obtain ⟨b1,b2,b3⟩:=hb
  unfold NG WH
  simp only [WT.run,bT]
  refine aD (aQ (λk=>aW (λ_=>True) ?_ λb _=>aG λ_=>⟨⟨b1,b2,b3⟩,λh=>absurd h (by omega)⟩) λk1=>?_)
  · repeat' with_reducible first | refine bG ?_ | refine dZ ?_ | apply aD | apply bK | apply dY | apply dN | apply eB | apply d9 | apply dV | apply dQ | apply dW | apply dU | refine aQ (λ_=>?_) λ_=>?_ | refine dK (λ_=>?_) λ_=>?_ | apply dF | apply bU | apply dA | apply bL | apply aG
    all_goals trivial
  refine aD (aQ (λk=>aW (λ_=>True) ?_ λb _=>aG λ_=>⟨⟨b1,b2,b3⟩,λh=>absurd h (by omega)⟩) λk2=>?_)
  · repeat' with_reducible first | refine bG ?_ | refine dZ ?_ | apply aD | apply bK | apply dY | apply dN | apply eB | apply d9 | apply dV | apply dQ | apply dW | apply dU | refine aQ (λ_=>?_) λ_=>?_ | refine dK (λ_=>?_) λ_=>?_ | apply dF | apply bU | apply dA | apply bL | apply aG
    all_goals trivial
  refine aD (aQ (λk=>aW (λ(b:Bool)=>b=true->0<=o.Loc/\o.Loc<=1) ?_ λb hb=>aG λkb=>⟨⟨b1,b2,.inr ⟨(hb kb).1,(hb kb).2,rfl⟩⟩,λh=>absurd h (by omega)⟩) λk3=>?_)
  · refine aD (aQ (λ_=>aD (aG λk=>by have:=of_decide_eq_true k;omega)) λ_=>aG (λk=>nomatch k))
  refine aD (aQ (λk=>aW _ (aIM o) λb hb=>aG λkb=>⟨⟨b1,b2,b3⟩,λ_=>hb kb⟩) λk4=>?_)
  refine aD (aQ (λk=>aW (λ(b:Bool)=>b=true->0<=o.aT/\o.aT<=1073741824) ?_ λb hb=>aG λkb=>⟨⟨.inr ⟨(hb kb).1,(hb kb).2,rfl⟩,b2,b3⟩,λh=>absurd h (by omega)⟩) λk5=>?_)
  · repeat' with_reducible first | refine bG ?_ | refine dZ ?_ | apply aD | apply bK | apply dY | apply dN | apply eB | apply d9 | apply dV | apply dQ | apply dW | apply dU | refine aQ (λ_=>?_) λ_=>?_ | refine dK (λ_=>?_) λ_=>?_ | apply dF | apply bU | apply dA | apply bL | apply aG
    all_goals first
      | (intro k;cases k;done)
      | (intro k;omega)
  refine aD (aQ (λk=>aW (λ(b:Bool)=>b=true->0<=o.bM/\o.bM<=1125899906842624/\(o.Kind=9->o.bM<=1073741824)) ?_ λb hb=>aG λkb=>⟨⟨b1,.inr ⟨(hb kb).1,(hb kb).2.1,(hb kb).2.2,rfl⟩,b3⟩,λh=>absurd h (by omega)⟩) λk6=>?_)
  · repeat' with_reducible first | refine bG ?_ | refine dZ ?_ | apply aD | apply bK | apply dY | apply dN | apply eB | apply d9 | apply dV | apply dQ | apply dW | apply dU | refine aQ (λ_=>?_) λ_=>?_ | refine dK (λ_=>?_) λ_=>?_ | apply dF | apply bU | apply dA | apply bL | apply aG
    all_goals first
      | (intro k;cases k;done)
      | (intro k;omega)
  refine aD (aQ (λk=>aW (λ_=>True) ?_ λb _=>aG λ_=>⟨⟨b1,b2,b3⟩,λh=>absurd h (by omega)⟩) λk7=>?_)
  · repeat' with_reducible first | refine bG ?_ | refine dZ ?_ | apply aD | apply bK | apply dY | apply dN | apply eB | apply d9 | apply dV | apply dQ | apply dW | apply dU | refine aQ (λ_=>?_) λ_=>?_ | refine dK (λ_=>?_) λ_=>?_ | apply dF | apply bU | apply dA | apply bL | apply aG
    all_goals trivial
  exact aW _ (aG3 hn hR) λb _=>aG λ_=>⟨⟨b1,b2,b3⟩,λh=>absurd h (by omega)⟩
theorem aKT {a b:List Int} {n:Nat} (hn:66<n) (ha:a.length<=60):Ex (λ_=>True) (sM n a b):=by
  unfold sM PS
  simp only [WT.run,bT]
  refine aD (aQ (λ_=>aG trivial) λkl=>?_)
  refine aW (λ(r:Unit⊕Bool)=>True) (gB (λ(i:Int)=>0<=i/\i<=(a.length:Int)) (λ(i:Int)=>a.length-i.toNat) ?_ (v:=0) ⟨by simp,by simp⟩ (by simp;omega)) λr _=>jQ (λ_ _=>aG trivial) λ_ _=>trivial
  rintro i ⟨h0,h1⟩
  exact aD (aQ (λk=>eZ h0 k λ_ _=>eZ h0 (by omega) λ_ _=>aD (aQ (λ_=>bL (bL (aG trivial))) λ_=>bG (dD ⟨⟨by omega,by omega⟩,by omega⟩))) λ_=>bL (dD trivial))
theorem aF6 {a b:bJ} {n:Nat} (hn:66<n) (ha:a.fG.length<=60):Ex (λr=>r=true->a.aT=b.aT/\a.bM=b.bM/\a.Loc=b.Loc) (KF n a b):=by
  unfold KF VQ
  simp only [WT.run,bT]
  repeat' with_reducible first | refine bG ?_ | refine dZ ?_ | apply aD | apply bK | apply dY | apply dN | apply eB | apply d9 | apply dV | apply dQ | apply dW | apply dU | refine aQ (λ_=>?_) λ_=>?_ | refine dK (λ_=>?_) λ_=>?_ | apply dF | apply bU | apply dA | apply bL | apply aG
  all_goals try exact (λk=>by cases k;done)
  refine aW _ (aKT hn ha) λb _=>?_
  repeat' with_reducible first | refine bG ?_ | refine dZ ?_ | apply aD | apply bK | apply dY | apply dN | apply eB | apply d9 | apply dV | apply dQ | apply dW | apply dU | refine aQ (λ_=>?_) λ_=>?_ | refine dK (λ_=>?_) λ_=>?_ | apply dF | apply bU | apply dA | apply bL | apply aG
  exact λ_=>⟨by assumption,by assumption,by assumption⟩
theorem XL {o:bJ} {n:Nat} (hn:66<n) (hR:o.fG.length<=60):Ex (λr=>r=true->A8 o) (xH n o):=by
  unfold xH U8
  simp only [WT.run,bT]
  refine aW _ (aJC o.Kind) λh hh=>?_
  obtain ⟨h6,h12⟩:=hh
  refine aW (λ(r:bJ⊕Bool)=>match r with | .inl x=>BB o x/\∀ j:Nat,j<h.length->h[j]?=some 116->o.Kind=12->o.E≠o.To | .inr b=>b=false)
    (gB (λ(v:Int×bJ)=>0<=v.1/\v.1<=(h.length:Int)/\BB o v.2/\∀ j:Nat,(j:Int)<v.1->h[j]?=some 116->o.Kind=12->o.E≠o.To) (λ(v:Int×bJ)=>h.length-v.1.toNat) ?_ (v:=(0,⟨o.Kind,0,0,0,0,0,0,0,[]⟩)) ⟨by simp,by simp,⟨.inl rfl,.inl rfl,.inl rfl⟩,λj hj=>absurd hj (by simp)⟩ (by simp;omega)) λr hr=>jQ (λx e=>?_) λb e=>?_
  · rintro ⟨i,x⟩ ⟨a1,a2,a3,a4⟩
    simp only at a1 a2 a3 a4
    refine bK (aD (aQ (λk=>?_) λk=>bL (dD ⟨a3,λj hj=>a4 j ?_⟩)))
    · have k:i<(h.length:Int):=k
      refine eZ a1 k λc hc=>aW _ (aJR hn hR a3) λr hr=>aD (aD (dK (λ_=>bL (bL (aG rfl))) λkb=>?_))
      obtain ⟨r1,r2⟩:=hr kb
      have hc:h[i.toNat]?=some c:=hc
      refine bG (dD ⟨⟨by first | omega | (simp only;omega),by first | omega | (simp only;omega),r1,λj hj hj2=>?_⟩,by first | omega | (simp only;omega)⟩)
      have hj:(j:Int)<i+1:=hj
      by_cases hij:j=i.toNat
      · subst hij;rw [hc] at hj2;cases hj2;exact r2 rfl
      · exact a4 j (by omega) hj2
    · have k:¬ i<(h.length:Int):=k
      first | omega | (simp only;omega)
  · subst e
    obtain ⟨⟨b1,b2,b3⟩,b4⟩:=hr
    refine aD ?_
    refine aW (λ(b:Bool)=>b=true->A8 o) (fJ (λ_=>aW _ (aF6 (b:=x) hn hR) λb hb=>aG λkb=>?_) λ_=>aG (λk=>nomatch k)) λb hb=>aG hb
    obtain ⟨s1,s2,s3⟩:=hb kb
    refine ⟨by omega,by omega,λk9=>?_,λ_=>by omega,λk12=>?_,hR⟩
    · rcases b2 with b2 | ⟨_,_,b2,_⟩
      · omega
      · exact b2 k9
    · have:=h12 k12
      exact b4 3 (List.getElem?_eq_some_iff.1 this).1 this k12
  · subst e
    have hb:b=false:=hr
    subst hb;exact λk=>nomatch k
theorem aHM {m:fM} {l:List Int} {n:Nat} (hn:200<n) (h:MN m):Ex (λs=>Inv 1000 s) (JP n m l):=by
  unfold JP aAI
  simp only [WT.run,bT]
  refine aW _ (aF7 (by omega) h.1) λs hs=>aW _ (aLF hn h) λo ho=>?_
  obtain ⟨o1,o2⟩:=ho
  refine aW (λs=>Inv 1000 s) (gB (λ(v:Int×aB)=>0<=v.1/\v.1<=(o.length:Int)/\Inv v.1 v.2) (λ(v:Int×aB)=>o.length-v.1.toNat) ?_ (v:=(0,s.1)) ⟨by simp,by simp,hs.1⟩ (by simp;omega)) λs hs=>aG hs
  rintro ⟨i,t⟩ ⟨a1,a2,a3⟩
  simp only at a1 a2 a3
  refine bK (aD (aQ (λk=>?_) λk=>bL (aG (a3.mono (by omega)))))
  have k:i<(o.length:Int):=k
  refine eZ a1 k λx hx=>aW _ (aSB (by omega) a3 (by omega) (XL (by omega) (by have:=o2 x (fO hx);omega))) λr hr=>bG (dD ⟨⟨by first | omega | (simp only;omega),by first | omega | (simp only;omega),hr⟩,by first | omega | (simp only;omega)⟩)
end Go.Pv
