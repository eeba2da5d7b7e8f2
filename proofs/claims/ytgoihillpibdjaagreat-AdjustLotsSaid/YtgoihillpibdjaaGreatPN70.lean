/- States by numbers: all agrees. -/
import Derived.Test.YtgoihillpibdjaaGreatPM70
set_option linter.unusedVariables false
set_option linter.unusedSimpArgs false
namespace Go.Pv
open Go.Proofs
set_option maxRecDepth 100000
set_option maxHeartbeats 1000000
def Ez (m:fG) (x:aP):Prop:=(∀ bL:List Int,bL.length=m.cB.length->(∀ y∈bL,1<=y/\y<=4)->EO m bL x)/\(∀ a,bl x a=0)
theorem wH {α:Type} {n:Nat} {a x:α} (h:x∈List.replicate n a):x=a:=List.eq_of_mem_replicate h
theorem GU {α:Type} {n k:Nat} {a x:α} (h:(List.replicate n a)[k]?=some x):x=a:=wH (fF h)
theorem e0 {m:fG} (h:pG m) {P:List Int} (hP:P.length=m.cB.length) (hb:∀ y∈P,-1<=y/\y<=288230376151711744):Ez m ⟨1,false,List.replicate ((m.cB.length:Int)*2).toNat ⟨[],⟨0,0,0⟩⟩,List.replicate 17 0,List.replicate ((m.cB.length:Int)).toNat ⟨0,0,0,0,0,0,0,0,0,0,0⟩,P,List.replicate ((m.cB.length:Int)).toNat 0,[]⟩:=by
  have hp:=h.iM
  have hb0:∀ a,(List.replicate 17 (0:Int)).getD a 0=0:=by
    intro a;rw [List.getD_eq_getElem?_getD,List.getElem?_replicate];split <;> rfl
  have hio:∀ mt:Int,1<=mt/\mt<=4->IO mt ⟨[],⟨0,0,0⟩⟩ ⟨[],⟨0,0,0⟩⟩:=by
    intro mt h
    have pr:PR mt ⟨[],⟨0,0,0⟩⟩:=⟨h,aR4,λ_=>by simp,by simp,by simp,by simp,by simp [tQ],λ_=>⟨rfl,rfl,rfl⟩⟩
    exact ⟨pr,pr,by simp [tQ],by simp [tS]⟩
  refine ⟨λbL h1 h2=>⟨⟨by simp only;omega,by simp;omega,by simp,by simp,hP,by simp,h1,?_,hb,?_,?_,?_⟩,⟨?_,?_,?_,?_⟩,rfl,rfl⟩,hb0⟩
  · intro b hb;rw [wH hb];decide
  · intro b hb;rw [wH hb];decide
  · intro i mt p q hm hp hq
    rw [GU hp,GU hq];exact hio mt (h2 _ (fF hm))
  · intro r hr;rw [wH hr];unfold yO bQ;simp
  · show sV _=(List.replicate 17 (0:Int)).getD 0 0
    rw [hb0];exact KX λx hx=>by rw [wH hx];rfl
  · show dD _=-(List.replicate 17 (0:Int)).getD 11 0
    rw [hb0];exact KX λx hx=>by rw [wH hx]
  · exact KX λx hx=>by rw [wH hx]
  · intro i r p q hr hp hq
    rw [GU hr,GU hp,GU hq];rfl
theorem ZZ {m:fG}:∀ (k:Nat) {n:Nat} {i:Int} {l:List Int},i+k=(m.cB.length:Int)->k<n->0<=i->l.length=m.cB.length->m.cB.length<=5->(∀ y∈l,-1<=y/\y<=288230376151711744)->Ex (λr=>r.length=m.cB.length/\∀ y∈r,-1<=y/\y<=288230376151711744) (wW m n i l)
  | _,0,_,_,_,hn,_,_,_,_=>absurd hn (Nat.not_lt_zero _)
  | 0,n+1,i,l,hi,_,h0,hl,h5,hb=>by
    unfold wW
    exact aD (aH (λk=>absurd k (by omega)) λ_=>aF ⟨hl,hb⟩)
  | k+1,n+1,i,l,hi,hn,h0,hl,h5,hb=>by
    unfold wW
    refine aD (aH (λ_=>eF h0 (by omega) λ_ _=>aD (bF ?_)) λh=>absurd (show i<(m.cB.length:Int) by omega) h)
    exact ZZ k (i:=i+1) (by omega) (by omega) (by omega) (by rw [List.length_set];exact hl) h5 (oC hb (by omega))
theorem aEU {m:fG} (h:pG m):∀ (k:Nat) {n:Nat} {i:Int} {l:List aP},i+k=m.gD->k+7<n->0<=i->(l.length:Int)=i->(∀ x∈l,Ez m x)->Ex (λr=>(r.length:Int)=m.gD/\∀ x∈r,Ez m x) (vV m n i l)
  | _,0,_,_,_,hn,_,_,_=>absurd hn (Nat.not_lt_zero _)
  | 0,n+1,i,l,hi,_,h0,hl,hb=>by
    unfold vV
    exact aD (aH (λk=>absurd k (by omega)) λ_=>aF ⟨by omega,hb⟩)
  | k+1,n+1,i,l,hi,hn,h0,hl,hb=>by
    have h3:=h.n1;have h4:=h.vF
    unfold vV
    refine aD (aH (λ_=>?_) λh=>absurd (show i<m.gD by omega) h)
    refine aT (λ(r:List aP)=>(r.length:Int)=i+1/\∀ x∈r,Ez m x) ?_ λr hr=>bF (aEU h k (i:=i+1) (by omega) (by omega) (by omega) hr.1 hr.2)
    refine bF (dF (aD (iF (by decide) (aD (dF (aD (dF (aD (dF (aD ?_))))))))))
    refine aT _ (ZZ (m:=m) m.cB.length (i:=0) (by omega) (by omega) (by omega) (by simp) (by omega) (λy hy=>by rw [wH hy];decide)) λP hP=>aD (dF (aF ⟨by simp;omega,mQ hb (e0 h hP.1 hP.2)⟩))
theorem aO7 {m:fG} {n:Nat} (hn:66<n) (h:pG m):Ex (λr=>Inv 0 r.1/\r.1.bJ=m) (BH n m):=by
  have h4:=h.vF;have h5:=h.lm
  unfold BH
  rw [aC7 hn h]
  refine x_eq rfl (aD (dG (λk=>nomatch k) λ_=>?_))
  refine aT _ (aEU h m.gD.toNat (i:=0) (by omega) (by omega) (by omega) rfl (λ_ h=>nomatch h)) λl hl=>aF ⟨?_,rfl⟩
  refine ⟨h,hl.1,by simp,(λ_ h=>nomatch h),(λ_ h=>nomatch h),(λ_ h=>nomatch h),by simp,by simp,by simp,?_,?_,?_,?_⟩
  · intro e x bL hx hm
    have g:=h.met bL (fF hm)
    exact .inl ((hl.2 x (fF hx)).1 bL g.1 g.2)
  · intro e x hx;rw [(hl.2 x (fF hx)).2];rfl
  · intro e x hx;rw [(hl.2 x (fF hx)).2];rfl
  · exact KX λx hx=>by unfold kF;rw [(hl.2 x hx).2,(hl.2 x hx).2];rfl
theorem PG {m:fG} {v:Int} (h:MN m):Ex (λo=>o.eY.length<=3) (zM m v):=by
  obtain ⟨h,he2⟩:=h
  have h3:=h.n1;have h4:=h.vF
  unfold zM aIA
  simp only [WT.run,bR]
  refine aT _ (OK (by decide)) λk hk=>?_
  have f1:=td (a:=k) (b:=32) hk.1 (by decide)
  have f2:=tm (a:=k.tdiv 32) (b:=m.gD) f1.1 (by omega)
  have f3:=td (a:=k) (b:=128) hk.1 (by decide)
  have f4:=tm (a:=k.tdiv 128) (b:=(m.cB.length:Int)) f3.1 (by omega)
  have f5:=td (a:=k) (b:=1024) hk.1 (by decide)
  have f6:=tm (a:=k.tdiv 1024) (b:=8) f5.1 (by decide)
  have f7:=td (a:=(k.tdiv 1024).tmod 8) (b:=7) f6.1 (by decide)
  have f8:=td (a:=k) (b:=8192) hk.1 (by decide)
  have f9:=tm (a:=k.tdiv 8192) (b:=24) f8.1 (by decide)
  have f10:=td (a:=k) (b:=196608) hk.1 (by decide)
  have f11:=tm (a:=k.tdiv 196608) (b:=900) f10.1 (by decide)
  have f12:=td (a:=k) (b:=7000000) hk.1 (by decide)
  have f13:=tm (a:=k.tdiv 7000000) (b:=12) f12.1 (by decide)
  have q0:0<=1+(k.tdiv 8192).tmod 24:=by omega
  have g1:=td (a:=1+(k.tdiv 8192).tmod 24) (b:=3) q0 (by decide)
  have g2:=td (a:=1+(k.tdiv 8192).tmod 24) (b:=6) q0 (by decide)
  have g3:=td (a:=1+(k.tdiv 8192).tmod 24) (b:=8) q0 (by decide)
  have g4:=td (a:=1+(k.tdiv 8192).tmod 24) (b:=4) q0 (by decide)
  have g5:=tm (a:=1+(k.tdiv 8192).tmod 24) (b:=3) q0 (by decide)
  have g6:=tm (a:=(k.tdiv 196608).tmod 900) (b:=m.gD-1) f11.1 (by omega)
  repeat' with_reducible first | refine bF ?_ | refine dP ?_ | apply aD | apply bE | apply dS | apply dI | apply dN | apply dR | apply dO | apply dL | apply dU | apply dQ | refine aH (λ_=>?_) λ_=>?_ | refine dG (λ_=>?_) λ_=>?_ | apply cO | apply bU | apply bY | apply bK | apply aF | refine dF ?_
  all_goals try (show List.length []<=3;exact Nat.zero_le _)
  · refine eF g5.1 g5.2 λl hl=>?_
    repeat' with_reducible first | refine bF ?_ | refine dP ?_ | apply aD | apply bE | apply dS | apply dI | apply dN | apply dR | apply dO | apply dL | apply dU | apply dQ | refine aH (λ_=>?_) λ_=>?_ | refine dG (λ_=>?_) λ_=>?_ | apply cO | apply bU | apply bY | apply bK | apply aF | refine dF ?_
    have:=fF hl
    simp only [List.mem_cons,List.not_mem_nil,or_false] at this
    rcases this with rfl | rfl | rfl <;> simp
theorem aSD {m:fG} {l:List Int} {n:Nat} (hn:200<n) (h:MN m):Ex (λr=>r.length<=120/\∀ o∈r,o.eY.length<=3) (MF n m l):=by
  unfold MF YM
  simp only [WT.run,bR]
  refine aT (λ(r:List bM)=>r.length<=120/\∀ o∈r,o.eY.length<=3) (fM (λ(v:Int×List bM)=>0<=v.1/\v.1<=120/\(v.2.length:Int)=v.1/\∀ o∈v.2,o.eY.length<=3) (λ(v:Int×List bM)=>120-v.1.toNat) ?_ (v:=(0,[])) ⟨by simp,by simp,rfl,λ_ h=>nomatch h⟩ (by simp;omega)) λr hr=>aF hr
  rintro ⟨i,r⟩ ⟨a1,a2,a3,a4⟩
  simp only at a1 a2 a3 a4
  refine bE ?_
  refine aT (λ(b:Bool)=>b=true->i<(l.length:Int)/\i<120) (aD (aH (λk=>aD (aF λk2=>⟨k,of_decide_eq_true k2⟩)) λ_=>aF (λk=>nomatch k))) λb hb=>eX (λkb=>?_) λ_=>bK (aF ⟨by first | omega | (simp only;omega),a4⟩)
  obtain ⟨k1,k2⟩:=hb kb
  refine eF a1 k1 λx hx=>aT _ (PG h) λo ho=>aD (dF (bF (bX ⟨⟨by first | omega | (simp only;omega),by first | omega | (simp only;omega),by simp;omega,mQ a4 ho⟩,by first | omega | (simp only;omega)⟩)))
theorem aYN (k:Int):Ex (λl=>l.length<=6/\(k=12->l[3]?=some 116)) (ME k):=by
  unfold ME aCQ
  simp only [WT.run,bR]
  repeat' with_reducible first | refine bF ?_ | refine dP ?_ | apply aD | apply bE | apply dS | apply dI | apply dN | apply dR | apply dO | apply dL | apply dU | apply dQ | refine aH (λ_=>?_) λ_=>?_ | refine dG (λ_=>?_) λ_=>?_ | apply cO | apply bU | apply bY | apply bK | apply aF
  all_goals exact ⟨by simp,λh=>by first | rfl | omega⟩
theorem aNA (o:bM):Ex (λr=>r=true->o.Kind=12->o.E≠o.To) (IP o):=by
  unfold IP XK
  simp only [WT.run,bR]
  repeat' with_reducible first | refine bF ?_ | refine dP ?_ | apply aD | apply bE | apply dS | apply dI | apply dN | apply dR | apply dO | apply dL | apply dU | apply dQ | refine aH (λ_=>?_) λ_=>?_ | refine dG (λ_=>?_) λ_=>?_ | apply cO | apply bU | apply bY | apply bK | apply aF
  all_goals first
    | (intro k;cases k;done)
    | (intro k h;first | omega | (have:=of_decide_eq_true k;omega))
theorem aUS {l:List Int} {n:Nat} (hn:66<n) (hl:l.length<=60):Ex (λ_=>True) (KD n l):=by
  unfold KD YW
  simp only [WT.run,bR]
  refine aT (λ(r:Unit⊕Bool)=>True) (fM (λ(i:Int)=>0<=i/\i<=(l.length:Int)) (λ(i:Int)=>l.length-i.toNat) ?_ (v:=0) ⟨by simp,by simp⟩ (by simp;omega)) λr _=>jI (λ_ _=>?_) λ_ _=>trivial
  · rintro i ⟨h0,h1⟩
    refine aD (aH (λk=>?_) λk=>bK (bX trivial))
    refine aT (λ(r:Unit⊕(Int⊕(Unit⊕Bool)))=>match r with | .inl _=>True | .inr (.inl _)=>False | .inr (.inr _)=>True) ?_ λr hr=>jI (λ_ _=>bF (bX ⟨⟨by omega,by omega⟩,by omega⟩)) λq e=>by subst e;rcases q with q | q;exact hr.elim;trivial
    refine aT (λ_=>True) (eF h0 k λ_ _=>aD (aH (λ_=>aF trivial) λ_=>eF h0 k λ_ _=>aD (aF trivial))) λb _=>eX (λ_=>bK (bK (bK (aF trivial)))) λ_=>?_
    refine aT (λ(r:Unit⊕(Unit⊕(Int⊕(Unit⊕Bool))))=>match r with | .inr (.inl _)=>False | .inr (.inr (.inl _))=>False | _=>True) (fM (λ(j:Int)=>0<=j/\j<=i) (λ(j:Int)=>i.toNat-j.toNat) ?_ (v:=0) ⟨by simp,h0⟩ (by simp;omega)) λr hr=>jI (λ_ _=>bX trivial) λq e=>by subst e;rcases q with q | q | q;exact hr.elim;exact hr.elim;trivial
    rintro j ⟨j0,j1⟩
    refine aD (aH (λkj=>eF j0 (by omega) λ_ _=>eF h0 k λ_ _=>aD (aH (λ_=>bK (bK (bK (bK (bK (aF trivial)))))) λ_=>bF (bX ⟨⟨by omega,by omega⟩,by omega⟩))) λ_=>bK (bX trivial))
  · repeat' with_reducible first | refine bF ?_ | refine dP ?_ | apply aD | apply bE | apply dS | apply dI | apply dN | apply dR | apply dO | apply dL | apply dU | apply dQ | refine aH (λ_=>?_) λ_=>?_ | refine dG (λ_=>?_) λ_=>?_ | apply cO | apply bU | apply bY | apply bK | apply aF
    all_goals trivial
def BB (o x:bM):Prop:=(x.aI=0\/(0<=o.aI/\o.aI<=1073741824/\x.aI=o.aI))/\(x.bO=0\/(0<=o.bO/\o.bO<=1125899906842624/\(o.Kind=9->o.bO<=1073741824)/\x.bO=o.bO))/\(x.Loc=0\/(0<=o.Loc/\o.Loc<=1/\x.Loc=o.Loc))
theorem aKI {o x:bM} {c:Int} {n:Nat} (hn:66<n) (hR:o.eY.length<=60) (hb:BB o x):Ex (λr=>r.2=true->BB o r.1/\(c=116->o.Kind=12->o.E≠o.To)) (J2 n o x c):=by
  obtain ⟨b1,b2,b3⟩:=hb
  unfold J2 aG6
  simp only [WT.run,bR]
  refine aD (aH (λk=>aT (λ_=>True) ?_ λb _=>aF λ_=>⟨⟨b1,b2,b3⟩,λh=>absurd h (by omega)⟩) λk1=>?_)
  · repeat' with_reducible first | refine bF ?_ | refine dP ?_ | apply aD | apply bE | apply dS | apply dI | apply dN | apply dR | apply dO | apply dL | apply dU | apply dQ | refine aH (λ_=>?_) λ_=>?_ | refine dG (λ_=>?_) λ_=>?_ | apply cO | apply bU | apply bY | apply bK | apply aF
    all_goals trivial
  refine aD (aH (λk=>aT (λ_=>True) ?_ λb _=>aF λ_=>⟨⟨b1,b2,b3⟩,λh=>absurd h (by omega)⟩) λk2=>?_)
  · repeat' with_reducible first | refine bF ?_ | refine dP ?_ | apply aD | apply bE | apply dS | apply dI | apply dN | apply dR | apply dO | apply dL | apply dU | apply dQ | refine aH (λ_=>?_) λ_=>?_ | refine dG (λ_=>?_) λ_=>?_ | apply cO | apply bU | apply bY | apply bK | apply aF
    all_goals trivial
  refine aD (aH (λk=>aT (λ(b:Bool)=>b=true->0<=o.Loc/\o.Loc<=1) ?_ λb hb=>aF λkb=>⟨⟨b1,b2,.inr ⟨(hb kb).1,(hb kb).2,rfl⟩⟩,λh=>absurd h (by omega)⟩) λk3=>?_)
  · refine aD (aH (λ_=>aD (aF λk=>by have:=of_decide_eq_true k;omega)) λ_=>aF (λk=>nomatch k))
  refine aD (aH (λk=>aT _ (aNA o) λb hb=>aF λkb=>⟨⟨b1,b2,b3⟩,λ_=>hb kb⟩) λk4=>?_)
  refine aD (aH (λk=>aT (λ(b:Bool)=>b=true->0<=o.aI/\o.aI<=1073741824) ?_ λb hb=>aF λkb=>⟨⟨.inr ⟨(hb kb).1,(hb kb).2,rfl⟩,b2,b3⟩,λh=>absurd h (by omega)⟩) λk5=>?_)
  · repeat' with_reducible first | refine bF ?_ | refine dP ?_ | apply aD | apply bE | apply dS | apply dI | apply dN | apply dR | apply dO | apply dL | apply dU | apply dQ | refine aH (λ_=>?_) λ_=>?_ | refine dG (λ_=>?_) λ_=>?_ | apply cO | apply bU | apply bY | apply bK | apply aF
    all_goals first
      | (intro k;cases k;done)
      | (intro k;omega)
  refine aD (aH (λk=>aT (λ(b:Bool)=>b=true->0<=o.bO/\o.bO<=1125899906842624/\(o.Kind=9->o.bO<=1073741824)) ?_ λb hb=>aF λkb=>⟨⟨b1,.inr ⟨(hb kb).1,(hb kb).2.1,(hb kb).2.2,rfl⟩,b3⟩,λh=>absurd h (by omega)⟩) λk6=>?_)
  · repeat' with_reducible first | refine bF ?_ | refine dP ?_ | apply aD | apply bE | apply dS | apply dI | apply dN | apply dR | apply dO | apply dL | apply dU | apply dQ | refine aH (λ_=>?_) λ_=>?_ | refine dG (λ_=>?_) λ_=>?_ | apply cO | apply bU | apply bY | apply bK | apply aF
    all_goals first
      | (intro k;cases k;done)
      | (intro k;omega)
  refine aD (aH (λk=>aT (λ_=>True) ?_ λb _=>aF λ_=>⟨⟨b1,b2,b3⟩,λh=>absurd h (by omega)⟩) λk7=>?_)
  · repeat' with_reducible first | refine bF ?_ | refine dP ?_ | apply aD | apply bE | apply dS | apply dI | apply dN | apply dR | apply dO | apply dL | apply dU | apply dQ | refine aH (λ_=>?_) λ_=>?_ | refine dG (λ_=>?_) λ_=>?_ | apply cO | apply bU | apply bY | apply bK | apply aF
    all_goals trivial
  exact aT _ (aUS hn hR) λb _=>aF λ_=>⟨⟨b1,b2,b3⟩,λh=>absurd h (by omega)⟩
theorem aXV {a b:List Int} {n:Nat} (hn:66<n) (ha:a.length<=60):Ex (λ_=>True) (sD n a b):=by
  unfold sD UX
  simp only [WT.run,bR]
  refine aD (aH (λ_=>aF trivial) λkl=>?_)
  refine aT (λ(r:Unit⊕Bool)=>True) (fM (λ(i:Int)=>0<=i/\i<=(a.length:Int)) (λ(i:Int)=>a.length-i.toNat) ?_ (v:=0) ⟨by simp,by simp⟩ (by simp;omega)) λr _=>jI (λ_ _=>aF trivial) λ_ _=>trivial
  rintro i ⟨h0,h1⟩
  exact aD (aH (λk=>eF h0 k λ_ _=>eF h0 (by omega) λ_ _=>aD (aH (λ_=>bK (bK (aF trivial))) λ_=>bF (bX ⟨⟨by omega,by omega⟩,by omega⟩))) λ_=>bK (bX trivial))
theorem aKL {a b:bM} {n:Nat} (hn:66<n) (ha:a.eY.length<=60):Ex (λr=>r=true->a.aI=b.aI/\a.bO=b.bO/\a.Loc=b.Loc) (LB n a b):=by
  unfold LB aDM
  simp only [WT.run,bR]
  repeat' with_reducible first | refine bF ?_ | refine dP ?_ | apply aD | apply bE | apply dS | apply dI | apply dN | apply dR | apply dO | apply dL | apply dU | apply dQ | refine aH (λ_=>?_) λ_=>?_ | refine dG (λ_=>?_) λ_=>?_ | apply cO | apply bU | apply bY | apply bK | apply aF
  all_goals try exact (λk=>by cases k;done)
  refine aT _ (aXV hn ha) λb _=>?_
  repeat' with_reducible first | refine bF ?_ | refine dP ?_ | apply aD | apply bE | apply dS | apply dI | apply dN | apply dR | apply dO | apply dL | apply dU | apply dQ | refine aH (λ_=>?_) λ_=>?_ | refine dG (λ_=>?_) λ_=>?_ | apply cO | apply bU | apply bY | apply bK | apply aF
  exact λ_=>⟨by assumption,by assumption,by assumption⟩
theorem aFS {o:bM} {n:Nat} (hn:66<n) (hR:o.eY.length<=60):Ex (λr=>r=true->C9 o) (tX n o):=by
  unfold tX aFM
  simp only [WT.run,bR]
  refine aT _ (aYN o.Kind) λh hh=>?_
  obtain ⟨h6,h12⟩:=hh
  refine aT (λ(r:bM⊕Bool)=>match r with | .inl x=>BB o x/\∀ j:Nat,j<h.length->h[j]?=some 116->o.Kind=12->o.E≠o.To | .inr b=>b=false)
    (fM (λ(v:Int×bM)=>0<=v.1/\v.1<=(h.length:Int)/\BB o v.2/\∀ j:Nat,(j:Int)<v.1->h[j]?=some 116->o.Kind=12->o.E≠o.To) (λ(v:Int×bM)=>h.length-v.1.toNat) ?_ (v:=(0,⟨o.Kind,0,0,0,0,0,0,0,[]⟩)) ⟨by simp,by simp,⟨.inl rfl,.inl rfl,.inl rfl⟩,λj hj=>absurd hj (by simp)⟩ (by simp;omega)) λr hr=>jI (λx e=>?_) λb e=>?_
  · rintro ⟨i,x⟩ ⟨a1,a2,a3,a4⟩
    simp only at a1 a2 a3 a4
    refine bE (aD (aH (λk=>?_) λk=>bK (bX ⟨a3,λj hj=>a4 j ?_⟩)))
    · have k:i<(h.length:Int):=k
      refine eF a1 k λc hc=>aT _ (aKI hn hR a3) λr hr=>aD (aD (dG (λ_=>bK (bK (aF rfl))) λkb=>?_))
      obtain ⟨r1,r2⟩:=hr kb
      have hc:h[i.toNat]?=some c:=hc
      refine bF (bX ⟨⟨by first | omega | (simp only;omega),by first | omega | (simp only;omega),r1,λj hj hj2=>?_⟩,by first | omega | (simp only;omega)⟩)
      have hj:(j:Int)<i+1:=hj
      by_cases hij:j=i.toNat
      · subst hij;rw [hc] at hj2;cases hj2;exact r2 rfl
      · exact a4 j (by omega) hj2
    · have k:¬ i<(h.length:Int):=k
      first | omega | (simp only;omega)
  · subst e
    obtain ⟨⟨b1,b2,b3⟩,b4⟩:=hr
    refine aD ?_
    refine aT (λ(b:Bool)=>b=true->C9 o) (eX (λ_=>aT _ (aKL (b:=x) hn hR) λb hb=>aF λkb=>?_) λ_=>aF (λk=>nomatch k)) λb hb=>aF hb
    obtain ⟨s1,s2,s3⟩:=hb kb
    refine ⟨by omega,by omega,λk9=>?_,λ_=>by omega,λk12=>?_,hR⟩
    · rcases b2 with b2 | ⟨_,_,b2,_⟩
      · omega
      · exact b2 k9
    · have:=h12 k12
      exact b4 3 (List.getElem?_eq_some_iff.1 this).1 this k12
  · subst e
    have hb:b=false:=hr
    subst hb;exact λk=>nomatch k
theorem aZR {m:fG} {l:List Int} {n:Nat} (hn:200<n) (h:MN m):Ex (λs=>Inv 1000 s) (G7 n m l):=by
  unfold G7 aG0
  simp only [WT.run,bR]
  refine aT _ (aO7 (by omega) h.1) λs hs=>aT _ (aSD hn h) λo ho=>?_
  obtain ⟨o1,o2⟩:=ho
  refine aT (λs=>Inv 1000 s) (fM (λ(v:Int×aA)=>0<=v.1/\v.1<=(o.length:Int)/\Inv v.1 v.2) (λ(v:Int×aA)=>o.length-v.1.toNat) ?_ (v:=(0,s.1)) ⟨by simp,by simp,hs.1⟩ (by simp;omega)) λs hs=>aF hs
  rintro ⟨i,t⟩ ⟨a1,a2,a3⟩
  simp only at a1 a2 a3
  refine bE (aD (aH (λk=>?_) λk=>bK (aF (a3.mono (by omega)))))
  have k:i<(o.length:Int):=k
  refine eF a1 k λx hx=>aT _ (aPH (by omega) a3 (by omega) (aFS (by omega) (by have:=o2 x (fF hx);omega))) λr hr=>bF (bX ⟨⟨by first | omega | (simp only;omega),by first | omega | (simp only;omega),hr⟩,by first | omega | (simp only;omega)⟩)
end Go.Pv
