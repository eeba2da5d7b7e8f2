import Derived.Test.YtcnbfkppbaenbaaGreatPC80
import Derived.Test.YtcnbfkppbaenbaaGreatPN70
import Derived.Test.YtcnbfkppbaenbaaGreatQE80
set_option linter.unusedVariables false
set_option linter.unusedSimpArgs false
namespace Go.Pv
open Go.Proofs
set_option maxRecDepth 1000000
set_option maxHeartbeats 1000000
theorem aSV (v a b:Int):GA v a b=some (decide (a<=v/\v<=b)):=by
  unfold GA X5
  simp only [WT.run,bS]
  by_cases h1:v>=a
  · by_cases h2:v<=b
    · exact dK (a:=true) (fQ h1 (fK (fQ h2 rfl))) (by simp;omega)
    · exact dK (a:=false) (fQ h1 (fK (eU h2 rfl))) (by simp;omega)
  · exact dK (a:=false) (eU h1 (dF rfl)) (by simp;omega)
def Ln (s:aA):Prop:=∀ (e:Nat) x,s.bD[e]?=some x->x.bX.length=2*s.bH.bZ.length/\x.dQ.length=s.bH.bZ.length
theorem SS.ln {s:aA} (h:SS s):Ln s:=λe x hx=>by
  obtain ⟨bL,_,_,_,hes⟩:=h.bL hx
  exact ⟨hes.lp,hes.lr⟩
theorem FY {s:aA} (h:S0 s) (hl:Ln s) (e i:Int):AT s e i=some (decide (gY s e i)):=by
  have hf:=h.iC
  have h2:=h.len;have h3:=h.jW.lm;have h4:=h.jW.lc
  refine fH ?_
  unfold AT TY
  simp only [WT.run,bS]
  refine aU (λb=>b=true↔¬ gY s e i) ?_ λb hb=>fB (λk=>aD (decide_eq_false (hb.1 k)).symm) λk=>?_
  · unfold gY
    repeat' with_reducible first | refine bE ?_ | refine dU ?_ | apply aF | apply bF | apply dY | apply dN | apply dV | apply dZ | apply d9 | apply dO | apply dW | apply dS | refine aI (λ_=>?_) λ_=>?_ | refine dJ (λ_=>?_) λ_=>?_ | apply dB | apply bW | apply cZ | apply bJ | apply aD
    all_goals try (exact ⟨λ_=>by omega,λ_=>rfl⟩)
    rw [decide_eq_true_eq];exact ⟨λ_=>by omega,λ_=>by omega⟩
  · have ht:gY s e i:=Classical.not_not.1 λq=>by rw [hb.2 q] at k;cases k
    rw [decide_eq_true ht]
    obtain ⟨t1,t2⟩:=ht
    obtain ⟨x,hx⟩:=gY.at (s:=s) (e:=e) (i:=i) ⟨t1,t2⟩
    obtain ⟨l1,l2⟩:=hl _ _ hx
    have m1:e.toNat<s.bH.Methods.length:=by omega
    have c1:e.toNat<s.bH.gL.length:=by omega
    have em:=List.getElem?_eq_getElem m1
    have ec:=List.getElem?_eq_getElem c1
    have gm:=(h.jW.met _ (fE em)).1
    have gc:=(h.jW.cos _ (fE ec)).1
    refine dD t1.1 hx (aU (λb=>b=true) ?_ λb hb=>aD hb)
    refine bE (aF (aI (λ_=>aF (aI (λ_=>aF (aI (λ_=>aF (aI (λ_=>dD t1.1 em (aF (aI (λ_=>dD t1.1 ec (aF (aD ?_))) λk=>?_))) λk=>?_)) λk=>?_)) λk=>?_)) λk=>?_))
    · exact decide_eq_true (by omega)
    all_goals (exfalso;omega)
theorem aVY {s:aA} (h:S0 s) (hl:Ln s) (e i:Int):JK s e i=oC s e i:=by
  unfold JK WV oC PN
  simp only [WT.run,bS,FY h hl,sD h,Option.bind_some]
noncomputable def H8 (s:aA) (e i c:Int):Int:=open Classical in if gY s e i/\0<=c/\c<=1 then i*2+c else -1
theorem aGO {s:aA} (h:S0 s) (hl:Ln s) (e i c:Int):J8 s e i c=some (H8 s e i c):=by
  have hf:=h.iC
  refine fH ?_
  unfold J8 aGK H8
  simp only [WT.run,bS,FY h hl,aSV,Option.bind_some]
  refine aU (λb=>b=true↔¬ (gY s e i/\0<=c/\c<=1)) ?_ λb hb=>fB (λk=>aD (if_neg (hb.1 k)).symm) λk=>?_
  · by_cases k1:gY s e i
    · rw [decide_eq_true k1]
      refine aF (bW (aF (aD ?_)))
      by_cases k2:0<=c/\c<=1
      · rw [decide_eq_true k2];exact ⟨(λq=>nomatch q),λq=>absurd ⟨k1,k2⟩ q⟩
      · rw [decide_eq_false k2];exact ⟨λ_ q=>k2 q.2,λ_=>rfl⟩
    · rw [decide_eq_false k1];exact aF (dB (aD ⟨λ_ q=>k1 q.1,λ_=>rfl⟩))
  · have ht:gY s e i/\0<=c/\c<=1:=Classical.not_not.1 λq=>by rw [hb.2 q] at k;cases k
    rw [if_pos ht]
    obtain ⟨⟨t1,t2⟩,t3⟩:=ht
    exact bE (bE (aD rfl))
theorem pAt {s:aA} (h:S0 s) (hl:Ln s) {e i c:Int} {x:aQ} {p:aH} (ht:gY s e i) (hc:0<=c/\c<=1) (hx:s.bD[e.toNat]?=some x) (hp:x.bX[2*i.toNat+c.toNat]?=some p) (hlp:p.aW.length<=30):aFH s e i c=some p:=by
  have hf:=h.iC
  have ei:(i*2+c).toNat=2*i.toNat+c.toNat:=by have:=ht.2;omega
  have e0:H8 s e i c=i*2+c:=if_pos ⟨ht,hc⟩
  refine fH ?_
  unfold aFH aYG
  simp only [WT.run,bS,aGO h hl,e0,Option.bind_some]
  have t2:=ht.2
  refine aF (aI (λk=>?_) λk=>?_)
  · exfalso;omega
  · exact dD ht.1.1 hx (dD (by omega) (by rw [ei];exact hp) (dM (aD rfl)))
theorem aZF {s:aA} {n:Nat} (hn:66<n) (h:S0 s) (hl:Ln s) {e i:Int} {x:aQ} {p q:aH} (ht:gY s e i) (hx:s.bD[e.toNat]?=some x) (hp:x.bX[2*i.toNat]?=some p) (hq:x.bX[2*i.toNat+1]?=some q) (lp:LR p.aW) (lq:LR q.aW) :
    Ex (λr=>r.1=⟨(gM [tQ p.aW,tQ q.aW]).1,(gM [tV p.aW,tV q.aW]).1,(gM [tP p.aW,tP q.aW]).1⟩/\(r.2=true↔(gM [tQ p.aW,tQ q.aW]).2=0/\(gM [tV p.aW,tV q.aW]).2=0/\(gM [tP p.aW,tP q.aW]).2=0)) (aPI n s e i):=by
  have a0:=pAt (c:=0) h hl ht (by omega) hx hp (tC lp)
  have a1:=pAt (c:=1) h hl ht (by omega) hx hq (tC lq)
  obtain ⟨m,rfl⟩:∃ m,n=m+3:=⟨n-3,by omega⟩
  unfold aPI aY5
  simp only [WT.run,bS]
  refine aU (λr=>r=([tQ p.aW,tQ q.aW],[tV p.aW,tV q.aW],[tP p.aW,tP q.aW])) ?_ λr hr=>?_
  · show Ex _ (iter _ (m+2+1) _)
    refine aU (λr=>r=.inl (1,[tQ p.aW],[tV p.aW],[tP p.aW])) ?_ λr hr=>?_
    · refine bF (bF (bF (aF (aI (λ_=>?_) λk=>absurd (show (0:Int)<2 by decide) k))))
      refine x_eq a0 (x_eq (aUY hn lp) ?_)
      repeat' with_reducible first | refine bE ?_ | refine dU ?_ | apply aF | apply bF | apply dY | apply dN | apply dV | apply dZ | apply d9 | apply dO | apply dW | apply dS | refine aI (λ_=>?_) λ_=>?_ | refine dJ (λ_=>?_) λ_=>?_ | apply dB | apply bW | apply cZ | apply bJ | apply aD | refine dM ?_
      exact cK rfl
    · subst hr
      refine cZ ?_
      show Ex _ (iter _ (m+1+1) _)
      refine aU (λr=>r=.inl (2,[tQ p.aW,tQ q.aW],[tV p.aW,tV q.aW],[tP p.aW,tP q.aW])) ?_ λr hr=>?_
      · refine bF (bF (bF (aF (aI (λ_=>?_) λk=>absurd (show (1:Int)<2 by decide) k))))
        refine x_eq a1 (x_eq (aUY hn lq) ?_)
        repeat' with_reducible first | refine bE ?_ | refine dU ?_ | apply aF | apply bF | apply dY | apply dN | apply dV | apply dZ | apply d9 | apply dO | apply dW | apply dS | refine aI (λ_=>?_) λ_=>?_ | refine dJ (λ_=>?_) λ_=>?_ | apply dB | apply bW | apply cZ | apply bJ | apply aD | refine dM ?_
        exact cK rfl
      · subst hr
        refine cZ ?_
        show Ex _ (iter _ (m+1) _)
        refine aU (λr=>r=.inr ([tQ p.aW,tQ q.aW],[tV p.aW,tV q.aW],[tP p.aW,tP q.aW])) ?_ λr hr=>?_
        · exact bF (bF (bF (aF (aI (λk=>absurd k (show ¬(2:Int)<2 by decide)) λk=>bJ (aD rfl)))))
        · subst hr;exact yK rfl
  · subst hr
    refine bF (bF ?_)
    refine x_eq (EQ (by simp;omega) (by simp)) (x_eq (EQ (by simp;omega) (by simp)) (x_eq (EQ (by simp;omega) (by simp)) (aF (aF (aD ⟨rfl,?_⟩)))))
    have z1:=(wO (tQ p.aW) (tQ q.aW)).2.2
    have z2:=(wO (tV p.aW) (tV q.aW)).2.2
    have z3:=(wO (tP p.aW) (tP q.aW)).2.2
    rw [decide_eq_true_eq]
    generalize (gM [tQ p.aW,tQ q.aW]).2=a at *
    generalize (gM [tV p.aW,tV q.aW]).2=b at *
    generalize (gM [tP p.aW,tP q.aW]).2=c at *
    split <;> (try split) <;> omega
def sw (l:List aB):List Int:=l.map λx=>ab x.bO
theorem aX3:∀ l:List aB,lS (sw l)=tS l/\oF (sw l)=tS l
  | []=>⟨rfl,rfl⟩
  | x :: r=>by
    obtain ⟨h1,h2⟩:=aX3 r
    have e:ab (ab x.bO)=ab x.bO:=by have:=mE x.bO;unfold ab;split <;> (try split) <;> omega
    exact ⟨by show ab x.bO+lS (sw r)=_;rw [h1];rfl,by show ab (ab x.bO)+oF (sw r)=_;rw [h2,e];rfl⟩
theorem aZZ (a b:List Int):lS (a++b)=lS a+lS b/\oF (a++b)=oF a+oF b:=by
  induction a with
  | nil=>exact ⟨(Int.zero_add _).symm,(Int.zero_add _).symm⟩
  | cons x r ih=>exact ⟨by show x+lS (r++b)=x+lS r+lS b;rw [ih.1];omega,by show ab x+oF (r++b)=ab x+oF r+oF b;rw [ih.2];omega⟩
theorem aZE {s:aA} {n:Nat} (hn:66<n) (h:S0 s) (hl:Ln s) {e i:Int} {x:aQ} {p q:aH} (ht:gY s e i) (hx:s.bD[e.toNat]?=some x) (hp:x.bX[2*i.toNat]?=some p) (hq:x.bX[2*i.toNat+1]?=some q) (lp:LR p.aW) (lq:LR q.aW) :
    aPB n s e i=some (decide (tS p.aW+tS q.aW<=288230376151711744)):=by
  have a0:=pAt (c:=0) h hl ht (by omega) hx hp (tC lp)
  have a1:=pAt (c:=1) h hl ht (by omega) hx hq (tC lq)
  have p1:=tC lp;have q1:=tC lq
  obtain ⟨m,rfl⟩:∃ m,n=m+3:=⟨n-3,by omega⟩
  refine fH ?_
  unfold aPB aY2
  simp only [WT.run,bS]
  have inner:∀ (L:List aB) (acc:List Int),LR L->acc.length<=30->∀ (f:Int×List Int->Option ((Int×List Int)⊕List Int)),
      (∀ j a x,0<=j->L[j.toNat]?=some x->j<(L.length:Int)->bQ x.bO->a.length<=60->f (j,a)=some (.inl (j+1,a++[ab x.bO])))->(∀ j a,¬ j<(L.length:Int)->f (j,a)=some (.inr a)) ->
      Ex (λr=>r=acc++sw L) (iter f (m+3) (0,acc)):=by
    intro L acc hL hacc f h1 h2
    have hb:=tC hL
    refine fJ (λ(v:Int×List Int)=>0<=v.1/\v.1<=(L.length:Int)/\v.2=acc++sw (L.take v.1.toNat)) (λv=>L.length-v.1.toNat) ?_ (v:=(0,acc)) (by simp [sw]) (by simp;omega)
    rintro ⟨j,a⟩ ⟨g0,g1,g2⟩
    simp only at g0 g1 g2
    subst g2
    by_cases k:j<(L.length:Int)
    · have hx:=List.getElem?_eq_getElem (l:=L) (i:=j.toNat) (by omega)
      have e:(j+1).toNat=j.toNat+1:=by omega
      refine ⟨_,h1 j _ _ g0 hx k (hL.1 _ (fE hx)).2.2 (by simp [sw];omega),⟨by simp only;omega,by simp only;omega,?_⟩,by simp only;omega⟩
      have:=take_at (f:=λx=>ab x.bO) hx
      simp only [e]
      unfold sw
      rw [<- this,List.append_assoc]
    · refine ⟨_,h2 j _ k,?_⟩
      show _=_
      rw [List.take_of_length_le (by omega)]
  have body:∀ (j:Int) (x:aB) (a:List Int) (F:Int->Option ((Int×List Int)⊕List Int)),bQ x.bO->a.length<=60->True:=λ_ _ _ _ _ _=>trivial
  have e2:∀ x:aB,(if 0-x.bO>x.bO then 0-x.bO else x.bO)=ab x.bO:=λx=>by unfold ab;split <;> split <;> omega
  refine aU (λr=>r=sw p.aW++sw q.aW) ?_ λr hr=>?_
  · show Ex _ (iter _ (m+2+1) _)
    refine aU (λr=>r=.inl (1,sw p.aW)) ?_ λr hr=>?_
    · refine bF (aF (aI (λ_=>?_) λk=>absurd (show (0:Int)<2 by decide) k))
      refine aU (λr=>r=sw p.aW) (x_eq a0 (aU (λr=>r=[]++sw p.aW) (inner p.aW [] lp (by simp) _ ?_ ?_) λr hr=>aD (by rw [hr];rfl))) λr hr=>?_
      · intro j a x g0 hx k hp hal
        unfold bQ at hp
        refine fH (bF (aF (aI (λ_=>eT g0 k λy hy=>?_) λq=>absurd k q)))
        rw [hx] at hy;cases hy
        refine bE (aF ?_)
        rw [e2]
        exact aF (dM (bE (cK rfl)))
      · intro j a k
        exact fH (bF (aF (aI (λq=>absurd q k) λ_=>bJ (aD rfl))))
      · subst hr;exact gU (by first | decide | simp) (cK rfl)
    · subst hr
      refine cZ ?_
      show Ex _ (iter _ (m+1+1) _)
      refine aU (λr=>r=.inl (2,sw p.aW++sw q.aW)) ?_ λr hr=>?_
      · refine bF (aF (aI (λ_=>?_) λk=>absurd (show (1:Int)<2 by decide) k))
        refine aU (λr=>r=sw p.aW++sw q.aW) (x_eq a1 (aU (λr=>r=sw p.aW++sw q.aW) (inner q.aW (sw p.aW) lq (by simp [sw];omega) _ ?_ ?_) λr hr=>aD hr)) λr hr=>?_
        · intro j a x g0 hx k hp hal
          unfold bQ at hp
          refine fH (bF (aF (aI (λ_=>eT g0 k λy hy=>?_) λq=>absurd k q)))
          rw [hx] at hy;cases hy
          refine bE (aF ?_)
          rw [e2]
          exact aF (dM (bE (cK rfl)))
        · intro j a k
          exact fH (bF (aF (aI (λq=>absurd q k) λ_=>bJ (aD rfl))))
        · subst hr;exact gU (by first | decide | simp) (cK rfl)
      · subst hr
        refine cZ ?_
        show Ex _ (iter _ (m+1) _)
        refine aU (λr=>r=.inr (sw p.aW++sw q.aW)) ?_ λr hr=>?_
        · exact bF (aF (aI (λk=>absurd k (show ¬(2:Int)<2 by decide)) λk=>bJ (aD rfl)))
        · subst hr;exact yK rfl
  · subst hr
    refine x_eq (EQ (by simp [sw];omega) (by simp [sw];omega)) (aF (aD ?_))
    obtain ⟨s1,s2⟩:=aX3 p.aW
    obtain ⟨s3,s4⟩:=aX3 q.aW
    obtain ⟨s5,s6⟩:=aZZ (sw p.aW) (sw q.aW)
    rcases E9 (l:=sw p.aW++sw q.aW) (by rw [s5,s6,s1,s2,s3,s4]) with ⟨g1,g2⟩ | ⟨g1,g2⟩
    · rw [s5,s1,s3] at g1;rw [g2];simp [g1]
    · rw [s5,s1,s3] at g1;simp only [g2];simp [g1]
def OKs (a b:aH):Prop:=(gM [tQ a.aW,tQ b.aW]).2=0/\(gM [tV a.aW,tV b.aW]).2=0/\(gM [tP a.aW,tP b.aW]).2=0/\tS a.aW+tS b.aW<=288230376151711744
noncomputable def brF (s:aA) (e i c:Int) (x:aQ) (r:aH×Int×Int) (a b:aH) (l:aB):aA×Int×Int×Int :=
  open Classical in if r.2.2≠0 then (s,0,0,r.2.2) else if OKs a b then (qD s e i c x r.1,l.Value-r.2.1,r.2.1,0) else (s,0,0,2)
theorem aYL {s:aA} {e i c:Int} {x:aQ} {r:aH×Int×Int} {a b:aH} {l:aB} (h:r.2.2≠0):brF s e i c x r a b l=(s,0,0,r.2.2):=if_pos h
theorem aYI {s:aA} {e i c:Int} {x:aQ} {r:aH×Int×Int} {a b:aH} {l:aB} (h:¬ r.2.2≠0) (h2:OKs a b):brF s e i c x r a b l=(qD s e i c x r.1,l.Value-r.2.1,r.2.1,0):=by unfold brF;rw [if_neg h,if_pos h2]
theorem aTU {s:aA} {e i c:Int} {x:aQ} {r:aH×Int×Int} {a b:aH} {l:aB} (h:¬ r.2.2≠0) (h2:¬ OKs a b):brF s e i c x r a b l=(s,0,0,2):=by unfold brF;rw [if_neg h,if_neg h2]
structure Beh (s:aA) (e i c:Int) (x:aQ) (m k:Int) (p q:aH) (l:aB) (r:aH×Int×Int) (a b:aH):Prop where
  s0:S0 (qD s e i c x r.1)
  ln:Ln (qD s e i c x r.1)
  th:gY (qD s e i c x r.1) e i
  en:(qD s e i c x r.1).bD[e.toNat]?=some { x with bX:=x.bX.set (2*i.toNat+c.toNat) r.1 }
  pa:(x.bX.set (2*i.toNat+c.toNat) r.1)[2*i.toNat]?=some a
  pb:(x.bX.set (2*i.toNat+c.toNat) r.1)[2*i.toNat+1]?=some b
  la:LR a.aW
  lb:LR b.aW
  ab0:-288230376151711744<=r.2.1/\r.2.1<=288230376151711744
  lv:0<=l.Value/\l.Value<=288230376151711744
theorem beh {s:aA} {n:Nat} (hn:66<n) (h:SS s) {e i c m k:Int} {x:aQ} {p q:aH} {l:aB} (hs:nT s e i c x m k p q) (hl:l.aG<=9223372036854775807) (h0:¬ (f13 m k p l).2.2≠0):∃ a b,Beh s e i c x m k p q l (f13 m k p l) a b:=by
  have hr:=aDU (aP3 (x:=l) hn hs.io.pp hs.kk hl) (r13 hn hs.io.pp hs.kk hl)
  rcases hr with ⟨r1,r2,r3⟩ | ⟨r1,_⟩
  rotate_left
  · exact absurd r1 h0
  obtain ⟨en2,a,b,pa,pb,hab⟩:=hs.put (p':=(f13 m k p l).1)
  have ht:=hs.th
  refine ⟨a,b,⟨h.jW,by show ((s.bD.set _ _).length:Int)=_;rw [List.length_set];exact h.len⟩,?_,?_,en2,pa,pb,?_,?_,r3,r2.2.2.2.2.2.2⟩
  · intro f y hy
    have hy:(s.bD.set e.toNat _)[f]?=some y:=hy
    have hk:e.toNat<s.bD.length:=(List.getElem?_eq_some_iff.1 hs.en).1
    rw [mK hk] at hy
    by_cases hf:e.toNat=f
    · rw [if_pos hf] at hy;cases hy
      obtain ⟨g1,g2⟩:=h.ln _ _ hs.en
      exact ⟨by show (x.bX.set _ _).length=_;rw [List.length_set];exact g1,g2⟩
    · rw [if_neg hf] at hy;exact h.ln _ _ hy
  · refine ⟨⟨ht.1.1,?_⟩,ht.2⟩
    show e<((s.bD.set _ _).length:Int);rw [List.length_set];exact ht.1.2
  · rcases hab with ⟨_,rfl,rfl⟩ | ⟨_,rfl,rfl⟩
    · exact r2.1.ly
    · exact hs.io.qq.ly
  · rcases hab with ⟨_,rfl,rfl⟩ | ⟨_,rfl,rfl⟩
    · exact hs.io.qq.ly
    · exact r2.1.ly
theorem aX8 {s:aA} {n:Nat} (hn:66<n) (h:SS s) {e i c m u:Int} {x:aQ} {p q a b:aH} {l:aB} (hs:nT s e i c x m u p q) (hl:l.aG<=9223372036854775807) (hb:¬ (f13 m u p l).2.2≠0->Beh s e i c x m u p q l (f13 m u p l) a b) :
    aD3 n s e i c l=some (brF s e i c x (f13 m u p l) a b l):=by
  have hf:=h.toS0.iC
  have ht:=hs.th
  have hlc:=hs.lc
  obtain ⟨bL,m1,m2⟩:=hs.ms
  obtain ⟨cs,c1,c2⟩:=hs.cs
  obtain ⟨mts',_,_,hes⟩:=hs.es'
  have hfew:=hes.iC hf.2.2
  have e0:H8 s e i c=i*2+c:=if_pos ⟨ht,hlc⟩
  have ei:(i*2+c).toNat=2*i.toNat+c.toNat:=by have:=ht.2;omega
  have t2:=ht.2
  refine fH ?_
  unfold aD3 aUT
  simp only [WT.run,bS,aGO h.toS0 h.ln,e0,Option.bind_some]
  refine aF (aI (λk=>?_) λ_=>?_)
  · exfalso;omega
  refine dD ht.1.1 m1 (dD ht.2.1 m2 (dD ht.1.1 c1 (dD ht.2.1 c2 (dD ht.1.1 hs.en (dD (by omega) (by rw [ei];exact hs.pp) (x_eq (ZY hn hs.io.pp hs.kk hl) (aF (aI (λk=>aD (aYL k).symm) λk=>?_))))))))
  have B:=hb k
  refine aU (λr=>r=(x.fU,x.Closed,x.dR,x.dQ,x.gI,x.Down,x.fV,x.bX.set (2*i.toNat+c.toNat) (f13 m u p l).1)) ?_ λr hr=>?_
  · exact aU (λ_=>True) (dM (dD ht.1.1 hs.en (aD trivial))) λ_ _=>dD ht.1.1 hs.en (dM (dD (by omega) (by rw [ei];exact hs.pp) (aF (aD (by rw [ei])))))
  · subst hr
    refine bF (bF (bF (bF (bF (bF (bF (dD ht.1.1 hs.en (aU _ (aZF hn B.s0 B.ln B.th B.en B.pa B.pb B.la B.lb) λw hw=>?_))))))))
    have bl1:=B.lv;have bl2:=B.ab0
    refine aU (λz=>z=true↔¬ OKs a b) ?_ λz hz=>fB (λk2=>aD (aTU k (hz.1 k2)).symm) λk2=>bE (aD ?_)
    · refine aF (fB (λk1=>aD ⟨λ_ q=>?_,λ_=>rfl⟩) λk1=>x_eq (aZE hn B.s0 B.ln B.th B.en B.pa B.pb B.la B.lb) (aF (aD ?_)))
      · rw [hw.2.2 ⟨q.1,q.2.1,q.2.2.1⟩] at k1;cases k1
      · have k1:w.2=true:=by simpa using k1
        have g:=hw.2.1 k1
        by_cases z:tS a.aW+tS b.aW<=288230376151711744
        · rw [decide_eq_true z];exact ⟨(λq=>nomatch q),λq=>absurd ⟨g.1,g.2.1,g.2.2,z⟩ q⟩
        · rw [decide_eq_false z];exact ⟨λ_ q=>z q.2.2.2,λ_=>rfl⟩
    · have g:OKs a b:=Classical.not_not.1 λq=>by rw [hz.2 q] at k2;cases k2
      rw [aYI k g];rfl
theorem aYC {s:aA} {n:Nat} (hn:66<n) (h:SS s) {e i c m u:Int} {x:aQ} {p q a b:aH} {l:aB} (hs:nT s e i c x m u p q) (hl:l.aG<=9223372036854775807) (hb:¬ (f13 m u p l).2.2≠0->Beh s e i c x m u p q l (f13 m u p l) a b) :
    wN n s e i c l=some (brF s e i c x (f13 m u p l) a b l):=by
  have hf:=h.toS0.iC
  have ht:=hs.th
  have hlc:=hs.lc
  obtain ⟨bL,m1,m2⟩:=hs.ms
  obtain ⟨cs,c1,c2⟩:=hs.cs
  refine fH ?_
  unfold wN aAF
  simp only [WT.run,bS,sD h.toS0,qF,Option.bind_some]
  rw [decide_eq_true ht,decide_eq_true (p:=0<=c/\c<=1) hlc]
  refine aU (λz=>z=false) (aF (bW (aF (aD rfl)))) λz hz=>?_
  subst hz
  refine bW (dD ht.1.1 m1 (dD ht.2.1 m2 (dD ht.1.1 c1 (dD ht.2.1 c2 (x_eq (pX h.toS0 ht hlc hs.en hs.pp) (x_eq (r13 hn hs.io.pp hs.kk hl) (aF (aI (λk=>aD (aYL k).symm) λk=>x_eq (xK h hs) ?_))))))))
  have B:=hb k
  have bl1:=B.lv;have bl2:=B.ab0
  have l1:=B.la;have l2:=B.lb
  have lb1:=tC l1;have lb2:=tC l2
  refine aU _ (aFZ hn B.s0 B.th B.en B.pa B.pb B.la B.lb) λw hw=>?_
  refine aF (aI (λk1=>aD (aTU k λq=>k1 (hw.2.2 ⟨q.1,q.2.1,q.2.2.1⟩)).symm) λk1=>?_)
  have g:=hw.2.1 (Classical.not_not.1 k1)
  have a0:=pX (c:=0) B.s0 B.th (by omega) B.en B.pa
  have a1:=pX (c:=1) B.s0 B.th (by omega) B.en B.pb
  refine aU (λr=>r=a.aW++b.aW) ?_ λy hy=>?_
  · obtain ⟨m',rfl⟩:∃ m',n=m'+3:=⟨n-3,by omega⟩
    show Ex _ (iter _ (m'+2+1) _)
    refine aU (λr=>r=.inl (1,a.aW)) ?_ λr hr=>?_
    · refine bF (aF (aI (λ_=>x_eq a0 ?_) λk=>absurd (show (0:Int)<2 by decide) k))
      repeat' with_reducible first | refine bE ?_ | refine dU ?_ | apply aF | apply bF | apply dY | apply dN | apply dV | apply dZ | apply d9 | apply dO | apply dW | apply dS | refine aI (λ_=>?_) λ_=>?_ | refine dJ (λ_=>?_) λ_=>?_ | apply dB | apply bW | apply cZ | apply bJ | apply aD
      refine dM ?_
      exact bE (cK rfl)
    · subst hr
      refine cZ ?_
      show Ex _ (iter _ (m'+1+1) _)
      refine aU (λr=>r=.inl (2,a.aW++b.aW)) ?_ λr hr=>?_
      · refine bF (aF (aI (λ_=>x_eq a1 ?_) λk=>absurd (show (1:Int)<2 by decide) k))
        repeat' with_reducible first | refine bE ?_ | refine dU ?_ | apply aF | apply bF | apply dY | apply dN | apply dV | apply dZ | apply d9 | apply dO | apply dW | apply dS | refine aI (λ_=>?_) λ_=>?_ | refine dJ (λ_=>?_) λ_=>?_ | apply dB | apply bW | apply cZ | apply bJ | apply aD
        refine dM ?_
        exact bE (cK rfl)
      · subst hr
        refine cZ ?_
        show Ex _ (iter _ (m'+1) _)
        refine aU (λr=>r=.inr (a.aW++b.aW)) ?_ λr hr=>?_
        · exact bF (aF (aI (λk=>absurd k (show ¬(2:Int)<2 by decide)) λk=>bJ (aD rfl)))
        · subst hr;exact yK rfl
  · subst hy
    obtain ⟨z1,z2,z3,z4⟩:=tK a.aW b.aW
    refine aU _ (VU (l:=a.aW++b.aW) (by simp;omega) (by simp;omega) λy hy=>?_) λw2 hw2=>?_
    · rcases List.mem_append.1 hy with hy | hy
      · exact l1.1 y hy
      · exact l2.1 y hy
    refine aF (aI (λk2=>aD (aTU k λq=>k2 ?_).symm) λk2=>bE (aD ?_))
    · rw [hw2.1 (by rw [z4];exact q.2.2.2)]
    · rw [aYI k ⟨g.1,g.2.1,g.2.2,by have:=hw2.2 (Classical.not_not.1 k2);rw [z4] at this;exact this⟩];rfl
theorem a0N {s:aA} {n:Nat} (hn:66<n) (h:SS s) {e i c:Int} {l:aB} (hl:l.aG<=9223372036854775807):aD3 n s e i c l=wN n s e i c l:=by
  by_cases k:gY s e i/\0<=c/\c<=1
  · obtain ⟨x,m,u,p,q,hs⟩:=h.spot k.1 k.2
    by_cases k2:(f13 m u p l).2.2≠0
    · rw [aX8 (a:=p) (b:=p) hn h hs hl (λz=>absurd k2 z),aYC (a:=p) (b:=p) hn h hs hl (λz=>absurd k2 z)]
    · obtain ⟨a,b,B⟩:=beh hn h hs hl k2
      rw [aX8 hn h hs hl (λ_=>B),aYC hn h hs hl (λ_=>B)]
  · have e1:aD3 n s e i c l=some (s,0,0,4):=by
      refine fH ?_
      unfold aD3 aUT
      simp only [WT.run,bS,aGO h.toS0 h.ln,show H8 s e i c=-1 from if_neg k,Option.bind_some]
      exact aF (aI (λ_=>aD rfl) λz=>absurd (by decide) z)
    have e2:wN n s e i c l=some (s,0,0,4):=by
      refine fH ?_
      unfold wN aAF
      simp only [WT.run,bS,sD h.toS0,qF,Option.bind_some]
      refine aU (λz=>z=true) ?_ λz hz=>by subst hz;exact dB (aD rfl)
      by_cases k1:gY s e i
      · rw [decide_eq_true k1,decide_eq_false (p:=0<=c/\c<=1) λz=>k ⟨k1,z⟩]
        exact aF (bW (aF (aD rfl)))
      · rw [decide_eq_false k1];exact aF (dB (aD rfl))
    rw [e1,e2]
noncomputable def F9 (s:aA) (e i c:Int) (x:aQ) (r:aH×aB×Bool×Int):aA×aB×Bool×Int :=
  if r.2.2.2≠0 then (s,⟨0,0,0⟩,false,r.2.2.2) else (qD s e i c x r.1,r.2.1,r.2.2.1,0)
theorem aXB {s:aA} {n:Nat} (hn:66<n) (h:SS s) {e i c k z m u:Int} {x:aQ} {p q:aH} (hs:nT s e i c x m u p q) (hz:-9223372036854775808<=z/\z<=9223372036854775807) :
    xV n s e i c k z=some (F9 s e i c x (yF m u p k z)):=by
  have hf:=h.toS0.iC
  have ht:=hs.th
  have hlc:=hs.lc
  obtain ⟨bL,m1,m2⟩:=hs.ms
  obtain ⟨cs,c1,c2⟩:=hs.cs
  obtain ⟨mts',_,_,hes⟩:=hs.es'
  have hfew:=hes.iC hf.2.2
  have e0:H8 s e i c=i*2+c:=if_pos ⟨ht,hlc⟩
  have ei:(i*2+c).toNat=2*i.toNat+c.toNat:=by have:=ht.2;omega
  have t2:=ht.2
  refine fH ?_
  unfold xV SB
  simp only [WT.run,bS,aGO h.toS0 h.ln,e0,Option.bind_some]
  refine aF (aI (λk=>?_) λ_=>?_)
  · exfalso;omega
  refine dD ht.1.1 m1 (dD ht.2.1 m2 (dD ht.1.1 c1 (dD ht.2.1 c2 (dD ht.1.1 hs.en (dD (by omega) (by rw [ei];exact hs.pp) (x_eq (aRF hn hs.io.pp hs.kk hz) (aF (aF (aI (λkz=>aD (if_pos kz).symm) λkz=>?_)))))))))
  refine aU (λr=>r=(x.fU,x.Closed,x.dR,x.dQ,x.gI,x.Down,x.fV,x.bX.set (2*i.toNat+c.toNat) (yF m u p k z).1)) ?_ λr hr=>?_
  · exact aU (λ_=>True) (dM (dD ht.1.1 hs.en (aD trivial))) λ_ _=>dD ht.1.1 hs.en (dM (dD (by omega) (by rw [ei];exact hs.pp) (aF (aD (by rw [ei])))))
  · subst hr
    refine bF (bF (bF (bF (bF (bF (bF (dD ht.1.1 hs.en (aD ?_))))))))
    unfold F9
    rw [if_neg kz];rfl
theorem aTP {s:aA} {n:Nat} (hn:66<n) (h:SS s) {e i c k z m u:Int} {x:aQ} {p q:aH} (hs:nT s e i c x m u p q) (hz:-9223372036854775808<=z/\z<=9223372036854775807) :
    oM n s e i c k z=some (F9 s e i c x (yF m u p k z)):=by
  have hf:=h.toS0.iC
  have ht:=hs.th
  have hlc:=hs.lc
  obtain ⟨bL,m1,m2⟩:=hs.ms
  obtain ⟨cs,c1,c2⟩:=hs.cs
  refine fH ?_
  unfold oM IR
  simp only [WT.run,bS,sD h.toS0,qF,Option.bind_some]
  rw [decide_eq_true ht,decide_eq_true (p:=0<=c/\c<=1) hlc]
  refine aU (λz=>z=false) (aF (bW (aF (aD rfl)))) λz hz=>?_
  subst hz
  refine bW (dD ht.1.1 m1 (dD ht.2.1 m2 (dD ht.1.1 c1 (dD ht.2.1 c2 (x_eq (pX h.toS0 ht hlc hs.en hs.pp) (x_eq (aPG hn hs.io.pp hs.kk (by assumption)) (aF (aF (aI (λkz=>aD (if_pos kz).symm) λkz=>x_eq (xK h hs) (aD ?_))))))))))
  unfold F9
  rw [if_neg kz];rfl
theorem aWJ {s:aA} {n:Nat} (hn:66<n) (h:SS s) {e i c k z:Int} (hz:-9223372036854775808<=z/\z<=9223372036854775807):xV n s e i c k z=oM n s e i c k z:=by
  by_cases w:gY s e i/\0<=c/\c<=1
  · obtain ⟨x,m,u,p,q,hs⟩:=h.spot w.1 w.2
    rw [aXB hn h hs hz,aTP hn h hs hz]
  · have e1:xV n s e i c k z=some (s,⟨0,0,0⟩,false,4):=by
      refine fH ?_
      unfold xV SB
      simp only [WT.run,bS,aGO h.toS0 h.ln,show H8 s e i c=-1 from if_neg w,Option.bind_some]
      exact aF (aI (λ_=>aD rfl) λz=>absurd (by decide) z)
    have e2:oM n s e i c k z=some (s,⟨0,0,0⟩,false,4):=by
      refine fH ?_
      unfold oM IR
      simp only [WT.run,bS,sD h.toS0,qF,Option.bind_some]
      refine aU (λz=>z=true) ?_ λz hz=>by subst hz;exact dB (aD rfl)
      by_cases k1:gY s e i
      · rw [decide_eq_true k1,decide_eq_false (p:=0<=c/\c<=1) λz=>w ⟨k1,z⟩]
        exact aF (bW (aF (aD rfl)))
      · rw [decide_eq_false k1];exact aF (dB (aD rfl))
    rw [e1,e2]
def lK (l:List aN):Prop:=l.Pairwise λa b=>a.dI<b.dI
theorem U4:∀ {a b:List aN},lK a->lK b->(∀ y,y∈a↔y∈b)->a=b
  | [],[],_,_,_=>rfl
  | [],y :: b,_,_,h=>absurd ((h y).2 (List.mem_cons_self ..)) (by simp)
  | x :: a,[],_,_,h=>absurd ((h x).1 (List.mem_cons_self ..)) (by simp)
  | x :: a,y :: b,ha,hb,h=>by
    have ha':=List.pairwise_cons.1 ha
    have hb':=List.pairwise_cons.1 hb
    have e:x=y:=by
      rcases List.mem_cons.1 ((h x).1 (List.mem_cons_self ..)) with e | hm
      · exact e
      · rcases List.mem_cons.1 ((h y).2 (List.mem_cons_self ..)) with e | hm2
        · exact e.symm
        · have:=hb'.1 x hm;have:=ha'.1 y hm2;omega
    subst e
    rw [U4 ha'.2 hb'.2 λz=>?_]
    constructor
    · intro hz
      rcases List.mem_cons.1 ((h z).1 (List.mem_cons_of_mem _ hz)) with e | hm
      · subst e;have:=ha'.1 z hz;omega
      · exact hm
    · intro hz
      rcases List.mem_cons.1 ((h z).2 (List.mem_cons_of_mem _ hz)) with e | hm
      · subst e;have:=hb'.1 z hz;omega
      · exact hm
theorem aJK {x:aN} {R:List aN} {f:Int×List aN->Option ((Int×List aN)⊕List aN)}
    (hz:∀ l,f (0,l)=some (.inr l)) (hs:∀ (A:List aN) y T,A.length<=40->f ((A.length:Int)+1,A++y :: x :: T)=some (if x.dI<y.dI then .inl ((A.length:Int),A++x :: y :: T) else .inr (A++y :: x :: T))) :
    ∀ {n:Nat} {A B:List aN},A.length<n->A.length<=40->lK (A++B)->(∀ y∈A++B,y.dI≠x.dI)->(∀ b∈B,x.dI<b.dI) ->
      Ex (λr=>∃ S,r=S++R/\lK S/\S.Perm (A++B++[x])) (iter f n ((A.length:Int),A++x :: (B++R))):=by
  intro n
  induction n with
  | zero=>intro A B hn;exact absurd hn (Nat.not_lt_zero _)
  | succ n ih =>
    intro A B hn h40 hS hne hB
    show Ex _ ((f _).bind _)
    rcases List.eq_nil_or_concat A with rfl | ⟨A',y,rfl⟩
    · rw [show ((([]:List aN).length:Int))=0 from rfl,hz]
      refine ⟨_,rfl,x :: B,rfl,?_,?_⟩
      · exact List.pairwise_cons.2 ⟨hB,hS⟩
      · exact (List.perm_append_singleton x B).symm
    · have el:((A'++[y]).length:Int)=(A'.length:Int)+1:=by simp
      have ea:A'++[y]++x :: (B++R)=A'++y :: x :: (B++R):=by simp
      have hl':A'.length<=40:=by simp at h40;omega
      rw [List.concat_eq_append] at *
      rw [el,ea,hs A' y (B++R) hl']
      by_cases k:x.dI<y.dI
      · rw [if_pos k]
        have e2:A'++x :: y :: (B++R)=A'++x :: ((y :: B)++R):=rfl
        show Ex _ (iter f n _)
        rw [e2]
        have e3:A'++[y]++B=A'++(y :: B):=by simp
        rw [e3] at hS hne ⊢
        exact ih (by simp at hn;omega) hl' hS hne λb hb=>by
          rcases List.mem_cons.1 hb with rfl | hb
          · exact k
          · exact hB b hb
      · rw [if_neg k]
        have hy:y.dI<x.dI:=by have:=hne y (by simp);omega
        refine ⟨_,rfl,A'++[y]++x :: B,by simp,?_,?_⟩
        · have hS2:lK (A'++[y]++B):=hS
          unfold lK at hS2 ⊢
          rw [List.pairwise_append] at hS2 ⊢
          refine ⟨hS2.1,List.pairwise_cons.2 ⟨hB,hS2.2.1⟩,λa ha b hb=>?_⟩
          have hax:a.dI<=y.dI:=by
            rcases List.mem_append.1 ha with h1 | h1
            · have:=(List.pairwise_append.1 hS2.1).2.2 a h1 y (by simp);omega
            · rw [List.mem_singleton.1 h1];omega
          rcases List.mem_cons.1 hb with rfl | hb
          · omega
          · exact hS2.2.2 a ha b hb
        · have:(A'++[y]++x :: B).Perm (A'++[y]++(B++[x])):=List.Perm.append_left _ (List.perm_append_singleton x B).symm
          rw [<- List.append_assoc] at this
          exact this
theorem aHB (a:Int):C7 a=some false:=by
  unfold C7 aF2
  simp only [WT.run,bS]
  exact eU (λk=>k rfl) rfl
theorem aU1 (a b:Int):Ex (λr=>r<0↔a<b) (GD a b):=by
  unfold GD YK
  simp only [WT.run,bS,aHB,Option.bind_some]
  refine bW (bW (aF (aI (λk=>aD ⟨λ_=>k,λ_=>by decide⟩) λk=>aF (aI (λ_=>aD ⟨λq=>absurd q (by decide),λq=>absurd q k⟩) λ_=>aD ⟨λq=>absurd q (by decide),λq=>absurd q k⟩))))
theorem aEN {α:Type} (A:List α) (x:α) (T:List α):(A++x :: T)[A.length]?=some x:=by simp
theorem aMN {α:Type} (A:List α) (y x:α) (T:List α):(A++y :: x :: T)[A.length+1]?=some x:=by
  rw [List.getElem?_append_right (by omega)];simp
theorem US {α:Type}:∀ (A:List α) (y x:α) (T:List α),((A++y :: x :: T).set (A.length+1) y).set A.length x=A++x :: y :: T
  | [],_,_,_=>rfl
  | a :: A,y,x,T=>by
    have:=US A y x T
    simp only [List.cons_append,List.length_cons,List.set_cons_succ,this]
end Go.Pv
