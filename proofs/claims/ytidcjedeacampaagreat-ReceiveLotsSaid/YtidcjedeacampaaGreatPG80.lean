import Derived.Test.YtidcjedeacampaaGreatJ70
import Derived.Test.YtidcjedeacampaaGreatPN70
set_option linter.unusedVariables false
set_option linter.unusedSimpArgs false
namespace Go.Pv
open Go.Proofs
set_option maxRecDepth 1000000
set_option maxHeartbeats 1000000
theorem aMK (v a b:Int):JS v a b=some (decide (a<=v/\v<=b)):=by
  unfold JS aCB
  simp only [WT.run,bT]
  by_cases h1:v>=a
  · by_cases h2:v<=b
    · exact bZ (a:=true) (fD h1 (eY (fD h2 rfl))) (by simp;omega)
    · exact bZ (a:=false) (fD h1 (eY (cK h2 rfl))) (by simp;omega)
  · exact bZ (a:=false) (cK h1 (bS rfl)) (by simp;omega)
def Ln (s:aB):Prop:=∀ (e:Nat) x,s.bA[e]?=some x->x.bR.length=2*s.bF.bW.length/\x.dJ.length=s.bF.bW.length
theorem SS.ln {s:aB} (h:SS s):Ln s:=λe x hx=>by
  obtain ⟨bH,_,_,_,hes⟩:=h.bH hx
  exact ⟨hes.lp,hes.lr⟩
theorem JV {s:aB} (h:S0 s) (hl:Ln s) (e i:Int):AO s e i=some (decide (iH s e i)):=by
  have hf:=h.iK
  have h2:=h.len;have h3:=h.kF.lm;have h4:=h.kF.lc
  refine gF ?_
  unfold AO TO
  simp only [WT.run,bT]
  refine aW (λb=>b=true↔¬ iH s e i) ?_ λb hb=>fJ (λk=>aG (decide_eq_false (hb.1 k)).symm) λk=>?_
  · unfold iH
    repeat' with_reducible first | refine bG ?_ | refine dZ ?_ | apply aD | apply bK | apply dY | apply dN | apply eB | apply d9 | apply dV | apply dQ | apply dW | apply dU | refine aQ (λ_=>?_) λ_=>?_ | refine dK (λ_=>?_) λ_=>?_ | apply dF | apply bU | apply dA | apply bL | apply aG
    all_goals try (exact ⟨λ_=>by omega,λ_=>rfl⟩)
    rw [decide_eq_true_eq];exact ⟨λ_=>by omega,λ_=>by omega⟩
  · have ht:iH s e i:=Classical.not_not.1 λq=>by rw [hb.2 q] at k;cases k
    rw [decide_eq_true ht]
    obtain ⟨t1,t2⟩:=ht
    obtain ⟨x,hx⟩:=iH.at (s:=s) (e:=e) (i:=i) ⟨t1,t2⟩
    obtain ⟨l1,l2⟩:=hl _ _ hx
    have m1:e.toNat<s.bF.Methods.length:=by omega
    have c1:e.toNat<s.bF.gX.length:=by omega
    have em:=List.getElem?_eq_getElem m1
    have ec:=List.getElem?_eq_getElem c1
    have gm:=(h.kF.met _ (fO em)).1
    have gc:=(h.kF.cos _ (fO ec)).1
    refine dB t1.1 hx (aW (λb=>b=true) ?_ λb hb=>aG hb)
    refine bG (aD (aQ (λ_=>aD (aQ (λ_=>aD (aQ (λ_=>aD (aQ (λ_=>dB t1.1 em (aD (aQ (λ_=>dB t1.1 ec (aD (aG ?_))) λk=>?_))) λk=>?_)) λk=>?_)) λk=>?_)) λk=>?_))
    · exact decide_eq_true (by omega)
    all_goals (exfalso;omega)
theorem aPP {s:aB} (h:S0 s) (hl:Ln s) (e i:Int):NF s e i=pK s e i:=by
  unfold NF aBI pK NN
  simp only [WT.run,bT,JV h hl,uJ h,Option.bind_some]
noncomputable def GL (s:aB) (e i c:Int):Int:=open Classical in if iH s e i/\0<=c/\c<=1 then i*2+c else -1
theorem OS {s:aB} (h:S0 s) (hl:Ln s) (e i c:Int):E4 s e i c=some (GL s e i c):=by
  have hf:=h.iK
  refine gF ?_
  unfold E4 VU GL
  simp only [WT.run,bT,JV h hl,aMK,Option.bind_some]
  refine aW (λb=>b=true↔¬ (iH s e i/\0<=c/\c<=1)) ?_ λb hb=>fJ (λk=>aG (if_neg (hb.1 k)).symm) λk=>?_
  · by_cases k1:iH s e i
    · rw [decide_eq_true k1]
      refine aD (bU (aD (aG ?_)))
      by_cases k2:0<=c/\c<=1
      · rw [decide_eq_true k2];exact ⟨(λq=>nomatch q),λq=>absurd ⟨k1,k2⟩ q⟩
      · rw [decide_eq_false k2];exact ⟨λ_ q=>k2 q.2,λ_=>rfl⟩
    · rw [decide_eq_false k1];exact aD (dF (aG ⟨λ_ q=>k1 q.1,λ_=>rfl⟩))
  · have ht:iH s e i/\0<=c/\c<=1:=Classical.not_not.1 λq=>by rw [hb.2 q] at k;cases k
    rw [if_pos ht]
    obtain ⟨⟨t1,t2⟩,t3⟩:=ht
    exact bG (bG (aG rfl))
theorem KH {s:aB} (h:S0 s) (hl:Ln s) {e i c:Int} {x:aP} {p:aS} (ht:iH s e i) (hc:0<=c/\c<=1) (hx:s.bA[e.toNat]?=some x) (hp:x.bR[2*i.toNat+c.toNat]?=some p) (hlp:p.aI.length<=30):FL s e i c=some p:=by
  have hf:=h.iK
  have ei:(i*2+c).toNat=2*i.toNat+c.toNat:=by have:=ht.2;omega
  have e0:GL s e i c=i*2+c:=if_pos ⟨ht,hc⟩
  refine gF ?_
  unfold FL aAC
  simp only [WT.run,bT,OS h hl,e0,Option.bind_some]
  have t2:=ht.2
  refine aD (aQ (λk=>?_) λk=>?_)
  · exfalso;omega
  · exact dB ht.1.1 hx (dB (by omega) (by rw [ei];exact hp) (dO (aG rfl)))
theorem aKO {s:aB} {n:Nat} (hn:66<n) (h:S0 s) (hl:Ln s) {e i:Int} {x:aP} {p q:aS} (ht:iH s e i) (hx:s.bA[e.toNat]?=some x) (hp:x.bR[2*i.toNat]?=some p) (hq:x.bR[2*i.toNat+1]?=some q) (lp:LR p.aI) (lq:LR q.aI) :
    Ex (λr=>r.1=⟨(gP [tQ p.aI,tQ q.aI]).1,(gP [tV p.aI,tV q.aI]).1,(gP [tP p.aI,tP q.aI]).1⟩/\(r.2=true↔(gP [tQ p.aI,tQ q.aI]).2=0/\(gP [tV p.aI,tV q.aI]).2=0/\(gP [tP p.aI,tP q.aI]).2=0)) (IF n s e i):=by
  have a0:=KH (c:=0) h hl ht (by omega) hx hp (nI lp)
  have a1:=KH (c:=1) h hl ht (by omega) hx hq (nI lq)
  obtain ⟨m,rfl⟩:∃ m,n=m+3:=⟨n-3,by omega⟩
  unfold IF aB1
  simp only [WT.run,bT]
  refine aW (λr=>r=([tQ p.aI,tQ q.aI],[tV p.aI,tV q.aI],[tP p.aI,tP q.aI])) ?_ λr hr=>?_
  · show Ex _ (iter _ (m+2+1) _)
    refine aW (λr=>r=.inl (1,[tQ p.aI],[tV p.aI],[tP p.aI])) ?_ λr hr=>?_
    · refine bK (bK (bK (aD (aQ (λ_=>?_) λk=>absurd (show (0:Int)<2 by decide) k))))
      refine x_eq a0 (x_eq (R5 hn lp) ?_)
      repeat' with_reducible first | refine bG ?_ | refine dZ ?_ | apply aD | apply bK | apply dY | apply dN | apply eB | apply d9 | apply dV | apply dQ | apply dW | apply dU | refine aQ (λ_=>?_) λ_=>?_ | refine dK (λ_=>?_) λ_=>?_ | apply dF | apply bU | apply dA | apply bL | apply aG | refine dO ?_
      exact dD rfl
    · subst hr
      refine dA ?_
      show Ex _ (iter _ (m+1+1) _)
      refine aW (λr=>r=.inl (2,[tQ p.aI,tQ q.aI],[tV p.aI,tV q.aI],[tP p.aI,tP q.aI])) ?_ λr hr=>?_
      · refine bK (bK (bK (aD (aQ (λ_=>?_) λk=>absurd (show (1:Int)<2 by decide) k))))
        refine x_eq a1 (x_eq (R5 hn lq) ?_)
        repeat' with_reducible first | refine bG ?_ | refine dZ ?_ | apply aD | apply bK | apply dY | apply dN | apply eB | apply d9 | apply dV | apply dQ | apply dW | apply dU | refine aQ (λ_=>?_) λ_=>?_ | refine dK (λ_=>?_) λ_=>?_ | apply dF | apply bU | apply dA | apply bL | apply aG | refine dO ?_
        exact dD rfl
      · subst hr
        refine dA ?_
        show Ex _ (iter _ (m+1) _)
        refine aW (λr=>r=.inr ([tQ p.aI,tQ q.aI],[tV p.aI,tV q.aI],[tP p.aI,tP q.aI])) ?_ λr hr=>?_
        · exact bK (bK (bK (aD (aQ (λk=>absurd k (show ¬(2:Int)<2 by decide)) λk=>bL (aG rfl)))))
        · subst hr;exact vH rfl
  · subst hr
    refine bK (bK ?_)
    refine x_eq (wQ (by simp;omega) (by simp)) (x_eq (wQ (by simp;omega) (by simp)) (x_eq (wQ (by simp;omega) (by simp)) (aD (aD (aG ⟨rfl,?_⟩)))))
    have z1:=(sO (tQ p.aI) (tQ q.aI)).2.2
    have z2:=(sO (tV p.aI) (tV q.aI)).2.2
    have z3:=(sO (tP p.aI) (tP q.aI)).2.2
    rw [decide_eq_true_eq]
    generalize (gP [tQ p.aI,tQ q.aI]).2=a at *
    generalize (gP [tV p.aI,tV q.aI]).2=b at *
    generalize (gP [tP p.aI,tP q.aI]).2=c at *
    split <;> (try split) <;> omega
def sw (l:List aF):List Int:=l.map λx=>ab x.bO
theorem NS:∀ l:List aF,kM (sw l)=tS l/\lZ (sw l)=tS l
  | []=>⟨rfl,rfl⟩
  | x :: r=>by
    obtain ⟨h1,h2⟩:=NS r
    have e:ab (ab x.bO)=ab x.bO:=by have:=nY x.bO;unfold ab;split <;> (try split) <;> omega
    exact ⟨by show ab x.bO+kM (sw r)=_;rw [h1];rfl,by show ab (ab x.bO)+lZ (sw r)=_;rw [h2,e];rfl⟩
theorem aMR (a b:List Int):kM (a++b)=kM a+kM b/\lZ (a++b)=lZ a+lZ b:=by
  induction a with
  | nil=>exact ⟨(Int.zero_add _).symm,(Int.zero_add _).symm⟩
  | cons x r ih=>exact ⟨by show x+kM (r++b)=x+kM r+kM b;rw [ih.1];omega,by show ab x+lZ (r++b)=ab x+lZ r+lZ b;rw [ih.2];omega⟩
theorem aSG {s:aB} {n:Nat} (hn:66<n) (h:S0 s) (hl:Ln s) {e i:Int} {x:aP} {p q:aS} (ht:iH s e i) (hx:s.bA[e.toNat]?=some x) (hp:x.bR[2*i.toNat]?=some p) (hq:x.bR[2*i.toNat+1]?=some q) (lp:LR p.aI) (lq:LR q.aI) :
    JL n s e i=some (decide (tS p.aI+tS q.aI<=288230376151711744)):=by
  have a0:=KH (c:=0) h hl ht (by omega) hx hp (nI lp)
  have a1:=KH (c:=1) h hl ht (by omega) hx hq (nI lq)
  have p1:=nI lp;have q1:=nI lq
  obtain ⟨m,rfl⟩:∃ m,n=m+3:=⟨n-3,by omega⟩
  refine gF ?_
  unfold JL aBE
  simp only [WT.run,bT]
  have inner:∀ (L:List aF) (acc:List Int),LR L->acc.length<=30->∀ (f:Int×List Int->Option ((Int×List Int)⊕List Int)),
      (∀ j a x,0<=j->L[j.toNat]?=some x->j<(L.length:Int)->bN x.bO->a.length<=60->f (j,a)=some (.inl (j+1,a++[ab x.bO])))->(∀ j a,¬ j<(L.length:Int)->f (j,a)=some (.inr a)) ->
      Ex (λr=>r=acc++sw L) (iter f (m+3) (0,acc)):=by
    intro L acc hL hacc f h1 h2
    have hb:=nI hL
    refine gB (λ(v:Int×List Int)=>0<=v.1/\v.1<=(L.length:Int)/\v.2=acc++sw (L.take v.1.toNat)) (λv=>L.length-v.1.toNat) ?_ (v:=(0,acc)) (by simp [sw]) (by simp;omega)
    rintro ⟨j,a⟩ ⟨g0,g1,g2⟩
    simp only at g0 g1 g2
    subst g2
    by_cases k:j<(L.length:Int)
    · have hx:=List.getElem?_eq_getElem (l:=L) (i:=j.toNat) (by omega)
      have e:(j+1).toNat=j.toNat+1:=by omega
      refine ⟨_,h1 j _ _ g0 hx k (hL.1 _ (fO hx)).2.2 (by simp [sw];omega),⟨by simp only;omega,by simp only;omega,?_⟩,by simp only;omega⟩
      have:=take_at (f:=λx=>ab x.bO) hx
      simp only [e]
      unfold sw
      rw [<- this,List.append_assoc]
    · refine ⟨_,h2 j _ k,?_⟩
      show _=_
      rw [List.take_of_length_le (by omega)]
  have body:∀ (j:Int) (x:aF) (a:List Int) (F:Int->Option ((Int×List Int)⊕List Int)),bN x.bO->a.length<=60->True:=λ_ _ _ _ _ _=>trivial
  have e2:∀ x:aF,(if 0-x.bO>x.bO then 0-x.bO else x.bO)=ab x.bO:=λx=>by unfold ab;split <;> split <;> omega
  refine aW (λr=>r=sw p.aI++sw q.aI) ?_ λr hr=>?_
  · show Ex _ (iter _ (m+2+1) _)
    refine aW (λr=>r=.inl (1,sw p.aI)) ?_ λr hr=>?_
    · refine bK (aD (aQ (λ_=>?_) λk=>absurd (show (0:Int)<2 by decide) k))
      refine aW (λr=>r=sw p.aI) (x_eq a0 (aW (λr=>r=[]++sw p.aI) (inner p.aI [] lp (by simp) _ ?_ ?_) λr hr=>aG (by rw [hr];rfl))) λr hr=>?_
      · intro j a x g0 hx k hp hal
        unfold bN at hp
        refine gF (bK (aD (aQ (λ_=>eZ g0 k λy hy=>?_) λq=>absurd k q)))
        rw [hx] at hy;cases hy
        refine bG (aD ?_)
        rw [e2]
        exact aD (dO (bG (dD rfl)))
      · intro j a k
        exact gF (bK (aD (aQ (λq=>absurd q k) λ_=>bL (aG rfl))))
      · subst hr;exact lI (by first | decide | simp) (dD rfl)
    · subst hr
      refine dA ?_
      show Ex _ (iter _ (m+1+1) _)
      refine aW (λr=>r=.inl (2,sw p.aI++sw q.aI)) ?_ λr hr=>?_
      · refine bK (aD (aQ (λ_=>?_) λk=>absurd (show (1:Int)<2 by decide) k))
        refine aW (λr=>r=sw p.aI++sw q.aI) (x_eq a1 (aW (λr=>r=sw p.aI++sw q.aI) (inner q.aI (sw p.aI) lq (by simp [sw];omega) _ ?_ ?_) λr hr=>aG hr)) λr hr=>?_
        · intro j a x g0 hx k hp hal
          unfold bN at hp
          refine gF (bK (aD (aQ (λ_=>eZ g0 k λy hy=>?_) λq=>absurd k q)))
          rw [hx] at hy;cases hy
          refine bG (aD ?_)
          rw [e2]
          exact aD (dO (bG (dD rfl)))
        · intro j a k
          exact gF (bK (aD (aQ (λq=>absurd q k) λ_=>bL (aG rfl))))
        · subst hr;exact lI (by first | decide | simp) (dD rfl)
      · subst hr
        refine dA ?_
        show Ex _ (iter _ (m+1) _)
        refine aW (λr=>r=.inr (sw p.aI++sw q.aI)) ?_ λr hr=>?_
        · exact bK (aD (aQ (λk=>absurd k (show ¬(2:Int)<2 by decide)) λk=>bL (aG rfl)))
        · subst hr;exact vH rfl
  · subst hr
    refine x_eq (wQ (by simp [sw];omega) (by simp [sw];omega)) (aD (aG ?_))
    obtain ⟨s1,s2⟩:=NS p.aI
    obtain ⟨s3,s4⟩:=NS q.aI
    obtain ⟨s5,s6⟩:=aMR (sw p.aI) (sw q.aI)
    rcases A9 (l:=sw p.aI++sw q.aI) (by rw [s5,s6,s1,s2,s3,s4]) with ⟨g1,g2⟩ | ⟨g1,g2⟩
    · rw [s5,s1,s3] at g1;rw [g2];simp [g1]
    · rw [s5,s1,s3] at g1;simp only [g2];simp [g1]
def GY (a b:aS):Prop:=(gP [tQ a.aI,tQ b.aI]).2=0/\(gP [tV a.aI,tV b.aI]).2=0/\(gP [tP a.aI,tP b.aI]).2=0/\tS a.aI+tS b.aI<=288230376151711744
noncomputable def AF (s:aB) (e i c:Int) (x:aP) (r:aS×Int×Int) (a b:aS) (l:aF):aB×Int×Int×Int :=
  open Classical in if r.2.2≠0 then (s,0,0,r.2.2) else if GY a b then (qH s e i c x r.1,l.Value-r.2.1,r.2.1,0) else (s,0,0,2)
theorem V9 {s:aB} {e i c:Int} {x:aP} {r:aS×Int×Int} {a b:aS} {l:aF} (h:r.2.2≠0):AF s e i c x r a b l=(s,0,0,r.2.2):=if_pos h
theorem UE {s:aB} {e i c:Int} {x:aP} {r:aS×Int×Int} {a b:aS} {l:aF} (h:¬ r.2.2≠0) (h2:GY a b):AF s e i c x r a b l=(qH s e i c x r.1,l.Value-r.2.1,r.2.1,0):=by unfold AF;rw [if_neg h,if_pos h2]
theorem SX {s:aB} {e i c:Int} {x:aP} {r:aS×Int×Int} {a b:aS} {l:aF} (h:¬ r.2.2≠0) (h2:¬ GY a b):AF s e i c x r a b l=(s,0,0,2):=by unfold AF;rw [if_neg h,if_neg h2]
structure QV (s:aB) (e i c:Int) (x:aP) (m k:Int) (p q:aS) (l:aF) (r:aS×Int×Int) (a b:aS):Prop where
  s0:S0 (qH s e i c x r.1)
  ln:Ln (qH s e i c x r.1)
  th:iH (qH s e i c x r.1) e i
  en:(qH s e i c x r.1).bA[e.toNat]?=some { x with bR:=x.bR.set (2*i.toNat+c.toNat) r.1 }
  pa:(x.bR.set (2*i.toNat+c.toNat) r.1)[2*i.toNat]?=some a
  pb:(x.bR.set (2*i.toNat+c.toNat) r.1)[2*i.toNat+1]?=some b
  la:LR a.aI
  lb:LR b.aI
  ZM:-288230376151711744<=r.2.1/\r.2.1<=288230376151711744
  lv:0<=l.Value/\l.Value<=288230376151711744
theorem beh {s:aB} {n:Nat} (hn:66<n) (h:SS s) {e i c m k:Int} {x:aP} {p q:aS} {l:aF} (hs:o8 s e i c x m k p q) (hl:l.aT<=9223372036854775807) (h0:¬ (f13 m k p l).2.2≠0):∃ a b,QV s e i c x m k p q l (f13 m k p l) a b:=by
  have hr:=IE (aDM (x:=l) hn hs.io.pp hs.kk hl) (r13 hn hs.io.pp hs.kk hl)
  rcases hr with ⟨r1,r2,r3⟩ | ⟨r1,_⟩
  rotate_left
  · exact absurd r1 h0
  obtain ⟨en2,a,b,pa,pb,hab⟩:=hs.put (p':=(f13 m k p l).1)
  have ht:=hs.th
  refine ⟨a,b,⟨h.kF,by show ((s.bA.set _ _).length:Int)=_;rw [List.length_set];exact h.len⟩,?_,?_,en2,pa,pb,?_,?_,r3,r2.2.2.2.2.2.2⟩
  · intro f y hy
    have hy:(s.bA.set e.toNat _)[f]?=some y:=hy
    have hk:e.toNat<s.bA.length:=(List.getElem?_eq_some_iff.1 hs.en).1
    rw [mE hk] at hy
    by_cases hf:e.toNat=f
    · rw [if_pos hf] at hy;cases hy
      obtain ⟨g1,g2⟩:=h.ln _ _ hs.en
      exact ⟨by show (x.bR.set _ _).length=_;rw [List.length_set];exact g1,g2⟩
    · rw [if_neg hf] at hy;exact h.ln _ _ hy
  · refine ⟨⟨ht.1.1,?_⟩,ht.2⟩
    show e<((s.bA.set _ _).length:Int);rw [List.length_set];exact ht.1.2
  · rcases hab with ⟨_,rfl,rfl⟩ | ⟨_,rfl,rfl⟩
    · exact r2.1.ly
    · exact hs.io.qq.ly
  · rcases hab with ⟨_,rfl,rfl⟩ | ⟨_,rfl,rfl⟩
    · exact hs.io.qq.ly
    · exact r2.1.ly
theorem aCR {s:aB} {n:Nat} (hn:66<n) (h:SS s) {e i c m u:Int} {x:aP} {p q a b:aS} {l:aF} (hs:o8 s e i c x m u p q) (hl:l.aT<=9223372036854775807) (hb:¬ (f13 m u p l).2.2≠0->QV s e i c x m u p q l (f13 m u p l) a b) :
    yO n s e i c l=some (AF s e i c x (f13 m u p l) a b l):=by
  have hf:=h.toS0.iK
  have ht:=hs.th
  have hlc:=hs.lc
  obtain ⟨bH,m1,m2⟩:=hs.ms
  obtain ⟨cs,c1,c2⟩:=hs.cs
  obtain ⟨mts',_,_,hes⟩:=hs.es'
  have hfew:=hes.iK hf.2.2
  have e0:GL s e i c=i*2+c:=if_pos ⟨ht,hlc⟩
  have ei:(i*2+c).toNat=2*i.toNat+c.toNat:=by have:=ht.2;omega
  have t2:=ht.2
  refine gF ?_
  unfold yO O5
  simp only [WT.run,bT,OS h.toS0 h.ln,e0,Option.bind_some]
  refine aD (aQ (λk=>?_) λ_=>?_)
  · exfalso;omega
  refine dB ht.1.1 m1 (dB ht.2.1 m2 (dB ht.1.1 c1 (dB ht.2.1 c2 (dB ht.1.1 hs.en (dB (by omega) (by rw [ei];exact hs.pp) (x_eq (AA hn hs.io.pp hs.kk hl) (aD (aQ (λk=>aG (V9 k).symm) λk=>?_))))))))
  have B:=hb k
  refine aW (λr=>r=(x.fQ,x.Closed,x.dI,x.dJ,x.gJ,x.Down,x.fZ,x.bR.set (2*i.toNat+c.toNat) (f13 m u p l).1)) ?_ λr hr=>?_
  · exact aW (λ_=>True) (dO (dB ht.1.1 hs.en (aG trivial))) λ_ _=>dB ht.1.1 hs.en (dO (dB (by omega) (by rw [ei];exact hs.pp) (aD (aG (by rw [ei])))))
  · subst hr
    refine bK (bK (bK (bK (bK (bK (bK (dB ht.1.1 hs.en (aW _ (aKO hn B.s0 B.ln B.th B.en B.pa B.pb B.la B.lb) λw hw=>?_))))))))
    have bl1:=B.lv;have bl2:=B.ZM
    refine aW (λz=>z=true↔¬ GY a b) ?_ λz hz=>fJ (λk2=>aG (SX k (hz.1 k2)).symm) λk2=>bG (aG ?_)
    · refine aD (fJ (λk1=>aG ⟨λ_ q=>?_,λ_=>rfl⟩) λk1=>x_eq (aSG hn B.s0 B.ln B.th B.en B.pa B.pb B.la B.lb) (aD (aG ?_)))
      · rw [hw.2.2 ⟨q.1,q.2.1,q.2.2.1⟩] at k1;cases k1
      · have k1:w.2=true:=by simpa using k1
        have g:=hw.2.1 k1
        by_cases z:tS a.aI+tS b.aI<=288230376151711744
        · rw [decide_eq_true z];exact ⟨(λq=>nomatch q),λq=>absurd ⟨g.1,g.2.1,g.2.2,z⟩ q⟩
        · rw [decide_eq_false z];exact ⟨λ_ q=>z q.2.2.2,λ_=>rfl⟩
    · have g:GY a b:=Classical.not_not.1 λq=>by rw [hz.2 q] at k2;cases k2
      rw [UE k g];rfl
theorem aB7 {s:aB} {n:Nat} (hn:66<n) (h:SS s) {e i c m u:Int} {x:aP} {p q a b:aS} {l:aF} (hs:o8 s e i c x m u p q) (hl:l.aT<=9223372036854775807) (hb:¬ (f13 m u p l).2.2≠0->QV s e i c x m u p q l (f13 m u p l) a b) :
    qO n s e i c l=some (AF s e i c x (f13 m u p l) a b l):=by
  have hf:=h.toS0.iK
  have ht:=hs.th
  have hlc:=hs.lc
  obtain ⟨bH,m1,m2⟩:=hs.ms
  obtain ⟨cs,c1,c2⟩:=hs.cs
  refine gF ?_
  unfold qO K8
  simp only [WT.run,bT,uJ h.toS0,qX,Option.bind_some]
  rw [decide_eq_true ht,decide_eq_true (p:=0<=c/\c<=1) hlc]
  refine aW (λz=>z=false) (aD (bU (aD (aG rfl)))) λz hz=>?_
  subst hz
  refine bU (dB ht.1.1 m1 (dB ht.2.1 m2 (dB ht.1.1 c1 (dB ht.2.1 c2 (x_eq (pX h.toS0 ht hlc hs.en hs.pp) (x_eq (r13 hn hs.io.pp hs.kk hl) (aD (aQ (λk=>aG (V9 k).symm) λk=>x_eq (yY h hs) ?_))))))))
  have B:=hb k
  have bl1:=B.lv;have bl2:=B.ZM
  have l1:=B.la;have l2:=B.lb
  have lb1:=nI l1;have lb2:=nI l2
  refine aW _ (NP hn B.s0 B.th B.en B.pa B.pb B.la B.lb) λw hw=>?_
  refine aD (aQ (λk1=>aG (SX k λq=>k1 (hw.2.2 ⟨q.1,q.2.1,q.2.2.1⟩)).symm) λk1=>?_)
  have g:=hw.2.1 (Classical.not_not.1 k1)
  have a0:=pX (c:=0) B.s0 B.th (by omega) B.en B.pa
  have a1:=pX (c:=1) B.s0 B.th (by omega) B.en B.pb
  refine aW (λr=>r=a.aI++b.aI) ?_ λy hy=>?_
  · obtain ⟨m',rfl⟩:∃ m',n=m'+3:=⟨n-3,by omega⟩
    show Ex _ (iter _ (m'+2+1) _)
    refine aW (λr=>r=.inl (1,a.aI)) ?_ λr hr=>?_
    · refine bK (aD (aQ (λ_=>x_eq a0 ?_) λk=>absurd (show (0:Int)<2 by decide) k))
      repeat' with_reducible first | refine bG ?_ | refine dZ ?_ | apply aD | apply bK | apply dY | apply dN | apply eB | apply d9 | apply dV | apply dQ | apply dW | apply dU | refine aQ (λ_=>?_) λ_=>?_ | refine dK (λ_=>?_) λ_=>?_ | apply dF | apply bU | apply dA | apply bL | apply aG
      refine dO ?_
      exact bG (dD rfl)
    · subst hr
      refine dA ?_
      show Ex _ (iter _ (m'+1+1) _)
      refine aW (λr=>r=.inl (2,a.aI++b.aI)) ?_ λr hr=>?_
      · refine bK (aD (aQ (λ_=>x_eq a1 ?_) λk=>absurd (show (1:Int)<2 by decide) k))
        repeat' with_reducible first | refine bG ?_ | refine dZ ?_ | apply aD | apply bK | apply dY | apply dN | apply eB | apply d9 | apply dV | apply dQ | apply dW | apply dU | refine aQ (λ_=>?_) λ_=>?_ | refine dK (λ_=>?_) λ_=>?_ | apply dF | apply bU | apply dA | apply bL | apply aG
        refine dO ?_
        exact bG (dD rfl)
      · subst hr
        refine dA ?_
        show Ex _ (iter _ (m'+1) _)
        refine aW (λr=>r=.inr (a.aI++b.aI)) ?_ λr hr=>?_
        · exact bK (aD (aQ (λk=>absurd k (show ¬(2:Int)<2 by decide)) λk=>bL (aG rfl)))
        · subst hr;exact vH rfl
  · subst hy
    obtain ⟨z1,z2,z3,z4⟩:=vR a.aI b.aI
    refine aW _ (P9 (l:=a.aI++b.aI) (by simp;omega) (by simp;omega) λy hy=>?_) λw2 hw2=>?_
    · rcases List.mem_append.1 hy with hy | hy
      · exact l1.1 y hy
      · exact l2.1 y hy
    refine aD (aQ (λk2=>aG (SX k λq=>k2 ?_).symm) λk2=>bG (aG ?_))
    · rw [hw2.1 (by rw [z4];exact q.2.2.2)]
    · rw [UE k ⟨g.1,g.2.1,g.2.2,by have:=hw2.2 (Classical.not_not.1 k2);rw [z4] at this;exact this⟩];rfl
theorem aIT {s:aB} {n:Nat} (hn:66<n) (h:SS s) {e i c:Int} {l:aF} (hl:l.aT<=9223372036854775807):yO n s e i c l=qO n s e i c l:=by
  by_cases k:iH s e i/\0<=c/\c<=1
  · obtain ⟨x,m,u,p,q,hs⟩:=h.spot k.1 k.2
    by_cases k2:(f13 m u p l).2.2≠0
    · rw [aCR (a:=p) (b:=p) hn h hs hl (λz=>absurd k2 z),aB7 (a:=p) (b:=p) hn h hs hl (λz=>absurd k2 z)]
    · obtain ⟨a,b,B⟩:=beh hn h hs hl k2
      rw [aCR hn h hs hl (λ_=>B),aB7 hn h hs hl (λ_=>B)]
  · have e1:yO n s e i c l=some (s,0,0,4):=by
      refine gF ?_
      unfold yO O5
      simp only [WT.run,bT,OS h.toS0 h.ln,show GL s e i c=-1 from if_neg k,Option.bind_some]
      exact aD (aQ (λ_=>aG rfl) λz=>absurd (by decide) z)
    have e2:qO n s e i c l=some (s,0,0,4):=by
      refine gF ?_
      unfold qO K8
      simp only [WT.run,bT,uJ h.toS0,qX,Option.bind_some]
      refine aW (λz=>z=true) ?_ λz hz=>by subst hz;exact dF (aG rfl)
      by_cases k1:iH s e i
      · rw [decide_eq_true k1,decide_eq_false (p:=0<=c/\c<=1) λz=>k ⟨k1,z⟩]
        exact aD (bU (aD (aG rfl)))
      · rw [decide_eq_false k1];exact aD (dF (aG rfl))
    rw [e1,e2]
def mR (l:List aN):Prop:=l.Pairwise λa b=>a.dL<b.dL
theorem aER:∀ {a b:List aN},mR a->mR b->(∀ y,y∈a↔y∈b)->a=b
  | [],[],_,_,_=>rfl
  | [],y :: b,_,_,h=>absurd ((h y).2 (List.mem_cons_self ..)) (by simp)
  | x :: a,[],_,_,h=>absurd ((h x).1 (List.mem_cons_self ..)) (by simp)
  | x :: a,y :: b,ha,hb,h=>by
    have ha':=List.pairwise_cons.1 ha
    have hb':=List.pairwise_cons.1 hb
    have e:x=y:=by
      rcases List.mem_cons.1 ((h x).1 (List.mem_cons_self ..)) with e | hm
      · exact e
      · rcases List.mem_cons.1 ((h y).2 (List.mem_cons_self ..)) with e | hm2
        · exact e.symm
        · have:=hb'.1 x hm;have:=ha'.1 y hm2;omega
    subst e
    rw [aER ha'.2 hb'.2 λz=>?_]
    constructor
    · intro hz
      rcases List.mem_cons.1 ((h z).1 (List.mem_cons_of_mem _ hz)) with e | hm
      · subst e;have:=ha'.1 z hz;omega
      · exact hm
    · intro hz
      rcases List.mem_cons.1 ((h z).2 (List.mem_cons_of_mem _ hz)) with e | hm
      · subst e;have:=hb'.1 z hz;omega
      · exact hm
theorem aUL {x:aN} {R:List aN} {f:Int×List aN->Option ((Int×List aN)⊕List aN)}
    (hz:∀ l,f (0,l)=some (.inr l)) (hs:∀ (A:List aN) y T,A.length<=40->f ((A.length:Int)+1,A++y :: x :: T)=some (if x.dL<y.dL then .inl ((A.length:Int),A++x :: y :: T) else .inr (A++y :: x :: T))) :
    ∀ {n:Nat} {A B:List aN},A.length<n->A.length<=40->mR (A++B)->(∀ y∈A++B,y.dL≠x.dL)->(∀ b∈B,x.dL<b.dL) ->
      Ex (λr=>∃ S,r=S++R/\mR S/\S.Perm (A++B++[x])) (iter f n ((A.length:Int),A++x :: (B++R))):=by
  intro n
  induction n with
  | zero=>intro A B hn;exact absurd hn (Nat.not_lt_zero _)
  | succ n ih =>
    intro A B hn h40 hS hne hB
    show Ex _ ((f _).bind _)
    rcases List.eq_nil_or_concat A with rfl | ⟨A',y,rfl⟩
    · rw [show ((([]:List aN).length:Int))=0 from rfl,hz]
      refine ⟨_,rfl,x :: B,rfl,?_,?_⟩
      · exact List.pairwise_cons.2 ⟨hB,hS⟩
      · exact (List.perm_append_singleton x B).symm
    · have el:((A'++[y]).length:Int)=(A'.length:Int)+1:=by simp
      have ea:A'++[y]++x :: (B++R)=A'++y :: x :: (B++R):=by simp
      have hl':A'.length<=40:=by simp at h40;omega
      rw [List.concat_eq_append] at *
      rw [el,ea,hs A' y (B++R) hl']
      by_cases k:x.dL<y.dL
      · rw [if_pos k]
        have e2:A'++x :: y :: (B++R)=A'++x :: ((y :: B)++R):=rfl
        show Ex _ (iter f n _)
        rw [e2]
        have e3:A'++[y]++B=A'++(y :: B):=by simp
        rw [e3] at hS hne ⊢
        exact ih (by simp at hn;omega) hl' hS hne λb hb=>by
          rcases List.mem_cons.1 hb with rfl | hb
          · exact k
          · exact hB b hb
      · rw [if_neg k]
        have hy:y.dL<x.dL:=by have:=hne y (by simp);omega
        refine ⟨_,rfl,A'++[y]++x :: B,by simp,?_,?_⟩
        · have hS2:mR (A'++[y]++B):=hS
          unfold mR at hS2 ⊢
          rw [List.pairwise_append] at hS2 ⊢
          refine ⟨hS2.1,List.pairwise_cons.2 ⟨hB,hS2.2.1⟩,λa ha b hb=>?_⟩
          have hax:a.dL<=y.dL:=by
            rcases List.mem_append.1 ha with h1 | h1
            · have:=(List.pairwise_append.1 hS2.1).2.2 a h1 y (by simp);omega
            · rw [List.mem_singleton.1 h1];omega
          rcases List.mem_cons.1 hb with rfl | hb
          · omega
          · exact hS2.2.2 a ha b hb
        · have:(A'++[y]++x :: B).Perm (A'++[y]++(B++[x])):=List.Perm.append_left _ (List.perm_append_singleton x B).symm
          rw [<- List.append_assoc] at this
          exact this
theorem aG8 (a:Int):FB a=some false:=by
  unfold FB aB0
  simp only [WT.run,bT]
  exact cK (λk=>k rfl) rfl
theorem aIJ (a b:Int):Ex (λr=>r<0↔a<b) (JZ a b):=by
  unfold JZ aCO
  simp only [WT.run,bT,aG8,Option.bind_some]
  refine bU (bU (aD (aQ (λk=>aG ⟨λ_=>k,λ_=>by decide⟩) λk=>aD (aQ (λ_=>aG ⟨λq=>absurd q (by decide),λq=>absurd q k⟩) λ_=>aG ⟨λq=>absurd q (by decide),λq=>absurd q k⟩))))
theorem aCJ {α:Type} (A:List α) (x:α) (T:List α):(A++x :: T)[A.length]?=some x:=by simp
theorem aSY {α:Type} (A:List α) (y x:α) (T:List α):(A++y :: x :: T)[A.length+1]?=some x:=by
  rw [List.getElem?_append_right (by omega)];simp
theorem YZ {α:Type}:∀ (A:List α) (y x:α) (T:List α),((A++y :: x :: T).set (A.length+1) y).set A.length x=A++x :: y :: T
  | [],_,_,_=>rfl
  | a :: A,y,x,T=>by
    have:=YZ A y x T
    simp only [List.cons_append,List.length_cons,List.set_cons_succ,this]
end Go.Pv
