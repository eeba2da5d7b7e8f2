import Derived.Test.YtgoihillpibdjaaGreatPC80
import Derived.Test.YtgoihillpibdjaaGreatPN70
import Derived.Test.YtgoihillpibdjaaGreatQE80
set_option linter.unusedVariables false
set_option linter.unusedSimpArgs false
namespace Go.Pv
open Go.Proofs
set_option maxRecDepth 1000000
set_option maxHeartbeats 1000000
theorem aZU (v a b:Int):MS v a b=some (decide (a<=v/\v<=b)):=by
  unfold MS aGG
  simp only [WT.run,bR]
  by_cases h1:v>=a
  · by_cases h2:v<=b
    · exact dA (a:=true) (fJ h1 (fC (fJ h2 rfl))) (by simp;omega)
    · exact dA (a:=false) (fJ h1 (fC (eB h2 rfl))) (by simp;omega)
  · exact dA (a:=false) (eB h1 (dB rfl)) (by simp;omega)
def Ln (s:aA):Prop:=∀ (e:Nat) x,s.bC[e]?=some x->x.bS.length=2*s.bJ.cB.length/\x.dH.length=s.bJ.cB.length
theorem SS.ln {s:aA} (h:SS s):Ln s:=λe x hx=>by
  obtain ⟨bL,_,_,_,hes⟩:=h.bL hx
  exact ⟨hes.lp,hes.lr⟩
theorem LK {s:aA} (h:S0 s) (hl:Ln s) (e i:Int):DC s e i=some (decide (gM s e i)):=by
  have hf:=h.gU
  have h2:=h.len;have h3:=h.jP.lm;have h4:=h.jP.lc
  refine eT ?_
  unfold DC aD0
  simp only [WT.run,bR]
  refine aT (λb=>b=true↔¬ gM s e i) ?_ λb hb=>eX (λk=>aF (decide_eq_false (hb.1 k)).symm) λk=>?_
  · unfold gM
    repeat' with_reducible first | refine bF ?_ | refine dP ?_ | apply aD | apply bE | apply dS | apply dI | apply dN | apply dR | apply dO | apply dL | apply dU | apply dQ | refine aH (λ_=>?_) λ_=>?_ | refine dG (λ_=>?_) λ_=>?_ | apply cO | apply bU | apply bY | apply bK | apply aF
    all_goals try (exact ⟨λ_=>by omega,λ_=>rfl⟩)
    rw [decide_eq_true_eq];exact ⟨λ_=>by omega,λ_=>by omega⟩
  · have ht:gM s e i:=Classical.not_not.1 λq=>by rw [hb.2 q] at k;cases k
    rw [decide_eq_true ht]
    obtain ⟨t1,t2⟩:=ht
    obtain ⟨x,hx⟩:=gM.at (s:=s) (e:=e) (i:=i) ⟨t1,t2⟩
    obtain ⟨l1,l2⟩:=hl _ _ hx
    have m1:e.toNat<s.bJ.Methods.length:=by omega
    have c1:e.toNat<s.bJ.gB.length:=by omega
    have em:=List.getElem?_eq_getElem m1
    have ec:=List.getElem?_eq_getElem c1
    have gm:=(h.jP.met _ (fF em)).1
    have gc:=(h.jP.cos _ (fF ec)).1
    refine bW t1.1 hx (aT (λb=>b=true) ?_ λb hb=>aF hb)
    refine bF (aD (aH (λ_=>aD (aH (λ_=>aD (aH (λ_=>aD (aH (λ_=>bW t1.1 em (aD (aH (λ_=>bW t1.1 ec (aD (aF ?_))) λk=>?_))) λk=>?_)) λk=>?_)) λk=>?_)) λk=>?_))
    · exact decide_eq_true (by omega)
    all_goals (exfalso;omega)
theorem aNQ {s:aA} (h:S0 s) (hl:Ln s) (e i:Int):mI s e i=nD s e i:=by
  unfold mI aFF nD TT
  simp only [WT.run,bR,LK h hl,qC h,Option.bind_some]
noncomputable def yB (s:aA) (e i c:Int):Int:=open Classical in if gM s e i/\0<=c/\c<=1 then i*2+c else -1
theorem DL {s:aA} (h:S0 s) (hl:Ln s) (e i c:Int):CE s e i c=some (yB s e i c):=by
  have hf:=h.gU
  refine eT ?_
  unfold CE aIB yB
  simp only [WT.run,bR,LK h hl,aZU,Option.bind_some]
  refine aT (λb=>b=true↔¬ (gM s e i/\0<=c/\c<=1)) ?_ λb hb=>eX (λk=>aF (if_neg (hb.1 k)).symm) λk=>?_
  · by_cases k1:gM s e i
    · rw [decide_eq_true k1]
      refine aD (bU (aD (aF ?_)))
      by_cases k2:0<=c/\c<=1
      · rw [decide_eq_true k2];exact ⟨(λq=>nomatch q),λq=>absurd ⟨k1,k2⟩ q⟩
      · rw [decide_eq_false k2];exact ⟨λ_ q=>k2 q.2,λ_=>rfl⟩
    · rw [decide_eq_false k1];exact aD (cO (aF ⟨λ_ q=>k1 q.1,λ_=>rfl⟩))
  · have ht:gM s e i/\0<=c/\c<=1:=Classical.not_not.1 λq=>by rw [hb.2 q] at k;cases k
    rw [if_pos ht]
    obtain ⟨⟨t1,t2⟩,t3⟩:=ht
    exact bF (bF (aF rfl))
theorem EU {s:aA} (h:S0 s) (hl:Ln s) {e i c:Int} {x:aP} {p:aQ} (ht:gM s e i) (hc:0<=c/\c<=1) (hx:s.bC[e.toNat]?=some x) (hp:x.bS[2*i.toNat+c.toNat]?=some p) (hlp:p.aG.length<=30):DJ s e i c=some p:=by
  have hf:=h.gU
  have ei:(i*2+c).toNat=2*i.toNat+c.toNat:=by have:=ht.2;omega
  have e0:yB s e i c=i*2+c:=if_pos ⟨ht,hc⟩
  refine eT ?_
  unfold DJ aBN
  simp only [WT.run,bR,DL h hl,e0,Option.bind_some]
  have t2:=ht.2
  refine aD (aH (λk=>?_) λk=>?_)
  · exfalso;omega
  · exact bW ht.1.1 hx (bW (by omega) (by rw [ei];exact hp) (dF (aF rfl)))
theorem aKK {s:aA} {n:Nat} (hn:66<n) (h:S0 s) (hl:Ln s) {e i:Int} {x:aP} {p q:aQ} (ht:gM s e i) (hx:s.bC[e.toNat]?=some x) (hp:x.bS[2*i.toNat]?=some p) (hq:x.bS[2*i.toNat+1]?=some q) (lp:LR p.aG) (lq:LR q.aG) :
    Ex (λr=>r.1=⟨(gG [tQ p.aG,tQ q.aG]).1,(gG [tV p.aG,tV q.aG]).1,(gG [tP p.aG,tP q.aG]).1⟩/\(r.2=true↔(gG [tQ p.aG,tQ q.aG]).2=0/\(gG [tV p.aG,tV q.aG]).2=0/\(gG [tP p.aG,tP q.aG]).2=0)) (KM n s e i):=by
  have a0:=EU (c:=0) h hl ht (by omega) hx hp (lQ lp)
  have a1:=EU (c:=1) h hl ht (by omega) hx hq (lQ lq)
  obtain ⟨m,rfl⟩:∃ m,n=m+3:=⟨n-3,by omega⟩
  unfold KM aA8
  simp only [WT.run,bR]
  refine aT (λr=>r=([tQ p.aG,tQ q.aG],[tV p.aG,tV q.aG],[tP p.aG,tP q.aG])) ?_ λr hr=>?_
  · show Ex _ (iter _ (m+2+1) _)
    refine aT (λr=>r=.inl (1,[tQ p.aG],[tV p.aG],[tP p.aG])) ?_ λr hr=>?_
    · refine bE (bE (bE (aD (aH (λ_=>?_) λk=>absurd (show (0:Int)<2 by decide) k))))
      refine x_eq a0 (x_eq (PL hn lp) ?_)
      repeat' with_reducible first | refine bF ?_ | refine dP ?_ | apply aD | apply bE | apply dS | apply dI | apply dN | apply dR | apply dO | apply dL | apply dU | apply dQ | refine aH (λ_=>?_) λ_=>?_ | refine dG (λ_=>?_) λ_=>?_ | apply cO | apply bU | apply bY | apply bK | apply aF | refine dF ?_
      exact bX rfl
    · subst hr
      refine bY ?_
      show Ex _ (iter _ (m+1+1) _)
      refine aT (λr=>r=.inl (2,[tQ p.aG,tQ q.aG],[tV p.aG,tV q.aG],[tP p.aG,tP q.aG])) ?_ λr hr=>?_
      · refine bE (bE (bE (aD (aH (λ_=>?_) λk=>absurd (show (1:Int)<2 by decide) k))))
        refine x_eq a1 (x_eq (PL hn lq) ?_)
        repeat' with_reducible first | refine bF ?_ | refine dP ?_ | apply aD | apply bE | apply dS | apply dI | apply dN | apply dR | apply dO | apply dL | apply dU | apply dQ | refine aH (λ_=>?_) λ_=>?_ | refine dG (λ_=>?_) λ_=>?_ | apply cO | apply bU | apply bY | apply bK | apply aF | refine dF ?_
        exact bX rfl
      · subst hr
        refine bY ?_
        show Ex _ (iter _ (m+1) _)
        refine aT (λr=>r=.inr ([tQ p.aG,tQ q.aG],[tV p.aG,tV q.aG],[tP p.aG,tP q.aG])) ?_ λr hr=>?_
        · exact bE (bE (bE (aD (aH (λk=>absurd k (show ¬(2:Int)<2 by decide)) λk=>bK (aF rfl)))))
        · subst hr;exact mG rfl
  · subst hr
    refine bE (bE ?_)
    refine x_eq (uT (by simp;omega) (by simp)) (x_eq (uT (by simp;omega) (by simp)) (x_eq (uT (by simp;omega) (by simp)) (aD (aD (aF ⟨rfl,?_⟩)))))
    have z1:=(rP (tQ p.aG) (tQ q.aG)).2.2
    have z2:=(rP (tV p.aG) (tV q.aG)).2.2
    have z3:=(rP (tP p.aG) (tP q.aG)).2.2
    rw [decide_eq_true_eq]
    generalize (gG [tQ p.aG,tQ q.aG]).2=a at *
    generalize (gG [tV p.aG,tV q.aG]).2=b at *
    generalize (gG [tP p.aG,tP q.aG]).2=c at *
    split <;> (try split) <;> omega
def sw (l:List aB):List Int:=l.map λx=>ab x.bN
theorem SK:∀ l:List aB,jX (sw l)=tS l/\kW (sw l)=tS l
  | []=>⟨rfl,rfl⟩
  | x :: r=>by
    obtain ⟨h1,h2⟩:=SK r
    have e:ab (ab x.bN)=ab x.bN:=by have:=lV x.bN;unfold ab;split <;> (try split) <;> omega
    exact ⟨by show ab x.bN+jX (sw r)=_;rw [h1];rfl,by show ab (ab x.bN)+kW (sw r)=_;rw [h2,e];rfl⟩
theorem aV7 (a b:List Int):jX (a++b)=jX a+jX b/\kW (a++b)=kW a+kW b:=by
  induction a with
  | nil=>exact ⟨(Int.zero_add _).symm,(Int.zero_add _).symm⟩
  | cons x r ih=>exact ⟨by show x+jX (r++b)=x+jX r+jX b;rw [ih.1];omega,by show ab x+kW (r++b)=ab x+kW r+kW b;rw [ih.2];omega⟩
theorem aSP {s:aA} {n:Nat} (hn:66<n) (h:S0 s) (hl:Ln s) {e i:Int} {x:aP} {p q:aQ} (ht:gM s e i) (hx:s.bC[e.toNat]?=some x) (hp:x.bS[2*i.toNat]?=some p) (hq:x.bS[2*i.toNat+1]?=some q) (lp:LR p.aG) (lq:LR q.aG) :
    JE n s e i=some (decide (tS p.aG+tS q.aG<=288230376151711744)):=by
  have a0:=EU (c:=0) h hl ht (by omega) hx hp (lQ lp)
  have a1:=EU (c:=1) h hl ht (by omega) hx hq (lQ lq)
  have p1:=lQ lp;have q1:=lQ lq
  obtain ⟨m,rfl⟩:∃ m,n=m+3:=⟨n-3,by omega⟩
  refine eT ?_
  unfold JE aJA
  simp only [WT.run,bR]
  have inner:∀ (L:List aB) (acc:List Int),LR L->acc.length<=30->∀ (f:Int×List Int->Option ((Int×List Int)⊕List Int)),
      (∀ j a x,0<=j->L[j.toNat]?=some x->j<(L.length:Int)->bQ x.bN->a.length<=60->f (j,a)=some (.inl (j+1,a++[ab x.bN])))->(∀ j a,¬ j<(L.length:Int)->f (j,a)=some (.inr a)) ->
      Ex (λr=>r=acc++sw L) (iter f (m+3) (0,acc)):=by
    intro L acc hL hacc f h1 h2
    have hb:=lQ hL
    refine fM (λ(v:Int×List Int)=>0<=v.1/\v.1<=(L.length:Int)/\v.2=acc++sw (L.take v.1.toNat)) (λv=>L.length-v.1.toNat) ?_ (v:=(0,acc)) (by simp [sw]) (by simp;omega)
    rintro ⟨j,a⟩ ⟨g0,g1,g2⟩
    simp only at g0 g1 g2
    subst g2
    by_cases k:j<(L.length:Int)
    · have hx:=List.getElem?_eq_getElem (l:=L) (i:=j.toNat) (by omega)
      have e:(j+1).toNat=j.toNat+1:=by omega
      refine ⟨_,h1 j _ _ g0 hx k (hL.1 _ (fF hx)).2.2 (by simp [sw];omega),⟨by simp only;omega,by simp only;omega,?_⟩,by simp only;omega⟩
      have:=take_at (f:=λx=>ab x.bN) hx
      simp only [e]
      unfold sw
      rw [<- this,List.append_assoc]
    · refine ⟨_,h2 j _ k,?_⟩
      show _=_
      rw [List.take_of_length_le (by omega)]
  have body:∀ (j:Int) (x:aB) (a:List Int) (F:Int->Option ((Int×List Int)⊕List Int)),bQ x.bN->a.length<=60->True:=λ_ _ _ _ _ _=>trivial
  have e2:∀ x:aB,(if 0-x.bN>x.bN then 0-x.bN else x.bN)=ab x.bN:=λx=>by unfold ab;split <;> split <;> omega
  refine aT (λr=>r=sw p.aG++sw q.aG) ?_ λr hr=>?_
  · show Ex _ (iter _ (m+2+1) _)
    refine aT (λr=>r=.inl (1,sw p.aG)) ?_ λr hr=>?_
    · refine bE (aD (aH (λ_=>?_) λk=>absurd (show (0:Int)<2 by decide) k))
      refine aT (λr=>r=sw p.aG) (x_eq a0 (aT (λr=>r=[]++sw p.aG) (inner p.aG [] lp (by simp) _ ?_ ?_) λr hr=>aF (by rw [hr];rfl))) λr hr=>?_
      · intro j a x g0 hx k hp hal
        unfold bQ at hp
        refine eT (bE (aD (aH (λ_=>eF g0 k λy hy=>?_) λq=>absurd k q)))
        rw [hx] at hy;cases hy
        refine bF (aD ?_)
        rw [e2]
        exact aD (dF (bF (bX rfl)))
      · intro j a k
        exact eT (bE (aD (aH (λq=>absurd q k) λ_=>bK (aF rfl))))
      · subst hr;exact gL (by first | decide | simp) (bX rfl)
    · subst hr
      refine bY ?_
      show Ex _ (iter _ (m+1+1) _)
      refine aT (λr=>r=.inl (2,sw p.aG++sw q.aG)) ?_ λr hr=>?_
      · refine bE (aD (aH (λ_=>?_) λk=>absurd (show (1:Int)<2 by decide) k))
        refine aT (λr=>r=sw p.aG++sw q.aG) (x_eq a1 (aT (λr=>r=sw p.aG++sw q.aG) (inner q.aG (sw p.aG) lq (by simp [sw];omega) _ ?_ ?_) λr hr=>aF hr)) λr hr=>?_
        · intro j a x g0 hx k hp hal
          unfold bQ at hp
          refine eT (bE (aD (aH (λ_=>eF g0 k λy hy=>?_) λq=>absurd k q)))
          rw [hx] at hy;cases hy
          refine bF (aD ?_)
          rw [e2]
          exact aD (dF (bF (bX rfl)))
        · intro j a k
          exact eT (bE (aD (aH (λq=>absurd q k) λ_=>bK (aF rfl))))
        · subst hr;exact gL (by first | decide | simp) (bX rfl)
      · subst hr
        refine bY ?_
        show Ex _ (iter _ (m+1) _)
        refine aT (λr=>r=.inr (sw p.aG++sw q.aG)) ?_ λr hr=>?_
        · exact bE (aD (aH (λk=>absurd k (show ¬(2:Int)<2 by decide)) λk=>bK (aF rfl)))
        · subst hr;exact mG rfl
  · subst hr
    refine x_eq (uT (by simp [sw];omega) (by simp [sw];omega)) (aD (aF ?_))
    obtain ⟨s1,s2⟩:=SK p.aG
    obtain ⟨s3,s4⟩:=SK q.aG
    obtain ⟨s5,s6⟩:=aV7 (sw p.aG) (sw q.aG)
    rcases BE (l:=sw p.aG++sw q.aG) (by rw [s5,s6,s1,s2,s3,s4]) with ⟨g1,g2⟩ | ⟨g1,g2⟩
    · rw [s5,s1,s3] at g1;rw [g2];simp [g1]
    · rw [s5,s1,s3] at g1;simp only [g2];simp [g1]
def D4 (a b:aQ):Prop:=(gG [tQ a.aG,tQ b.aG]).2=0/\(gG [tV a.aG,tV b.aG]).2=0/\(gG [tP a.aG,tP b.aG]).2=0/\tS a.aG+tS b.aG<=288230376151711744
noncomputable def yH (s:aA) (e i c:Int) (x:aP) (r:aQ×Int×Int) (a b:aQ) (l:aB):aA×Int×Int×Int :=
  open Classical in if r.2.2≠0 then (s,0,0,r.2.2) else if D4 a b then (lI s e i c x r.1,l.Value-r.2.1,r.2.1,0) else (s,0,0,2)
theorem WO {s:aA} {e i c:Int} {x:aP} {r:aQ×Int×Int} {a b:aQ} {l:aB} (h:r.2.2≠0):yH s e i c x r a b l=(s,0,0,r.2.2):=if_pos h
theorem aDV {s:aA} {e i c:Int} {x:aP} {r:aQ×Int×Int} {a b:aQ} {l:aB} (h:¬ r.2.2≠0) (h2:D4 a b):yH s e i c x r a b l=(lI s e i c x r.1,l.Value-r.2.1,r.2.1,0):=by unfold yH;rw [if_neg h,if_pos h2]
theorem OV {s:aA} {e i c:Int} {x:aP} {r:aQ×Int×Int} {a b:aQ} {l:aB} (h:¬ r.2.2≠0) (h2:¬ D4 a b):yH s e i c x r a b l=(s,0,0,2):=by unfold yH;rw [if_neg h,if_neg h2]
structure S8 (s:aA) (e i c:Int) (x:aP) (m k:Int) (p q:aQ) (l:aB) (r:aQ×Int×Int) (a b:aQ):Prop where
  s0:S0 (lI s e i c x r.1)
  ln:Ln (lI s e i c x r.1)
  th:gM (lI s e i c x r.1) e i
  en:(lI s e i c x r.1).bC[e.toNat]?=some { x with bS:=x.bS.set (2*i.toNat+c.toNat) r.1 }
  pa:(x.bS.set (2*i.toNat+c.toNat) r.1)[2*i.toNat]?=some a
  pb:(x.bS.set (2*i.toNat+c.toNat) r.1)[2*i.toNat+1]?=some b
  la:LR a.aG
  lb:LR b.aG
  ab0:-288230376151711744<=r.2.1/\r.2.1<=288230376151711744
  lv:0<=l.Value/\l.Value<=288230376151711744
theorem beh {s:aA} {n:Nat} (hn:66<n) (h:SS s) {e i c m k:Int} {x:aP} {p q:aQ} {l:aB} (hs:mO s e i c x m k p q) (hl:l.aI<=9223372036854775807) (h0:¬ (f13 m k p l).2.2≠0):∃ a b,S8 s e i c x m k p q l (f13 m k p l) a b:=by
  have hr:=H6 (aEE (x:=l) hn hs.io.pp hs.kk hl) (r13 hn hs.io.pp hs.kk hl)
  rcases hr with ⟨r1,r2,r3⟩ | ⟨r1,_⟩
  rotate_left
  · exact absurd r1 h0
  obtain ⟨en2,a,b,pa,pb,hab⟩:=hs.put (p':=(f13 m k p l).1)
  have ht:=hs.th
  refine ⟨a,b,⟨h.jP,by show ((s.bC.set _ _).length:Int)=_;rw [List.length_set];exact h.len⟩,?_,?_,en2,pa,pb,?_,?_,r3,r2.2.2.2.2.2.2⟩
  · intro f y hy
    have hy:(s.bC.set e.toNat _)[f]?=some y:=hy
    have hk:e.toNat<s.bC.length:=(List.getElem?_eq_some_iff.1 hs.en).1
    rw [lW hk] at hy
    by_cases hf:e.toNat=f
    · rw [if_pos hf] at hy;cases hy
      obtain ⟨g1,g2⟩:=h.ln _ _ hs.en
      exact ⟨by show (x.bS.set _ _).length=_;rw [List.length_set];exact g1,g2⟩
    · rw [if_neg hf] at hy;exact h.ln _ _ hy
  · refine ⟨⟨ht.1.1,?_⟩,ht.2⟩
    show e<((s.bC.set _ _).length:Int);rw [List.length_set];exact ht.1.2
  · rcases hab with ⟨_,rfl,rfl⟩ | ⟨_,rfl,rfl⟩
    · exact r2.1.ly
    · exact hs.io.qq.ly
  · rcases hab with ⟨_,rfl,rfl⟩ | ⟨_,rfl,rfl⟩
    · exact hs.io.qq.ly
    · exact r2.1.ly
theorem aA0 {s:aA} {n:Nat} (hn:66<n) (h:SS s) {e i c m u:Int} {x:aP} {p q a b:aQ} {l:aB} (hs:mO s e i c x m u p q) (hl:l.aI<=9223372036854775807) (hb:¬ (f13 m u p l).2.2≠0->S8 s e i c x m u p q l (f13 m u p l) a b) :
    wX n s e i c l=some (yH s e i c x (f13 m u p l) a b l):=by
  have hf:=h.toS0.gU
  have ht:=hs.th
  have hlc:=hs.lc
  obtain ⟨bL,m1,m2⟩:=hs.ms
  obtain ⟨cs,c1,c2⟩:=hs.cs
  obtain ⟨mts',_,_,hes⟩:=hs.es'
  have hfew:=hes.gU hf.2.2
  have e0:yB s e i c=i*2+c:=if_pos ⟨ht,hlc⟩
  have ei:(i*2+c).toNat=2*i.toNat+c.toNat:=by have:=ht.2;omega
  have t2:=ht.2
  refine eT ?_
  unfold wX RB
  simp only [WT.run,bR,DL h.toS0 h.ln,e0,Option.bind_some]
  refine aD (aH (λk=>?_) λ_=>?_)
  · exfalso;omega
  refine bW ht.1.1 m1 (bW ht.2.1 m2 (bW ht.1.1 c1 (bW ht.2.1 c2 (bW ht.1.1 hs.en (bW (by omega) (by rw [ei];exact hs.pp) (x_eq (RE hn hs.io.pp hs.kk hl) (aD (aH (λk=>aF (WO k).symm) λk=>?_))))))))
  have B:=hb k
  refine aT (λr=>r=(x.fO,x.Closed,x.dK,x.dH,x.fZ,x.Down,x.fP,x.bS.set (2*i.toNat+c.toNat) (f13 m u p l).1)) ?_ λr hr=>?_
  · exact aT (λ_=>True) (dF (bW ht.1.1 hs.en (aF trivial))) λ_ _=>bW ht.1.1 hs.en (dF (bW (by omega) (by rw [ei];exact hs.pp) (aD (aF (by rw [ei])))))
  · subst hr
    refine bE (bE (bE (bE (bE (bE (bE (bW ht.1.1 hs.en (aT _ (aKK hn B.s0 B.ln B.th B.en B.pa B.pb B.la B.lb) λw hw=>?_))))))))
    have bl1:=B.lv;have bl2:=B.ab0
    refine aT (λz=>z=true↔¬ D4 a b) ?_ λz hz=>eX (λk2=>aF (OV k (hz.1 k2)).symm) λk2=>bF (aF ?_)
    · refine aD (eX (λk1=>aF ⟨λ_ q=>?_,λ_=>rfl⟩) λk1=>x_eq (aSP hn B.s0 B.ln B.th B.en B.pa B.pb B.la B.lb) (aD (aF ?_)))
      · rw [hw.2.2 ⟨q.1,q.2.1,q.2.2.1⟩] at k1;cases k1
      · have k1:w.2=true:=by simpa using k1
        have g:=hw.2.1 k1
        by_cases z:tS a.aG+tS b.aG<=288230376151711744
        · rw [decide_eq_true z];exact ⟨(λq=>nomatch q),λq=>absurd ⟨g.1,g.2.1,g.2.2,z⟩ q⟩
        · rw [decide_eq_false z];exact ⟨λ_ q=>z q.2.2.2,λ_=>rfl⟩
    · have g:D4 a b:=Classical.not_not.1 λq=>by rw [hz.2 q] at k2;cases k2
      rw [aDV k g];rfl
theorem ZU {s:aA} {n:Nat} (hn:66<n) (h:SS s) {e i c m u:Int} {x:aP} {p q a b:aQ} {l:aB} (hs:mO s e i c x m u p q) (hl:l.aI<=9223372036854775807) (hb:¬ (f13 m u p l).2.2≠0->S8 s e i c x m u p q l (f13 m u p l) a b) :
    pQ n s e i c l=some (yH s e i c x (f13 m u p l) a b l):=by
  have hf:=h.toS0.gU
  have ht:=hs.th
  have hlc:=hs.lc
  obtain ⟨bL,m1,m2⟩:=hs.ms
  obtain ⟨cs,c1,c2⟩:=hs.cs
  refine eT ?_
  unfold pQ K3
  simp only [WT.run,bR,qC h.toS0,oN,Option.bind_some]
  rw [decide_eq_true ht,decide_eq_true (p:=0<=c/\c<=1) hlc]
  refine aT (λz=>z=false) (aD (bU (aD (aF rfl)))) λz hz=>?_
  subst hz
  refine bU (bW ht.1.1 m1 (bW ht.2.1 m2 (bW ht.1.1 c1 (bW ht.2.1 c2 (x_eq (lU h.toS0 ht hlc hs.en hs.pp) (x_eq (r13 hn hs.io.pp hs.kk hl) (aD (aH (λk=>aF (WO k).symm) λk=>x_eq (uE h hs) ?_))))))))
  have B:=hb k
  have bl1:=B.lv;have bl2:=B.ab0
  have l1:=B.la;have l2:=B.lb
  have lb1:=lQ l1;have lb2:=lQ l2
  refine aT _ (P9 hn B.s0 B.th B.en B.pa B.pb B.la B.lb) λw hw=>?_
  refine aD (aH (λk1=>aF (OV k λq=>k1 (hw.2.2 ⟨q.1,q.2.1,q.2.2.1⟩)).symm) λk1=>?_)
  have g:=hw.2.1 (Classical.not_not.1 k1)
  have a0:=lU (c:=0) B.s0 B.th (by omega) B.en B.pa
  have a1:=lU (c:=1) B.s0 B.th (by omega) B.en B.pb
  refine aT (λr=>r=a.aG++b.aG) ?_ λy hy=>?_
  · obtain ⟨m',rfl⟩:∃ m',n=m'+3:=⟨n-3,by omega⟩
    show Ex _ (iter _ (m'+2+1) _)
    refine aT (λr=>r=.inl (1,a.aG)) ?_ λr hr=>?_
    · refine bE (aD (aH (λ_=>x_eq a0 ?_) λk=>absurd (show (0:Int)<2 by decide) k))
      repeat' with_reducible first | refine bF ?_ | refine dP ?_ | apply aD | apply bE | apply dS | apply dI | apply dN | apply dR | apply dO | apply dL | apply dU | apply dQ | refine aH (λ_=>?_) λ_=>?_ | refine dG (λ_=>?_) λ_=>?_ | apply cO | apply bU | apply bY | apply bK | apply aF
      refine dF ?_
      exact bF (bX rfl)
    · subst hr
      refine bY ?_
      show Ex _ (iter _ (m'+1+1) _)
      refine aT (λr=>r=.inl (2,a.aG++b.aG)) ?_ λr hr=>?_
      · refine bE (aD (aH (λ_=>x_eq a1 ?_) λk=>absurd (show (1:Int)<2 by decide) k))
        repeat' with_reducible first | refine bF ?_ | refine dP ?_ | apply aD | apply bE | apply dS | apply dI | apply dN | apply dR | apply dO | apply dL | apply dU | apply dQ | refine aH (λ_=>?_) λ_=>?_ | refine dG (λ_=>?_) λ_=>?_ | apply cO | apply bU | apply bY | apply bK | apply aF
        refine dF ?_
        exact bF (bX rfl)
      · subst hr
        refine bY ?_
        show Ex _ (iter _ (m'+1) _)
        refine aT (λr=>r=.inr (a.aG++b.aG)) ?_ λr hr=>?_
        · exact bE (aD (aH (λk=>absurd k (show ¬(2:Int)<2 by decide)) λk=>bK (aF rfl)))
        · subst hr;exact mG rfl
  · subst hy
    obtain ⟨z1,z2,z3,z4⟩:=tL a.aG b.aG
    refine aT _ (UE (l:=a.aG++b.aG) (by simp;omega) (by simp;omega) λy hy=>?_) λw2 hw2=>?_
    · rcases List.mem_append.1 hy with hy | hy
      · exact l1.1 y hy
      · exact l2.1 y hy
    refine aD (aH (λk2=>aF (OV k λq=>k2 ?_).symm) λk2=>bF (aF ?_))
    · rw [hw2.1 (by rw [z4];exact q.2.2.2)]
    · rw [aDV k ⟨g.1,g.2.1,g.2.2,by have:=hw2.2 (Classical.not_not.1 k2);rw [z4] at this;exact this⟩];rfl
theorem XI {s:aA} {n:Nat} (hn:66<n) (h:SS s) {e i c:Int} {l:aB} (hl:l.aI<=9223372036854775807):wX n s e i c l=pQ n s e i c l:=by
  by_cases k:gM s e i/\0<=c/\c<=1
  · obtain ⟨x,m,u,p,q,hs⟩:=h.spot k.1 k.2
    by_cases k2:(f13 m u p l).2.2≠0
    · rw [aA0 (a:=p) (b:=p) hn h hs hl (λz=>absurd k2 z),ZU (a:=p) (b:=p) hn h hs hl (λz=>absurd k2 z)]
    · obtain ⟨a,b,B⟩:=beh hn h hs hl k2
      rw [aA0 hn h hs hl (λ_=>B),ZU hn h hs hl (λ_=>B)]
  · have e1:wX n s e i c l=some (s,0,0,4):=by
      refine eT ?_
      unfold wX RB
      simp only [WT.run,bR,DL h.toS0 h.ln,show yB s e i c=-1 from if_neg k,Option.bind_some]
      exact aD (aH (λ_=>aF rfl) λz=>absurd (by decide) z)
    have e2:pQ n s e i c l=some (s,0,0,4):=by
      refine eT ?_
      unfold pQ K3
      simp only [WT.run,bR,qC h.toS0,oN,Option.bind_some]
      refine aT (λz=>z=true) ?_ λz hz=>by subst hz;exact cO (aF rfl)
      by_cases k1:gM s e i
      · rw [decide_eq_true k1,decide_eq_false (p:=0<=c/\c<=1) λz=>k ⟨k1,z⟩]
        exact aD (bU (aD (aF rfl)))
      · rw [decide_eq_false k1];exact aD (cO (aF rfl))
    rw [e1,e2]
noncomputable def NB (s:aA) (e i c:Int) (x:aP) (r:aQ×aB×Bool×Int):aA×aB×Bool×Int :=
  if r.2.2.2≠0 then (s,⟨0,0,0⟩,false,r.2.2.2) else (lI s e i c x r.1,r.2.1,r.2.2.1,0)
theorem aPI {s:aA} {n:Nat} (hn:66<n) (h:SS s) {e i c k z m u:Int} {x:aP} {p q:aQ} (hs:mO s e i c x m u p q) (hz:-9223372036854775808<=z/\z<=9223372036854775807) :
    uY n s e i c k z=some (NB s e i c x (yX m u p k z)):=by
  have hf:=h.toS0.gU
  have ht:=hs.th
  have hlc:=hs.lc
  obtain ⟨bL,m1,m2⟩:=hs.ms
  obtain ⟨cs,c1,c2⟩:=hs.cs
  obtain ⟨mts',_,_,hes⟩:=hs.es'
  have hfew:=hes.gU hf.2.2
  have e0:yB s e i c=i*2+c:=if_pos ⟨ht,hlc⟩
  have ei:(i*2+c).toNat=2*i.toNat+c.toNat:=by have:=ht.2;omega
  have t2:=ht.2
  refine eT ?_
  unfold uY UC
  simp only [WT.run,bR,DL h.toS0 h.ln,e0,Option.bind_some]
  refine aD (aH (λk=>?_) λ_=>?_)
  · exfalso;omega
  refine bW ht.1.1 m1 (bW ht.2.1 m2 (bW ht.1.1 c1 (bW ht.2.1 c2 (bW ht.1.1 hs.en (bW (by omega) (by rw [ei];exact hs.pp) (x_eq (aV1 hn hs.io.pp hs.kk hz) (aD (aD (aH (λkz=>aF (if_pos kz).symm) λkz=>?_)))))))))
  refine aT (λr=>r=(x.fO,x.Closed,x.dK,x.dH,x.fZ,x.Down,x.fP,x.bS.set (2*i.toNat+c.toNat) (yX m u p k z).1)) ?_ λr hr=>?_
  · exact aT (λ_=>True) (dF (bW ht.1.1 hs.en (aF trivial))) λ_ _=>bW ht.1.1 hs.en (dF (bW (by omega) (by rw [ei];exact hs.pp) (aD (aF (by rw [ei])))))
  · subst hr
    refine bE (bE (bE (bE (bE (bE (bE (bW ht.1.1 hs.en (aF ?_))))))))
    unfold NB
    rw [if_neg kz];rfl
theorem aM5 {s:aA} {n:Nat} (hn:66<n) (h:SS s) {e i c k z m u:Int} {x:aP} {p q:aQ} (hs:mO s e i c x m u p q) (hz:-9223372036854775808<=z/\z<=9223372036854775807) :
    oL n s e i c k z=some (NB s e i c x (yX m u p k z)):=by
  have hf:=h.toS0.gU
  have ht:=hs.th
  have hlc:=hs.lc
  obtain ⟨bL,m1,m2⟩:=hs.ms
  obtain ⟨cs,c1,c2⟩:=hs.cs
  refine eT ?_
  unfold oL K8
  simp only [WT.run,bR,qC h.toS0,oN,Option.bind_some]
  rw [decide_eq_true ht,decide_eq_true (p:=0<=c/\c<=1) hlc]
  refine aT (λz=>z=false) (aD (bU (aD (aF rfl)))) λz hz=>?_
  subst hz
  refine bU (bW ht.1.1 m1 (bW ht.2.1 m2 (bW ht.1.1 c1 (bW ht.2.1 c2 (x_eq (lU h.toS0 ht hlc hs.en hs.pp) (x_eq (aW5 hn hs.io.pp hs.kk (by assumption)) (aD (aD (aH (λkz=>aF (if_pos kz).symm) λkz=>x_eq (uE h hs) (aF ?_))))))))))
  unfold NB
  rw [if_neg kz];rfl
theorem O5 {s:aA} {n:Nat} (hn:66<n) (h:SS s) {e i c k z:Int} (hz:-9223372036854775808<=z/\z<=9223372036854775807):uY n s e i c k z=oL n s e i c k z:=by
  by_cases w:gM s e i/\0<=c/\c<=1
  · obtain ⟨x,m,u,p,q,hs⟩:=h.spot w.1 w.2
    rw [aPI hn h hs hz,aM5 hn h hs hz]
  · have e1:uY n s e i c k z=some (s,⟨0,0,0⟩,false,4):=by
      refine eT ?_
      unfold uY UC
      simp only [WT.run,bR,DL h.toS0 h.ln,show yB s e i c=-1 from if_neg w,Option.bind_some]
      exact aD (aH (λ_=>aF rfl) λz=>absurd (by decide) z)
    have e2:oL n s e i c k z=some (s,⟨0,0,0⟩,false,4):=by
      refine eT ?_
      unfold oL K8
      simp only [WT.run,bR,qC h.toS0,oN,Option.bind_some]
      refine aT (λz=>z=true) ?_ λz hz=>by subst hz;exact cO (aF rfl)
      by_cases k1:gM s e i
      · rw [decide_eq_true k1,decide_eq_false (p:=0<=c/\c<=1) λz=>w ⟨k1,z⟩]
        exact aD (bU (aD (aF rfl)))
      · rw [decide_eq_false k1];exact aD (cO (aF rfl))
    rw [e1,e2]
def lS (l:List aS):Prop:=l.Pairwise λa b=>a.dM<b.dM
theorem YD:∀ {a b:List aS},lS a->lS b->(∀ y,y∈a↔y∈b)->a=b
  | [],[],_,_,_=>rfl
  | [],y :: b,_,_,h=>absurd ((h y).2 (List.mem_cons_self ..)) (by simp)
  | x :: a,[],_,_,h=>absurd ((h x).1 (List.mem_cons_self ..)) (by simp)
  | x :: a,y :: b,ha,hb,h=>by
    have ha':=List.pairwise_cons.1 ha
    have hb':=List.pairwise_cons.1 hb
    have e:x=y:=by
      rcases List.mem_cons.1 ((h x).1 (List.mem_cons_self ..)) with e | hm
      · exact e
      · rcases List.mem_cons.1 ((h y).2 (List.mem_cons_self ..)) with e | hm2
        · exact e.symm
        · have:=hb'.1 x hm;have:=ha'.1 y hm2;omega
    subst e
    rw [YD ha'.2 hb'.2 λz=>?_]
    constructor
    · intro hz
      rcases List.mem_cons.1 ((h z).1 (List.mem_cons_of_mem _ hz)) with e | hm
      · subst e;have:=ha'.1 z hz;omega
      · exact hm
    · intro hz
      rcases List.mem_cons.1 ((h z).2 (List.mem_cons_of_mem _ hz)) with e | hm
      · subst e;have:=hb'.1 z hz;omega
      · exact hm
theorem aPB {x:aS} {R:List aS} {f:Int×List aS->Option ((Int×List aS)⊕List aS)}
    (hz:∀ l,f (0,l)=some (.inr l)) (hs:∀ (A:List aS) y T,A.length<=40->f ((A.length:Int)+1,A++y :: x :: T)=some (if x.dM<y.dM then .inl ((A.length:Int),A++x :: y :: T) else .inr (A++y :: x :: T))) :
    ∀ {n:Nat} {A B:List aS},A.length<n->A.length<=40->lS (A++B)->(∀ y∈A++B,y.dM≠x.dM)->(∀ b∈B,x.dM<b.dM) ->
      Ex (λr=>∃ S,r=S++R/\lS S/\S.Perm (A++B++[x])) (iter f n ((A.length:Int),A++x :: (B++R))):=by
  intro n
  induction n with
  | zero=>intro A B hn;exact absurd hn (Nat.not_lt_zero _)
  | succ n ih =>
    intro A B hn h40 hS hne hB
    show Ex _ ((f _).bind _)
    rcases List.eq_nil_or_concat A with rfl | ⟨A',y,rfl⟩
    · rw [show ((([]:List aS).length:Int))=0 from rfl,hz]
      refine ⟨_,rfl,x :: B,rfl,?_,?_⟩
      · exact List.pairwise_cons.2 ⟨hB,hS⟩
      · exact (List.perm_append_singleton x B).symm
    · have el:((A'++[y]).length:Int)=(A'.length:Int)+1:=by simp
      have ea:A'++[y]++x :: (B++R)=A'++y :: x :: (B++R):=by simp
      have hl':A'.length<=40:=by simp at h40;omega
      rw [List.concat_eq_append] at *
      rw [el,ea,hs A' y (B++R) hl']
      by_cases k:x.dM<y.dM
      · rw [if_pos k]
        have e2:A'++x :: y :: (B++R)=A'++x :: ((y :: B)++R):=rfl
        show Ex _ (iter f n _)
        rw [e2]
        have e3:A'++[y]++B=A'++(y :: B):=by simp
        rw [e3] at hS hne ⊢
        exact ih (by simp at hn;omega) hl' hS hne λb hb=>by
          rcases List.mem_cons.1 hb with rfl | hb
          · exact k
          · exact hB b hb
      · rw [if_neg k]
        have hy:y.dM<x.dM:=by have:=hne y (by simp);omega
        refine ⟨_,rfl,A'++[y]++x :: B,by simp,?_,?_⟩
        · have hS2:lS (A'++[y]++B):=hS
          unfold lS at hS2 ⊢
          rw [List.pairwise_append] at hS2 ⊢
          refine ⟨hS2.1,List.pairwise_cons.2 ⟨hB,hS2.2.1⟩,λa ha b hb=>?_⟩
          have hax:a.dM<=y.dM:=by
            rcases List.mem_append.1 ha with h1 | h1
            · have:=(List.pairwise_append.1 hS2.1).2.2 a h1 y (by simp);omega
            · rw [List.mem_singleton.1 h1];omega
          rcases List.mem_cons.1 hb with rfl | hb
          · omega
          · exact hS2.2.2 a ha b hb
        · have:(A'++[y]++x :: B).Perm (A'++[y]++(B++[x])):=List.Perm.append_left _ (List.perm_append_singleton x B).symm
          rw [<- List.append_assoc] at this
          exact this
theorem aWT (a:Int):GD a=some false:=by
  unfold GD aDU
  simp only [WT.run,bR]
  exact eB (λk=>k rfl) rfl
theorem aQ6 (a b:Int):Ex (λr=>r<0↔a<b) (OD a b):=by
  unfold OD XT
  simp only [WT.run,bR,aWT,Option.bind_some]
  refine bU (bU (aD (aH (λk=>aF ⟨λ_=>k,λ_=>by decide⟩) λk=>aD (aH (λ_=>aF ⟨λq=>absurd q (by decide),λq=>absurd q k⟩) λ_=>aF ⟨λq=>absurd q (by decide),λq=>absurd q k⟩))))
theorem aIR {α:Type} (A:List α) (x:α) (T:List α):(A++x :: T)[A.length]?=some x:=by simp
theorem aVN {α:Type} (A:List α) (y x:α) (T:List α):(A++y :: x :: T)[A.length+1]?=some x:=by
  rw [List.getElem?_append_right (by omega)];simp
theorem Y7 {α:Type}:∀ (A:List α) (y x:α) (T:List α),((A++y :: x :: T).set (A.length+1) y).set A.length x=A++x :: y :: T
  | [],_,_,_=>rfl
  | a :: A,y,x,T=>by
    have:=Y7 A y x T
    simp only [List.cons_append,List.length_cons,List.set_cons_succ,this]
end Go.Pv
