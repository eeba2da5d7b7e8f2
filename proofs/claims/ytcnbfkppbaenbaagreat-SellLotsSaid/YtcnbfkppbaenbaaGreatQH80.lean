import Derived.Test.YtcnbfkppbaenbaaGreatPJ80
import Derived.Test.YtcnbfkppbaenbaaGreatPG80
set_option linter.unusedVariables false
set_option linter.unusedSimpArgs false
namespace Go.Pv
open Go.Proofs
set_option maxRecDepth 1000000
set_option maxHeartbeats 1000000
theorem aHM {b:List Int} {x:aN} {r:List aN}:lW b (x :: r)=if (jI (b.getD x.dI.toNat 0) x.bM).2≠0 then none else lW (b.set x.dI.toNat (jI (b.getD x.dI.toNat 0) x.bM).1) r:=rfl
def zL (m:List aN×Int):Prop:=m.2≠0\/(0<m.1.length/\¬ AQ m.1)
noncomputable def qQ (gH:List Int) (m:List aN×Int):List Int×Int:=open Classical in if zL m then (gH,10) else vG gH m.1
theorem VY {gH:List Int} {m:List aN×Int} (h:zL m):qQ gH m=(gH,10):=if_pos h
theorem PL {gH:List Int} {m:List aN×Int} (h:¬ zL m):qQ gH m=vG gH m.1:=if_neg h
theorem aAI {m:List aN×Int} {D:Option Bool} (hD:(∀ x∈m.1,iP x/\x.bM≠0)->Ex (λr=>r=true↔AQ m.1) D) (hk:∀ x∈m.1,iP x/\x.bM≠0) :
    Ex (λb=>b=true↔zL m) (bnd (decide (m.2≠0)) λx=>cond x (some true) (bnd (decide ((m.1.length:Int)>0)) λy=>cond y (D.bind λz=>bnd (!z) λw=>some w) (some false))):=by
  refine aF (aI (λk=>aD ⟨λ_=>.inl k,λ_=>rfl⟩) λk=>aF (aI (λk2=>aU _ (hD hk) λz hz=>aF (aD ?_)) λk2=>aD ⟨(λq=>nomatch q),λq=>?_⟩))
  · cases z with
    | true=>exact ⟨(λq=>nomatch q),λq=>by rcases q with q | q;exact absurd q k;exact absurd (hz.1 rfl) q.2⟩
    | false=>exact ⟨λ_=>.inr ⟨by omega,λq=>nomatch hz.2 q⟩,λ_=>rfl⟩
  · rcases q with q | q
    · exact absurd q k
    · omega
theorem pGl {gH:List Int} {l:List aN} {m:List aN×Int} {n:Nat} (hn:66<n) (hb:gH.length=17) (e:vU n l=some m) (hk:∀ x∈m.1,iP x/\x.bM≠0) (hl:m.1.length<=19):J6 n gH l=some (qQ gH m):=by
  refine fH ?_
  unfold J6 aEW
  simp only [WT.run,bS,TC,Option.bind_some]
  refine aF (aI (λk=>?_) λ_=>?_)
  · exfalso;omega
  refine aU (λ(r:Int⊕List Int)=>match r with | .inr b=>(b,(0:Int))=qQ gH m | .inl e=>(gH,e)=qQ gH m) (dM (aU (λ(r:Int×List Int)=>(r.1=0/\r.2.length=17/\(r.2,(0:Int))=qQ gH m)\/(r.1≠0/\(gH,r.1)=qQ gH m))
    (x_eq e (aU _ (aAI (λhk=>aQD hn (by omega) hk) hk) λb hb2=>fB (λk=>aD (.inr ⟨by show (10:Int)≠0;decide,(VY (hb2.1 k)).symm⟩)) λk=>?_)) λr hr=>bF (aF (aI (λk=>dM (aD ?_)) λk=>?_)))) λr hr=>?_
  · have hnb:¬ zL m:=λq=>by rw [hb2.2 q] at k;cases k
    refine aU (λ(r:List Int⊕(Int×List Int))=>match r with | .inl b'=>lW gH m.1=some b' | .inr q=>q.1=2/\lW gH m.1=none)
      (fJ (λ(v:Int×List Int)=>0<=v.1/\v.1<=(m.1.length:Int)/\v.2.length=17/\lW gH m.1=lW v.2 (m.1.drop v.1.toNat)) (λv=>m.1.length-v.1.toNat) ?_ (v:=(0,gH)) ⟨by simp,by simp,hb,rfl⟩ (by simp;omega)) λr hr=>iZ (λa e=>?_) λq e=>?_
    · rintro ⟨i,b⟩ ⟨h0,h1,h2,h3⟩
      simp only at h0 h1 h2 h3
      refine bF (aF (aI (λh=>?_) λh=>bJ (cK ?_)))
      · have hx:=List.getElem?_eq_getElem (l:=m.1) (i:=i.toNat) (by first | omega | (simp only;omega))
        generalize m.1[i.toNat]'(by first | omega | (simp only;omega))=x at hx
        have g:=(hk x (fE hx)).1.1
        have hc:=List.getElem?_eq_getElem (l:=b) (i:=x.dI.toNat) (by omega)
        generalize b[x.dI.toNat]'(by omega)=c at hc
        have e:(i+1).toNat=i.toNat+1:=by omega
        have e3:lW b (m.1.drop i.toNat)=if (jI c x.bM).2≠0 then none else lW (b.set x.dI.toNat (jI c x.bM).1) (m.1.drop (i.toNat+1)):=by
          rw [(drop_at hx).2,<- getD_at hc];rfl
        rw [e3] at h3
        refine dD h0 hx (dD g.1 hc (aF (aF (aI (λk=>bJ (bJ (aD ?_))) λk=>bE (cK ⟨⟨by first | omega | (simp only;omega),by first | omega | (simp only;omega),by simp only;rw [List.length_set];exact h2,?_⟩,by first | omega | (simp only;omega)⟩)))))
        · rw [if_pos k] at h3;exact ⟨(oI _ _).resolve_left k,h3⟩
        · rw [if_neg k] at h3;simp only;rw [e];exact h3
      · rw [List.drop_eq_nil_of_le (by first | omega | (simp only;omega))] at h3;exact h3
    · subst e
      have hr:lW gH m.1=some a:=hr
      refine aD (.inl ⟨rfl,by rw [aFS hr];exact hb,?_⟩)
      rw [PL hnb];unfold vG;rw [hr]
    · subst e
      have hr:q.1=2/\lW gH m.1=none:=hr
      have e2:q.1=2:=hr.1
      refine .inr ⟨by rw [e2];decide,?_⟩
      rw [PL hnb,e2];unfold vG;rw [hr.2]
  · rcases hr with ⟨h1,_⟩ | ⟨_,h2⟩
    · exact absurd h1 k
    · exact h2
  · rcases hr with ⟨h1,h2,h3⟩ | ⟨h1,_⟩
    · exact dM (aD h3)
    · exact absurd h1 k
  · cases r with
    | inr b=>exact aD hr
    | inl e=>exact aD hr
theorem rGl {gH:List Int} {l:List aN} {m:List aN×Int} {n:Nat} (hn:66<n) (hb:gH.length=17) (e:rJ n l=some m) (hk:∀ x∈m.1,iP x/\x.bM≠0) (hl:m.1.length<=19):zH n gH l=some (qQ gH m):=by
  refine fH ?_
  unfold zH QZ
  simp only [WT.run,bS,wS,Option.bind_some]
  refine aF (aI (λk=>?_) λ_=>?_)
  · exfalso;omega
  refine dM (x_eq e (aU _ (aAI (λhk=>aOJ hn (by omega) hk) hk) λb hb2=>fB (λk=>aD (VY (hb2.1 k)).symm) λk=>dM ?_))
  have hnb:¬ zL m:=λq=>by rw [hb2.2 q] at k;cases k
  rw [PL hnb]
  refine aU (λ(r:List Int⊕(List Int×Int))=>match r with | .inl b'=>lW gH m.1=some b' | .inr q=>q=vG gH m.1)
    (fJ (λ(v:Int×List Int)=>0<=v.1/\v.1<=(m.1.length:Int)/\v.2.length=17/\lW gH m.1=lW v.2 (m.1.drop v.1.toNat)) (λv=>m.1.length-v.1.toNat) ?_ (v:=(0,gH)) ⟨by simp,by simp,hb,rfl⟩ (by simp;omega)) λr hr=>iZ (λa e=>?_) λq e=>?_
  · rintro ⟨i,b⟩ ⟨h0,h1,h2,h3⟩
    simp only at h0 h1 h2 h3
    refine bF (aF (aI (λh=>?_) λh=>?_))
    · have h:i<(m.1.length:Int):=h
      have hx:=List.getElem?_eq_getElem (l:=m.1) (i:=i.toNat) (by omega)
      generalize m.1[i.toNat]'(by omega)=x at hx
      have g:=(hk x (fE hx)).1.1
      have hc:=List.getElem?_eq_getElem (l:=b) (i:=x.dI.toNat) (by omega)
      generalize b[x.dI.toNat]'(by omega)=c at hc
      have e:(i+1).toNat=i.toNat+1:=by omega
      rw [(drop_at hx).2] at h3
      rw [aHM,getD_at hc] at h3
      refine dD h0 hx (dD g.1 hc (dD h0 hx (aF (aI (λk=>bJ (bJ (aD ?_))) λk=>dD h0 hx (dD g.1 hc (aF (bE (cK ⟨⟨by simp only;omega,by simp only;omega,by simp only [List.length_set];exact h2,?_⟩,by simp only;omega⟩))))))))
      · rw [if_pos k] at h3
        show (gH,_)=vG gH m.1
        unfold vG;rw [h3];simp only;rw [(oI _ _).resolve_left k]
      · rw [if_neg k] at h3
        simp only [e];exact h3
    · have h:¬ i<(m.1.length:Int):=h
      refine bJ (cK ?_)
      show lW gH m.1=some b
      rw [h3,List.drop_eq_nil_of_le (by omega)];rfl
  · subst e;have hr:lW gH m.1=some a:=hr
    refine aD ?_
    unfold vG;rw [hr]
  · subst e;exact hr
theorem X7:∀ {m:List aN} {k:Int},lK m->(∀ y∈m,k<=y.dI/\y.dI<17)->k<=17->(m.length:Int)<=17-k
  | [],k,_,_,h=>by simp;omega
  | x :: r,k,h,hb,hk=>by
    have h':=List.pairwise_cons.1 h
    have hx:=hb x (List.mem_cons_self ..)
    have:=X7 (k:=x.dI+1) h'.2 (λy hy=>⟨by have:=h'.1 y hy;omega,(hb y (List.mem_cons_of_mem _ hy)).2⟩) (by omega)
    simp;omega
theorem WK {l:List aN} {m:List aN×Int} {n:Nat} (hn:66<n) (hl:l.length<=19) (hd:(l.map (·.dI)).Nodup) (e:vU n l=some m):(∀ x∈m.1,iP x/\x.bM≠0)/\m.1.length<=19/\(m.1.map (·.dI)).Nodup:=by
  have h:=aDU (IX hn hl hd) e
  by_cases k:∀ x∈l,iP x
  · obtain ⟨h1,h2,h3⟩:=h.1 k
    have hnd:(m.1.map (·.dI)).Nodup:=by
      unfold List.Nodup
      rw [List.pairwise_map]
      exact List.Pairwise.imp (λ{a b} q=>by omega) h2
    refine ⟨λx hx=>⟨k x ((h3 x).1 hx).1,((h3 x).1 hx).2⟩,?_,hnd⟩
    have:=X7 (k:=0) h2 (λy hy=>(k y ((h3 y).1 hy).1).1) (by decide)
    omega
  · rw [h.2 k];simp
theorem post_eq {s:aA} {n:Nat} (hn:66<n) (h:SS s) {e:Int} {l:List aN} (hl:l.length<=19) (hd:(l.map (·.dI)).Nodup):sW n s e l=kV n s e l:=by
  have hf:=h.toS0.iC
  have ep:=Y4 hn hl hd
  obtain ⟨m,em,_⟩:=IX hn hl hd
  have em2:rJ n l=some m:=by rw [<- ep];exact em
  obtain ⟨m1,m2,m3⟩:=WK hn hl hd em
  by_cases he:0<=e/\e<(s.bD.length:Int)
  rotate_left
  · have e1:sW n s e l=some (s,4):=by
      refine fH ?_
      unfold sW C5
      simp only [WT.run,bS]
      refine aU (λb=>b=true) (aF (aI (λ_=>aD rfl) λk=>aF (aD (decide_eq_true (by omega))))) λb hb=>by subst hb;exact dB (aD rfl)
    have e2:kV n s e l=some (s,4):=by
      refine fH ?_
      unfold kV zU
      simp only [WT.run,bS,qF,Option.bind_some]
      refine bE ?_
      rw [decide_eq_false (p:=0<=e/\e<=(s.bD.length:Int)-1) (by omega)]
      exact aF (dB (aD rfl))
    rw [e1,e2]
  have hx:=List.getElem?_eq_getElem (l:=s.bD) (i:=e.toNat) (by omega)
  generalize s.bD[e.toNat]'(by omega)=x at hx
  obtain ⟨bL,hm,_,_,hes⟩:=h.bL hx
  have hfew:=hes.iC hf.2.2
  obtain ⟨q,eq,_⟩:=IX (l:=m.1) hn m2 m3
  have eq2:rJ n m.1=some q:=by rw [<- Y4 hn m2 m3];exact eq
  obtain ⟨q1,q2,q3⟩:=WK hn m2 m3 eq
  have ga:=pGl hn hes.lb eq q1 q2
  have gb:=rGl hn hes.lb eq2 q1 q2
  have key:∃ v,sW n s e l=some v/\kV n s e l=some v:=by
    by_cases k:m.2≠0
    · refine ⟨(s,m.2),?_,?_⟩
      · refine fH ?_
        unfold sW C5
        simp only [WT.run,bS]
        refine aU (λb=>b=false) (aF (aI (λk=>absurd k (by omega)) λk=>aF (aD (decide_eq_false (by omega))))) λb hb=>?_
        subst hb;exact bW (x_eq em (aF (aI (λ_=>aD rfl) λz=>absurd k z)))
      · refine fH ?_
        unfold kV zU
        simp only [WT.run,bS,qF,Option.bind_some]
        refine bE ?_
        rw [decide_eq_true (p:=0<=e/\e<=(s.bD.length:Int)-1) (by omega)]
        exact aF (bW (x_eq em2 (aF (aI (λ_=>aD rfl) λz=>absurd k z))))
    · by_cases k2:(qQ x.dR q).2≠0
      · refine ⟨(s,(qQ x.dR q).2),?_,?_⟩
        · refine fH ?_
          unfold sW C5
          simp only [WT.run,bS]
          refine aU (λb=>b=false) (aF (aI (λk=>absurd k (by omega)) λk=>aF (aD (decide_eq_false (by omega))))) λb hb=>?_
          subst hb;exact bW (x_eq em (aF (aI (λz=>absurd z k) λ_=>dD he.1 hx (x_eq ga (aF (aI (λ_=>aD rfl) λz=>absurd k2 z))))))
        · refine fH ?_
          unfold kV zU
          simp only [WT.run,bS,qF,Option.bind_some]
          refine bE ?_
          rw [decide_eq_true (p:=0<=e/\e<=(s.bD.length:Int)-1) (by omega)]
          exact aF (bW (x_eq em2 (aF (aI (λz=>absurd z k) λ_=>dD he.1 hx (x_eq gb (aF (aI (λ_=>aD rfl) λz=>absurd k2 z)))))))
      · refine ⟨(lM s e.toNat { x with dR:=(qQ x.dR q).1 },0),?_,?_⟩
        · refine fH ?_
          unfold sW C5
          simp only [WT.run,bS]
          refine aU (λb=>b=false) (aF (aI (λk=>absurd k (by omega)) λk=>aF (aD (decide_eq_false (by omega))))) λb hb=>?_
          subst hb
          refine bW (x_eq em (aF (aI (λz=>absurd z k) λ_=>dD he.1 hx (x_eq ga (aF (aI (λz=>absurd z k2) λ_=>?_))))))
          exact aU (λ_=>True) (dM (dD he.1 hx (aD trivial))) λ_ _=>dD he.1 hx (aF (aD rfl))
        · refine fH ?_
          unfold kV zU
          simp only [WT.run,bS,qF,Option.bind_some]
          refine bE ?_
          rw [decide_eq_true (p:=0<=e/\e<=(s.bD.length:Int)-1) (by omega)]
          refine aF (bW (x_eq em2 (aF (aI (λz=>absurd z k) λ_=>dD he.1 hx (x_eq gb (aF (aI (λz=>absurd z k2) λ_=>?_)))))))
          refine aU (λr=>r=(x.fU,x.Closed,x.fV,x.bX,x.dR,x.dQ,x.gI,x.Down)) (dM (dD he.1 hx (dM (dM (dM (dM (dM (aD rfl)))))))) λr hr=>?_
          subst hr
          exact bF (bF (bF (bF (bF (bF (bF (dD he.1 hx (aD rfl))))))))
  obtain ⟨v,e1,e2⟩:=key
  rw [e1,e2]
theorem aWC {a b:cO} (k0:nH a.Open b.Open) (k1:nH a.iW b.iW) (k2:nH a.jH b.jH) (k3:nH a.jG b.jG) (k4:nH a.iY b.iY) (k5:nH a.jF b.jF) (k6:nH a.jE b.jE) (k7:nH a.iX b.iX) (k8:nH a.jC b.jC) (k9:nH a.jD b.jD) (k10:nH a.jB b.jB):TA a b:=λj hj =>
  match j,hj with
  | 0,_=>k0
  | 1,_=>k1
  | 2,_=>k2
  | 3,_=>k3
  | 4,_=>k4
  | 5,_=>k5
  | 6,_=>k6
  | 7,_=>k7
  | 8,_=>k8
  | 9,_=>k9
  | 10,_=>k10
theorem aNL {s:aA} {n:Nat} (h:SS s) {e i:Int} {x:aQ} {r0 r:cO} (ht:gY s e i) (hx:s.bD[e.toNat]?=some x) (hr0:x.dQ[i.toNat]?=some r0):yC s e i r=some (xL s e i x r0 r):=by
  have hf:=h.toS0.iC
  have ht2:=ht.1;have ht3:=ht.2
  obtain ⟨bL,hm,_,_,hes⟩:=h.bL hx
  have hl2:=hes.iC hf.2.2
  refine fH ?_
  unfold yC SV
  simp only [WT.run,bS,FY h.toS0 h.ln,TC,Option.bind_some]
  rw [decide_eq_true ht]
  refine aF (bW (dD ht2.1 hx (dD ht3.1 hr0 ?_)))
  refine aU (λ(q:cO⊕(aA×Int))=>match q with | .inl g=>TA r0 r/\g=qU r0 r | .inr q=>q=(s,2)/\¬ TA r0 r) ?_ λq hq=>iZ (λg e=>?_) λq e=>?_
  · refine x_eq (a:=r.Open) rfl (aF (aI (λk=>bJ (aD ⟨by rw [(oI _ _).resolve_left k],λq=>k (kQ.2 (q 0 (by decide)))⟩)) λk0=>?_))
    have k0:=kQ.1 (Classical.not_not.1 k0)
    refine x_eq (a:=r.iW) rfl (aF (aI (λk=>bJ (aD ⟨by rw [(oI _ _).resolve_left k],λq=>k (kQ.2 (q 1 (by decide)))⟩)) λk1=>?_))
    have k1:=kQ.1 (Classical.not_not.1 k1)
    refine x_eq (a:=r.jH) rfl (aF (aI (λk=>bJ (aD ⟨by rw [(oI _ _).resolve_left k],λq=>k (kQ.2 (q 2 (by decide)))⟩)) λk2=>?_))
    have k2:=kQ.1 (Classical.not_not.1 k2)
    refine x_eq (a:=r.jG) rfl (aF (aI (λk=>bJ (aD ⟨by rw [(oI _ _).resolve_left k],λq=>k (kQ.2 (q 3 (by decide)))⟩)) λk3=>?_))
    have k3:=kQ.1 (Classical.not_not.1 k3)
    refine x_eq (a:=r.iY) rfl (aF (aI (λk=>bJ (aD ⟨by rw [(oI _ _).resolve_left k],λq=>k (kQ.2 (q 4 (by decide)))⟩)) λk4=>?_))
    have k4:=kQ.1 (Classical.not_not.1 k4)
    refine x_eq (a:=r.jF) rfl (aF (aI (λk=>bJ (aD ⟨by rw [(oI _ _).resolve_left k],λq=>k (kQ.2 (q 5 (by decide)))⟩)) λk5=>?_))
    have k5:=kQ.1 (Classical.not_not.1 k5)
    refine x_eq (a:=r.jE) rfl (aF (aI (λk=>bJ (aD ⟨by rw [(oI _ _).resolve_left k],λq=>k (kQ.2 (q 6 (by decide)))⟩)) λk6=>?_))
    have k6:=kQ.1 (Classical.not_not.1 k6)
    refine x_eq (a:=r.iX) rfl (aF (aI (λk=>bJ (aD ⟨by rw [(oI _ _).resolve_left k],λq=>k (kQ.2 (q 7 (by decide)))⟩)) λk7=>?_))
    have k7:=kQ.1 (Classical.not_not.1 k7)
    refine x_eq (a:=r.jC) rfl (aF (aI (λk=>bJ (aD ⟨by rw [(oI _ _).resolve_left k],λq=>k (kQ.2 (q 8 (by decide)))⟩)) λk8=>?_))
    have k8:=kQ.1 (Classical.not_not.1 k8)
    refine x_eq (a:=r.jD) rfl (aF (aI (λk=>bJ (aD ⟨by rw [(oI _ _).resolve_left k],λq=>k (kQ.2 (q 9 (by decide)))⟩)) λk9=>?_))
    have k9:=kQ.1 (Classical.not_not.1 k9)
    refine x_eq (a:=r.jB) rfl (aF (aI (λk=>bJ (aD ⟨by rw [(oI _ _).resolve_left k],λq=>k (kQ.2 (q 10 (by decide)))⟩)) λk10=>?_))
    have k10:=kQ.1 (Classical.not_not.1 k10)
    exact cK ⟨aWC k0 k1 k2 k3 k4 k5 k6 k7 k8 k9 k10,by rw [pZ k0,pZ k1,pZ k2,pZ k3,pZ k4,pZ k5,pZ k6,pZ k7,pZ k8,pZ k9,pZ k10];rfl⟩
  · subst e
    have hq:TA r0 r/\g=qU r0 r:=hq
    obtain ⟨q1,rfl⟩:=hq
    refine aU (λ_=>True) (dM (dD ht2.1 hx (aD trivial))) λ_ _=>dD ht2.1 hx (dM (dD ht3.1 hr0 (aF (aD ?_))))
    unfold xL;rw [if_pos q1];rfl
  · subst e
    have hq:q=(s,2)/\¬ TA r0 r:=hq
    unfold xL;rw [if_neg hq.2];exact hq.1
theorem aOE {s:aA} {n:Nat} (hn:66<n) (h:SS s) {e i:Int} {r:cO}:yC s e i r=nE n s e i r:=by
  by_cases ht:gY s e i
  · obtain ⟨x,hx⟩:=ht.at
    obtain ⟨bL,hm,_,_,hes⟩:=h.bL hx
    have hlr:=hes.lr
    have ht3:=ht.2
    have hr:=List.getElem?_eq_getElem (l:=x.dQ) (i:=i.toNat) (by omega)
    rw [aNL (n:=n) h ht hx hr,aD9 hn h ht hx hr]
  · have e1:yC s e i r=some (s,4):=by
      refine fH ?_
      unfold yC SV
      simp only [WT.run,bS,FY h.toS0 h.ln,Option.bind_some]
      rw [decide_eq_false ht]
      exact aF (dB (aD rfl))
    have e2:nE n s e i r=some (s,4):=by
      refine fH ?_
      unfold nE IJ
      simp only [WT.run,bS,sD h.toS0,Option.bind_some]
      rw [decide_eq_false ht]
      exact aF (dB (aD rfl))
    rw [e1,e2]
theorem GX {p q:Prop} [Decidable p] [Decidable q]:(bnd (decide p) λx=>cond x (some true) (bnd (decide q) λy=>some y))=some (decide (p\/q)):=by
  by_cases h:p <;> by_cases k:q <;> simp [bnd,h,k]
theorem NU {β:Type} {p:Prop} {_:Decidable p} {a b r:Option β} (h:p) (k:a=r):cond (decide p) a b=r:=by rw [decide_eq_true h];exact k
theorem PT {β:Type} {p:Prop} {_:Decidable p} {a b r:Option β} (h:¬ p) (k:b=r):cond (decide p) a b=r:=by rw [decide_eq_false h];exact k
theorem aRX {α:Type} {D P:Option α} (h:Ex (λr=>D=some r) P):P=D:=by obtain ⟨r,e,k⟩:=h;rw [e,k]
theorem aZX {l l':List aN} {n:Nat} (hn:66<n) (hl:l.length<=19) (hd:(l.map (·.dI)).Nodup) (hl':l'.length<=19) (hd':(l'.map (·.dI)).Nodup) (hp:∀ x,x∈l↔x∈l'):rJ n l=rJ n l':=by
  obtain ⟨a,ea,ha1,ha2⟩:=r07 hn hl hd
  obtain ⟨b,eb,hb1,hb2⟩:=r07 hn hl' hd'
  rw [ea,eb]
  by_cases k:∀ x∈l,iP x
  · have k':∀ x∈l',iP x:=λx hx=>k x ((hp x).2 hx)
    obtain ⟨a1,a2,a3⟩:=ha1 k
    obtain ⟨b1,b2,b3⟩:=hb1 k'
    have e:=U4 a2 b2 λy=>by rw [a3,b3,hp]
    cases a;cases b
    simp only at a1 b1 e
    rw [a1,b1,e]
  · have k':¬ ∀ x∈l',iP x:=λw=>k λx hx=>w x ((hp x).1 hx)
    rw [ha2 k,hb2 k']
theorem aZN {s:aA} {e:Int} {l l':List aN} {n:Nat} (hn:66<n) (hl:l.length<=19) (hd:(l.map (·.dI)).Nodup) (hl':l'.length<=19) (hd':(l'.map (·.dI)).Nodup) (hp:∀ x,x∈l↔x∈l'):kV n s e l=kV n s e l':=by
  unfold kV zU
  simp only [WT.run,bS]
  rw [aZX hn hl hd hl' hd' hp]
def PF (s:aA) (e:Int) (x:aQ) (v:List Int×Int):aA×Int:=if v.2≠0 then (s,v.2) else (lM s e.toNat { x with dR:=v.1 },0)
theorem aZ1 {e:Int} {l:List aN} {n:Nat} (hn:66<n) (he0:0<=e) (hl:l.length<=19) (hd:(l.map (·.dI)).Nodup):∃ w:List Int->List Int×Int,∀ {s:aA} {x:aQ},SS s->s.bD[e.toNat]?=some x->kV n s e l=some (PF s e x (w x.dR)):=by
  have ep:=Y4 hn hl hd
  obtain ⟨m,em,_⟩:=IX hn hl hd
  have em2:rJ n l=some m:=by rw [<- ep];exact em
  obtain ⟨m1,m2,m3⟩:=WK hn hl hd em
  obtain ⟨q,eq,_⟩:=IX (l:=m.1) hn m2 m3
  have eq2:rJ n m.1=some q:=by rw [<- Y4 hn m2 m3];exact eq
  obtain ⟨q1,q2,q3⟩:=WK hn m2 m3 eq
  refine ⟨λb=>if m.2≠0 then ([],m.2) else qQ b q,λ{s x} h hx=>?_⟩
  have hf:=h.toS0.iC
  have he:0<=e/\e<(s.bD.length:Int):=⟨he0,by have:=(List.getElem?_eq_some_iff.1 hx).1;omega⟩
  obtain ⟨bL,hm,_,_,hes⟩:=h.bL hx
  have hfew:=hes.iC hf.2.2
  have gb:=rGl hn hes.lb eq2 q1 q2
  refine fH ?_
  unfold kV zU PF
  simp only [WT.run,bS,qF,Option.bind_some]
  refine bE ?_
  rw [decide_eq_true (p:=0<=e/\e<=(s.bD.length:Int)-1) (by omega)]
  refine aF (bW (x_eq em2 (aF (aI (λk=>aD ?_) λk=>dD he.1 hx (x_eq gb (aF (aI (λk2=>aD ?_) λk2=>?_)))))))
  · rw [if_pos (show m.2≠0 from k),if_pos (show m.2≠0 from k)]
  · rw [if_neg (show ¬ m.2≠0 from k),if_pos (show (qQ x.dR q).2≠0 from k2)]
  · rw [if_neg (show ¬ m.2≠0 from k),if_neg (show ¬ (qQ x.dR q).2≠0 from k2)]
    refine aU (λr=>r=(x.fU,x.Closed,x.fV,x.bX,x.dR,x.dQ,x.gI,x.Down)) (dM (dD he.1 hx (dM (dM (dM (dM (dM (aD rfl)))))))) λr hr=>?_
    subst hr
    exact bF (bF (bF (bF (bF (bF (bF (dD he.1 hx (aD rfl))))))))
def b11 (p:aH) (q:Int):aH×Int:=if q<1 then (p,1) else if q>p.bN.a0 then (p,5) else (⟨p.aW,⟨p.bN.a0-q,p.bN.a1,p.bN.a2⟩⟩,0)
theorem aYX {m:Int} {p:aH} {q:Int} (h:PR m p):C9 p 0 q=some (b11 p q):=by
  have hb:=h.b
  suffices H:∀ k:Int,k=0->Ex (λr=>r=b11 p q) (C9 p k q) from fH (H 0 rfl)
  intro k hk
  unfold C9 aD4 b11
  simp only [WT.run,bS]
  repeat' with_reducible first | refine bE ?_ | refine dU ?_ | apply aF | apply bF | apply dY | apply dN | apply dV | apply dZ | apply d9 | apply dO | apply dW | apply dS | refine aI (λ_=>?_) λ_=>?_ | refine dJ (λ_=>?_) λ_=>?_ | apply dB | apply bW | apply cZ | apply bJ | apply aD | refine dM ?_
  all_goals first | (exfalso;omega) | (rw [if_pos (by omega)]) | (rw [if_neg (by omega),if_pos (by omega)]) | (rw [if_neg (by omega),if_neg (by omega)])
theorem a0A {m:Int} {p:aH} {q:Int} (h:PR m p):aJM p 0 q=some (b11 p q):=by
  have hb:=h.b
  suffices H:∀ k:Int,k=0->Ex (λr=>r=b11 p q) (aJM p k q) from fH (H 0 rfl)
  intro k hk
  have hi:MS k=some true:=by
    refine fH ?_
    unfold MS aCB
    simp only [WT.run,bS]
    repeat' with_reducible first | refine bE ?_ | refine dU ?_ | apply aF | apply bF | apply dY | apply dN | apply dV | apply dZ | apply d9 | apply dO | apply dW | apply dS | refine aI (λ_=>?_) λ_=>?_ | refine dJ (λ_=>?_) λ_=>?_ | apply dB | apply bW | apply cZ | apply bJ | apply aD
    all_goals first | rfl | (exfalso;omega) | (simp only [decide_eq_true_eq];omega)
  unfold aJM aYE b11
  simp only [WT.run,bS,hi,RX (p:=p) (l:=p.aW) (by omega),Option.bind_some]
  show Ex _ _
  refine aU (λ(r:Int⊕(aH×Int))=>(q<1/\r=.inr (p,1))\/(1<=q/\q>p.bN.a0/\r=.inr (p,5))\/(1<=q/\¬ q>p.bN.a0/\r=.inl 0)) ?_ λr hr=>?_
  · refine aU (λ(b:Bool)=>b=true↔q<1) (aF (bW (aF (aD decide_eq_true_iff)))) λb hb=>fB (λz=>bJ (aD (.inl ⟨hb.1 z,rfl⟩))) λz=>?_
    have hz:1<=q:=by
      by_cases w:q<1
      · rw [hb.2 w] at z;cases z
      · omega
    refine aF (aI (λ_=>aF (aI (λw=>bJ (aD (.inr (.inl ⟨hz,w,rfl⟩)))) λw=>cK (.inr (.inr ⟨hz,w,rfl⟩)))) λw=>absurd hk w)
  · rcases hr with ⟨w,rfl⟩ | ⟨w,w2,rfl⟩ | ⟨w,w2,rfl⟩
    · refine yK ?_
      rw [if_pos w]
    · refine yK ?_
      rw [if_neg (by omega),if_pos w2]
    · refine cZ ?_
      rw [if_neg (by omega),if_neg w2]
      exact aF (aI (λ_=>bE (aD rfl)) λw=>absurd rfl w)
theorem aX7 (a v:Int):aAX a v=some ⟨a,v⟩:=rfl
theorem aZY {K:Int} {s:aA} {o:bK} {n:Nat} (hn:66<n) (h:Inv K s) (hq:0<=o.aG/\o.aG<=288230376151711744) (ha:0<=o.bM/\o.bM<=288230376151711744):aC7 n s o=LM n s o:=by
  have hl2:=h.l2
  have hD:LM n s o=LM n s o:=rfl
  conv at hD=>rhs;unfold LM aGR;simp only [WT.run,bS]
  refine aRX ?_
  unfold aC7 aY4
  simp only [WT.run,bS,GX,Option.bind_some,aVY h.ss.toS0 h.ss.ln]
  have fin:∀ (E:Option (aA×Int)),(∀ z,E=some z->LM n s o=some z)->∀ r:Int×aA,((r.1≠0/\E=some (s,r.1))\/(r.1=0/\E=some (r.2,0))) ->
      Ex (λz=>LM n s o=some z) (p2 (λ(e:Int) (t:aA)=>bnd (decide (e≠0)) λy=>cond y (some (s,e)) (some (t,0))) r):=by
    intro E hE r hr
    refine bF (aF (aI (λk=>aD (hE _ ?_)) λk=>aD (hE _ ?_)))
    · rcases hr with ⟨_,z⟩ | ⟨z,_⟩
      · exact z
      · exact absurd z k
    · rcases hr with ⟨z,_⟩ | ⟨_,z⟩
      · exact absurd z k
      · exact z
  by_cases kd:o.Kind=4
  · replace hD:=hD.trans (fQ kd (fK rfl))
    have hE:IL n s o=IL n s o:=rfl
    conv at hE=>rhs;unfold IL aD6;simp only [WT.run,bS]
    refine aU (λ(r:(bK×eZ)⊕(aA×Int))=>r=.inl (o,⟨0,0,0,0,0,0,0,0,false⟩)) (aF (aI (λk=>absurd k (by omega)) λ_=>aF (aI (λ_=>cK rfl) λk=>absurd kd k))) λr hr=>?_
    subst hr
    refine cZ (bF ?_)
    simp only
    obtain ⟨a,ea,hr⟩:=rE h o.E o.Item
    refine x_eq ea ?_
    replace hE:=hE.trans (dK ea rfl)
    refine aF (aI (λk=>aD (hD.trans (dK (hE.trans (fQ k (fK rfl))) rfl))) λk3=>?_)
    replace hE:=hE.trans (eU k3 (dF rfl))
    obtain ⟨ht,x',bL,hx',hm,ho⟩:=hr (by omega)
    have o0:=On.start hx' hm ho
    refine aU _ (aF (aI (λ_=>?_) λk=>absurd kd k)) (fin (IL n s o) λz hz=>hD.trans (dK hz rfl))
    refine aU (λ(r:aA×Int)=>(r.2≠0/\IL n s o=some (s,r.2))\/(r.2=0/\IL n s o=some (r.1,0))) ?_ λr hr=>aD hr
    unfold aX4 aY1
    simp only [WT.run,bS,aX7,Option.bind_some]
    refine aF (aI (λk=>aD (.inl ⟨show (6:Int)≠0 by decide,hE.trans (fQ k (fK rfl))⟩)) λk4=>?_)
    replace hE:=hE.trans (eU k4 (dF rfl))
    obtain ⟨b,eb,hb⟩:=xQ (n:=n) (e:=o.E) (i:=o.Item) (c:=o.Loc) (k:=0) (q:=o.aG) hn h.ss (by omega)
    refine x_eq ((aWJ hn h.ss (by omega)).trans eb) ?_
    replace hE:=hE.trans (dK eb rfl)
    refine aF (aI (λk=>aD (.inl ⟨k,hE.trans (fQ k (fK rfl))⟩)) λk5=>?_)
    rcases hb with ⟨_,hb⟩ | ⟨q,_⟩
    rotate_left
    · exact absurd q k5
    obtain ⟨f1,f2,f3,f4,f5,f6⟩:=hb.facts
    obtain ⟨x1,o1,p1,p2,p3⟩:=o0.wW hb
    refine bE (bE ?_)
    replace hE:=hE.trans (eU k5 (dF (iE (by omega) (iE (by omega) rfl))))
    have s1:=o1.ss h.ss
    obtain ⟨c,ec,hc⟩:=nY (n:=n) (e:=o.E) (l:=[⟨3,o.bM⟩,⟨4,0-o.bM⟩,⟨5,b.2.1.Value⟩,⟨0,0-b.2.1.Value⟩]) hn s1 (by simp)
    refine x_eq ((post_eq hn s1 (by simp) (by simp)).trans ec) ?_
    replace hE:=hE.trans (dK ec rfl)
    refine aF (aI (λk=>aD (.inl ⟨k,hE.trans (fQ k (fK rfl))⟩)) λk6=>?_)
    replace hE:=hE.trans (eU k6 (dF rfl))
    rcases hc with ⟨_,hc⟩ | ⟨q,_⟩
    rotate_left
    · exact absurd q k6
    obtain ⟨x2,o2,q1,q2,q3⟩:=o1.oV hc (by simp [gB,fZ])
    have s2:=o2.ss h.ss
    obtain ⟨t,et,ht2⟩:=sU (n:=n) (e:=o.E) (i:=o.Item) (r:=⟨0,0,0,0,0,b.2.1.Value,0,0,0,0,0⟩) hn s2
    refine x_eq ((aOE hn s2).trans et) ?_
    replace hE:=hE.trans (dK et rfl)
    refine aF (aI (λk=>aD (.inl ⟨k,hE.trans (fQ k (fK rfl))⟩)) λk7=>?_)
    replace hE:=hE.trans (eU k7 (dF rfl))
    rcases ht2 with ⟨_,ht2⟩ | ⟨q,_⟩
    rotate_left
    · exact absurd q k7
    obtain ⟨x3,o3,r1,r2⟩:=o2.uP ht2
    obtain ⟨g1,g2,g3,g4,g5⟩:=o3.rc
    have lg:t.1.eF.length=s.eF.length:=by rw [g2]
    exact dD ht.1.1 hx' (aF (dM (aF (dM (aD (.inr ⟨rfl,hE.trans (iV ht.1.1 hx' (iA (qB (by omega) (iA (qB (by simp;omega) rfl)))))⟩))))))
  by_cases kd5:o.Kind=5
  rotate_left
  · refine aU (λ(r:(bK×eZ)⊕(aA×Int))=>r=.inr (s,1)) (aF (aI (λk=>absurd k kd5) λ_=>aF (aI (λk=>absurd k kd) λ_=>bJ (aD rfl)))) λr hr=>?_
    subst hr
    exact yK (hD.trans (eU kd (dF (eU kd5 (dF rfl)))))
  replace hD:=hD.trans (eU kd (dF (fQ kd5 (fK rfl))))
  have hE:JN n s o=JN n s o:=rfl
  conv at hE=>rhs;unfold JN YP;simp only [WT.run,bS,GX,Option.bind_some]
  by_cases kr:o.Ref<0\/o.Ref>=(s.eF.length:Int)
  · refine aU (λ(r:(bK×eZ)⊕(aA×Int))=>r=.inr (s,4)) (aF (aI (λ_=>aI (λ_=>bJ (aD rfl)) λk=>absurd kr k) λk=>absurd kd5 k)) λr hr=>?_
    subst hr
    exact yK (hD.trans (dK (hE.trans (NU kr rfl)) rfl))
  replace hE:=hE.trans (PT kr rfl)
  have h0:0<=o.Ref:=by omega
  have hz:=List.getElem?_eq_getElem (l:=s.eF) (i:=o.Ref.toNat) (by omega)
  generalize s.eF[o.Ref.toNat]'(by omega)=z at hz
  replace hE:=hE.trans (iV h0 hz rfl)
  refine aU (λ(r:(bK×eZ)⊕(aA×Int))=>r=.inl (⟨o.Kind,z.eY,z.Item,z.Loc,o.To,o.aG,o.bM,o.Ref,o.fA⟩,z)) (aF (aI (λ_=>aI (λk=>absurd k kr) λ_=>dD h0 hz (cK rfl)) λk=>absurd kd5 k)) λr hr=>?_
  subst hr
  refine cZ (bF ?_)
  simp only
  obtain ⟨z1,z2,z3,z4,z5,z6,z7,z8⟩:=h.mO z (fE hz)
  obtain ⟨a,ea,hr⟩:=rE h z.eY z.Item
  refine x_eq ea ?_
  replace hE:=hE.trans (dK ea rfl)
  refine aF (aI (λk=>aD (hD.trans (dK (hE.trans (fQ k (fK rfl))) rfl))) λk3=>?_)
  replace hE:=hE.trans (eU k3 (dF rfl))
  obtain ⟨ht,x,bL,hx,hm,ho⟩:=hr (by omega)
  have o0:=On.start hx hm ho
  refine aU _ (aF (aI (λk=>absurd k kd) λ_=>?_)) (fin (JN n s o) λz hz=>hD.trans (dK hz rfl))
  refine bE (aF (aI (λk=>aD (.inl ⟨show (5:Int)≠0 by decide,hE.trans (iE (by omega) (fQ k (fK rfl)))⟩)) λk4=>?_))
  replace hE:=hE.trans (iE (by omega) (eU k4 (dF (iE (by omega) (iE (by omega) rfl)))))
  obtain ⟨w,ew⟩:∃ w,(bnd z.pG λx=>cond x ((ix s.bD z.eY).bind λy=>bnd (decide (z.nG=y.fU)) λv=>some v) (some false))=some w:=by
    cases z.pG with
    | false=>exact ⟨_,rfl⟩
    | true=>exact ⟨_,iA (fK (iV ht.1.1 hx (iA rfl)))⟩
  refine x_eq ew ?_
  replace hE:=hE.trans (dK ew rfl)
  cases w with
  | true =>
    replace hE:=hE.trans (fK rfl)
    refine dB (aU (λ(r:aA×Int)=>(r.2≠0/\JN n s o=some (s,r.2))\/(r.2=0/\JN n s o=some (r.1,0))) ?_ λr hr=>aD hr)
    obtain ⟨x',m,k,p,p2',hs⟩:=h.ss.spot (c:=z.Loc) ht z3
    have hx':=hs.en;rw [hx] at hx';cases hx'
    unfold aWY aY3
    simp only [WT.run,bS,aX7,Option.bind_some]
    refine x_eq (pAt h.ss.toS0 h.ss.ln ht z3 hx hs.pp (tC hs.io.pp.ly)) (x_eq (a0A hs.io.pp) ?_)
    replace hE:=hE.trans (dK (pX h.ss.toS0 ht z3 hx hs.pp) (dK (aYX hs.io.pp) rfl))
    refine aF (aI (λk=>aD (.inl ⟨k,hE.trans (fQ k (fK rfl))⟩)) λk5=>?_)
    replace hE:=hE.trans (eU k5 (dF (dK (xK h.ss hs) rfl)))
    have hb:=aDU (aHL (q:=o.aG) hs.io.pp (by omega)) (aYX hs.io.pp)
    rcases hb with ⟨_,b1,b2,b3⟩ | ⟨q,_⟩
    rotate_left
    · exact absurd q k5
    have hio:IO m (b11 p o.aG).1 p2':=⟨b1,hs.io.qq,by rw [b2];exact hs.io.sq,by rw [b2];exact hs.io.ss⟩
    obtain ⟨x1,o1,p1,_,_⟩:=o0.LV hs hio (v:=0) (by rw [b2];omega)
    obtain ⟨w,hw⟩:=aZ1 (e:=z.eY) (l:=[⟨4,o.bM⟩,⟨3,0-o.bM⟩]) hn ht.1.1 (by simp) (by simp)
    have he:z.eY.toNat<s.bD.length:=(List.getElem?_eq_some_iff.1 hx).1
    have e1:=hw h.ss hx
    have e2:=hw (o1.ss h.ss) (QK he)
    refine bE (x_eq ((post_eq hn h.ss (by simp) (by simp)).trans e1) ?_)
    replace hE:=hE.trans (dK e2 rfl)
    simp only at hE ⊢
    unfold PF at hE ⊢
    by_cases k6:(w x.dR).2≠0
    · rw [if_pos k6] at hE ⊢
      exact aF (aI (λk=>aD (.inl ⟨k,hE.trans (fQ k (fK rfl))⟩) ) λk=>absurd k6 k)
    · rw [if_neg k6] at hE ⊢
      replace hE:=hE.trans (eU (by simp) (dF (dK (aBB h0 hz hl2) rfl)))
      have hf:=h.ss.toS0.iC
      obtain ⟨mts',_,_,hes⟩:=hs.es'
      have hfew:=hes.iC hf.2.2
      have ei:(z.Item*2+z.Loc).toNat=2*z.Item.toNat+z.Loc.toNat:=by have:=ht.2;omega
      have t2:=ht.2
      refine aF (aI (λk=>absurd rfl k) λ_=>iR (by simp only [lM,List.length_set];omega) (dD ht.1.1 (QK he) (iR (by simp only;omega) (bE (bE (dD (by omega) (by rw [ei];exact hs.pp) (aF ?_)))))))
      refine aU (λ_=>True) (iR (by show s.eF.length<=_;omega) (dD h0 hz (aD trivial))) λ_ _=>dD h0 hz (bE (aF (aD (.inr ⟨rfl,?_⟩))))
      rw [hE,ei]
      simp only [lM,qD,List.set_set]
  | false =>
    replace hE:=hE.trans (dF rfl)
    refine bW (aU (λ(r:aA×Int)=>(r.2≠0/\JN n s o=some (s,r.2))\/(r.2=0/\JN n s o=some (r.1,0))) ?_ λr hr=>aD hr)
    have hpc:=xB (w:=o.aG) (q:=z.aG-z.gP) z6
    have hpp:=ZF (w:=o.aG) (q:=z.aG-z.gP) z7
    unfold bQ at hpp z7
    unfold aW8 aYH
    simp only [WT.run,bS,aX7,Option.bind_some]
    refine bE (x_eq (FV hn (by omega) (by omega)) (bE (x_eq (FV hn (by omega) (by omega)) ?_)))
    replace hE:=hE.trans (dK (oJ hn (by omega) (by omega)) (dK (oJ hn (by omega) (by omega)) rfl))
    obtain ⟨b,eb,hb⟩:=DJ (n:=n) (s:=s) (e:=z.eY) (i:=z.Item) (c:=z.Loc) (l:=⟨o.aG,pt z.pR o.aG (z.aG-z.gP),pt z.bO o.aG (z.aG-z.gP)⟩) hn h.ss (by simp only;omega)
    refine x_eq ((a0N hn h.ss (by simp only;omega)).trans eb) ?_
    replace hE:=hE.trans (dK eb rfl)
    refine aF (aI (λk=>aD (.inl ⟨k,hE.trans (fQ k (fK rfl))⟩)) λk5=>?_)
    rcases hb with ⟨_,hb⟩ | ⟨q,_⟩
    rotate_left
    · exact absurd q k5
    obtain ⟨f1,f2,f3,f4,f5,f6,f7⟩:=hb.facts
    obtain ⟨x1,o1,p1,p2,p3⟩:=o0.brought hb
    refine bE (bE ?_)
    have s1:=o1.ss h.ss
    obtain ⟨c,ec,hc⟩:=nY (n:=n) (e:=z.eY) (l:=[⟨4,o.bM⟩,⟨3,0-o.bM⟩,⟨0,b.2.1⟩,⟨6,b.2.2.1⟩,⟨5,0-pt z.pR o.aG (z.aG-z.gP)⟩]) hn s1 (by simp)
    replace hE:=hE.trans (eU k5 (dF (iE (by omega) (iA (qB (by simp) (dK ec rfl))))))
    refine x_eq (((post_eq hn s1 (by simp) (by simp)).trans (aZN hn (by simp) (by simp) (by simp) (by simp) λy=>by simp only [List.mem_cons,List.not_mem_nil,or_false];constructor <;> (rintro (h | h | h | h | h) <;> simp [h]))).trans ec) ?_
    refine aF (aI (λk=>aD (.inl ⟨k,hE.trans (fQ k (fK rfl))⟩)) λk6=>?_)
    replace hE:=hE.trans (eU k6 (dF rfl))
    rcases hc with ⟨_,hc⟩ | ⟨q,_⟩
    rotate_left
    · exact absurd q k6
    obtain ⟨x2,o2,q1,q2,q3⟩:=o1.oV hc (by simp [gB,fZ])
    have s2:=o2.ss h.ss
    obtain ⟨t,et,ht2⟩:=sU (n:=n) (e:=z.eY) (i:=z.Item) (r:=⟨0,0,0,0,b.2.1,0,0,0,0,0,0⟩) hn s2
    refine x_eq ((aOE hn s2).trans et) ?_
    replace hE:=hE.trans (dK et rfl)
    refine aF (aI (λk=>aD (.inl ⟨k,hE.trans (fQ k (fK rfl))⟩)) λk7=>?_)
    replace hE:=hE.trans (eU k7 (dF rfl))
    rcases ht2 with ⟨_,ht2⟩ | ⟨q,_⟩
    rotate_left
    · exact absurd q k7
    obtain ⟨x3,o3,r1,r2⟩:=o2.uP ht2
    obtain ⟨g1,g2,g3,g4,g5⟩:=o3.rc
    have hzt:t.1.eF[o.Ref.toNat]?=some z:=by rw [g2];exact hz
    have hlt:t.1.eF.length<=40:=by rw [g2];exact hl2
    replace hE:=hE.trans (iE (by omega) (iE (by omega) (dK (aBB h0 hzt hlt) rfl)))
    refine aU (λ_=>True) (dM (dD h0 hzt (aD trivial))) λ_ _=>dD h0 hzt (bE (bE (bE (aF (aF (aF (aD (.inr ⟨rfl,?_⟩))))))))
    rw [hE]
    simp only [List.set_set]
end Go.Pv
