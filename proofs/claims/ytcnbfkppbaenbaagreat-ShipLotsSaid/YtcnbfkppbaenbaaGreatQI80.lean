import Derived.Test.YtcnbfkppbaenbaaGreatPJ80
import Derived.Test.YtcnbfkppbaenbaaGreatPG80
set_option linter.unusedVariables false
set_option linter.unusedSimpArgs false
namespace Go.Pv
open Go.Proofs
set_option maxRecDepth 1000000
set_option maxHeartbeats 1000000
theorem aHM {b:List Int} {x:aN} {r:List aN}:lW b (x :: r)=if (jI (b.getD x.dI.toNat 0) x.bM).2≠0 then none else lW (b.set x.dI.toNat (jI (b.getD x.dI.toNat 0) x.bM).1) r:=rfl
def zL (m:List aN×Int):Prop:=m.2≠0\/(0<m.1.length/\¬ AQ m.1)
noncomputable def qQ (gH:List Int) (m:List aN×Int):List Int×Int:=open Classical in if zL m then (gH,10) else vG gH m.1
theorem VY {gH:List Int} {m:List aN×Int} (h:zL m):qQ gH m=(gH,10):=if_pos h
theorem PL {gH:List Int} {m:List aN×Int} (h:¬ zL m):qQ gH m=vG gH m.1:=if_neg h
theorem aAI {m:List aN×Int} {D:Option Bool} (hD:(∀ x∈m.1,iP x/\x.bM≠0)->Ex (λr=>r=true↔AQ m.1) D) (hk:∀ x∈m.1,iP x/\x.bM≠0) :
    Ex (λb=>b=true↔zL m) (bnd (decide (m.2≠0)) λx=>cond x (some true) (bnd (decide ((m.1.length:Int)>0)) λy=>cond y (D.bind λz=>bnd (!z) λw=>some w) (some false))):=by
  refine aF (aI (λk=>aD ⟨λ_=>.inl k,λ_=>rfl⟩) λk=>aF (aI (λk2=>aU _ (hD hk) λz hz=>aF (aD ?_)) λk2=>aD ⟨(λq=>nomatch q),λq=>?_⟩))
  · cases z with
    | true=>exact ⟨(λq=>nomatch q),λq=>by rcases q with q | q;exact absurd q k;exact absurd (hz.1 rfl) q.2⟩
    | false=>exact ⟨λ_=>.inr ⟨by omega,λq=>nomatch hz.2 q⟩,λ_=>rfl⟩
  · rcases q with q | q
    · exact absurd q k
    · omega
theorem pGl {gH:List Int} {l:List aN} {m:List aN×Int} {n:Nat} (hn:66<n) (hb:gH.length=17) (e:vU n l=some m) (hk:∀ x∈m.1,iP x/\x.bM≠0) (hl:m.1.length<=19):J6 n gH l=some (qQ gH m):=by
  refine fH ?_
  unfold J6 aEW
  simp only [WT.run,bS,TC,Option.bind_some]
  refine aF (aI (λk=>?_) λ_=>?_)
  · exfalso;omega
  refine aU (λ(r:Int⊕List Int)=>match r with | .inr b=>(b,(0:Int))=qQ gH m | .inl e=>(gH,e)=qQ gH m) (dM (aU (λ(r:Int×List Int)=>(r.1=0/\r.2.length=17/\(r.2,(0:Int))=qQ gH m)\/(r.1≠0/\(gH,r.1)=qQ gH m))
    (x_eq e (aU _ (aAI (λhk=>aQD hn (by omega) hk) hk) λb hb2=>fB (λk=>aD (.inr ⟨by show (10:Int)≠0;decide,(VY (hb2.1 k)).symm⟩)) λk=>?_)) λr hr=>bF (aF (aI (λk=>dM (aD ?_)) λk=>?_)))) λr hr=>?_
  · have hnb:¬ zL m:=λq=>by rw [hb2.2 q] at k;cases k
    refine aU (λ(r:List Int⊕(Int×List Int))=>match r with | .inl b'=>lW gH m.1=some b' | .inr q=>q.1=2/\lW gH m.1=none)
      (fJ (λ(v:Int×List Int)=>0<=v.1/\v.1<=(m.1.length:Int)/\v.2.length=17/\lW gH m.1=lW v.2 (m.1.drop v.1.toNat)) (λv=>m.1.length-v.1.toNat) ?_ (v:=(0,gH)) ⟨by simp,by simp,hb,rfl⟩ (by simp;omega)) λr hr=>iZ (λa e=>?_) λq e=>?_
    · rintro ⟨i,b⟩ ⟨h0,h1,h2,h3⟩
      simp only at h0 h1 h2 h3
      refine bF (aF (aI (λh=>?_) λh=>bJ (cK ?_)))
      · have hx:=List.getElem?_eq_getElem (l:=m.1) (i:=i.toNat) (by first | omega | (simp only;omega))
        generalize m.1[i.toNat]'(by first | omega | (simp only;omega))=x at hx
        have g:=(hk x (fE hx)).1.1
        have hc:=List.getElem?_eq_getElem (l:=b) (i:=x.dI.toNat) (by omega)
        generalize b[x.dI.toNat]'(by omega)=c at hc
        have e:(i+1).toNat=i.toNat+1:=by omega
        have e3:lW b (m.1.drop i.toNat)=if (jI c x.bM).2≠0 then none else lW (b.set x.dI.toNat (jI c x.bM).1) (m.1.drop (i.toNat+1)):=by
          rw [(drop_at hx).2,<- getD_at hc];rfl
        rw [e3] at h3
        refine dD h0 hx (dD g.1 hc (aF (aF (aI (λk=>bJ (bJ (aD ?_))) λk=>bE (cK ⟨⟨by first | omega | (simp only;omega),by first | omega | (simp only;omega),by simp only;rw [List.length_set];exact h2,?_⟩,by first | omega | (simp only;omega)⟩)))))
        · rw [if_pos k] at h3;exact ⟨(oI _ _).resolve_left k,h3⟩
        · rw [if_neg k] at h3;simp only;rw [e];exact h3
      · rw [List.drop_eq_nil_of_le (by first | omega | (simp only;omega))] at h3;exact h3
    · subst e
      have hr:lW gH m.1=some a:=hr
      refine aD (.inl ⟨rfl,by rw [aFS hr];exact hb,?_⟩)
      rw [PL hnb];unfold vG;rw [hr]
    · subst e
      have hr:q.1=2/\lW gH m.1=none:=hr
      have e2:q.1=2:=hr.1
      refine .inr ⟨by rw [e2];decide,?_⟩
      rw [PL hnb,e2];unfold vG;rw [hr.2]
  · rcases hr with ⟨h1,_⟩ | ⟨_,h2⟩
    · exact absurd h1 k
    · exact h2
  · rcases hr with ⟨h1,h2,h3⟩ | ⟨h1,_⟩
    · exact dM (aD h3)
    · exact absurd h1 k
  · cases r with
    | inr b=>exact aD hr
    | inl e=>exact aD hr
theorem rGl {gH:List Int} {l:List aN} {m:List aN×Int} {n:Nat} (hn:66<n) (hb:gH.length=17) (e:rJ n l=some m) (hk:∀ x∈m.1,iP x/\x.bM≠0) (hl:m.1.length<=19):zH n gH l=some (qQ gH m):=by
  refine fH ?_
  unfold zH QZ
  simp only [WT.run,bS,wS,Option.bind_some]
  refine aF (aI (λk=>?_) λ_=>?_)
  · exfalso;omega
  refine dM (x_eq e (aU _ (aAI (λhk=>aOJ hn (by omega) hk) hk) λb hb2=>fB (λk=>aD (VY (hb2.1 k)).symm) λk=>dM ?_))
  have hnb:¬ zL m:=λq=>by rw [hb2.2 q] at k;cases k
  rw [PL hnb]
  refine aU (λ(r:List Int⊕(List Int×Int))=>match r with | .inl b'=>lW gH m.1=some b' | .inr q=>q=vG gH m.1)
    (fJ (λ(v:Int×List Int)=>0<=v.1/\v.1<=(m.1.length:Int)/\v.2.length=17/\lW gH m.1=lW v.2 (m.1.drop v.1.toNat)) (λv=>m.1.length-v.1.toNat) ?_ (v:=(0,gH)) ⟨by simp,by simp,hb,rfl⟩ (by simp;omega)) λr hr=>iZ (λa e=>?_) λq e=>?_
  · rintro ⟨i,b⟩ ⟨h0,h1,h2,h3⟩
    simp only at h0 h1 h2 h3
    refine bF (aF (aI (λh=>?_) λh=>?_))
    · have h:i<(m.1.length:Int):=h
      have hx:=List.getElem?_eq_getElem (l:=m.1) (i:=i.toNat) (by omega)
      generalize m.1[i.toNat]'(by omega)=x at hx
      have g:=(hk x (fE hx)).1.1
      have hc:=List.getElem?_eq_getElem (l:=b) (i:=x.dI.toNat) (by omega)
      generalize b[x.dI.toNat]'(by omega)=c at hc
      have e:(i+1).toNat=i.toNat+1:=by omega
      rw [(drop_at hx).2] at h3
      rw [aHM,getD_at hc] at h3
      refine dD h0 hx (dD g.1 hc (dD h0 hx (aF (aI (λk=>bJ (bJ (aD ?_))) λk=>dD h0 hx (dD g.1 hc (aF (bE (cK ⟨⟨by simp only;omega,by simp only;omega,by simp only [List.length_set];exact h2,?_⟩,by simp only;omega⟩))))))))
      · rw [if_pos k] at h3
        show (gH,_)=vG gH m.1
        unfold vG;rw [h3];simp only;rw [(oI _ _).resolve_left k]
      · rw [if_neg k] at h3
        simp only [e];exact h3
    · have h:¬ i<(m.1.length:Int):=h
      refine bJ (cK ?_)
      show lW gH m.1=some b
      rw [h3,List.drop_eq_nil_of_le (by omega)];rfl
  · subst e;have hr:lW gH m.1=some a:=hr
    refine aD ?_
    unfold vG;rw [hr]
  · subst e;exact hr
theorem X7:∀ {m:List aN} {k:Int},lK m->(∀ y∈m,k<=y.dI/\y.dI<17)->k<=17->(m.length:Int)<=17-k
  | [],k,_,_,h=>by simp;omega
  | x :: r,k,h,hb,hk=>by
    have h':=List.pairwise_cons.1 h
    have hx:=hb x (List.mem_cons_self ..)
    have:=X7 (k:=x.dI+1) h'.2 (λy hy=>⟨by have:=h'.1 y hy;omega,(hb y (List.mem_cons_of_mem _ hy)).2⟩) (by omega)
    simp;omega
theorem WK {l:List aN} {m:List aN×Int} {n:Nat} (hn:66<n) (hl:l.length<=19) (hd:(l.map (·.dI)).Nodup) (e:vU n l=some m):(∀ x∈m.1,iP x/\x.bM≠0)/\m.1.length<=19/\(m.1.map (·.dI)).Nodup:=by
  have h:=aDU (IX hn hl hd) e
  by_cases k:∀ x∈l,iP x
  · obtain ⟨h1,h2,h3⟩:=h.1 k
    have hnd:(m.1.map (·.dI)).Nodup:=by
      unfold List.Nodup
      rw [List.pairwise_map]
      exact List.Pairwise.imp (λ{a b} q=>by omega) h2
    refine ⟨λx hx=>⟨k x ((h3 x).1 hx).1,((h3 x).1 hx).2⟩,?_,hnd⟩
    have:=X7 (k:=0) h2 (λy hy=>(k y ((h3 y).1 hy).1).1) (by decide)
    omega
  · rw [h.2 k];simp
theorem post_eq {s:aA} {n:Nat} (hn:66<n) (h:SS s) {e:Int} {l:List aN} (hl:l.length<=19) (hd:(l.map (·.dI)).Nodup):sW n s e l=kV n s e l:=by
  have hf:=h.toS0.iC
  have ep:=Y4 hn hl hd
  obtain ⟨m,em,_⟩:=IX hn hl hd
  have em2:rJ n l=some m:=by rw [<- ep];exact em
  obtain ⟨m1,m2,m3⟩:=WK hn hl hd em
  by_cases he:0<=e/\e<(s.bD.length:Int)
  rotate_left
  · have e1:sW n s e l=some (s,4):=by
      refine fH ?_
      unfold sW C5
      simp only [WT.run,bS]
      refine aU (λb=>b=true) (aF (aI (λ_=>aD rfl) λk=>aF (aD (decide_eq_true (by omega))))) λb hb=>by subst hb;exact dB (aD rfl)
    have e2:kV n s e l=some (s,4):=by
      refine fH ?_
      unfold kV zU
      simp only [WT.run,bS,qF,Option.bind_some]
      refine bE ?_
      rw [decide_eq_false (p:=0<=e/\e<=(s.bD.length:Int)-1) (by omega)]
      exact aF (dB (aD rfl))
    rw [e1,e2]
  have hx:=List.getElem?_eq_getElem (l:=s.bD) (i:=e.toNat) (by omega)
  generalize s.bD[e.toNat]'(by omega)=x at hx
  obtain ⟨bL,hm,_,_,hes⟩:=h.bL hx
  have hfew:=hes.iC hf.2.2
  obtain ⟨q,eq,_⟩:=IX (l:=m.1) hn m2 m3
  have eq2:rJ n m.1=some q:=by rw [<- Y4 hn m2 m3];exact eq
  obtain ⟨q1,q2,q3⟩:=WK hn m2 m3 eq
  have ga:=pGl hn hes.lb eq q1 q2
  have gb:=rGl hn hes.lb eq2 q1 q2
  have key:∃ v,sW n s e l=some v/\kV n s e l=some v:=by
    by_cases k:m.2≠0
    · refine ⟨(s,m.2),?_,?_⟩
      · refine fH ?_
        unfold sW C5
        simp only [WT.run,bS]
        refine aU (λb=>b=false) (aF (aI (λk=>absurd k (by omega)) λk=>aF (aD (decide_eq_false (by omega))))) λb hb=>?_
        subst hb;exact bW (x_eq em (aF (aI (λ_=>aD rfl) λz=>absurd k z)))
      · refine fH ?_
        unfold kV zU
        simp only [WT.run,bS,qF,Option.bind_some]
        refine bE ?_
        rw [decide_eq_true (p:=0<=e/\e<=(s.bD.length:Int)-1) (by omega)]
        exact aF (bW (x_eq em2 (aF (aI (λ_=>aD rfl) λz=>absurd k z))))
    · by_cases k2:(qQ x.dR q).2≠0
      · refine ⟨(s,(qQ x.dR q).2),?_,?_⟩
        · refine fH ?_
          unfold sW C5
          simp only [WT.run,bS]
          refine aU (λb=>b=false) (aF (aI (λk=>absurd k (by omega)) λk=>aF (aD (decide_eq_false (by omega))))) λb hb=>?_
          subst hb;exact bW (x_eq em (aF (aI (λz=>absurd z k) λ_=>dD he.1 hx (x_eq ga (aF (aI (λ_=>aD rfl) λz=>absurd k2 z))))))
        · refine fH ?_
          unfold kV zU
          simp only [WT.run,bS,qF,Option.bind_some]
          refine bE ?_
          rw [decide_eq_true (p:=0<=e/\e<=(s.bD.length:Int)-1) (by omega)]
          exact aF (bW (x_eq em2 (aF (aI (λz=>absurd z k) λ_=>dD he.1 hx (x_eq gb (aF (aI (λ_=>aD rfl) λz=>absurd k2 z)))))))
      · refine ⟨(lM s e.toNat { x with dR:=(qQ x.dR q).1 },0),?_,?_⟩
        · refine fH ?_
          unfold sW C5
          simp only [WT.run,bS]
          refine aU (λb=>b=false) (aF (aI (λk=>absurd k (by omega)) λk=>aF (aD (decide_eq_false (by omega))))) λb hb=>?_
          subst hb
          refine bW (x_eq em (aF (aI (λz=>absurd z k) λ_=>dD he.1 hx (x_eq ga (aF (aI (λz=>absurd z k2) λ_=>?_))))))
          exact aU (λ_=>True) (dM (dD he.1 hx (aD trivial))) λ_ _=>dD he.1 hx (aF (aD rfl))
        · refine fH ?_
          unfold kV zU
          simp only [WT.run,bS,qF,Option.bind_some]
          refine bE ?_
          rw [decide_eq_true (p:=0<=e/\e<=(s.bD.length:Int)-1) (by omega)]
          refine aF (bW (x_eq em2 (aF (aI (λz=>absurd z k) λ_=>dD he.1 hx (x_eq gb (aF (aI (λz=>absurd z k2) λ_=>?_)))))))
          refine aU (λr=>r=(x.fU,x.Closed,x.fV,x.bX,x.dR,x.dQ,x.gI,x.Down)) (dM (dD he.1 hx (dM (dM (dM (dM (dM (aD rfl)))))))) λr hr=>?_
          subst hr
          exact bF (bF (bF (bF (bF (bF (bF (dD he.1 hx (aD rfl))))))))
  obtain ⟨v,e1,e2⟩:=key
  rw [e1,e2]
theorem aWC {a b:cO} (k0:nH a.Open b.Open) (k1:nH a.iW b.iW) (k2:nH a.jH b.jH) (k3:nH a.jG b.jG) (k4:nH a.iY b.iY) (k5:nH a.jF b.jF) (k6:nH a.jE b.jE) (k7:nH a.iX b.iX) (k8:nH a.jC b.jC) (k9:nH a.jD b.jD) (k10:nH a.jB b.jB):TA a b:=λj hj =>
  match j,hj with
  | 0,_=>k0
  | 1,_=>k1
  | 2,_=>k2
  | 3,_=>k3
  | 4,_=>k4
  | 5,_=>k5
  | 6,_=>k6
  | 7,_=>k7
  | 8,_=>k8
  | 9,_=>k9
  | 10,_=>k10
theorem aNL {s:aA} {n:Nat} (h:SS s) {e i:Int} {x:aQ} {r0 r:cO} (ht:gY s e i) (hx:s.bD[e.toNat]?=some x) (hr0:x.dQ[i.toNat]?=some r0):yC s e i r=some (xL s e i x r0 r):=by
  have hf:=h.toS0.iC
  have ht2:=ht.1;have ht3:=ht.2
  obtain ⟨bL,hm,_,_,hes⟩:=h.bL hx
  have hl2:=hes.iC hf.2.2
  refine fH ?_
  unfold yC SV
  simp only [WT.run,bS,FY h.toS0 h.ln,TC,Option.bind_some]
  rw [decide_eq_true ht]
  refine aF (bW (dD ht2.1 hx (dD ht3.1 hr0 ?_)))
  refine aU (λ(q:cO⊕(aA×Int))=>match q with | .inl g=>TA r0 r/\g=qU r0 r | .inr q=>q=(s,2)/\¬ TA r0 r) ?_ λq hq=>iZ (λg e=>?_) λq e=>?_
  · refine x_eq (a:=r.Open) rfl (aF (aI (λk=>bJ (aD ⟨by rw [(oI _ _).resolve_left k],λq=>k (kQ.2 (q 0 (by decide)))⟩)) λk0=>?_))
    have k0:=kQ.1 (Classical.not_not.1 k0)
    refine x_eq (a:=r.iW) rfl (aF (aI (λk=>bJ (aD ⟨by rw [(oI _ _).resolve_left k],λq=>k (kQ.2 (q 1 (by decide)))⟩)) λk1=>?_))
    have k1:=kQ.1 (Classical.not_not.1 k1)
    refine x_eq (a:=r.jH) rfl (aF (aI (λk=>bJ (aD ⟨by rw [(oI _ _).resolve_left k],λq=>k (kQ.2 (q 2 (by decide)))⟩)) λk2=>?_))
    have k2:=kQ.1 (Classical.not_not.1 k2)
    refine x_eq (a:=r.jG) rfl (aF (aI (λk=>bJ (aD ⟨by rw [(oI _ _).resolve_left k],λq=>k (kQ.2 (q 3 (by decide)))⟩)) λk3=>?_))
    have k3:=kQ.1 (Classical.not_not.1 k3)
    refine x_eq (a:=r.iY) rfl (aF (aI (λk=>bJ (aD ⟨by rw [(oI _ _).resolve_left k],λq=>k (kQ.2 (q 4 (by decide)))⟩)) λk4=>?_))
    have k4:=kQ.1 (Classical.not_not.1 k4)
    refine x_eq (a:=r.jF) rfl (aF (aI (λk=>bJ (aD ⟨by rw [(oI _ _).resolve_left k],λq=>k (kQ.2 (q 5 (by decide)))⟩)) λk5=>?_))
    have k5:=kQ.1 (Classical.not_not.1 k5)
    refine x_eq (a:=r.jE) rfl (aF (aI (λk=>bJ (aD ⟨by rw [(oI _ _).resolve_left k],λq=>k (kQ.2 (q 6 (by decide)))⟩)) λk6=>?_))
    have k6:=kQ.1 (Classical.not_not.1 k6)
    refine x_eq (a:=r.iX) rfl (aF (aI (λk=>bJ (aD ⟨by rw [(oI _ _).resolve_left k],λq=>k (kQ.2 (q 7 (by decide)))⟩)) λk7=>?_))
    have k7:=kQ.1 (Classical.not_not.1 k7)
    refine x_eq (a:=r.jC) rfl (aF (aI (λk=>bJ (aD ⟨by rw [(oI _ _).resolve_left k],λq=>k (kQ.2 (q 8 (by decide)))⟩)) λk8=>?_))
    have k8:=kQ.1 (Classical.not_not.1 k8)
    refine x_eq (a:=r.jD) rfl (aF (aI (λk=>bJ (aD ⟨by rw [(oI _ _).resolve_left k],λq=>k (kQ.2 (q 9 (by decide)))⟩)) λk9=>?_))
    have k9:=kQ.1 (Classical.not_not.1 k9)
    refine x_eq (a:=r.jB) rfl (aF (aI (λk=>bJ (aD ⟨by rw [(oI _ _).resolve_left k],λq=>k (kQ.2 (q 10 (by decide)))⟩)) λk10=>?_))
    have k10:=kQ.1 (Classical.not_not.1 k10)
    exact cK ⟨aWC k0 k1 k2 k3 k4 k5 k6 k7 k8 k9 k10,by rw [pZ k0,pZ k1,pZ k2,pZ k3,pZ k4,pZ k5,pZ k6,pZ k7,pZ k8,pZ k9,pZ k10];rfl⟩
  · subst e
    have hq:TA r0 r/\g=qU r0 r:=hq
    obtain ⟨q1,rfl⟩:=hq
    refine aU (λ_=>True) (dM (dD ht2.1 hx (aD trivial))) λ_ _=>dD ht2.1 hx (dM (dD ht3.1 hr0 (aF (aD ?_))))
    unfold xL;rw [if_pos q1];rfl
  · subst e
    have hq:q=(s,2)/\¬ TA r0 r:=hq
    unfold xL;rw [if_neg hq.2];exact hq.1
theorem aOE {s:aA} {n:Nat} (hn:66<n) (h:SS s) {e i:Int} {r:cO}:yC s e i r=nE n s e i r:=by
  by_cases ht:gY s e i
  · obtain ⟨x,hx⟩:=ht.at
    obtain ⟨bL,hm,_,_,hes⟩:=h.bL hx
    have hlr:=hes.lr
    have ht3:=ht.2
    have hr:=List.getElem?_eq_getElem (l:=x.dQ) (i:=i.toNat) (by omega)
    rw [aNL (n:=n) h ht hx hr,aD9 hn h ht hx hr]
  · have e1:yC s e i r=some (s,4):=by
      refine fH ?_
      unfold yC SV
      simp only [WT.run,bS,FY h.toS0 h.ln,Option.bind_some]
      rw [decide_eq_false ht]
      exact aF (dB (aD rfl))
    have e2:nE n s e i r=some (s,4):=by
      refine fH ?_
      unfold nE IJ
      simp only [WT.run,bS,sD h.toS0,Option.bind_some]
      rw [decide_eq_false ht]
      exact aF (dB (aD rfl))
    rw [e1,e2]
theorem GX {p q:Prop} [Decidable p] [Decidable q]:(bnd (decide p) λx=>cond x (some true) (bnd (decide q) λy=>some y))=some (decide (p\/q)):=by
  by_cases h:p <;> by_cases k:q <;> simp [bnd,h,k]
theorem NU {β:Type} {p:Prop} {_:Decidable p} {a b r:Option β} (h:p) (k:a=r):cond (decide p) a b=r:=by rw [decide_eq_true h];exact k
theorem PT {β:Type} {p:Prop} {_:Decidable p} {a b r:Option β} (h:¬ p) (k:b=r):cond (decide p) a b=r:=by rw [decide_eq_false h];exact k
theorem aRX {α:Type} {D P:Option α} (h:Ex (λr=>D=some r) P):P=D:=by obtain ⟨r,e,k⟩:=h;rw [e,k]
theorem aYY {s:aA} {D E:Option (aA×Int)} (hE:∀ z,E=some z->D=some z) (r:Int×aA) (hr:(r.1≠0/\E=some (s,r.1))\/(r.1=0/\E=some (r.2,0))) :
    Ex (λz=>D=some z) (p2 (λ(e:Int) (t:aA)=>bnd (decide (e≠0)) λy=>cond y (some (s,e)) (some (t,0))) r):=by
  refine bF (aF (aI (λk=>aD (hE _ ?_)) λk=>aD (hE _ ?_)))
  · rcases hr with ⟨_,z⟩ | ⟨z,_⟩
    · exact z
    · exact absurd z k
  · rcases hr with ⟨z,_⟩ | ⟨_,z⟩
    · exact absurd z k
    · exact z
theorem a1U {s:aA} {e t i:Int} {n:Nat} (hn:66<n) {a b:Int} (ha:oC s e i=some a) (hb:oC s t i=some b) :
    iter (λ(y:Int)=>bnd (decide (y<2)) λx=>cond x ((ix [e,t] y).bind λx=>(oC s x i).bind λr=>bnd (decide (r≠0)) λz=>cond z (esc (esc (some (s,r)))) (bnd (bA (y+1)) λw=>brk w)) (esc (brk ()))) n 0=some (if a≠0 then (.inr (s,a):Unit⊕(aA×Int)) else if b≠0 then .inr (s,b) else .inl ()):=by
  obtain ⟨m,rfl⟩:∃ m,n=m+3:=⟨n-3,by omega⟩
  refine fH ?_
  show Ex _ (iter _ (m+2+1) _)
  by_cases k:a≠0
  · rw [if_pos k]
    refine aU (λr=>r=.inr (.inr (s,a))) ?_ λr hr=>by subst hr;exact yK rfl
    exact aF (aI (λ_=>dD (a:=e) (show (0:Int)<=0 by decide) rfl (x_eq ha (aF (aI (λ_=>bJ (bJ (aD rfl))) λz=>absurd k z)))) λz=>absurd (show (0:Int)<2 by decide) z)
  · rw [if_neg k]
    refine aU (λr=>r=.inl 1) ?_ λr hr=>?_
    · exact aF (aI (λ_=>dD (a:=e) (show (0:Int)<=0 by decide) rfl (x_eq ha (aF (aI (λz=>absurd z k) λ_=>gU (by decide) (cK rfl))))) λz=>absurd (show (0:Int)<2 by decide) z)
    · subst hr
      refine cZ ?_
      show Ex _ (iter _ (m+1+1) _)
      by_cases k2:b≠0
      · rw [if_pos k2]
        refine aU (λr=>r=.inr (.inr (s,b))) ?_ λr hr=>by subst hr;exact yK rfl
        exact aF (aI (λ_=>dD (a:=t) (show (0:Int)<=1 by decide) rfl (x_eq hb (aF (aI (λ_=>bJ (bJ (aD rfl))) λz=>absurd k2 z)))) λz=>absurd (show (1:Int)<2 by decide) z)
      · rw [if_neg k2]
        refine aU (λr=>r=.inl 2) ?_ λr hr=>?_
        · exact aF (aI (λ_=>dD (a:=t) (show (0:Int)<=1 by decide) rfl (x_eq hb (aF (aI (λz=>absurd z k2) λ_=>gU (by decide) (cK rfl))))) λz=>absurd (show (1:Int)<2 by decide) z)
        · subst hr
          refine cZ ?_
          show Ex _ (iter _ (m+1) _)
          refine aU (λr=>r=.inr (.inl ())) ?_ λr hr=>by subst hr;exact yK rfl
          exact aF (aI (λz=>absurd z (show ¬ (2:Int)<2 by decide)) λ_=>bJ (cK rfl))
theorem a2R {s:aA} {e:Int} {l:List aN} {n:Nat} (hn:66<n) {c:aA×Int} (h:sW n s e l=some c):aID n s [⟨e,l⟩]=some c:=by
  obtain ⟨m,rfl⟩:∃ m,n=m+3:=⟨n-3,by omega⟩
  refine fH ?_
  unfold aID aYR
  simp only [WT.run,bS]
  by_cases k:c.2≠0
  · refine aU (λ(r:aA⊕(aA×Int))=>r=.inr c) ?_ λr hr=>by subst hr;exact yK rfl
    show Ex _ (iter _ (m+2+1) _)
    refine aU (λr=>r=.inr (.inr c)) ?_ λr hr=>by subst hr;exact yK rfl
    exact bF (aF (aI (λ_=>dD (a:=⟨e,l⟩) (show (0:Int)<=0 by decide) rfl (x_eq h (aF (aI (λ_=>bJ (bJ (aD rfl))) λz=>absurd k z)))) λz=>absurd (show (0:Int)<1 by decide) z))
  · refine aU (λ(r:aA⊕(aA×Int))=>r=.inl c.1) ?_ λr hr=>by subst hr;exact cZ (aD (by have k:c.2=0:=Classical.not_not.1 k;rw [<- k]))
    show Ex _ (iter _ (m+2+1) _)
    refine aU (λr=>r=.inl (1,c.1)) ?_ λr hr=>?_
    · exact bF (aF (aI (λ_=>dD (a:=⟨e,l⟩) (show (0:Int)<=0 by decide) rfl (x_eq h (aF (aI (λz=>absurd z k) λ_=>gU (show (-9223372036854775808:Int)<=0+1/\(0+1:Int)<=9223372036854775807 by decide) (cK rfl))))) λz=>absurd (show (0:Int)<1 by decide) z))
    · subst hr
      refine cZ ?_
      show Ex _ (iter _ (m+1+1) _)
      refine aU (λr=>r=.inr (.inl c.1)) ?_ λr hr=>by subst hr;exact yK rfl
      exact bF (aF (aI (λz=>absurd z (show ¬ (1:Int)<1 by decide)) λ_=>bJ (cK rfl)))
theorem a1V {s:aA} {e e2:Int} {l l2:List aN} {n:Nat} (hn:66<n) {c:aA×Int} (h:sW n s e l=some c) (k:c.2≠0):aID n s [⟨e,l⟩,⟨e2,l2⟩]=some c:=by
  obtain ⟨m,rfl⟩:∃ m,n=m+3:=⟨n-3,by omega⟩
  refine fH ?_
  unfold aID aYR
  simp only [WT.run,bS]
  refine aU (λ(r:aA⊕(aA×Int))=>r=.inr c) ?_ λr hr=>by subst hr;exact yK rfl
  show Ex _ (iter _ (m+2+1) _)
  refine aU (λr=>r=.inr (.inr c)) ?_ λr hr=>by subst hr;exact yK rfl
  exact bF (aF (aI (λ_=>dD (a:=⟨e,l⟩) (show (0:Int)<=0 by decide) rfl (x_eq h (aF (aI (λ_=>bJ (bJ (aD rfl))) λz=>absurd k z)))) λz=>absurd (show (0:Int)<2 by decide) z))
theorem a1S {s:aA} {e e2:Int} {l l2:List aN} {n:Nat} (hn:66<n) {c d:aA×Int} (h:sW n s e l=some c) (k:¬ c.2≠0) (h2:sW n c.1 e2 l2=some d):aID n s [⟨e,l⟩,⟨e2,l2⟩]=some d:=by
  obtain ⟨m,rfl⟩:∃ m,n=m+4:=⟨n-4,by omega⟩
  refine fH ?_
  unfold aID aYR
  simp only [WT.run,bS]
  refine aU (λ(r:aA⊕(aA×Int))=>r=if d.2≠0 then .inr d else .inl d.1) ?_ λr hr=>?_
  rotate_left
  · subst hr
    by_cases k2:d.2≠0
    · rw [if_pos k2];exact yK rfl
    · rw [if_neg k2];exact cZ (aD (by have k:d.2=0:=Classical.not_not.1 k2;rw [<- k]))
  show Ex _ (iter _ (m+3+1) _)
  refine aU (λr=>r=.inl (1,c.1)) ?_ λr hr=>?_
  · exact bF (aF (aI (λ_=>dD (a:=⟨e,l⟩) (show (0:Int)<=0 by decide) rfl (x_eq h (aF (aI (λz=>absurd z k) λ_=>gU (show (-9223372036854775808:Int)<=0+1/\(0+1:Int)<=9223372036854775807 by decide) (cK rfl))))) λz=>absurd (show (0:Int)<2 by decide) z))
  subst hr
  refine cZ ?_
  show Ex _ (iter _ (m+2+1) _)
  by_cases k2:d.2≠0
  · rw [if_pos k2]
    refine aU (λr=>r=.inr (.inr d)) ?_ λr hr=>by subst hr;exact yK rfl
    exact bF (aF (aI (λ_=>dD (a:=⟨e2,l2⟩) (show (0:Int)<=1 by decide) rfl (x_eq h2 (aF (aI (λ_=>bJ (bJ (aD rfl))) λz=>absurd k2 z)))) λz=>absurd (show (1:Int)<2 by decide) z))
  · rw [if_neg k2]
    refine aU (λr=>r=.inl (2,d.1)) ?_ λr hr=>?_
    · exact bF (aF (aI (λ_=>dD (a:=⟨e2,l2⟩) (show (0:Int)<=1 by decide) rfl (x_eq h2 (aF (aI (λz=>absurd z k2) λ_=>gU (show (-9223372036854775808:Int)<=1+1/\(1+1:Int)<=9223372036854775807 by decide) (cK rfl))))) λz=>absurd (show (1:Int)<2 by decide) z))
    · subst hr
      refine cZ ?_
      show Ex _ (iter _ (m+1+1) _)
      refine aU (λr=>r=.inr (.inl d.1)) ?_ λr hr=>by subst hr;exact yK rfl
      exact bF (aF (aI (λz=>absurd z (show ¬ (2:Int)<2 by decide)) λ_=>bJ (cK rfl)))
theorem a0G (a v:Int):aDB a v=some ⟨a,v⟩:=rfl
theorem a2B {K:Int} {s:aA} {o:bK} {n:Nat} (hn:66<n) (h:Inv K s) (hq:0<=o.aG/\o.aG<=288230376151711744) (ha:0<=o.bM/\o.bM<=288230376151711744):aX2 n s o=KL n s o:=by
  have hl3:=h.l3
  have hD:KL n s o=KL n s o:=rfl
  conv at hD=>rhs;unfold KL X6;simp only [WT.run,bS]
  refine aRX ?_
  unfold aX2 aZP
  simp only [WT.run,bS]
  by_cases kd:o.Kind=12
  · replace hD:=hD.trans (fQ kd (fK rfl))
    have hE:GH n s o=GH n s o:=rfl
    conv at hE=>rhs;unfold GH ZO;simp only [WT.run,bS,zY,Option.bind_some]
    refine aU _ (aF (aI (λ_=>?_) λk=>absurd kd k)) (aYY (E:=GH n s o) λz hz=>hD.trans (dK hz rfl))
    refine aU (λ(r:aA×Int)=>(r.2≠0/\GH n s o=some (s,r.2))\/(r.2=0/\GH n s o=some (r.1,0))) ?_ λr hr=>aD hr
    unfold aY9 a0R
    simp only [WT.run,bS,a0G,GX,Option.bind_some,aVY h.ss.toS0 h.ss.ln]
    obtain ⟨a,ea,hr1⟩:=rE h o.E o.Item
    obtain ⟨b,eb,hr2⟩:=rE h o.To o.Item
    refine x_eq (a1U hn ea eb) ?_
    replace hE:=hE.trans (dK ea rfl)
    by_cases k1:a≠0
    · rw [if_pos k1];exact yK (.inl ⟨k1,hE.trans (fQ k1 (fK rfl))⟩)
    rw [if_neg k1]
    replace hE:=hE.trans (eU k1 (dF (dK eb rfl)))
    by_cases k2:b≠0
    · rw [if_pos k2];exact yK (.inl ⟨k2,hE.trans (fQ k2 (fK rfl))⟩)
    rw [if_neg k2]
    replace hE:=hE.trans (eU k2 (dF rfl))
    obtain ⟨ht,x,bL,hx,hm,ho⟩:=hr1 (by omega)
    have o0:=On.start hx hm ho
    refine cZ (aF (aI (λk=>aD (.inl ⟨show (6:Int)≠0 by decide,hE.trans (fQ k (fK rfl))⟩)) λk4=>?_))
    replace hE:=hE.trans (eU k4 (dF rfl))
    obtain ⟨b,eb,hb⟩:=xQ (n:=n) (e:=o.E) (i:=o.Item) (c:=o.Loc) (k:=3) (q:=o.aG) hn h.ss (by omega)
    refine x_eq ((aWJ hn h.ss (by omega)).trans eb) ?_
    replace hE:=hE.trans (dK eb rfl)
    refine aF (aI (λk=>aD (.inl ⟨k,hE.trans (fQ k (fK rfl))⟩)) λk5=>?_)
    rcases hb with ⟨_,hb⟩ | ⟨q,_⟩
    rotate_left
    · exact absurd q k5
    obtain ⟨f1,f2,f3,f4,f5,f6⟩:=hb.facts
    obtain ⟨x1,o1,p1,p2,p3⟩:=o0.wW hb
    refine bE (bE (bE ?_))
    replace hE:=hE.trans (eU k5 (dF (iE (by omega) (iE (by omega) rfl))))
    have s1:=o1.ss h.ss
    obtain ⟨c,ec,hc⟩:=nY (n:=n) (e:=o.E) (l:=[⟨13,o.bM⟩,⟨15,0-o.bM⟩,⟨16,b.2.1.Value⟩,⟨0,0-b.2.1.Value⟩]) hn s1 (by simp)
    have ec':=(post_eq (e:=o.E) (l:=[⟨13,o.bM⟩,⟨15,0-o.bM⟩,⟨16,b.2.1.Value⟩,⟨0,0-b.2.1.Value⟩]) hn s1 (by simp) (by simp)).trans ec
    replace hE:=hE.trans (dK ec rfl)
    by_cases k6:c.2≠0
    · exact x_eq (a1V hn ec' k6) (aF (aI (λk=>aD (.inl ⟨k,hE.trans (fQ k (fK rfl))⟩)) λk=>absurd k6 k))
    rcases hc with ⟨_,hc⟩ | ⟨q,_⟩
    rotate_left
    · exact absurd q k6
    obtain ⟨x2,o2,q1,q2,q3⟩:=o1.oV hc (by simp [gB,fZ])
    have s2:=o2.ss h.ss
    obtain ⟨c2,ec2,hc2⟩:=nY (n:=n) (e:=o.To) (l:=[⟨12,o.bM⟩,⟨14,0-o.bM⟩]) hn s2 (by simp)
    refine x_eq (a1S hn ec' k6 ((post_eq hn s2 (by simp) (by simp)).trans ec2)) ?_
    replace hE:=hE.trans (eU k6 (dF (iE (by omega) (dK ec2 rfl))))
    refine aF (aI (λk=>aD (.inl ⟨k,hE.trans (fQ k (fK rfl))⟩)) λk7=>?_)
    replace hE:=hE.trans (eU k7 (dF rfl))
    rcases hc2 with ⟨_,hc2⟩ | ⟨q,_⟩
    rotate_left
    · exact absurd q k7
    have s3:=hc2.ss s2
    obtain ⟨t,et,ht2⟩:=sU (n:=n) (e:=o.E) (i:=o.Item) (r:=⟨0,0,0,0,0,0,b.2.1.Value,0,0,0,0⟩) hn s3
    refine x_eq ((aOE hn s3).trans et) ?_
    replace hE:=hE.trans (dK et rfl)
    refine aF (aI (λk=>aD (.inl ⟨k,hE.trans (fQ k (fK rfl))⟩)) λk8=>?_)
    rcases ht2 with ⟨_,ht2⟩ | ⟨q,_⟩
    rotate_left
    · exact absurd q k8
    replace hE:=hE.trans (eU k8 (dF (iE (by omega) (iE (by omega) rfl))))
    obtain ⟨y0,by',he2,hy0,hpy,e3⟩:=hc2
    obtain ⟨x0,r0,ht3,hx0,hr0,hrr,e4⟩:=ht2
    have lg:t.1.dL=s.dL:=by rw [e4,e3,o2.eq];rfl
    have lg2:t.1.dL.length=s.dL.length:=by rw [lg]
    refine bE (bE (aI (λk=>aD (.inl ⟨show (2:Int)≠0 by decide,?_⟩)) λk=>?_))
    · have kp:decide (bQ (o.bM-b.2.1.Value+b.2.1.bO))=false:=decide_eq_false (by unfold bQ;omega)
      rw [kp] at hE
      exact hE
    · have kp:decide (bQ (o.bM-b.2.1.Value+b.2.1.bO))=true:=decide_eq_true (by unfold bQ;omega)
      rw [kp] at hE
      exact dM (aF (dM (aD (.inr ⟨rfl,hE.trans (iA (dF (qB (by omega) (iA (qB (by simp;omega) rfl)))))⟩))))
  by_cases kd3:o.Kind=13
  rotate_left
  · exact aU _ (aF (aI (λk=>absurd k kd) λ_=>aF (aI (λk=>absurd k kd3) λ_=>aD (.inl ⟨show (1:Int)≠0 by decide,hD.trans (eU kd (dF (eU kd3 (dF rfl))))⟩)))) (aYY (E:=KL n s o) λz hz=>hz)
  replace hD:=hD.trans (eU kd (dF (fQ kd3 (fK rfl))))
  have hE:KB n s o=KB n s o:=rfl
  conv at hE=>rhs;unfold KB XC;simp only [WT.run,bS,GX,Option.bind_some]
  refine aU _ (aF (aI (λk=>absurd k kd) λ_=>aF (aI (λ_=>?_) λk=>absurd kd3 k))) (aYY (E:=KB n s o) λz hz=>hD.trans (dK hz rfl))
  refine aU (λ(r:aA×Int)=>(r.2≠0/\KB n s o=some (s,r.2))\/(r.2=0/\KB n s o=some (r.1,0))) ?_ λr hr=>aD hr
  unfold aYZ aZM
  simp only [WT.run,bS,a0G,GX,Option.bind_some,aVY h.ss.toS0 h.ss.ln]
  refine aI (λk=>aD (.inl ⟨show (4:Int)≠0 by decide,hE.trans (NU k rfl)⟩)) λk1=>?_
  replace hE:=hE.trans (PT k1 rfl)
  have h0:0<=o.Ref:=by omega
  refine eT h0 (by omega) λz hz=>?_
  have hz:s.dL[o.Ref.toNat]?=some z:=hz
  replace hE:=hE.trans (iV h0 hz rfl)
  obtain ⟨z1,z2,z3,z4,z5,z6⟩:=h.nP z (fE hz)
  obtain ⟨a,ea,hr⟩:=rE h z.To z.Item
  refine x_eq ea ?_
  replace hE:=hE.trans (dK ea rfl)
  refine aF (aI (λk=>aD (.inl ⟨k,hE.trans (fQ k (fK rfl))⟩)) λk3=>?_)
  replace hE:=hE.trans (eU k3 (dF rfl))
  obtain ⟨ht,x,bL,hx,hm,ho⟩:=hr (by omega)
  have o0:=On.start hx hm ho
  refine aF (aI (λk=>aD (.inl ⟨show (5:Int)≠0 by decide,hE.trans (fQ k (fK rfl))⟩)) λk4=>?_)
  have hpc:=xB (w:=o.aG) (q:=z.aG) z5
  have hpp:=ZF (w:=o.aG) (q:=z.aG) z6
  unfold bQ at hpp z6
  refine x_eq (FV hn (by omega) (by omega)) (x_eq (FV hn (by omega) (by omega)) ?_)
  replace hE:=hE.trans (eU k4 (dF (dK (oJ hn (by omega) (by omega)) (dK (oJ hn (by omega) (by omega)) rfl))))
  obtain ⟨b,eb,hb⟩:=DJ (n:=n) (s:=s) (e:=z.To) (i:=z.Item) (c:=o.Loc) (l:=⟨o.aG,pt z.Value o.aG z.aG,pt z.bO o.aG z.aG⟩) hn h.ss (by simp only;omega)
  refine x_eq ((a0N hn h.ss (by simp only;omega)).trans eb) ?_
  replace hE:=hE.trans (dK eb rfl)
  refine aF (aI (λk=>aD (.inl ⟨k,hE.trans (fQ k (fK rfl))⟩)) λk5=>?_)
  rcases hb with ⟨_,hb⟩ | ⟨q,_⟩
  rotate_left
  · exact absurd q k5
  obtain ⟨f1,f2,f3,f4,f5,f6,f7⟩:=hb.facts
  obtain ⟨x1,o1,p1,p2,p3⟩:=o0.brought hb
  have s1:=o1.ss h.ss
  obtain ⟨c,ec,hc⟩:=nY (n:=n) (e:=z.To) (l:=[⟨0,b.2.1⟩,⟨6,b.2.2.1⟩,⟨12,0-pt z.Value o.aG z.aG⟩]) hn s1 (by simp)
  refine bE (x_eq (a2R hn ((post_eq hn s1 (by simp) (by simp)).trans ec)) ?_)
  replace hE:=hE.trans (eU k5 (dF (iE (by omega) (dK ec rfl))))
  refine aF (aI (λk=>aD (.inl ⟨k,hE.trans (fQ k (fK rfl))⟩)) λk6=>?_)
  replace hE:=hE.trans (eU k6 (dF rfl))
  rcases hc with ⟨_,hc⟩ | ⟨q,_⟩
  rotate_left
  · exact absurd q k6
  obtain ⟨x2,o2,q1,q2,q3⟩:=o1.oV hc (by simp [gB,fZ])
  have s2:=o2.ss h.ss
  obtain ⟨t,et,ht2⟩:=sU (n:=n) (e:=z.To) (i:=z.Item) (r:=⟨0,0,0,b.2.1,0,0,0,0,0,0,0⟩) hn s2
  refine x_eq ((aOE hn s2).trans et) ?_
  replace hE:=hE.trans (dK et rfl)
  refine aF (aI (λk=>aD (.inl ⟨k,hE.trans (fQ k (fK rfl))⟩)) λk7=>?_)
  replace hE:=hE.trans (eU k7 (dF rfl))
  rcases ht2 with ⟨_,ht2⟩ | ⟨q,_⟩
  rotate_left
  · exact absurd q k7
  obtain ⟨x3,o3,r1,r2⟩:=o2.uP ht2
  obtain ⟨g1,g2,g3,g4,g5⟩:=o3.rc
  have hzt:t.1.dL[o.Ref.toNat]?=some z:=by rw [g3];exact hz
  have hlt:t.1.dL.length<=40:=by rw [g3];exact hl3
  refine dM (bE (bE (bE (dD h0 hzt (aF (aF (aF (aD (.inr ⟨rfl,?_⟩)))))))))
  exact hE.trans (qB (by omega) (iE (by omega) (iE (by omega) (iE (by omega) (iV h0 hzt (iA (iA (iA rfl))))))))
end Go.Pv
