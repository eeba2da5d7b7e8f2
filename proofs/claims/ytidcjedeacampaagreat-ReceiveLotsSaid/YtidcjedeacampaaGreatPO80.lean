import Derived.Test.YtidcjedeacampaaGreatPJ80
set_option linter.unusedVariables false
set_option linter.unusedSimpArgs false
namespace Go.Pv
open Go.Proofs
set_option maxRecDepth 1000000
set_option maxHeartbeats 1000000
theorem aT9 {b:List Int} {x:aN} {r:List aN}:oU b (x :: r)=if (jS (b.getD x.dL.toNat 0) x.bM).2≠0 then none else oU (b.set x.dL.toNat (jS (b.getD x.dL.toNat 0) x.bM).1) r:=rfl
def C6 (m:List aN×Int):Prop:=m.2≠0\/(0<m.1.length/\¬ CO m.1)
noncomputable def sI (gW:List Int) (m:List aN×Int):List Int×Int:=open Classical in if C6 m then (gW,10) else xD gW m.1
theorem Y6 {gW:List Int} {m:List aN×Int} (h:C6 m):sI gW m=(gW,10):=if_pos h
theorem Q8 {gW:List Int} {m:List aN×Int} (h:¬ C6 m):sI gW m=xD gW m.1:=if_neg h
theorem YL {m:List aN×Int} {D:Option Bool} (hD:(∀ x∈m.1,iW x/\x.bM≠0)->Ex (λr=>r=true↔CO m.1) D) (hk:∀ x∈m.1,iW x/\x.bM≠0) :
    Ex (λb=>b=true↔C6 m) (bnd (decide (m.2≠0)) λx=>cond x (some true) (bnd (decide ((m.1.length:Int)>0)) λy=>cond y (D.bind λz=>bnd (!z) λw=>some w) (some false))):=by
  refine aD (aQ (λk=>aG ⟨λ_=>.inl k,λ_=>rfl⟩) λk=>aD (aQ (λk2=>aW _ (hD hk) λz hz=>aD (aG ?_)) λk2=>aG ⟨(λq=>nomatch q),λq=>?_⟩))
  · cases z with
    | true=>exact ⟨(λq=>nomatch q),λq=>by rcases q with q | q;exact absurd q k;exact absurd (hz.1 rfl) q.2⟩
    | false=>exact ⟨λ_=>.inr ⟨by omega,λq=>nomatch hz.2 q⟩,λ_=>rfl⟩
  · rcases q with q | q
    · exact absurd q k
    · omega
theorem pGl {gW:List Int} {l:List aN} {m:List aN×Int} {n:Nat} (hn:66<n) (hb:gW.length=17) (e:xV n l=some m) (hk:∀ x∈m.1,iW x/\x.bM≠0) (hl:m.1.length<=19):FC n gW l=some (sI gW m):=by
  refine gF ?_
  unfold FC
  refine aD (aQ (λk=>?_) λ_=>?_)
  · exfalso;omega
  refine aW (λ(r:List Int⊕Int)=>match r with | .inl b=>(b,(0:Int))=sI gW m | .inr e=>(gW,e)=sI gW m) (dO (aW (λ(r:Int×List Int)=>(r.1=0/\r.2.length=17/\(r.2,(0:Int))=sI gW m)\/(r.1≠0/\(gW,r.1)=sI gW m))
    (x_eq e (aW _ (YL (λhk=>aP6 hn (by omega) hk) hk) λb hb2=>fJ (λk=>aG (.inr ⟨by show (10:Int)≠0;decide,(Y6 (hb2.1 k)).symm⟩)) λk=>?_)) λr hr=>bK (aD (aQ (λk=>dO (aG ?_)) λk=>?_)))) λr hr=>?_
  · have hnb:¬ C6 m:=λq=>by rw [hb2.2 q] at k;cases k
    refine aW _ (aFU (gW:=gW) (λx hx=>(hk x hx).1) (Int.le_refl 0) (by omega) (by simp;omega) (by omega) hb) λr hr=>jQ (λa e=>?_) λq e=>?_
    · subst e
      have hr:oU gW m.1=some a:=hr
      refine aG (.inl ⟨rfl,by rw [aAP hr];exact hb,?_⟩)
      rw [Q8 hnb];unfold xD;rw [hr]
    · subst e
      have hr:q.1=2/\oU gW m.1=none:=hr
      have e2:q.1=2:=hr.1
      refine .inr ⟨by rw [e2];decide,?_⟩
      rw [Q8 hnb,e2];unfold xD;rw [hr.2]
  · rcases hr with ⟨h1,_⟩ | ⟨_,h2⟩
    · exact absurd h1 k
    · exact h2
  · rcases hr with ⟨h1,h2,h3⟩ | ⟨h1,_⟩
    · exact dO (aG h3)
    · exact absurd h1 k
  · cases r with
    | inl b=>exact aG hr
    | inr e=>exact aG hr
theorem rGl {gW:List Int} {l:List aN} {m:List aN×Int} {n:Nat} (hn:66<n) (hb:gW.length=17) (e:tK n l=some m) (hk:∀ x∈m.1,iW x/\x.bM≠0) (hl:m.1.length<=19):AZ n gW l=some (sI gW m):=by
  refine gF ?_
  unfold AZ RP
  simp only [WT.run,bT,wH,Option.bind_some]
  refine aD (aQ (λk=>?_) λ_=>?_)
  · exfalso;omega
  refine dO (x_eq e (aW _ (YL (λhk=>aP1 hn (by omega) hk) hk) λb hb2=>fJ (λk=>aG (Y6 (hb2.1 k)).symm) λk=>dO ?_))
  have hnb:¬ C6 m:=λq=>by rw [hb2.2 q] at k;cases k
  rw [Q8 hnb]
  refine aW (λ(r:List Int⊕(List Int×Int))=>match r with | .inl b'=>oU gW m.1=some b' | .inr q=>q=xD gW m.1)
    (gB (λ(v:Int×List Int)=>0<=v.1/\v.1<=(m.1.length:Int)/\v.2.length=17/\oU gW m.1=oU v.2 (m.1.drop v.1.toNat)) (λv=>m.1.length-v.1.toNat) ?_ (v:=(0,gW)) ⟨by simp,by simp,hb,rfl⟩ (by simp;omega)) λr hr=>jQ (λa e=>?_) λq e=>?_
  · rintro ⟨i,b⟩ ⟨h0,h1,h2,h3⟩
    simp only at h0 h1 h2 h3
    refine bK (aD (aQ (λh=>?_) λh=>?_))
    · have h:i<(m.1.length:Int):=h
      have hx:=List.getElem?_eq_getElem (l:=m.1) (i:=i.toNat) (by omega)
      generalize m.1[i.toNat]'(by omega)=x at hx
      have g:=(hk x (fO hx)).1.1
      have hc:=List.getElem?_eq_getElem (l:=b) (i:=x.dL.toNat) (by omega)
      generalize b[x.dL.toNat]'(by omega)=c at hc
      have e:(i+1).toNat=i.toNat+1:=by omega
      rw [(drop_at hx).2] at h3
      rw [aT9,getD_at hc] at h3
      refine dB h0 hx (dB g.1 hc (dB h0 hx (aD (aQ (λk=>bL (bL (aG ?_))) λk=>dB h0 hx (dB g.1 hc (aD (bG (dD ⟨⟨by simp only;omega,by simp only;omega,by simp only [List.length_set];exact h2,?_⟩,by simp only;omega⟩))))))))
      · rw [if_pos k] at h3
        show (gW,_)=xD gW m.1
        unfold xD;rw [h3];simp only;rw [(pW _ _).resolve_left k]
      · rw [if_neg k] at h3
        simp only [e];exact h3
    · have h:¬ i<(m.1.length:Int):=h
      refine bL (dD ?_)
      show oU gW m.1=some b
      rw [h3,List.drop_eq_nil_of_le (by omega)];rfl
  · subst e;have hr:oU gW m.1=some a:=hr
    refine aG ?_
    unfold xD;rw [hr]
  · subst e;exact hr
theorem XB:∀ {m:List aN} {k:Int},mR m->(∀ y∈m,k<=y.dL/\y.dL<17)->k<=17->(m.length:Int)<=17-k
  | [],k,_,_,h=>by simp;omega
  | x :: r,k,h,hb,hk=>by
    have h':=List.pairwise_cons.1 h
    have hx:=hb x (List.mem_cons_self ..)
    have:=XB (k:=x.dL+1) h'.2 (λy hy=>⟨by have:=h'.1 y hy;omega,(hb y (List.mem_cons_of_mem _ hy)).2⟩) (by omega)
    simp;omega
theorem VX {l:List aN} {m:List aN×Int} {n:Nat} (hn:66<n) (hl:l.length<=19) (hd:(l.map (·.dL)).Nodup) (e:xV n l=some m):(∀ x∈m.1,iW x/\x.bM≠0)/\m.1.length<=19/\(m.1.map (·.dL)).Nodup:=by
  have h:=IE (IU hn hl hd) e
  by_cases k:∀ x∈l,iW x
  · obtain ⟨h1,h2,h3⟩:=h.1 k
    have hnd:(m.1.map (·.dL)).Nodup:=by
      unfold List.Nodup
      rw [List.pairwise_map]
      exact List.Pairwise.imp (λ{a b} q=>by omega) h2
    refine ⟨λx hx=>⟨k x ((h3 x).1 hx).1,((h3 x).1 hx).2⟩,?_,hnd⟩
    have:=XB (k:=0) h2 (λy hy=>(k y ((h3 y).1 hy).1).1) (by decide)
    omega
  · rw [h.2 k];simp
theorem post_eq {s:aB} {n:Nat} (hn:66<n) (h:SS s) {e:Int} {l:List aN} (hl:l.length<=19) (hd:(l.map (·.dL)).Nodup):uU n s e l=lS n s e l:=by
  have hf:=h.toS0.iK
  have ep:=YB hn hl hd
  obtain ⟨m,em,_⟩:=IU hn hl hd
  have em2:tK n l=some m:=by rw [<- ep];exact em
  obtain ⟨m1,m2,m3⟩:=VX hn hl hd em
  by_cases he:0<=e/\e<(s.bA.length:Int)
  rotate_left
  · have e1:uU n s e l=some (s,4):=by
      refine gF ?_
      unfold uU E8
      simp only [WT.run,bT]
      refine aW (λb=>b=true) (aD (aQ (λ_=>aG rfl) λk=>aD (aG (decide_eq_true (by omega))))) λb hb=>by subst hb;exact dF (aG rfl)
    have e2:lS n s e l=some (s,4):=by
      refine gF ?_
      unfold lS CJ
      simp only [WT.run,bT,qX,Option.bind_some]
      refine bG ?_
      rw [decide_eq_false (p:=0<=e/\e<=(s.bA.length:Int)-1) (by omega)]
      exact aD (dF (aG rfl))
    rw [e1,e2]
  have hx:=List.getElem?_eq_getElem (l:=s.bA) (i:=e.toNat) (by omega)
  generalize s.bA[e.toNat]'(by omega)=x at hx
  obtain ⟨bH,hm,_,_,hes⟩:=h.bH hx
  have hfew:=hes.iK hf.2.2
  obtain ⟨q,eq,_⟩:=IU (l:=m.1) hn m2 m3
  have eq2:tK n m.1=some q:=by rw [<- YB hn m2 m3];exact eq
  obtain ⟨q1,q2,q3⟩:=VX hn m2 m3 eq
  have ga:=pGl hn hes.lb eq q1 q2
  have gb:=rGl hn hes.lb eq2 q1 q2
  have key:∃ v,uU n s e l=some v/\lS n s e l=some v:=by
    by_cases k:m.2≠0
    · refine ⟨(s,m.2),?_,?_⟩
      · refine gF ?_
        unfold uU E8
        simp only [WT.run,bT]
        refine aW (λb=>b=false) (aD (aQ (λk=>absurd k (by omega)) λk=>aD (aG (decide_eq_false (by omega))))) λb hb=>?_
        subst hb;exact bU (x_eq em (aD (aQ (λ_=>aG rfl) λz=>absurd k z)))
      · refine gF ?_
        unfold lS CJ
        simp only [WT.run,bT,qX,Option.bind_some]
        refine bG ?_
        rw [decide_eq_true (p:=0<=e/\e<=(s.bA.length:Int)-1) (by omega)]
        exact aD (bU (x_eq em2 (aD (aQ (λ_=>aG rfl) λz=>absurd k z))))
    · by_cases k2:(sI x.dI q).2≠0
      · refine ⟨(s,(sI x.dI q).2),?_,?_⟩
        · refine gF ?_
          unfold uU E8
          simp only [WT.run,bT]
          refine aW (λb=>b=false) (aD (aQ (λk=>absurd k (by omega)) λk=>aD (aG (decide_eq_false (by omega))))) λb hb=>?_
          subst hb;exact bU (x_eq em (aD (aQ (λz=>absurd z k) λ_=>dB he.1 hx (x_eq ga (aD (aQ (λ_=>aG rfl) λz=>absurd k2 z))))))
        · refine gF ?_
          unfold lS CJ
          simp only [WT.run,bT,qX,Option.bind_some]
          refine bG ?_
          rw [decide_eq_true (p:=0<=e/\e<=(s.bA.length:Int)-1) (by omega)]
          exact aD (bU (x_eq em2 (aD (aQ (λz=>absurd z k) λ_=>dB he.1 hx (x_eq gb (aD (aQ (λ_=>aG rfl) λz=>absurd k2 z)))))))
      · refine ⟨(mO s e.toNat { x with dI:=(sI x.dI q).1 },0),?_,?_⟩
        · refine gF ?_
          unfold uU E8
          simp only [WT.run,bT]
          refine aW (λb=>b=false) (aD (aQ (λk=>absurd k (by omega)) λk=>aD (aG (decide_eq_false (by omega))))) λb hb=>?_
          subst hb
          refine bU (x_eq em (aD (aQ (λz=>absurd z k) λ_=>dB he.1 hx (x_eq ga (aD (aQ (λz=>absurd z k2) λ_=>?_))))))
          exact aW (λ_=>True) (dO (dB he.1 hx (aG trivial))) λ_ _=>dB he.1 hx (aD (aG rfl))
        · refine gF ?_
          unfold lS CJ
          simp only [WT.run,bT,qX,Option.bind_some]
          refine bG ?_
          rw [decide_eq_true (p:=0<=e/\e<=(s.bA.length:Int)-1) (by omega)]
          refine aD (bU (x_eq em2 (aD (aQ (λz=>absurd z k) λ_=>dB he.1 hx (x_eq gb (aD (aQ (λz=>absurd z k2) λ_=>?_)))))))
          refine aW (λr=>r=(x.fQ,x.Closed,x.fZ,x.bR,x.dI,x.dJ,x.gJ,x.Down)) (dO (dB he.1 hx (dO (dO (dO (dO (dO (aG rfl)))))))) λr hr=>?_
          subst hr
          exact bK (bK (bK (bK (bK (bK (bK (dB he.1 hx (aG rfl))))))))
  obtain ⟨v,e1,e2⟩:=key
  rw [e1,e2]
def pP (a b:Int):Prop:=bN a/\bN b/\bN (a+b)
theorem lQ {a b:Int}:(jS a b).2=0↔pP a b:=by
  by_cases h:bN a/\bN b/\bN (a+b)
  · rw [pZ h];exact ⟨λ_=>h,λ_=>rfl⟩
  · rw [wC h];exact ⟨λq=>absurd q (by decide),λq=>absurd q h⟩
theorem rY {a b:Int} (h:pP a b):(jS a b).1=a+b:=by rw [pZ h]
def TA (a b:cB):Prop:=pP a.Open b.Open/\pP a.jH b.jH/\pP a.jL b.jL/\pP a.jJ b.jJ/\pP a.jK b.jK/\pP a.jG b.jG/\pP a.jN b.jN/\pP a.jE b.jE/\pP a.jF b.jF/\pP a.jM b.jM/\pP a.jI b.jI
theorem aDC {s:aB} {e i:Int} {r:cB} {b:iX}:∀ (m:Nat) {n k:Nat} {l:List Int},k+m=11->m<n->l.length=11 ->
    Ex (λq=>match q with
      | .inl (_:List Int)=>∀ j:Nat,j<11->k<=j->pP (l.getD j 0) ([b.a0,b.a1,b.a2,b.a3,b.a4,b.a5,b.a6,b.a7,b.a8,b.a9,b.jU].getD j 0)
      | .inr (q:aB×Int)=>q=(s,2)/\∃ j:Nat,j<11/\k<=j/\¬ pP (l.getD j 0) ([b.a0,b.a1,b.a2,b.a3,b.a4,b.a5,b.a6,b.a7,b.a8,b.a9,b.jU].getD j 0)) (uI s e i r b n (k:Int) l)
  | m,0,k,l,_,hn,_=>absurd hn (Nat.not_lt_zero _)
  | 0,n+1,k,l,hk,hn,hl=>by
    unfold uI
    exact aD (aQ (λh=>absurd h (by omega)) λ_=>dD λj hj hk2=>by omega)
  | m+1,n+1,k,l,hk,hn,hl=>by
    unfold uI
    simp only [wH,Option.bind_some]
    refine aD (aQ (λh=>?_) λh=>absurd (show (k:Int)<11 by omega) h)
    refine dO (eZ (by omega) (by omega) λa ha=>dO (eZ (by omega) (by simp;omega) λc hc=>?_))
    have ha:l[k]?=some a:=by simpa using ha
    have hc:[b.a0,b.a1,b.a2,b.a3,b.a4,b.a5,b.a6,b.a7,b.a8,b.a9,b.jU][k]?=some c:=by simpa using hc
    have d1:=getD_at ha;have d2:=getD_at hc
    refine aD (aQ (λk1=>bL (aG ⟨by rw [(pW _ _).resolve_left k1],k,by omega,Nat.le_refl _,λq=>k1 (lQ.2 ?_)⟩)) λk1=>dO (aD (bG ?_)))
    · rw [d1,d2] at q;exact q
    have hin:=lQ.1 (Classical.not_not.1 k1)
    have e1:((k:Int)+1)=((k+1:Nat):Int):=by omega
    rw [e1,show ((k:Nat):Int).toNat=k by omega]
    refine B8 (aDC m (k:=k+1) (l:=l.set k (jS a c).1) (by omega) (by omega) (by rw [List.length_set];exact hl)) λq hq=>?_
    cases q with
    | inl l' =>
      intro j hj h1
      by_cases h2:j=k
      · subst h2;rw [d1,d2];exact hin
      · have:=hq j hj (by omega)
        rw [yG (by omega),if_neg (by omega)] at this;exact this
    | inr q =>
      obtain ⟨q1,j,q2,q3,q4⟩:=hq
      refine ⟨q1,j,q2,by omega,?_⟩
      rw [yG (by omega),if_neg (by omega)] at q4;exact q4
noncomputable def F3 (s:aB) (e i:Int) (x:aP) (r0 r:cB):aB×Int:=open Classical in if TA r0 r then (mO s e.toNat { x with dJ:=x.dJ.set i.toNat (sZ r0 r) },0) else (s,2)
theorem aRP {s:aB} {n:Nat} (hn:66<n) (h:SS s) {e i:Int} {x:aP} {r0 r:cB} (ht:iH s e i) (hx:s.bA[e.toNat]?=some x) (hr0:x.dJ[i.toNat]?=some r0):nA n s e i r=some (F3 s e i x r0 r):=by
  obtain ⟨v,ev,hv⟩:=sK (n:=n) (i:=i) (e:=e) (r:=r) hn h
  have hv2:Ex (λq=>(q.2=0/\TA r0 r)\/(q=(s,2)/\¬ TA r0 r)) (nA n s e i r):=by
    have hf:=h.toS0.iK
    unfold nA
    simp only [uJ h.toS0,Option.bind_some]
    rw [decide_eq_true ht]
    refine aD (bU ?_)
    have ht2:=ht.1;have ht3:=ht.2
    obtain ⟨bH,hm,_,_,hes⟩:=h.bH hx
    have hl2:=hes.iK hf.2.2
    have hlr:=hes.lr
    refine dB ht2.1 hx (dB ht3.1 hr0 ?_)
    refine x_eq (a:=(⟨r0.Open,r0.jH,r0.jL,r0.jJ,r0.jK,r0.jG,r0.jN,r0.jE,r0.jF,r0.jM,r0.jI⟩:iX)) rfl (x_eq (a:=(⟨r.Open,r.jH,r.jL,r.jJ,r.jK,r.jG,r.jN,r.jE,r.jF,r.jM,r.jI⟩:iX)) rfl ?_)
    obtain ⟨q,eq,hq2⟩:=aDC (s:=s) (e:=e) (i:=i) (r:=r) (b:=(⟨r.Open,r.jH,r.jL,r.jJ,r.jK,r.jG,r.jN,r.jE,r.jF,r.jM,r.jI⟩:iX)) 11 (n:=n) (k:=0) (l:=[r0.Open,r0.jH,r0.jL,r0.jJ,r0.jK,r0.jG,r0.jN,r0.jE,r0.jF,r0.jM,r0.jI]) rfl (by omega) rfl
    refine aW (λq'=>q'=q) ⟨q,eq,rfl⟩ λq' hq=>?_
    subst hq
    have hq:=IE (OP 11 (n:=n) (k:=0) rfl (by omega) rfl) eq
    cases q' with
    | inr q =>
      obtain ⟨q1,j,q2,_,q4⟩:=hq2
      refine vH (.inr ⟨q1,λt=>q4 ?_⟩)
      obtain ⟨t0,t1,t2,t3,t4,t5,t6,t7,t8,t9,t10⟩:=t
      match j,q2 with
      | 0,_=>exact t0
      | 1,_=>exact t1
      | 2,_=>exact t2
      | 3,_=>exact t3
      | 4,_=>exact t4
      | 5,_=>exact t5
      | 6,_=>exact t6
      | 7,_=>exact t7
      | 8,_=>exact t8
      | 9,_=>exact t9
      | 10,_=>exact t10
    | inl l =>
      refine dA ?_
      refine aW (λr=>r=(x.fQ,x.Closed,x.fZ,x.bR,x.dI,x.dJ,x.gJ,x.Down)) (dO (dB ht2.1 hx (dO (dO (dO (dO (dO (aG rfl)))))))) λz hz=>?_
      subst hz
      refine bK (bK (bK (bK (bK (bK (bK (dB ht2.1 hx (jX hq.1 (x_eq (a:=(⟨l.getD 0 0,l.getD 1 0,l.getD 2 0,l.getD 3 0,l.getD 4 0,l.getD 5 0,l.getD 6 0,l.getD 7 0,l.getD 8 0,l.getD 9 0,l.getD 10 0⟩:cB)) rfl (dB ht3.1 hr0 (aD (aG (.inl ⟨rfl,?_⟩)))))))))))))
      have g:=λj hj=>hq2 j hj (Nat.zero_le _)
      exact ⟨g 0 (by decide),g 1 (by decide),g 2 (by decide),g 3 (by decide),g 4 (by decide),g 5 (by decide),g 6 (by decide),g 7 (by decide),g 8 (by decide),g 9 (by decide),g 10 (by decide)⟩
  have hv2:=IE hv2 ev
  rw [ev]
  unfold F3
  rcases hv2 with ⟨a1,a2⟩ | ⟨a1,a2⟩
  · rw [if_pos a2]
    rcases hv with ⟨_,x',r0',_,hx',hr',_,e2⟩ | ⟨c1,_⟩
    · rw [hx] at hx';cases hx'
      rw [hr0] at hr';cases hr'
      cases v;simp only at a1 e2;rw [a1,e2]
    · exact absurd a1 c1
  · rw [if_neg a2,a1]
theorem aOD {s:aB} {n:Nat} (h:SS s) {e i:Int} {x:aP} {r0 r:cB} (ht:iH s e i) (hx:s.bA[e.toNat]?=some x) (hr0:x.dJ[i.toNat]?=some r0):xG s e i r=some (F3 s e i x r0 r):=by
  have hf:=h.toS0.iK
  have ht2:=ht.1;have ht3:=ht.2
  obtain ⟨bH,hm,_,_,hes⟩:=h.bH hx
  have hl2:=hes.iK hf.2.2
  refine gF ?_
  unfold xG TL
  simp only [WT.run,bT,JV h.toS0 h.ln,OW,Option.bind_some]
  rw [decide_eq_true ht]
  refine aD (bU (dB ht2.1 hx (dB ht3.1 hr0 ?_)))
  refine aW (λ(q:cB⊕(aB×Int))=>match q with | .inl g=>TA r0 r/\g=sZ r0 r | .inr q=>q=(s,2)/\¬ TA r0 r) ?_ λq hq=>jQ (λg e=>?_) λq e=>?_
  · unfold TA
    refine x_eq (a:=r.Open) rfl (aD (aQ (λk=>bL (aG ⟨by rw [(pW _ _).resolve_left k],λq=>k (lQ.2 q.1)⟩)) λk0=>?_))
    have k0:=lQ.1 (Classical.not_not.1 k0)
    refine x_eq (a:=r.jH) rfl (aD (aQ (λk=>bL (aG ⟨by rw [(pW _ _).resolve_left k],λq=>k (lQ.2 q.2.1)⟩)) λk1=>?_))
    have k1:=lQ.1 (Classical.not_not.1 k1)
    refine x_eq (a:=r.jL) rfl (aD (aQ (λk=>bL (aG ⟨by rw [(pW _ _).resolve_left k],λq=>k (lQ.2 q.2.2.1)⟩)) λk2=>?_))
    have k2:=lQ.1 (Classical.not_not.1 k2)
    refine x_eq (a:=r.jJ) rfl (aD (aQ (λk=>bL (aG ⟨by rw [(pW _ _).resolve_left k],λq=>k (lQ.2 q.2.2.2.1)⟩)) λk3=>?_))
    have k3:=lQ.1 (Classical.not_not.1 k3)
    refine x_eq (a:=r.jK) rfl (aD (aQ (λk=>bL (aG ⟨by rw [(pW _ _).resolve_left k],λq=>k (lQ.2 q.2.2.2.2.1)⟩)) λk4=>?_))
    have k4:=lQ.1 (Classical.not_not.1 k4)
    refine x_eq (a:=r.jG) rfl (aD (aQ (λk=>bL (aG ⟨by rw [(pW _ _).resolve_left k],λq=>k (lQ.2 q.2.2.2.2.2.1)⟩)) λk5=>?_))
    have k5:=lQ.1 (Classical.not_not.1 k5)
    refine x_eq (a:=r.jN) rfl (aD (aQ (λk=>bL (aG ⟨by rw [(pW _ _).resolve_left k],λq=>k (lQ.2 q.2.2.2.2.2.2.1)⟩)) λk6=>?_))
    have k6:=lQ.1 (Classical.not_not.1 k6)
    refine x_eq (a:=r.jE) rfl (aD (aQ (λk=>bL (aG ⟨by rw [(pW _ _).resolve_left k],λq=>k (lQ.2 q.2.2.2.2.2.2.2.1)⟩)) λk7=>?_))
    have k7:=lQ.1 (Classical.not_not.1 k7)
    refine x_eq (a:=r.jF) rfl (aD (aQ (λk=>bL (aG ⟨by rw [(pW _ _).resolve_left k],λq=>k (lQ.2 q.2.2.2.2.2.2.2.2.1)⟩)) λk8=>?_))
    have k8:=lQ.1 (Classical.not_not.1 k8)
    refine x_eq (a:=r.jM) rfl (aD (aQ (λk=>bL (aG ⟨by rw [(pW _ _).resolve_left k],λq=>k (lQ.2 q.2.2.2.2.2.2.2.2.2.1)⟩)) λk9=>?_))
    have k9:=lQ.1 (Classical.not_not.1 k9)
    refine x_eq (a:=r.jI) rfl (aD (aQ (λk=>bL (aG ⟨by rw [(pW _ _).resolve_left k],λq=>k (lQ.2 q.2.2.2.2.2.2.2.2.2.2)⟩)) λk10=>?_))
    have k10:=lQ.1 (Classical.not_not.1 k10)
    exact dD ⟨⟨k0,k1,k2,k3,k4,k5,k6,k7,k8,k9,k10⟩,by rw [rY k0,rY k1,rY k2,rY k3,rY k4,rY k5,rY k6,rY k7,rY k8,rY k9,rY k10];rfl⟩
  · subst e
    have hq:TA r0 r/\g=sZ r0 r:=hq
    obtain ⟨q1,rfl⟩:=hq
    refine aW (λ_=>True) (dO (dB ht2.1 hx (aG trivial))) λ_ _=>dB ht2.1 hx (dO (dB ht3.1 hr0 (aD (aG ?_))))
    unfold F3;rw [if_pos q1];rfl
  · subst e
    have hq:q=(s,2)/\¬ TA r0 r:=hq
    unfold F3;rw [if_neg hq.2];exact hq.1
theorem aUJ {s:aB} {n:Nat} (hn:66<n) (h:SS s) {e i:Int} {r:cB}:xG s e i r=nA n s e i r:=by
  by_cases ht:iH s e i
  · obtain ⟨x,hx⟩:=ht.at
    obtain ⟨bH,hm,_,_,hes⟩:=h.bH hx
    have hlr:=hes.lr
    have ht3:=ht.2
    have hr:=List.getElem?_eq_getElem (l:=x.dJ) (i:=i.toNat) (by omega)
    rw [aOD (n:=n) h ht hx hr,aRP hn h ht hx hr]
  · have e1:xG s e i r=some (s,4):=by
      refine gF ?_
      unfold xG TL
      simp only [WT.run,bT,JV h.toS0 h.ln,Option.bind_some]
      rw [decide_eq_false ht]
      exact aD (dF (aG rfl))
    have e2:nA n s e i r=some (s,4):=by
      refine gF ?_
      unfold nA
      simp only [uJ h.toS0,Option.bind_some]
      rw [decide_eq_false ht]
      exact aD (dF (aG rfl))
    rw [e1,e2]
theorem aL4 {K:Int} {s:aB} {o:bJ} {n:Nat} (hn:66<n) (h:Inv K s) (hq:o.aT<=9223372036854775807) (ha:0<=o.bM/\o.bM<=288230376151711744):zV n s o=qM n s o:=by
  have hl1:=h.l1
  have key:Ex (λr=>qM n s o=some r) (zV n s o):=by
    unfold zV aCE qM BF
    simp only [WT.run,bT,aPP h.ss.toS0 h.ss.ln]
    refine aD (aQ (λk=>aG (fD k (eY rfl))) λhk=>?_)
    obtain ⟨a,ea,hr⟩:=tZ h o.E o.Item
    refine aW (λ(r:aB×Int)=>(r.2≠0/\qM n s o=some (s,r.2))\/(r.2=0/\r.1.bX.length<=40/\qM n s o=some (⟨r.1.bF,r.1.bA,r.1.bX++[⟨o.E,o.Item,o.Loc,o.aT,o.bM,o.aT,o.bM,0⟩],r.1.dS,r.1.dH,r.1.Done⟩,0))) ?_ λr hr=>?_
    rotate_left
    · refine bK (aD (aQ (λk=>aG ?_) λk=>?_))
      · rcases hr with ⟨_,h2⟩ | ⟨h1,_⟩
        · unfold qM BF at h2
          simp only [WT.run,bT] at h2;exact h2
        · exact absurd h1 k
      · rcases hr with ⟨h1,_⟩ | ⟨_,h2,h3⟩
        · exact absurd h1 k
        · refine dO (aD (dO (aG ?_)))
          unfold qM BF at h3
          simp only [WT.run,bT] at h3;exact h3
    unfold qM BF
    simp only [WT.run,bT]
    refine aW (λz=>z=a) (x_eq ea (aG rfl)) λz hz=>?_
    subst hz
    refine aD (aQ (λk2=>aG (.inl ⟨k2,cK hk (bS (bZ ea (fD k2 (eY rfl))))⟩)) λk2=>?_)
    have z0:z=0:=Classical.not_not.1 k2
    obtain ⟨ht,x,bH,hx,hm,ho⟩:=hr z0
    by_cases k3:(s.bX.length:Int)>=40
    · refine aW (λy=>y=6) (aD (aQ (λ_=>aG rfl) λq=>absurd k3 q)) λy hy=>?_
      subst hy
      exact aD (aQ (λk4=>aG (.inl ⟨k4,cK hk (bS (bZ ea (cK k2 (bS (fD k3 (eY rfl))))))⟩)) λq=>absurd (by decide) q)
    refine aW (λy=>y=z) (aD (aQ (λq=>absurd q k3) λ_=>aG rfl)) λy hy=>?_
    subst hy
    refine aD (aQ (λq=>absurd q k2) λ_=>?_)
    have o0:=On.start hx hm ho
    obtain ⟨b,eb,hb⟩:=CP (n:=n) (s:=s) (e:=o.E) (i:=o.Item) (c:=o.Loc) (l:=⟨o.aT,o.bM,0⟩) hn h.ss hq
    have eb':yO n s o.E o.Item o.Loc ⟨o.aT,o.bM,0⟩=some b:=by rw [aIT hn h.ss hq];exact eb
    refine aW (λr=>r=b) (x_eq eb' (aG rfl)) λr hr2=>?_
    subst hr2
    refine bK (bK (bK (aD (aQ (λk4=>aG (.inl ⟨k4,cK hk (bS (bZ ea (cK k2 (bS (cK k3 (bS (bZ eb (fD k4 (eY rfl)))))))))⟩)) λk4=>?_))))
    rcases hb with ⟨_,hb⟩ | ⟨q,_⟩
    rotate_left
    · exact absurd q k4
    obtain ⟨x1,o1,p1,p2,p3⟩:=o0.brought hb
    have s1:=o1.ss h.ss
    obtain ⟨c,ec,hc⟩:=qA (n:=n) (e:=o.E) (l:=[⟨0,r.2.1⟩,⟨6,r.2.2.1⟩,⟨1,0-o.bM⟩]) hn s1 (by simp)
    have ec':uU n r.1 o.E [⟨0,r.2.1⟩,⟨6,r.2.2.1⟩,⟨1,0-o.bM⟩]=some c:=by rw [post_eq hn s1 (by simp) (by simp)];exact ec
    refine aW (λr=>r=c) (bG (x_eq ec' (aG rfl))) λr2 hr2=>?_
    subst hr2
    refine bK (aD (aQ (λk5=>aG (.inl ⟨k5,cK hk (bS (bZ ea (cK k2 (bS (cK k3 (bS (bZ eb (cK k4 (bS (iB (by omega) (bZ ec (fD k5 (eY rfl)))))))))))))⟩)) λk5=>?_))
    rcases hc with ⟨_,hc⟩ | ⟨q,_⟩
    rotate_left
    · exact absurd q k5
    obtain ⟨x2,o2,q1,q2,q3⟩:=o1.rR hc (by simp [gM,gI])
    have s2:=o2.ss h.ss
    obtain ⟨d,ed,hd⟩:=sK (n:=n) (e:=o.E) (i:=o.Item) (r:=⟨0,r.2.1,0,0,0,0,0,0,0,0,0⟩) hn s2
    have ed':xG r2.1 o.E o.Item ⟨0,r.2.1,0,0,0,0,0,0,0,0,0⟩=some d:=by rw [aUJ hn s2];exact ed
    refine aW (λr=>r=d) (x_eq ed' (aG rfl)) λr3 hr3=>?_
    subst hr3
    refine bK (aD (aQ (λk6=>aG (.inl ⟨k6,cK hk (bS (bZ ea (cK k2 (bS (cK k3 (bS (bZ eb (cK k4 (bS (iB (by omega) (bZ ec (cK k5 (bS (bZ ed (fD k6 (eY rfl))))))))))))))))⟩)) λk6=>aG ?_))
    rcases hd with ⟨d0,hd⟩ | ⟨q,_⟩
    rotate_left
    · exact absurd q k6
    obtain ⟨x3,o3,w1,w2⟩:=o2.wP hd
    obtain ⟨g1,g2,g3,g4,g5⟩:=o3.rc
    refine .inr ⟨d0,by rw [g1];omega,cK hk (bS (bZ ea (cK k2 (bS (cK k3 (bS (bZ eb (cK k4 (bS (iB (by omega) (bZ ec (cK k5 (bS (bZ ed (cK k6 (bS ?_))))))))))))))))⟩
    exact jR (by rw [g1];omega) (jR (by rw [g1];simp;omega) rfl)
  obtain ⟨r,er,e2⟩:=key
  rw [er,e2]
theorem aIA {o:bJ} {v:Int} (h:o.fG.length<=3):Ex (λr=>r.fG.length<=4) (JO o v):=by
  unfold JO U6
  simp only [WT.run,bT]
  refine aW _ (LX (by decide)) λk hk=>?_
  have f1:=td (a:=k) (b:=16) hk.1 (by decide)
  have f2:=tm (a:=k.tdiv 16) (b:=12) f1.1 (by decide)
  refine bG (aD (eZ f2.1 (by simpa using f2.2) λx hx=>aD ?_))
  repeat' with_reducible first | refine bG ?_ | refine dZ ?_ | apply aD | apply bK | apply dY | apply dN | apply eB | apply d9 | apply dV | apply dQ | apply dW | apply dU | refine aQ (λ_=>?_) λ_=>?_ | refine dK (λ_=>?_) λ_=>?_ | apply dF | apply bU | apply dA | apply bL | apply aG | refine dO ?_
  all_goals try (show o.fG.length<=4;omega)
  all_goals (show (o.fG++[x]).length<=4;simp;omega)
theorem aIQ {m:fM} {v odd:Int} {n:Nat} (hn:200<n) (h:MN m):Ex (λr=>r.fG.length<=4) (J9 n m v odd):=by
  unfold J9 aBN
  simp only [WT.run,bT]
  refine aW _ (LX (by decide)) λk hk=>aW _ (QL h) λo ho=>?_
  have f1:=td (a:=k) (b:=32) hk.1 (by decide)
  refine aW (λ(r:bJ⊕bJ)=>match r with | .inl o=>o.fG.length<=4 | .inr o=>o.fG.length<=4)
    (gB (λ(u:Int×bJ)=>0<=u.1/\u.1<=64/\u.2.fG.length<=3) (λu=>64-u.1.toNat) ?_ (v:=(0,o)) ⟨by simp,by simp,ho⟩ (by simp;omega)) λr hr=>jQ (λa e=>by subst e;exact aG hr) λb e=>by subst e;exact hr
  rintro ⟨i,x⟩ ⟨h0,h1,h2⟩
  simp only at h0 h1 h2
  refine bK (aD (aQ (λq=>?_) λq=>bL (dD (by show x.fG.length<=4;omega))))
  have q:i<64:=q
  have f3:=tm (a:=k.tdiv 32) (b:=1) f1.1 (by decide)
  have f4:=tm (a:=k+i+1) (b:=32) (by omega) (by decide)
  refine aW (λ(r:bJ⊕((Int×bJ)⊕(bJ⊕bJ)))=>match r with | .inl y=>y.fG.length<=3 | .inr (.inl _)=>False | .inr (.inr (.inl _))=>False | .inr (.inr (.inr o))=>o.fG.length<=4) ?_ λr hr=>?_
  · refine aW (λ(r:Unit⊕(bJ⊕((Int×bJ)⊕(bJ⊕bJ))))=>match r with | .inl _=>True | .inr (.inl _)=>False | .inr (.inr (.inl _))=>False | .inr (.inr (.inr (.inl _)))=>False | .inr (.inr (.inr (.inr o)))=>o.fG.length<=4)
      (gB (λ(y:Int)=>0<=y/\y<=1) (λy=>1-y.toNat) ?_ (v:=0) (by simp) (by simp;omega)) λr hr=>?_
    · rintro y ⟨y0,y1⟩
      refine aD (aQ (λq1=>?_) λq1=>bL (dD trivial))
      refine aW (λ_=>True) ?_ λb _=>fJ (λ_=>aW _ (aIA (o:=x) (v:=odd) h2) λo2 ho2=>bL (bL (bL (bL (bL (aG ho2)))))) λ_=>bG (dD ⟨⟨by omega,by omega⟩,by omega⟩)
      refine jX ⟨y0,q1⟩ (eZ y0 (by simpa using q1) λz hz=>aD (aQ (λ_=>aD (aQ (λ_=>aG trivial) λ_=>jX ⟨y0,q1⟩ (bG (aD (jX f3 (eZ f3.1 (by simp) λw hw=>aD (aG trivial))))))) λ_=>aG trivial))
    · match r,hr with
      | .inl _,_ =>
        refine dA (bG (bG (bG (bG (aD (bG (aW _ (QL h) λo2 h2=>dD h2)))))))
      | .inr (.inr (.inr (.inr o))),hr=>exact vH hr
  · match r,hr with
    | .inl y,hr=>exact dA (bG (dD ⟨⟨by first | omega | (simp only;omega),by first | omega | (simp only;omega),hr⟩,by first | omega | (simp only;omega)⟩))
    | .inr (.inr (.inr o)),hr=>exact vH hr
theorem sD {α:Type} {l:List α} {n:Nat} (hl:l.length<=60) (hn:66<n) {f:Int->Option (Int⊕(Unit⊕Bool))} (h1:∀ i x,0<=i->i<(l.length:Int)->l[i.toNat]?=some x->f i=some (.inl (i+1))) (h2:∀ i,¬ i<(l.length:Int)->f i=some (.inr (.inl ()))):iter f n 0=some (.inl ()):=by
  refine gF (gB (λi=>0<=i/\i<=(l.length:Int)) (λi=>l.length-i.toNat) ?_ (v:=(0:Int)) (by simp) (by simp;omega))
  rintro i ⟨h0,h3⟩
  by_cases k:i<(l.length:Int)
  · have hx:=List.getElem?_eq_getElem (l:=l) (i:=i.toNat) (by omega)
    exact ⟨_,h1 i _ h0 k hx,⟨by omega,by omega⟩,by omega⟩
  · exact ⟨_,h2 i k,rfl⟩
theorem DX {l:List Int} {n:Nat} (hl:l.length<=60) (hn:66<n):sM n l l=some true:=by
  unfold sM PS
  simp only [WT.run,bT]
  refine cK (by simp) (bS (bZ (sD hl hn (λi x h0 h hx=>?_) λi h=>?_) rfl))
  · exact fD h (eY (gU h0 hx (gU h0 hx (cK (by simp) (bS (iB (by omega) rfl))))))
  · exact cK h (bS rfl)
theorem U9 {l:List (List Int)} {n:Nat} (hl:l.length<=60) (hn:66<n) (hk:∀ x∈l,x.length<=60):FD n l l=some true:=by
  unfold FD aCT
  simp only [WT.run,bT]
  refine cK (by simp) (bS (bZ (sD hl hn (λi x h0 h hx=>?_) λi h=>?_) rfl))
  · exact fD h (eY (gU h0 hx (gU h0 hx (bZ (DX (hk x (fO hx)) hn) (gN (bS (iB (by omega) rfl)))))))
  · exact cK h (bS rfl)
theorem aGC {m:fM} {n:Nat} (h:qL m) (hn:66<n):IS n m m=some true:=by
  have h1:=h.n1;have h2:=h.xE;have h3:=h.lm;have h4:=h.lc
  unfold IS TS
  simp only [WT.run,bT]
  refine bZ (a:=true) (fD (by first | trivial | rfl) (eY (fD (by first | trivial | rfl) (eY (bZ (DX (by omega) hn) (eY (bZ (U9 (by omega) hn λx hx=>by have:=(h.met x hx).1;omega) (eY (bZ (U9 (by omega) hn λx hx=>by have:=(h.cos x hx).1;omega) rfl))))))))) rfl
theorem aII (x:aF):KD x x=some true:=by
  unfold KD U2
  simp only [WT.run,bT]
  exact bZ (a:=true) (fD (by first | trivial | rfl) (eY (fD (by first | trivial | rfl) (eY (fD (by first | trivial | rfl) rfl))))) rfl
theorem aMO {l:List aF} {n:Nat} (hl:l.length<=60) (hn:66<n):LG n l l=some true:=by
  unfold LG WJ
  simp only [WT.run,bT]
  refine cK (by simp) (bS (bZ (sD hl hn (λi x h0 h hx=>?_) λi h=>?_) rfl))
  · exact fD h (eY (gU h0 hx (gU h0 hx (bZ (aII x) (gN (bS (iB (by omega) rfl)))))))
  · exact cK h (bS rfl)
theorem aOW {p:aS} {n:Nat} (hl:p.aI.length<=60) (hn:66<n):KO n p p=some true:=by
  unfold KO YN
  simp only [WT.run,bT]
  exact bZ (a:=true) (bZ (aMO hl hn) (eY (fD (by first | trivial | rfl) (eY (fD (by first | trivial | rfl) (eY (fD (by first | trivial | rfl) rfl))))))) rfl
theorem aP3 {s:aB} {n:Nat} (h1:s.bX.length<=60) (h2:s.dS.length<=60) (h3:s.dH.length<=60) (hn:66<n):KS n s s=some true:=by
  unfold KS UJ
  simp only [WT.run,bT]
  refine bZ (a:=false) (cK (by simp) (bS (cK (by simp) (bS (cK (by simp) rfl))))) (bS (bZ (sD h1 hn (λi x h0 h hx=>?_) λi h=>?_) ?_))
  · exact fD h (eY (gU h0 hx (gU h0 hx (gN (by rw [decide_eq_true (rfl:x=x)];exact bS (iB (by omega) rfl))))))
  · exact cK h (bS rfl)
  show Option.bind _ _=_
  refine bZ (sD h2 hn (λi x h0 h hx=>?_) λi h=>?_) ?_
  · exact fD h (eY (gU h0 hx (gU h0 hx (gN (by rw [decide_eq_true (rfl:x=x)];exact bS (iB (by omega) rfl))))))
  · exact cK h (bS rfl)
  show Option.bind _ _=_
  refine bZ (sD h3 hn (λi x h0 h hx=>?_) λi h=>?_) rfl
  · exact fD h (eY (gU h0 hx (gU h0 hx (gN (by rw [decide_eq_true (rfl:x=x)];exact bS (iB (by omega) rfl))))))
  · exact cK h (bS rfl)
def Sz (x:aP):Prop:=x.bR.length<=10/\x.dJ.length<=10/\x.dI.length<=60/\x.gJ.length<=60/\x.Down.length<=60/\∀ p∈x.bR,p.aI.length<=60
theorem O9 {α:Type} {l:List α} {f:Nat->Int->Option (Unit⊕Bool)} (h1:∀ n i x,0<=i->i<(l.length:Int)->l[i.toNat]?=some x->66<n->f (n+1) i=f n (i+1)) (h2:∀ n i,¬ i<(l.length:Int)->f (n+1) i=some (.inl ())) :
    ∀ (k:Nat) {n:Nat} {i:Int},0<=i->(l.length:Int)-i<=k->67+k<n->f n i=some (.inl ())
  | k,0,i,_,_,hn=>absurd hn (Nat.not_lt_zero _)
  | 0,n+1,i,h0,hk,hn=>h2 n i (by omega)
  | k+1,n+1,i,h0,hk,hn=>by
    by_cases h:i<(l.length:Int)
    · have hx:=List.getElem?_eq_getElem (l:=l) (i:=i.toNat) (by omega)
      rw [h1 n i _ h0 h hx (by omega)]
      exact O9 h1 h2 k (by omega) (by omega) (by omega)
    · exact h2 n i h
theorem aAJ {x:aP} {n:Nat} (h:Sz x) (ha:x.fZ.length<=1) (hn:90<n) (hy:∀ y∈x.fZ,∀ m,n<m+3->vO m y y=some true):vO (n+1) x x=some true:=by
  obtain ⟨a1,a2,a3,a4,a5,a6⟩:=h
  unfold vO
  refine bZ (a:=false) (cK (by simp) (bS (cK (by simp) (bS (cK (by simp) (bS (cK (by simp) (bS (cK (by simp) rfl))))))))) (bS ?_)
  refine bZ (a:=.inl ()) (O9 (l:=x.bR) (f:=BM x x) ?_ ?_ x.bR.length (Int.le_refl 0) (by omega) (by omega)) ?_
  · intro m i p h0 h hx hm
    show bnd _ _=_
    rw [show decide (i<(x.bR.length:Int))=true from decide_eq_true h]
    exact gN (eY (gU h0 hx (gU h0 hx (bZ (aOW (a6 p (fO hx)) hm) (gN (bS (iB (by omega) rfl)))))))
  · intro m i h;exact cK h (bS rfl)
  show Option.bind _ _=_
  refine bZ (a:=.inl ()) (O9 (l:=x.dJ) (f:=C5 x x) ?_ ?_ x.dJ.length (Int.le_refl 0) (by omega) (by omega)) ?_
  · intro m i p h0 h hx hm
    refine fD h (eY (gU h0 hx (bZ rfl (gU h0 hx (bZ rfl (gN ?_))))))
    rw [show (!decide ((_:iX)=_))=false from by simp]
    exact bS (iB (by omega) rfl)
  · intro m i h;exact cK h (bS rfl)
  show Option.bind _ _=_
  refine bZ (a:=.inl ()) ?_ ?_
  · obtain ⟨m,rfl⟩:∃ m,n=m+2:=⟨n-2,by omega⟩
    match e:x.fZ,ha with
    | [],_ =>
      unfold yB
      exact cK (by rw [e];simp) (bS rfl)
    | [y],_ =>
      unfold yB
      have hx:x.fZ[(0:Int).toNat]?=some y:=by rw [e];rfl
      refine fD (by rw [e];simp) (eY (gU (Int.le_refl 0) hx (gU (Int.le_refl 0) hx (bZ (hy y (by rw [e];simp) (m+1) (by omega)) (gN (bS (iB (by omega) ?_)))))))
      unfold yB
      exact cK (by rw [e];simp) (bS rfl)
    | _ :: _ :: _,h=>simp at h
  · exact bZ (a:=true) (bZ (DX (by omega) (by omega)) (eY (bZ (DX (by omega) (by omega)) (eY (bZ (DX (by omega) (by omega)) rfl))))) rfl
theorem aD2 {x:aP} {n:Nat} (h:Sz x) (ha:x.fZ.length<=1) (hy:∀ y∈x.fZ,Sz y/\y.fZ=[]) (hn:100<n):vO n x x=some true:=by
  obtain ⟨m,rfl⟩:∃ m,n=m+1:=⟨n-1,by omega⟩
  refine aAJ h ha (by omega) λy hy2 k hk=>?_
  obtain ⟨k',rfl⟩:∃ k',k=k'+1:=⟨k-1,by omega⟩
  obtain ⟨g1,g2⟩:=hy y hy2
  exact aAJ g1 (by rw [g2];simp) (by omega) λz hz=>by rw [g2] at hz;cases hz
theorem ES.sz {n:Nat} {bH:List Int} {iZ:Int} {x:aP} (h:ES n bH iZ x) (hn:n<=5):Sz x:=by
  have hf:=h.iK hn
  exact ⟨hf.1,by omega,by omega,by omega,by omega,λp hp=>by have:=nI (h.pr p hp);omega⟩
theorem VG {K:Int} {s:aB} {n:Nat} (h:Inv K s) (hn:100<n):B5 n s s=some true:=by
  have hf:=h.ss.toS0.iK
  have h1:=h.l1;have h2:=h.l2;have h3:=h.l3
  unfold B5 TM
  simp only [WT.run,bT]
  refine bZ (a:=false) (bZ (aGC h.kF (by omega)) (gN (bS (cK (by simp) (bS (cK (by simp) (bS (bZ (aP3 (by omega) (by omega) (by omega) (by omega)) rfl)))))))) (bS (bZ (sD (l:=s.bA) (by omega) (by omega) (λi x h0 hi hx=>?_) λi h=>?_) rfl))
  · obtain ⟨bH,hm,_,_,hes⟩:=h.ss.bH hx
    have hei:=h.ent _ _ _ hx hm
    have hs:vO n x x=some true:=by
      rcases hei with o | ⟨y,c⟩
      · exact aD2 (hes.sz hf.2.2) (by rw [o.mH];simp) (λy hy=>by rw [o.mH] at hy;cases hy) hn
      · refine aD2 (hes.sz hf.2.2) (by rw [c.mH];simp) (λz hz=>?_) hn
        rw [c.mH,List.mem_singleton] at hz;subst hz
        exact ⟨c.eo.es.sz hf.2.2,c.eo.mH⟩
    exact fD hi (eY (gU h0 hx (gU h0 hx (bZ hs (gN (bS (iB (by omega) rfl)))))))
  · exact cK h (bS rfl)
end Go.Pv
