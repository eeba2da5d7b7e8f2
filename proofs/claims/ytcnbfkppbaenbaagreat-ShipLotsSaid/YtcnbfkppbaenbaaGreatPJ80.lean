import Derived.Test.YtcnbfkppbaenbaaGreatPG80
set_option linter.unusedVariables false
set_option linter.unusedSimpArgs false
namespace Go.Pv
open Go.Proofs
set_option maxRecDepth 1000000
set_option maxHeartbeats 1000000
theorem aAH (a:Int):DK a=some (decide (0<=a/\a<17)):=by
  unfold DK aF1
  simp only [WT.run,bS]
  by_cases h1:a>=0
  · by_cases h2:a<17
    · exact dK (a:=true) (fQ h1 (fK (fQ h2 rfl))) (by simp;omega)
    · exact dK (a:=false) (fQ h1 (fK (eU h2 rfl))) (by simp;omega)
  · exact dK (a:=false) (eU h1 (dF rfl)) (by simp;omega)
theorem aDH (a:Int):CZ a=some (decide (bQ a)):=by
  unfold CZ aBP
  simp only [WT.run,bS]
  by_cases h1:a>=-288230376151711744
  · by_cases h2:a<=288230376151711744
    · exact dK (a:=true) (fQ h1 (fK (fQ h2 rfl))) (congrArg some (decide_eq_true (p:=bQ a) ⟨h1,h2⟩).symm)
    · exact dK (a:=false) (fQ h1 (fK (eU h2 rfl))) (congrArg some (decide_eq_false (p:=bQ a) λq=>h2 q.2).symm)
  · exact dK (a:=false) (eU h1 (dF rfl)) (congrArg some (decide_eq_false (p:=bQ a) λq=>h1 q.1).symm)
theorem aKQ (x:aN):Ex (λr=>r=true↔¬ iP x) (MW x):=by
  unfold MW V5 iP
  simp only [WT.run,bS,aAH,aDH,Option.bind_some]
  refine aU (λb=>b=true↔¬ ((0<=x.dI/\x.dI<17)/\bQ x.bM)) ?_ λb hb=>aD hb
  by_cases k1:0<=x.dI/\x.dI<17
  · rw [decide_eq_true k1]
    refine aF (bW (aF (aD ?_)))
    by_cases k2:bQ x.bM
    · rw [decide_eq_true k2];exact ⟨(λq=>nomatch q),λq=>absurd ⟨k1,k2⟩ q⟩
    · rw [decide_eq_false k2];exact ⟨λ_ q=>k2 q.2,λ_=>rfl⟩
  · rw [decide_eq_false k1];exact aF (dB (aD ⟨λ_ q=>k1 q.1,λ_=>rfl⟩))
def VA (l:List aN) (r:List aN×Int):Prop:=r.2=0/\lK r.1/\∀ y,y∈r.1↔y∈l/\y.bM≠0
theorem IX {l:List aN} {n:Nat} (hn:66<n) (hl:l.length<=19) (hd:(l.map (·.dI)).Nodup) :
    Ex (λr=>((∀ x∈l,iP x)->VA l r)/\((¬ ∀ x∈l,iP x)->r=([],1))) (vU n l):=by
  obtain ⟨n',hn'⟩:∃ m,n=m+1:=⟨n-1,by omega⟩
  unfold vU aGC
  simp only [WT.run,bS]
  refine aU (λb=>b=true↔¬ ∀ x∈l,iP x) (aU (λ(v:Int)=>v>=0↔¬ ∀ x∈l,iP x) ?_ λv hv=>aF (aD (by simpa using hv))) λb hb=>?_
  · refine aU (λ(r:Unit⊕Int)=>match r with | .inl _=>∀ x∈l,iP x | .inr v=>v>=0/\¬ ∀ x∈l,iP x)
      (fJ (λ(v:Int)=>0<=v/\v<=(l.length:Int)/\((∀ x∈l.drop v.toNat,iP x)->∀ x∈l,iP x)) (λ(v:Int)=>l.length-v.toNat) ?_ (v:=0) (by simp) (by simp;omega)) λr hr=>iZ (λa e=>?_) λb e=>?_
    · rintro i ⟨h0,h1,h2⟩
      refine aF (aI (λh=>?_) λh=>?_)
      · refine eT h0 h λx hx=>aU _ (aKQ x) λb hb=>fB (λk=>bJ (bJ (aD ⟨h0,λhh=>hb.1 k (hh x (fE hx))⟩))) λk=>bE (cK ⟨⟨by omega,by omega,λhh=>h2 λy hy=>?_⟩,by omega⟩)
        have e:(i+1).toNat=i.toNat+1:=by omega
        rw [e] at hh
        rw [(drop_at hx).2] at hy
        rcases List.mem_cons.1 hy with rfl | hy
        · exact Classical.not_not.1 λq=>by rw [hb.2 q] at k;cases k
        · exact hh y hy
      · refine bJ (cK (h2 λx hx=>?_))
        rw [List.drop_eq_nil_of_le (by omega)] at hx;cases hx
    · subst e;exact aD ⟨λk=>absurd k (by decide),λk=>absurd hr k⟩
    · subst e;exact ⟨λ_=>hr.2,λ_=>hr.1⟩
  refine fB (λk=>aD ⟨λq=>absurd q (hb.1 k),λ_=>rfl⟩) λk=>dM ?_
  have hk:∀ x∈l,iP x:=Classical.not_not.1 λq=>by rw [hb.2 q] at k;cases k
  refine aU (λ(r:List aN)=>lK r/\r.Perm l) (aU (λ(r:List aN)=>lK r/\r.Perm l) (aU (λ(r:List aN)=>lK r/\r.Perm l) (aU (λ_=>True) ?_ λ_ _=>aU (λ(r:List aN)=>lK r/\r.Perm l) (aU (λ(r:List aN)=>lK r/\r.Perm l) ?_ λy hy=>aD hy) λy hy=>iR hy.2.length_eq (aU (λ_=>True) ?_ λ_ _=>aD hy)) λy hy=>aD hy) λy hy=>aD hy) λs hs=>?_
  · exact fJ (λ_=>True) (λ_=>0) (λv _=>aF (iR (decide_eq_false (by omega)) (bJ (aD trivial)))) trivial (by omega)
  rotate_left
  · exact fJ (λ_=>True) (λ_=>0) (λv _=>aF (iR (decide_eq_false (by omega)) (bJ (aD trivial)))) trivial (by omega)
  · have hsl:=hs.2.length_eq
    refine iR hsl ?_
    refine aU (λ(r:List aN⊕(List aN×Int))=>r=.inl s) (fJ (λ(v:Int×List aN)=>0<=v.1/\v.1<=(s.length:Int)/\v.2=s.take v.1.toNat) (λv=>s.length-v.1.toNat) ?_ (v:=(0,[])) (by simp) (by simp;omega)) λr hr=>?_
    · rintro ⟨i,acc⟩ ⟨h0,h1,h2⟩
      simp only at h0 h1 h2
      subst h2
      refine bF (aF (aI (λh=>?_) λh=>?_))
      · have hx:=List.getElem?_eq_getElem (l:=s) (i:=i.toNat) (by omega)
        generalize s[i.toNat]'(by omega)=x at hx
        have ei:(i+1).toNat=i.toNat+1:=by omega
        have hal:(s.take i.toNat).length=i.toNat:=by rw [List.length_take];omega
        refine aU (λr=>r=.inl (s.take (i.toNat+1))) (dD h0 hx (gU (by rw [hal];omega) ?_)) λr hr=>?_
        · refine aU (λb=>b=false) ?_ λb hb=>?_
          · refine aF (aI (λq=>?_) λ_=>aD rfl)
            rw [hal] at q
            have hy:=List.getElem?_eq_getElem (l:=s) (i:=i.toNat-1) (by omega)
            generalize hyy:s[i.toNat-1]'(by omega)=y at hy
            have hlt:y.dI<x.dI:=by
              have e1:s=s.take i.toNat++x :: s.drop (i.toNat+1):=by rw [<- (drop_at hx).2,List.take_append_drop]
              have hss:=hs.1
              unfold lK at hss
              rw [e1,List.pairwise_append] at hss
              refine hss.2.2 y ?_ x (by simp)
              refine List.mem_of_getElem? (i:=i.toNat-1) ?_
              rw [List.getElem?_take_of_lt (by omega)];exact hy
            rw [hal]
            refine dD (a:=y) (by omega) ?_ (aF (aD (decide_eq_false (by omega))))
            rw [List.getElem?_take_of_lt (by omega),show ((i.toNat:Nat):Int)-1=i-1 by omega,show (i-1).toNat=i.toNat-1 by omega];exact hy
          · subst hb
            refine bW (aF (dM (cK ?_)))
            have:=take_at (f:=id) hx
            simp only [List.map_id,id] at this
            rw [this]
        · subst hr
          exact cZ (bE (cK ⟨⟨by simp only;omega,by simp only;omega,by simp only [ei]⟩,by simp only;omega⟩))
      · refine bJ (cK ?_)
        show _=_
        rw [List.take_of_length_le (by omega)]
    · subst hr
      refine cZ ?_
      refine aU (λ(a:Nat×Nat×List aN)=>a.1+a.2.1<=a.2.2.length/\(a.2.2.drop a.1).take a.2.1=s.filter (λz=>decide (z.bM≠0))) ?_ λa ha=>bF (bF (iR ha.1 (aD ⟨λ_=>⟨rfl,?_,?_⟩,λq=>absurd hk q⟩)))
      · refine aU (λ(v:Int)=>(v=-1/\∀ z∈s,z.bM≠0)\/(0<=v/\v<(s.length:Int)/\(∀ z∈s.take v.toNat,z.bM≠0)/\∃ z,s[v.toNat]?=some z/\z.bM=0)) ?_ λv hv=>?_
        · refine aU (λ(r:Unit⊕Int)=>match r with | .inl _=>∀ z∈s,z.bM≠0 | .inr v=>0<=v/\v<(s.length:Int)/\(∀ z∈s.take v.toNat,z.bM≠0)/\∃ z,s[v.toNat]?=some z/\z.bM=0)
            (fJ (λ(v:Int)=>0<=v/\v<=(s.length:Int)/\∀ z∈s.take v.toNat,z.bM≠0) (λ(v:Int)=>s.length-v.toNat) ?_ (v:=0) (by simp) (by simp;omega)) λr hr=>iZ (λa e=>?_) λb e=>?_
          · rintro i ⟨h0,h1,h2⟩
            refine aF (aI (λh=>eT h0 h λx hx=>x_eq (a:=decide (x.bM=0)) rfl (aI (λk=>bJ (bJ (aD ⟨h0,h,h2,x,hx,k⟩))) λk=>bE (cK ⟨⟨by omega,by omega,λz hz=>?_⟩,by omega⟩))) λh=>bJ (cK λz hz=>?_))
            · rw [show (i+1).toNat=i.toNat+1 by omega,List.take_add_one,hx] at hz
              rcases List.mem_append.1 hz with hz | hz
              · exact h2 z hz
              · have:z=x:=by simpa using hz
                rw [this];exact k
            · rw [List.take_of_length_le (by omega)] at h2;exact h2 z hz
          · subst e;exact aD (.inl ⟨rfl,hr⟩)
          · subst e;exact .inr hr
        · refine aF (aI (λk=>aD ⟨by simp,?_⟩) λk=>?_)
          · rcases hv with ⟨_,hv⟩ | ⟨q,_⟩
            · simp only [List.drop_zero,List.take_length]
              exact (List.filter_eq_self.2 λz hz=>decide_eq_true (hv z hz)).symm
            · exfalso;omega
          · rcases hv with ⟨q,_⟩ | ⟨v0,v1,v2,z0,v3,v4⟩
            · exact absurd q k
            refine bE (aU (λ(r:Int×List aN)=>0<=r.1/\r.1<(r.2.length:Int)/\r.2.length=s.length/\r.2.take r.1.toNat=s.filter (λz=>decide (z.bM≠0)))
              (fJ (λ(u:Int×Int×List aN)=>0<=u.1/\u.1<u.2.1/\u.2.1<=(s.length:Int)/\u.2.2.length=s.length/\u.2.2.take u.1.toNat=(s.take u.2.1.toNat).filter (λz=>decide (z.bM≠0))/\u.2.2.drop u.2.1.toNat=s.drop u.2.1.toNat) (λu=>s.length-u.2.1.toNat) ?_ (v:=(v,v+1,s)) ⟨v0,by simp only;omega,by simp only;omega,rfl,?_,rfl⟩ (by simp only;omega)) λr hr=>bF (iR ⟨hr.1,hr.2.1⟩ (aF (iR ⟨hr.1,by omega⟩ (aD ⟨?_,?_⟩)))))
            · rintro ⟨w,j,L⟩ ⟨h0,h1,h2,h3,h4,h5⟩
              simp only at h0 h1 h2 h3 h4 h5
              refine bF (bF (aF (aI (λh=>?_) λh=>?_)))
              · have h:j<(L.length:Int):=h
                have hx:=List.getElem?_eq_getElem (l:=s) (i:=j.toNat) (by omega)
                generalize s[j.toNat]'(by omega)=x at hx
                have hxL:L[j.toNat]?=some x:=by
                  have e1:(L.drop j.toNat)[0]?=(s.drop j.toNat)[0]?:=by rw [h5]
                  rw [List.getElem?_drop,List.getElem?_drop,Nat.add_zero] at e1
                  rw [e1];exact hx
                have ej:(j+1).toNat=j.toNat+1:=by omega
                have ew:(w+1).toNat=w.toNat+1:=by omega
                have d5:L.drop (j.toNat+1)=s.drop (j.toNat+1):=by
                  have:=congrArg (List.drop 1) h5
                  rwa [List.drop_drop,List.drop_drop] at this
                have f5:(s.take (j.toNat+1)).filter (λz=>decide (z.bM≠0))=(s.take j.toNat).filter (λz=>decide (z.bM≠0))++[x].filter (λz=>decide (z.bM≠0)):=by
                  rw [List.take_add_one,hx,List.filter_append];rfl
                refine aU (λ(r:Int×List aN)=>0<=r.1/\r.1<j+1/\r.2.length=s.length/\r.2.take r.1.toNat=(s.take (j.toNat+1)).filter (λz=>decide (z.bM≠0))/\r.2.drop (j.toNat+1)=s.drop (j.toNat+1)) ?_ λr hr=>bF (gU (by have:=hr.2.1;have:=hr.1;first | omega | (simp only;omega)) (cK ⟨⟨hr.1,hr.2.1,by simp only;omega,hr.2.2.1,by simp only [ej];exact hr.2.2.2.1,by simp only [ej];exact hr.2.2.2.2⟩,by simp only;omega⟩))
                refine dD (show 0<=j by omega) hxL (x_eq (a:=decide (x.bM=0)) rfl (aF ?_))
                by_cases q:x.bM=0
                · rw [decide_eq_true q]
                  refine bW (aD ⟨h0,by simp only;omega,h3,?_,d5⟩)
                  rw [f5,h4];simp [q]
                · rw [decide_eq_false q]
                  have hwL:=List.getElem?_eq_getElem (l:=L) (i:=w.toNat) (by omega)
                  refine dB (dD h0 hwL (aF (bE (aD ⟨by simp only;omega,by simp only;omega,by simp only [List.length_set];exact h3,?_,?_⟩))))
                  · simp only [ew]
                    rw [f5,List.take_add_one,List.getElem?_set_self (by omega),List.take_set_of_le (by omega),h4];simp [q]
                  · simp only
                    rw [List.drop_set_of_lt (by omega)];exact d5
              · have h:¬ j<(L.length:Int):=h
                refine bJ (aD ⟨h0,by simp only;omega,h3,?_⟩)
                simp only
                rw [h4,List.take_of_length_le (by omega)]
            · simp only
              rw [show (v+1).toNat=v.toNat+1 by omega,List.take_add_one,v3,List.filter_append]
              have e1:(s.take v.toNat).filter (λz=>decide (z.bM≠0))=s.take v.toNat:=List.filter_eq_self.2 λz hz=>decide_eq_true (v2 z hz)
              rw [e1];simp [v4]
            · simp;omega
            · simp only [Nat.zero_add,Nat.sub_zero,List.drop_zero,List.take_take,Nat.min_self];exact hr.2.2.2
      · simp only [ha.2]
        exact List.Pairwise.filter _ hs.1
      · intro y
        simp only [ha.2]
        rw [List.mem_filter,hs.2.mem_iff,decide_eq_true_eq]
  · refine fJ (λ(v:Int×List aN)=>1<=v.1/\∃ S,v.2=S++l.drop v.1.toNat/\lK S/\S.Perm (l.take v.1.toNat)) (λv=>l.length-v.1.toNat) ?_ (v:=(1,l)) ⟨by simp,l.take 1,by show l=l.take 1++l.drop 1;rw [List.take_append_drop],?_,List.Perm.refl _⟩ (by simp;omega)
    · rintro ⟨i,L⟩ ⟨h0,S,h1,h2,h3⟩
      simp only at h0 h1 h2 h3
      subst h1
      refine bF (aF (aI (λh=>?_) λh=>?_))
      · have hx:=List.getElem?_eq_getElem (l:=l) (i:=i.toNat) (by omega)
        generalize l[i.toNat]'(by omega)=x at hx
        have hsl:S.length=i.toNat:=by rw [h3.length_eq,List.length_take];omega
        have ei:(i+1).toNat=i.toNat+1:=by omega
        have hne:∀ y∈S,y.dI≠x.dI:=by
          intro y hy e
          have hy:=h3.mem_iff.1 hy
          have e1:l=l.take i.toNat++x :: l.drop (i.toNat+1):=by rw [<- (drop_at hx).2,List.take_append_drop]
          rw [e1,List.map_append,List.map_cons] at hd
          exact (List.nodup_append.1 hd).2.2 _ (List.mem_map_of_mem hy) x.dI (by simp) e
        have fin:∀ S':List aN,S'.Perm (S++[x])->S'.Perm (l.take (i.toNat+1)):=λS' hp=>by
          rw [List.take_add_one,hx]
          exact hp.trans (List.Perm.append_right _ h3)
        rw [(drop_at hx).2]
        refine aU (λr=>∃ S',r=S'++l.drop (i.toNat+1)/\lK S'/\S'.Perm (S++[x])) (aU (λr=>∃ S',r=S'++l.drop (i.toNat+1)/\lK S'/\S'.Perm (S++[x])) ?_ λy hy=>aD hy) λy hy=>?_
        · have:=aJK (x:=x) (R:=l.drop (i.toNat+1)) (n:=n) (A:=S) (B:=[]) (f:=?f) ?_ ?_ (by omega) (by omega) (by simpa using h2) (by simpa using hne) (by simp)
          · rw [show ((S.length:Nat):Int)=i by omega] at this
            simpa using this
          · intro z
            refine fH (bF (aU (λb=>b=false) (aF (aI (λh=>absurd h (show ¬ (0:Int)>0 by decide)) λ_=>aD rfl)) λb hb=>?_))
            subst hb;exact bW (bJ (aD rfl))
          · intro A y T hA
            have i1:((A.length:Int)+1).toNat=A.length+1:=by omega
            have i2:((A.length:Int)+1-1).toNat=A.length:=by omega
            have g1:(A++y :: x :: T)[((A.length:Int)+1).toNat]?=some x:=by rw [i1];exact aMN A y x T
            have g2:(A++y :: x :: T)[((A.length:Int)+1-1).toNat]?=some y:=by rw [i2];exact aEN A y (x :: T)
            refine fH (bF (aU (λb=>b=true↔x.dI<y.dI) ?_ λb hb=>?_))
            · refine aF (aI (λ_=>dD (by omega) g1 (bE (dD (by omega) g2 (aU (λv=>v<0↔x.dI<y.dI) ?_ λv hv=>aF (aD ?_))))) λk=>?_)
              · exact x_eq (a:=x.dI) rfl (x_eq (a:=y.dI) rfl (aU1 _ _))
              · rw [decide_eq_true_eq];exact hv
              · exfalso;omega
            · refine fB (λk=>?_) λk=>bJ (aD ?_)
              · rw [if_pos (hb.1 k)]
                refine bE (bE (dD (by omega) g2 (dD (by omega) g1 (aF (dD (a:=y) (by omega) ?_ (aF (bE (cK ?_))))))))
                · rw [i1,i2,List.getElem?_set_ne (by omega)];exact aEN A y (x :: T)
                · rw [i1,i2,US,show ((A.length:Int)+1-1)=(A.length:Int) by omega]
              · rw [if_neg λq=>by rw [hb.2 q] at k;cases k]
        · obtain ⟨S',rfl,q1,q2⟩:=hy
          exact bE (cK ⟨⟨by simp only;omega,S',by simp only [ei],q1,by simp only [ei];exact fin S' q2⟩,by simp only;omega⟩)
      · refine bJ (aD ?_)
        rw [List.drop_eq_nil_of_le (by omega),List.append_nil]
        rw [List.take_of_length_le (by omega)] at h3
        exact ⟨h2,h3⟩
    · cases l with
      | nil=>exact List.Pairwise.nil
      | cons a r=>exact List.pairwise_singleton _ _
theorem F4:∀ {l:List aN} {a:Int},(∀ y∈l,y.dI≠a)->eP l a=0
  | [],_,_=>rfl
  | x :: r,a,h=>by
    show (if x.dI=a then x.bM else 0)+eP r a=0
    rw [if_neg (h x (List.mem_cons_self ..)),F4 λy hy=>h y (List.mem_cons_of_mem _ hy)];rfl
theorem NC:∀ {l:List aN} {y:aN},(l.map (·.dI)).Nodup->y∈l->eP l y.dI=y.bM
  | x :: r,y,hd,hy=>by
    rw [List.map_cons,List.nodup_cons] at hd
    show (if x.dI=y.dI then x.bM else 0)+eP r y.dI=y.bM
    rcases List.mem_cons.1 hy with rfl | hy
    · rw [if_pos rfl,F4 (a:=y.dI) λz hz e=>hd.1 (by rw [<- e];exact List.mem_map_of_mem hz),Int.add_zero]
    · rw [if_neg λ(e:x.dI=y.dI)=>hd.1 (by rw [e];exact List.mem_map_of_mem hy),NC hd.2 hy,Int.zero_add]
theorem T9 {l:List aN} (hd:(l.map (·.dI)).Nodup) (y:aN):(eP l y.dI=y.bM/\y.bM≠0)↔(y∈l/\y.bM≠0):=by
  constructor
  · rintro ⟨h1,h2⟩
    refine ⟨Classical.byContradiction λh3=>?_,h2⟩
    by_cases h4:∃ z∈l,z.dI=y.dI
    · obtain ⟨z,hz,e⟩:=h4
      have:=NC hd hz
      rw [e,h1] at this
      apply h3
      cases z;cases y
      simp only at e this
      subst e this;exact hz
    · exact h2 (by rw [<- h1];exact F4 λz hz e=>h4 ⟨z,hz,e⟩)
  · rintro ⟨h1,h2⟩;exact ⟨NC hd h1,h2⟩
theorem aMB {l:List aN} {i:Nat} {x:aN} (hx:l[i]?=some x) (a:Int):eP (l.take (i+1)) a=eP (l.take i) a+if x.dI=a then x.bM else 0:=by
  rw [List.take_add_one,hx]
  have:eP (l.take i++[x]) a=eP (l.take i) a+eP [x] a:=vV _ _ _
  show eP (l.take i++[x]) a=_
  rw [this];simp [eP,eD]
theorem r07 {l:List aN} {n:Nat} (hn:66<n) (hl:l.length<=19) (hd:(l.map (·.dI)).Nodup) :
    Ex (λr=>((∀ x∈l,iP x)->VA l r)/\((¬ ∀ x∈l,iP x)->r=([],1))) (rJ n l):=by
  unfold rJ PO
  simp only [WT.run,bS,wS,Option.bind_some]
  refine aU (λ(r:Unit⊕(List aN×Int))=>match r with | .inl _=>∀ x∈l,iP x | .inr r=>r=([],1)/\¬ ∀ x∈l,iP x)
    (fJ (λ(v:Int)=>0<=v/\v<=(l.length:Int)/\((∀ x∈l.drop v.toNat,iP x)->∀ x∈l,iP x)) (λ(v:Int)=>l.length-v.toNat) ?_ (v:=0) (by simp) (by simp;omega)) λr hr=>iZ (λu e=>?_) λb e=>?_
  · rintro i ⟨h0,h1,h2⟩
    refine aF (aI (λh=>?_) λh=>?_)
    · refine eT h0 h λx hx=>aU _ (LD x) λb hb=>aF (fB (λk=>bJ (bJ (aD ⟨rfl,λhh=>?_⟩))) λk=>bE (cK ⟨⟨by omega,by omega,λhh=>h2 λy hy=>?_⟩,by omega⟩))
      · have:=hb.2 (hh x (fE hx));rw [this] at k;cases k
      · rw [(drop_at hx).2] at hy
        rcases List.mem_cons.1 hy with rfl | hy
        · exact hb.1 (by simpa using k)
        · exact hh y (by rw [show (i+1).toNat=i.toNat+1 by omega];exact hy)
    · refine bJ (cK (h2 λx hx=>?_))
      rw [List.drop_eq_nil_of_le (by omega)] at hx;cases hx
  rotate_left
  · subst e;exact ⟨λq=>absurd q hr.2,λ_=>hr.1⟩
  subst e
  have hk:∀ x∈l,iP x:=hr
  refine aU (λ(r:List Int⊕(List aN×Int))=>match r with | .inl h=>h.length=17/\∀ a:Nat,a<17->h.getD a 0=eP l a | .inr r=>False)
    (fJ (λ(v:Int×List Int)=>0<=v.1/\v.1<=(l.length:Int)/\v.2.length=17/\∀ a:Nat,a<17->v.2.getD a 0=eP (l.take v.1.toNat) a) (λ(v:Int×List Int)=>l.length-v.1.toNat) ?_ (v:=(0,List.replicate 17 0)) ?_ (by simp;omega)) λr hr=>iZ (λh e=>?_) λb e=>?_
  · rintro ⟨i,hv⟩ ⟨h0,h1,h2,h4⟩
    simp only at h0 h1 h2 h4
    refine bF (aF (aI (λh=>?_) λh=>?_))
    · refine eT h0 h λx hx=>?_
      have hx:l[i.toNat]?=some x:=hx
      obtain ⟨g1,g2⟩:=hk x (fE hx)
      refine iR g1 (eT g1.1 (by rw [h2];exact g1.2) λc hc=>eT h0 h λx' hx'=>?_)
      have hx':l[i.toNat]?=some x':=hx'
      rw [hx] at hx';cases hx'
      have hc0:c=0:=by
        have e1:=h4 x.dI.toNat (by omega)
        rw [getD_at hc,show ((x.dI.toNat:Nat):Int)=x.dI by omega] at e1
        rw [e1]
        refine F4 λy hy e=>?_
        have e1:l=l.take i.toNat++x :: l.drop (i.toNat+1):=by rw [<- (drop_at hx).2,List.take_append_drop]
        rw [e1,List.map_append,List.map_cons] at hd
        exact (List.nodup_append.1 hd).2.2 _ (List.mem_map_of_mem hy) x.dI (by simp) e
      subst hc0
      have ha:jI 0 x.bM=(x.bM,0):=by rw [o8 ⟨by decide,g2,by rw [Int.zero_add];exact g2⟩,Int.zero_add]
      rw [ha]
      refine aF (aI (λk=>absurd rfl k) λ_=>eT h0 h λx' hx'=>?_)
      have hx':l[i.toNat]?=some x':=hx'
      rw [hx] at hx';cases hx'
      refine iR g1 (eT g1.1 (by rw [h2];exact g1.2) λc' hc'=>aF (bE (cK ⟨⟨by simp only;omega,by simp only;omega,by simp only [List.length_set];exact h2,?_⟩,by simp only;omega⟩)))
      intro a ha
      show (hv.set x.dI.toNat x.bM).getD a 0=eP (l.take (i+1).toNat) a
      rw [KG (by omega),show (i+1).toNat=i.toNat+1 by omega,aMB hx]
      have h5:=h4 a ha
      by_cases hA:x.dI.toNat=a
      · rw [if_pos hA,if_pos (by omega),<- h5,<- hA,getD_at hc,Int.zero_add]
      · rw [if_neg hA,if_neg (by omega),Int.add_zero];exact h5
    · refine bJ (cK ⟨h2,λa ha=>?_⟩)
      have h5:=h4 a ha
      rw [List.take_of_length_le (by omega)] at h5;exact h5
  · refine ⟨by simp,by simp,by simp,λa ha=>?_⟩
    show (List.replicate 17 (0:Int)).getD a 0=eP (l.take 0) a
    have:(List.replicate 17 (0:Int)).getD a 0=0:=by
      rw [List.getD_eq_getElem?_getD,List.getElem?_replicate];split <;> rfl
    rw [this];rfl
  rotate_left
  · subst e;exact hr.elim
  subst e
  obtain ⟨q1,q2⟩:=hr
  refine aU (λ(m:List aN)=>lK m/\∀ y,y∈m↔(0<=y.dI/\y.dI<17)/\h.getD y.dI.toNat 0=y.bM/\y.bM≠0)
    (fJ (λ(v:Int×List aN)=>0<=v.1/\v.1<=17/\(v.2.length:Int)<=v.1/\lK v.2/\∀ y,y∈v.2↔(0<=y.dI/\y.dI<v.1)/\h.getD y.dI.toNat 0=y.bM/\y.bM≠0) (λ(v:Int×List aN)=>17-v.1.toNat) ?_ (v:=(0,[])) ?_ (by simp;omega)) λm hm=>aD ⟨λ_=>⟨rfl,hm.1,λy=>?_⟩,λq=>absurd hk q⟩
  · rintro ⟨i,m⟩ ⟨h0,h1,h2,h3,h4⟩
    simp only at h0 h1 h2 h3 h4
    refine bF (aF (aI (λk=>?_) λk=>?_))
    · have k:i<17:=k
      refine aU (λ(m':List aN)=>(m'.length:Int)<=i+1/\lK m'/\∀ y,y∈m'↔(0<=y.dI/\y.dI<i+1)/\h.getD y.dI.toNat 0=y.bM/\y.bM≠0) ?_ λm' hm'=>bE (cK ⟨⟨by simp only;omega,by simp only;omega,hm'.1,hm'.2.1,hm'.2.2⟩,by simp only;omega⟩)
      refine iR ⟨h0,k⟩ (eT h0 (by rw [q1];exact k) λc hc=>?_)
      have hc:h[i.toNat]?=some c:=hc
      refine aF (aI (λk2=>iR ⟨h0,k⟩ (aF (iR (by show (m++[_]).length<=_;simp;omega) (aD ⟨by show ((m++[_]).length:Int)<=_;simp;omega,?_,λy=>?_⟩)))) λk2=>aD ⟨by show (m.length:Int)<=_;omega,h3,λy=>?_⟩)
      · refine List.pairwise_append.2 ⟨h3,List.pairwise_singleton _ _,λa ha b hb=>?_⟩
        rw [List.mem_singleton.1 hb];exact ((h4 a).1 ha).1.2
      · rw [List.mem_append,List.mem_singleton,h4 y]
        constructor
        · rintro (⟨g1,g2,g3⟩ | rfl)
          · exact ⟨by omega,g2,g3⟩
          · exact ⟨⟨h0,by simp only;omega⟩,getD_at hc,k2⟩
        · rintro ⟨g1,g2,g3⟩
          by_cases g:y.dI=i
          · right
            rw [g,getD_at hc] at g2
            cases y;simp only at g g2;rw [g,g2]
          · exact .inl ⟨by omega,g2,g3⟩
      · rw [h4 y]
        constructor
        · rintro ⟨g1,g2,g3⟩;exact ⟨by omega,g2,g3⟩
        · rintro ⟨g1,g2,g3⟩
          refine ⟨⟨g1.1,?_⟩,g2,g3⟩
          by_cases g:y.dI=i
          · rw [g,getD_at hc] at g2;exact absurd (g2 ▸ g3) k2
          · omega
    · have k:¬ i<17:=k
      refine bJ (aD ⟨h3,λy=>?_⟩)
      rw [h4 y,show i=17 by omega]
  · refine ⟨by simp,by simp,by simp,List.Pairwise.nil,λy=>⟨λq=>(nomatch q),λq=>by simp only at q;omega⟩⟩
  · rw [hm.2 y,<- T9 hd y]
    constructor
    · rintro ⟨g1,g2,g3⟩
      rw [q2 _ (by omega),show ((y.dI.toNat:Nat):Int)=y.dI by omega] at g2
      exact ⟨g2,g3⟩
    · intro g
      have hy:=((T9 hd y).1 g).1
      have g1:=(hk y hy).1
      refine ⟨g1,?_,g.2⟩
      rw [q2 _ (by omega),show ((y.dI.toNat:Nat):Int)=y.dI by omega];exact g.1
theorem Y4 {l:List aN} {n:Nat} (hn:66<n) (hl:l.length<=19) (hd:(l.map (·.dI)).Nodup):vU n l=rJ n l:=by
  obtain ⟨a,ea,ha1,ha2⟩:=IX hn hl hd
  obtain ⟨b,eb,hb1,hb2⟩:=r07 hn hl hd
  rw [ea,eb]
  by_cases k:∀ x∈l,iP x
  · obtain ⟨a1,a2,a3⟩:=ha1 k
    obtain ⟨b1,b2,b3⟩:=hb1 k
    have e:=U4 a2 b2 λy=>by rw [a3,b3]
    cases a;cases b
    simp only at a1 b1 e
    rw [e,a1,b1]
  · rw [ha2 k,hb2 k]
theorem aMG {m:List aN} {n:Nat} (hn:66<n) (hl:m.length<=40):KH n m=some (gM (m.map (·.bM))):=by
  refine fH ?_
  unfold KH aFL
  simp only [WT.run,bS]
  refine aU (λ(r:List Int)=>r=m.map (·.bM))
    (fJ (λ(v:Int×List Int)=>0<=v.1/\v.1<=(m.length:Int)/\v.2=(m.take v.1.toNat).map (·.bM)) (λv=>m.length-v.1.toNat) ?_ (v:=(0,[])) (by simp) (by simp;omega)) ?_
  · rintro ⟨i,a⟩ ⟨h0,h1,h2⟩
    simp only at h0 h1 h2
    subst h2
    refine bF (aF (aI (λh=>?_) λh=>?_))
    · refine eT h0 h λx hx=>?_
      have e:(i+1).toNat=i.toNat+1:=by omega
      simp only [take_at (f:=aN.bM) hx]
      refine aF (dM (bE (cK ⟨⟨by simp only;omega,by simp only;omega,?_⟩,by simp only;omega⟩)))
      simp only [e]
    · refine bJ (aD ?_)
      simp only [List.take_of_length_le (show m.length<=i.toNat by omega)]
  · rintro _ rfl
    exact x_eq (EQ (by simp;omega) (by simp;omega)) (aD rfl)
def AQ (m:List aN):Prop:=(1<=m.length/\m.length<=12)/\(gM (m.map (·.bM))).1=0/\(gM (m.map (·.bM))).2=0
theorem aQ2 {x:aN} (h:iP x) (h2:x.bM≠0):JS x=some false:=by
  refine fH ?_
  unfold JS aGN
  simp only [WT.run,bS,aAH,aDH,Option.bind_some]
  rw [decide_eq_true h.1,decide_eq_true h.2]
  exact aU (λb=>b=false) (aF (bW (aF (aI (λk=>absurd k h2) λ_=>aF (aD rfl))))) λb hb=>aD hb
theorem aQD {m:List aN} {n:Nat} (hn:66<n) (hl:m.length<=40) (hk:∀ x∈m,iP x/\x.bM≠0):Ex (λr=>r=true↔AQ m) (J9 n m):=by
  unfold J9 VQ
  simp only [WT.run,bS]
  refine aU (λb=>b=true↔¬ (1<=m.length/\m.length<=12)) (aF (aI (λk=>aD ⟨λ_=>by omega,λ_=>rfl⟩) λk=>aF (aD ?_))) λb hb=>fB (λk=>aD ⟨(λq=>nomatch q),λq=>absurd q.1 (hb.1 k)⟩) λk=>?_
  · rw [decide_eq_true_eq];omega
  have hlen:1<=m.length/\m.length<=12:=Classical.not_not.1 λq=>by rw [hb.2 q] at k;cases k
  refine x_eq (aMG hn hl) (aU (λz=>z=true↔AQ m) (aU (λb=>b=false) (aU (λ(v:Int)=>v=-1) (aU (λ(r:Unit⊕Int)=>r=.inl ()) ?_ λr hr=>by subst hr;exact cZ (aD rfl)) λv hv=>?_) λb hb=>?_) λz hz=>aD hz)
  · refine fJ (λ(v:Int)=>0<=v/\v<=(m.length:Int)) (λ(v:Int)=>m.length-v.toNat) ?_ (v:=0) (by simp) (by simp;omega)
    rintro i ⟨h0,h1⟩
    refine aF (aI (λh=>eT h0 h λx hx=>x_eq (aQ2 (hk x (fE hx)).1 (hk x (fE hx)).2) (bW (bE (cK ⟨⟨by omega,by omega⟩,by omega⟩)))) λh=>bJ (cK rfl))
  · subst hv;exact aF (aD (by decide))
  · subst hb
    refine aF (dB (aF (aI (λq=>aF (aD ?_)) λq=>aD ⟨(λz=>nomatch z),λz=>absurd z.2.1 q⟩)))
    rw [decide_eq_true_eq];exact ⟨λz=>⟨hlen,q,z⟩,λz=>z.2.2⟩
theorem aOJ {m:List aN} {n:Nat} (hn:66<n) (hl:m.length<=40) (hk:∀ x∈m,iP x/\x.bM≠0):Ex (λr=>r=true↔AQ m) (A9 n m):=by
  unfold A9 NL
  simp only [WT.run,bS]
  refine aU (λ(r:List Int⊕Bool)=>r=.inl (m.map (·.bM)))
    (fJ (λ(v:Int×List Int)=>0<=v.1/\v.1<=(m.length:Int)/\v.2=(m.take v.1.toNat).map (·.bM)) (λv=>m.length-v.1.toNat) ?_ (v:=(0,[])) (by simp) (by simp;omega)) λr hr=>?_
  · rintro ⟨i,a⟩ ⟨h0,h1,h2⟩
    simp only at h0 h1 h2
    subst h2
    refine bF (aF (aI (λh=>?_) λh=>?_))
    · have hx:=List.getElem?_eq_getElem (l:=m) (i:=i.toNat) (by omega)
      generalize m[i.toNat]'(by omega)=x at hx
      have e:(i+1).toNat=i.toNat+1:=by omega
      have hkx:=hk x (fE hx)
      refine aU (λb=>b=false) (dD h0 hx (aU _ (LD x) λb hb=>?_)) λb hb=>?_
      · rw [hb.2 hkx.1]
        exact aF (bW (dD h0 hx (aF (aD (decide_eq_false hkx.2)))))
      · subst hb
        refine bW (dD h0 hx ?_)
        simp only [take_at (f:=aN.bM) hx]
        refine aF (dM (bE (cK ⟨⟨by simp only;omega,by simp only;omega,?_⟩,by simp only;omega⟩)))
        simp only [e]
    · refine bJ (cK ?_)
      show _=_
      rw [List.take_of_length_le (by omega)]
  · subst hr
    refine cZ (x_eq (tF (by simp;omega) (by simp;omega)) (aU (λz=>z=true↔AQ m) ?_ λz hz=>aD hz))
    refine aF (aI (λk1=>aF (aI (λk2=>aF (aI (λk3=>aF (aD ?_)) λk3=>aD ⟨(λz=>nomatch z),λz=>absurd z.2.2 k3⟩)) λk2=>aD ⟨(λz=>nomatch z),λz=>absurd z.1.2 (by omega)⟩)) λk1=>aD ⟨(λz=>nomatch z),λz=>absurd z.1.1 (by omega)⟩)
    rw [decide_eq_true_eq];exact ⟨λz=>⟨⟨by omega,by omega⟩,z,k3⟩,λz=>z.2.1⟩
def lW:List Int->List aN->Option (List Int)
  | b,[]=>some b
  | b,x :: r=>if (jI (b.getD x.dI.toNat 0) x.bM).2≠0 then none else lW (b.set x.dI.toNat (jI (b.getD x.dI.toNat 0) x.bM).1) r
def vG (gH:List Int) (m:List aN):List Int×Int:=match lW gH m with | some b=>(b,0) | none=>(gH,2)
theorem aFS:∀ {m:List aN} {b b':List Int},lW b m=some b'->b'.length=b.length
  | [],b,b',h=>by cases h;rfl
  | x :: r,b,b',h=>by
    unfold lW at h
    split at h
    · cases h
    · rw [aFS h,List.length_set]
end Go.Pv
