import Derived.Test.YtidcjedeacampaaGreatPG80
set_option linter.unusedVariables false
set_option linter.unusedSimpArgs false
namespace Go.Pv
open Go.Proofs
set_option maxRecDepth 1000000
set_option maxHeartbeats 1000000
theorem aAK (a:Int):GR a=some (decide (0<=a/\a<17)):=by
  unfold GR aAH
  simp only [WT.run,bT]
  by_cases h1:a>=0
  · by_cases h2:a<17
    · exact bZ (a:=true) (fD h1 (eY (fD h2 rfl))) (by simp;omega)
    · exact bZ (a:=false) (fD h1 (eY (cK h2 rfl))) (by simp;omega)
  · exact bZ (a:=false) (cK h1 (bS rfl)) (by simp;omega)
theorem aED (a:Int):EK a=some (decide (bN a)):=by
  unfold EK YK
  simp only [WT.run,bT]
  by_cases h1:a>=-288230376151711744
  · by_cases h2:a<=288230376151711744
    · exact bZ (a:=true) (fD h1 (eY (fD h2 rfl))) (congrArg some (decide_eq_true (p:=bN a) ⟨h1,h2⟩).symm)
    · exact bZ (a:=false) (fD h1 (eY (cK h2 rfl))) (congrArg some (decide_eq_false (p:=bN a) λq=>h2 q.2).symm)
  · exact bZ (a:=false) (cK h1 (bS rfl)) (congrArg some (decide_eq_false (p:=bN a) λq=>h1 q.1).symm)
theorem aI8 (x:aN):Ex (λr=>r=true↔¬ iW x) (K6 x):=by
  unfold K6 aB8 iW
  simp only [WT.run,bT,aAK,aED,Option.bind_some]
  refine aW (λb=>b=true↔¬ ((0<=x.dL/\x.dL<17)/\bN x.bM)) ?_ λb hb=>aG hb
  by_cases k1:0<=x.dL/\x.dL<17
  · rw [decide_eq_true k1]
    refine aD (bU (aD (aG ?_)))
    by_cases k2:bN x.bM
    · rw [decide_eq_true k2];exact ⟨(λq=>nomatch q),λq=>absurd ⟨k1,k2⟩ q⟩
    · rw [decide_eq_false k2];exact ⟨λ_ q=>k2 q.2,λ_=>rfl⟩
  · rw [decide_eq_false k1];exact aD (dF (aG ⟨λ_ q=>k1 q.1,λ_=>rfl⟩))
def WQ (l:List aN) (r:List aN×Int):Prop:=r.2=0/\mR r.1/\∀ y,y∈r.1↔y∈l/\y.bM≠0
theorem IU {l:List aN} {n:Nat} (hn:66<n) (hl:l.length<=19) (hd:(l.map (·.dL)).Nodup) :
    Ex (λr=>((∀ x∈l,iW x)->WQ l r)/\((¬ ∀ x∈l,iW x)->r=([],1))) (xV n l):=by
  obtain ⟨n',hn'⟩:∃ m,n=m+1:=⟨n-1,by omega⟩
  unfold xV aCX
  simp only [WT.run,bT]
  refine aW (λb=>b=true↔¬ ∀ x∈l,iW x) (aW (λ(v:Int)=>v>=0↔¬ ∀ x∈l,iW x) ?_ λv hv=>aD (aG (by simpa using hv))) λb hb=>?_
  · refine aW (λ(r:Unit⊕Int)=>match r with | .inl _=>∀ x∈l,iW x | .inr v=>v>=0/\¬ ∀ x∈l,iW x)
      (gB (λ(v:Int)=>0<=v/\v<=(l.length:Int)/\((∀ x∈l.drop v.toNat,iW x)->∀ x∈l,iW x)) (λ(v:Int)=>l.length-v.toNat) ?_ (v:=0) (by simp) (by simp;omega)) λr hr=>jQ (λa e=>?_) λb e=>?_
    · rintro i ⟨h0,h1,h2⟩
      refine aD (aQ (λh=>?_) λh=>?_)
      · refine eZ h0 h λx hx=>aW _ (aI8 x) λb hb=>fJ (λk=>bL (bL (aG ⟨h0,λhh=>hb.1 k (hh x (fO hx))⟩))) λk=>bG (dD ⟨⟨by omega,by omega,λhh=>h2 λy hy=>?_⟩,by omega⟩)
        have e:(i+1).toNat=i.toNat+1:=by omega
        rw [e] at hh
        rw [(drop_at hx).2] at hy
        rcases List.mem_cons.1 hy with rfl | hy
        · exact Classical.not_not.1 λq=>by rw [hb.2 q] at k;cases k
        · exact hh y hy
      · refine bL (dD (h2 λx hx=>?_))
        rw [List.drop_eq_nil_of_le (by omega)] at hx;cases hx
    · subst e;exact aG ⟨λk=>absurd k (by decide),λk=>absurd hr k⟩
    · subst e;exact ⟨λ_=>hr.2,λ_=>hr.1⟩
  refine fJ (λk=>aG ⟨λq=>absurd q (hb.1 k),λ_=>rfl⟩) λk=>dO ?_
  have hk:∀ x∈l,iW x:=Classical.not_not.1 λq=>by rw [hb.2 q] at k;cases k
  refine aW (λ(r:List aN)=>mR r/\r.Perm l) (aW (λ(r:List aN)=>mR r/\r.Perm l) (aW (λ(r:List aN)=>mR r/\r.Perm l) (aW (λ_=>True) ?_ λ_ _=>aW (λ(r:List aN)=>mR r/\r.Perm l) (aW (λ(r:List aN)=>mR r/\r.Perm l) ?_ λy hy=>aG hy) λy hy=>jX hy.2.length_eq (aW (λ_=>True) ?_ λ_ _=>aG hy)) λy hy=>aG hy) λy hy=>aG hy) λs hs=>?_
  · exact gB (λ_=>True) (λ_=>0) (λv _=>aD (jX (decide_eq_false (by omega)) (bL (aG trivial)))) trivial (by omega)
  rotate_left
  · exact gB (λ_=>True) (λ_=>0) (λv _=>aD (jX (decide_eq_false (by omega)) (bL (aG trivial)))) trivial (by omega)
  · have hsl:=hs.2.length_eq
    refine jX hsl ?_
    refine aW (λ(r:List aN⊕(List aN×Int))=>r=.inl s) (gB (λ(v:Int×List aN)=>0<=v.1/\v.1<=(s.length:Int)/\v.2=s.take v.1.toNat) (λv=>s.length-v.1.toNat) ?_ (v:=(0,[])) (by simp) (by simp;omega)) λr hr=>?_
    · rintro ⟨i,acc⟩ ⟨h0,h1,h2⟩
      simp only at h0 h1 h2
      subst h2
      refine bK (aD (aQ (λh=>?_) λh=>?_))
      · have hx:=List.getElem?_eq_getElem (l:=s) (i:=i.toNat) (by omega)
        generalize s[i.toNat]'(by omega)=x at hx
        have ei:(i+1).toNat=i.toNat+1:=by omega
        have hal:(s.take i.toNat).length=i.toNat:=by rw [List.length_take];omega
        refine aW (λr=>r=.inl (s.take (i.toNat+1))) (dB h0 hx (lI (by rw [hal];omega) ?_)) λr hr=>?_
        · refine aW (λb=>b=false) ?_ λb hb=>?_
          · refine aD (aQ (λq=>?_) λ_=>aG rfl)
            rw [hal] at q
            have hy:=List.getElem?_eq_getElem (l:=s) (i:=i.toNat-1) (by omega)
            generalize hyy:s[i.toNat-1]'(by omega)=y at hy
            have hlt:y.dL<x.dL:=by
              have e1:s=s.take i.toNat++x :: s.drop (i.toNat+1):=by rw [<- (drop_at hx).2,List.take_append_drop]
              have hss:=hs.1
              unfold mR at hss
              rw [e1,List.pairwise_append] at hss
              refine hss.2.2 y ?_ x (by simp)
              refine List.mem_of_getElem? (i:=i.toNat-1) ?_
              rw [List.getElem?_take_of_lt (by omega)];exact hy
            rw [hal]
            refine dB (a:=y) (by omega) ?_ (aD (aG (decide_eq_false (by omega))))
            rw [List.getElem?_take_of_lt (by omega),show ((i.toNat:Nat):Int)-1=i-1 by omega,show (i-1).toNat=i.toNat-1 by omega];exact hy
          · subst hb
            refine bU (aD (dO (dD ?_)))
            have:=take_at (f:=id) hx
            simp only [List.map_id,id] at this
            rw [this]
        · subst hr
          exact dA (bG (dD ⟨⟨by simp only;omega,by simp only;omega,by simp only [ei]⟩,by simp only;omega⟩))
      · refine bL (dD ?_)
        show _=_
        rw [List.take_of_length_le (by omega)]
    · subst hr
      refine dA ?_
      refine aW (λ(a:Nat×Nat×List aN)=>a.1+a.2.1<=a.2.2.length/\(a.2.2.drop a.1).take a.2.1=s.filter (λz=>decide (z.bM≠0))) ?_ λa ha=>bK (bK (jX ha.1 (aG ⟨λ_=>⟨rfl,?_,?_⟩,λq=>absurd hk q⟩)))
      · refine aW (λ(v:Int)=>(v=-1/\∀ z∈s,z.bM≠0)\/(0<=v/\v<(s.length:Int)/\(∀ z∈s.take v.toNat,z.bM≠0)/\∃ z,s[v.toNat]?=some z/\z.bM=0)) ?_ λv hv=>?_
        · refine aW (λ(r:Unit⊕Int)=>match r with | .inl _=>∀ z∈s,z.bM≠0 | .inr v=>0<=v/\v<(s.length:Int)/\(∀ z∈s.take v.toNat,z.bM≠0)/\∃ z,s[v.toNat]?=some z/\z.bM=0)
            (gB (λ(v:Int)=>0<=v/\v<=(s.length:Int)/\∀ z∈s.take v.toNat,z.bM≠0) (λ(v:Int)=>s.length-v.toNat) ?_ (v:=0) (by simp) (by simp;omega)) λr hr=>jQ (λa e=>?_) λb e=>?_
          · rintro i ⟨h0,h1,h2⟩
            refine aD (aQ (λh=>eZ h0 h λx hx=>x_eq (a:=decide (x.bM=0)) rfl (aQ (λk=>bL (bL (aG ⟨h0,h,h2,x,hx,k⟩))) λk=>bG (dD ⟨⟨by omega,by omega,λz hz=>?_⟩,by omega⟩))) λh=>bL (dD λz hz=>?_))
            · rw [show (i+1).toNat=i.toNat+1 by omega,List.take_add_one,hx] at hz
              rcases List.mem_append.1 hz with hz | hz
              · exact h2 z hz
              · have:z=x:=by simpa using hz
                rw [this];exact k
            · rw [List.take_of_length_le (by omega)] at h2;exact h2 z hz
          · subst e;exact aG (.inl ⟨rfl,hr⟩)
          · subst e;exact .inr hr
        · refine aD (aQ (λk=>aG ⟨by simp,?_⟩) λk=>?_)
          · rcases hv with ⟨_,hv⟩ | ⟨q,_⟩
            · simp only [List.drop_zero,List.take_length]
              exact (List.filter_eq_self.2 λz hz=>decide_eq_true (hv z hz)).symm
            · exfalso;omega
          · rcases hv with ⟨q,_⟩ | ⟨v0,v1,v2,z0,v3,v4⟩
            · exact absurd q k
            refine bG (aW (λ(r:Int×List aN)=>0<=r.1/\r.1<(r.2.length:Int)/\r.2.length=s.length/\r.2.take r.1.toNat=s.filter (λz=>decide (z.bM≠0)))
              (gB (λ(u:Int×Int×List aN)=>0<=u.1/\u.1<u.2.1/\u.2.1<=(s.length:Int)/\u.2.2.length=s.length/\u.2.2.take u.1.toNat=(s.take u.2.1.toNat).filter (λz=>decide (z.bM≠0))/\u.2.2.drop u.2.1.toNat=s.drop u.2.1.toNat) (λu=>s.length-u.2.1.toNat) ?_ (v:=(v,v+1,s)) ⟨v0,by simp only;omega,by simp only;omega,rfl,?_,rfl⟩ (by simp only;omega)) λr hr=>bK (jX ⟨hr.1,hr.2.1⟩ (aD (jX ⟨hr.1,by omega⟩ (aG ⟨?_,?_⟩)))))
            · rintro ⟨w,j,L⟩ ⟨h0,h1,h2,h3,h4,h5⟩
              simp only at h0 h1 h2 h3 h4 h5
              refine bK (bK (aD (aQ (λh=>?_) λh=>?_)))
              · have h:j<(L.length:Int):=h
                have hx:=List.getElem?_eq_getElem (l:=s) (i:=j.toNat) (by omega)
                generalize s[j.toNat]'(by omega)=x at hx
                have hxL:L[j.toNat]?=some x:=by
                  have e1:(L.drop j.toNat)[0]?=(s.drop j.toNat)[0]?:=by rw [h5]
                  rw [List.getElem?_drop,List.getElem?_drop,Nat.add_zero] at e1
                  rw [e1];exact hx
                have ej:(j+1).toNat=j.toNat+1:=by omega
                have ew:(w+1).toNat=w.toNat+1:=by omega
                have d5:L.drop (j.toNat+1)=s.drop (j.toNat+1):=by
                  have:=congrArg (List.drop 1) h5
                  rwa [List.drop_drop,List.drop_drop] at this
                have f5:(s.take (j.toNat+1)).filter (λz=>decide (z.bM≠0))=(s.take j.toNat).filter (λz=>decide (z.bM≠0))++[x].filter (λz=>decide (z.bM≠0)):=by
                  rw [List.take_add_one,hx,List.filter_append];rfl
                refine aW (λ(r:Int×List aN)=>0<=r.1/\r.1<j+1/\r.2.length=s.length/\r.2.take r.1.toNat=(s.take (j.toNat+1)).filter (λz=>decide (z.bM≠0))/\r.2.drop (j.toNat+1)=s.drop (j.toNat+1)) ?_ λr hr=>bK (lI (by have:=hr.2.1;have:=hr.1;first | omega | (simp only;omega)) (dD ⟨⟨hr.1,hr.2.1,by simp only;omega,hr.2.2.1,by simp only [ej];exact hr.2.2.2.1,by simp only [ej];exact hr.2.2.2.2⟩,by simp only;omega⟩))
                refine dB (show 0<=j by omega) hxL (x_eq (a:=decide (x.bM=0)) rfl (aD ?_))
                by_cases q:x.bM=0
                · rw [decide_eq_true q]
                  refine bU (aG ⟨h0,by simp only;omega,h3,?_,d5⟩)
                  rw [f5,h4];simp [q]
                · rw [decide_eq_false q]
                  have hwL:=List.getElem?_eq_getElem (l:=L) (i:=w.toNat) (by omega)
                  refine dF (dB h0 hwL (aD (bG (aG ⟨by simp only;omega,by simp only;omega,by simp only [List.length_set];exact h3,?_,?_⟩))))
                  · simp only [ew]
                    rw [f5,List.take_add_one,List.getElem?_set_self (by omega),List.take_set_of_le (by omega),h4];simp [q]
                  · simp only
                    rw [List.drop_set_of_lt (by omega)];exact d5
              · have h:¬ j<(L.length:Int):=h
                refine bL (aG ⟨h0,by simp only;omega,h3,?_⟩)
                simp only
                rw [h4,List.take_of_length_le (by omega)]
            · simp only
              rw [show (v+1).toNat=v.toNat+1 by omega,List.take_add_one,v3,List.filter_append]
              have e1:(s.take v.toNat).filter (λz=>decide (z.bM≠0))=s.take v.toNat:=List.filter_eq_self.2 λz hz=>decide_eq_true (v2 z hz)
              rw [e1];simp [v4]
            · simp;omega
            · simp only [Nat.zero_add,Nat.sub_zero,List.drop_zero,List.take_take,Nat.min_self];exact hr.2.2.2
      · simp only [ha.2]
        exact List.Pairwise.filter _ hs.1
      · intro y
        simp only [ha.2]
        rw [List.mem_filter,hs.2.mem_iff,decide_eq_true_eq]
  · refine gB (λ(v:Int×List aN)=>1<=v.1/\∃ S,v.2=S++l.drop v.1.toNat/\mR S/\S.Perm (l.take v.1.toNat)) (λv=>l.length-v.1.toNat) ?_ (v:=(1,l)) ⟨by simp,l.take 1,by show l=l.take 1++l.drop 1;rw [List.take_append_drop],?_,List.Perm.refl _⟩ (by simp;omega)
    · rintro ⟨i,L⟩ ⟨h0,S,h1,h2,h3⟩
      simp only at h0 h1 h2 h3
      subst h1
      refine bK (aD (aQ (λh=>?_) λh=>?_))
      · have hx:=List.getElem?_eq_getElem (l:=l) (i:=i.toNat) (by omega)
        generalize l[i.toNat]'(by omega)=x at hx
        have hsl:S.length=i.toNat:=by rw [h3.length_eq,List.length_take];omega
        have ei:(i+1).toNat=i.toNat+1:=by omega
        have hne:∀ y∈S,y.dL≠x.dL:=by
          intro y hy e
          have hy:=h3.mem_iff.1 hy
          have e1:l=l.take i.toNat++x :: l.drop (i.toNat+1):=by rw [<- (drop_at hx).2,List.take_append_drop]
          rw [e1,List.map_append,List.map_cons] at hd
          exact (List.nodup_append.1 hd).2.2 _ (List.mem_map_of_mem hy) x.dL (by simp) e
        have fin:∀ S':List aN,S'.Perm (S++[x])->S'.Perm (l.take (i.toNat+1)):=λS' hp=>by
          rw [List.take_add_one,hx]
          exact hp.trans (List.Perm.append_right _ h3)
        rw [(drop_at hx).2]
        refine aW (λr=>∃ S',r=S'++l.drop (i.toNat+1)/\mR S'/\S'.Perm (S++[x])) (aW (λr=>∃ S',r=S'++l.drop (i.toNat+1)/\mR S'/\S'.Perm (S++[x])) ?_ λy hy=>aG hy) λy hy=>?_
        · have:=aUL (x:=x) (R:=l.drop (i.toNat+1)) (n:=n) (A:=S) (B:=[]) (f:=?f) ?_ ?_ (by omega) (by omega) (by simpa using h2) (by simpa using hne) (by simp)
          · rw [show ((S.length:Nat):Int)=i by omega] at this
            simpa using this
          · intro z
            refine gF (bK (aW (λb=>b=false) (aD (aQ (λh=>absurd h (show ¬ (0:Int)>0 by decide)) λ_=>aG rfl)) λb hb=>?_))
            subst hb;exact bU (bL (aG rfl))
          · intro A y T hA
            have i1:((A.length:Int)+1).toNat=A.length+1:=by omega
            have i2:((A.length:Int)+1-1).toNat=A.length:=by omega
            have g1:(A++y :: x :: T)[((A.length:Int)+1).toNat]?=some x:=by rw [i1];exact aSY A y x T
            have g2:(A++y :: x :: T)[((A.length:Int)+1-1).toNat]?=some y:=by rw [i2];exact aCJ A y (x :: T)
            refine gF (bK (aW (λb=>b=true↔x.dL<y.dL) ?_ λb hb=>?_))
            · refine aD (aQ (λ_=>dB (by omega) g1 (bG (dB (by omega) g2 (aW (λv=>v<0↔x.dL<y.dL) ?_ λv hv=>aD (aG ?_))))) λk=>?_)
              · exact x_eq (a:=x.dL) rfl (x_eq (a:=y.dL) rfl (aIJ _ _))
              · rw [decide_eq_true_eq];exact hv
              · exfalso;omega
            · refine fJ (λk=>?_) λk=>bL (aG ?_)
              · rw [if_pos (hb.1 k)]
                refine bG (bG (dB (by omega) g2 (dB (by omega) g1 (aD (dB (a:=y) (by omega) ?_ (aD (bG (dD ?_))))))))
                · rw [i1,i2,List.getElem?_set_ne (by omega)];exact aCJ A y (x :: T)
                · rw [i1,i2,YZ,show ((A.length:Int)+1-1)=(A.length:Int) by omega]
              · rw [if_neg λq=>by rw [hb.2 q] at k;cases k]
        · obtain ⟨S',rfl,q1,q2⟩:=hy
          exact bG (dD ⟨⟨by simp only;omega,S',by simp only [ei],q1,by simp only [ei];exact fin S' q2⟩,by simp only;omega⟩)
      · refine bL (aG ?_)
        rw [List.drop_eq_nil_of_le (by omega),List.append_nil]
        rw [List.take_of_length_le (by omega)] at h3
        exact ⟨h2,h3⟩
    · cases l with
      | nil=>exact List.Pairwise.nil
      | cons a r=>exact List.pairwise_singleton _ _
theorem JE:∀ {l:List aN} {a:Int},(∀ y∈l,y.dL≠a)->eU l a=0
  | [],_,_=>rfl
  | x :: r,a,h=>by
    show (if x.dL=a then x.bM else 0)+eU r a=0
    rw [if_neg (h x (List.mem_cons_self ..)),JE λy hy=>h y (List.mem_cons_of_mem _ hy)];rfl
theorem OF:∀ {l:List aN} {y:aN},(l.map (·.dL)).Nodup->y∈l->eU l y.dL=y.bM
  | x :: r,y,hd,hy=>by
    rw [List.map_cons,List.nodup_cons] at hd
    show (if x.dL=y.dL then x.bM else 0)+eU r y.dL=y.bM
    rcases List.mem_cons.1 hy with rfl | hy
    · rw [if_pos rfl,JE (a:=y.dL) λz hz e=>hd.1 (by rw [<- e];exact List.mem_map_of_mem hz),Int.add_zero]
    · rw [if_neg λ(e:x.dL=y.dL)=>hd.1 (by rw [e];exact List.mem_map_of_mem hy),OF hd.2 hy,Int.zero_add]
theorem aDS {l:List aN} (hd:(l.map (·.dL)).Nodup) (y:aN):(eU l y.dL=y.bM/\y.bM≠0)↔(y∈l/\y.bM≠0):=by
  constructor
  · rintro ⟨h1,h2⟩
    refine ⟨Classical.byContradiction λh3=>?_,h2⟩
    by_cases h4:∃ z∈l,z.dL=y.dL
    · obtain ⟨z,hz,e⟩:=h4
      have:=OF hd hz
      rw [e,h1] at this
      apply h3
      cases z;cases y
      simp only at e this
      subst e this;exact hz
    · exact h2 (by rw [<- h1];exact JE λz hz e=>h4 ⟨z,hz,e⟩)
  · rintro ⟨h1,h2⟩;exact ⟨OF hd h1,h2⟩
theorem aIP {l:List aN} {i:Nat} {x:aN} (hx:l[i]?=some x) (a:Int):eU (l.take (i+1)) a=eU (l.take i) a+if x.dL=a then x.bM else 0:=by
  rw [List.take_add_one,hx]
  have:eU (l.take i++[x]) a=eU (l.take i) a+eU [x] a:=yN _ _ _
  show eU (l.take i++[x]) a=_
  rw [this];simp [eU,eD]
theorem r07 {l:List aN} {n:Nat} (hn:66<n) (hl:l.length<=19) (hd:(l.map (·.dL)).Nodup) :
    Ex (λr=>((∀ x∈l,iW x)->WQ l r)/\((¬ ∀ x∈l,iW x)->r=([],1))) (tK n l):=by
  unfold tK OL
  simp only [WT.run,bT,wH,Option.bind_some]
  refine aW (λ(r:Unit⊕(List aN×Int))=>match r with | .inl _=>∀ x∈l,iW x | .inr r=>r=([],1)/\¬ ∀ x∈l,iW x)
    (gB (λ(v:Int)=>0<=v/\v<=(l.length:Int)/\((∀ x∈l.drop v.toNat,iW x)->∀ x∈l,iW x)) (λ(v:Int)=>l.length-v.toNat) ?_ (v:=0) (by simp) (by simp;omega)) λr hr=>jQ (λu e=>?_) λb e=>?_
  · rintro i ⟨h0,h1,h2⟩
    refine aD (aQ (λh=>?_) λh=>?_)
    · refine eZ h0 h λx hx=>aW _ (L4 x) λb hb=>aD (fJ (λk=>bL (bL (aG ⟨rfl,λhh=>?_⟩))) λk=>bG (dD ⟨⟨by omega,by omega,λhh=>h2 λy hy=>?_⟩,by omega⟩))
      · have:=hb.2 (hh x (fO hx));rw [this] at k;cases k
      · rw [(drop_at hx).2] at hy
        rcases List.mem_cons.1 hy with rfl | hy
        · exact hb.1 (by simpa using k)
        · exact hh y (by rw [show (i+1).toNat=i.toNat+1 by omega];exact hy)
    · refine bL (dD (h2 λx hx=>?_))
      rw [List.drop_eq_nil_of_le (by omega)] at hx;cases hx
  rotate_left
  · subst e;exact ⟨λq=>absurd q hr.2,λ_=>hr.1⟩
  subst e
  have hk:∀ x∈l,iW x:=hr
  refine aW (λ(r:List Int⊕(List aN×Int))=>match r with | .inl h=>h.length=17/\∀ a:Nat,a<17->h.getD a 0=eU l a | .inr r=>False)
    (gB (λ(v:Int×List Int)=>0<=v.1/\v.1<=(l.length:Int)/\v.2.length=17/\∀ a:Nat,a<17->v.2.getD a 0=eU (l.take v.1.toNat) a) (λ(v:Int×List Int)=>l.length-v.1.toNat) ?_ (v:=(0,List.replicate 17 0)) ?_ (by simp;omega)) λr hr=>jQ (λh e=>?_) λb e=>?_
  · rintro ⟨i,hv⟩ ⟨h0,h1,h2,h4⟩
    simp only at h0 h1 h2 h4
    refine bK (aD (aQ (λh=>?_) λh=>?_))
    · refine eZ h0 h λx hx=>?_
      have hx:l[i.toNat]?=some x:=hx
      obtain ⟨g1,g2⟩:=hk x (fO hx)
      refine jX g1 (eZ g1.1 (by rw [h2];exact g1.2) λc hc=>eZ h0 h λx' hx'=>?_)
      have hx':l[i.toNat]?=some x':=hx'
      rw [hx] at hx';cases hx'
      have hc0:c=0:=by
        have e1:=h4 x.dL.toNat (by omega)
        rw [getD_at hc,show ((x.dL.toNat:Nat):Int)=x.dL by omega] at e1
        rw [e1]
        refine JE λy hy e=>?_
        have e1:l=l.take i.toNat++x :: l.drop (i.toNat+1):=by rw [<- (drop_at hx).2,List.take_append_drop]
        rw [e1,List.map_append,List.map_cons] at hd
        exact (List.nodup_append.1 hd).2.2 _ (List.mem_map_of_mem hy) x.dL (by simp) e
      subst hc0
      have ha:jS 0 x.bM=(x.bM,0):=by rw [pZ ⟨by decide,g2,by rw [Int.zero_add];exact g2⟩,Int.zero_add]
      rw [ha]
      refine aD (aQ (λk=>absurd rfl k) λ_=>eZ h0 h λx' hx'=>?_)
      have hx':l[i.toNat]?=some x':=hx'
      rw [hx] at hx';cases hx'
      refine jX g1 (eZ g1.1 (by rw [h2];exact g1.2) λc' hc'=>aD (bG (dD ⟨⟨by simp only;omega,by simp only;omega,by simp only [List.length_set];exact h2,?_⟩,by simp only;omega⟩)))
      intro a ha
      show (hv.set x.dL.toNat x.bM).getD a 0=eU (l.take (i+1).toNat) a
      rw [yG (by omega),show (i+1).toNat=i.toNat+1 by omega,aIP hx]
      have h5:=h4 a ha
      by_cases hA:x.dL.toNat=a
      · rw [if_pos hA,if_pos (by omega),<- h5,<- hA,getD_at hc,Int.zero_add]
      · rw [if_neg hA,if_neg (by omega),Int.add_zero];exact h5
    · refine bL (dD ⟨h2,λa ha=>?_⟩)
      have h5:=h4 a ha
      rw [List.take_of_length_le (by omega)] at h5;exact h5
  · refine ⟨by simp,by simp,by simp,λa ha=>?_⟩
    show (List.replicate 17 (0:Int)).getD a 0=eU (l.take 0) a
    have:(List.replicate 17 (0:Int)).getD a 0=0:=by
      rw [List.getD_eq_getElem?_getD,List.getElem?_replicate];split <;> rfl
    rw [this];rfl
  rotate_left
  · subst e;exact hr.elim
  subst e
  obtain ⟨q1,q2⟩:=hr
  refine aW (λ(m:List aN)=>mR m/\∀ y,y∈m↔(0<=y.dL/\y.dL<17)/\h.getD y.dL.toNat 0=y.bM/\y.bM≠0)
    (gB (λ(v:Int×List aN)=>0<=v.1/\v.1<=17/\(v.2.length:Int)<=v.1/\mR v.2/\∀ y,y∈v.2↔(0<=y.dL/\y.dL<v.1)/\h.getD y.dL.toNat 0=y.bM/\y.bM≠0) (λ(v:Int×List aN)=>17-v.1.toNat) ?_ (v:=(0,[])) ?_ (by simp;omega)) λm hm=>aG ⟨λ_=>⟨rfl,hm.1,λy=>?_⟩,λq=>absurd hk q⟩
  · rintro ⟨i,m⟩ ⟨h0,h1,h2,h3,h4⟩
    simp only at h0 h1 h2 h3 h4
    refine bK (aD (aQ (λk=>?_) λk=>?_))
    · have k:i<17:=k
      refine aW (λ(m':List aN)=>(m'.length:Int)<=i+1/\mR m'/\∀ y,y∈m'↔(0<=y.dL/\y.dL<i+1)/\h.getD y.dL.toNat 0=y.bM/\y.bM≠0) ?_ λm' hm'=>bG (dD ⟨⟨by simp only;omega,by simp only;omega,hm'.1,hm'.2.1,hm'.2.2⟩,by simp only;omega⟩)
      refine jX ⟨h0,k⟩ (eZ h0 (by rw [q1];exact k) λc hc=>?_)
      have hc:h[i.toNat]?=some c:=hc
      refine aD (aQ (λk2=>jX ⟨h0,k⟩ (aD (jX (by show (m++[_]).length<=_;simp;omega) (aG ⟨by show ((m++[_]).length:Int)<=_;simp;omega,?_,λy=>?_⟩)))) λk2=>aG ⟨by show (m.length:Int)<=_;omega,h3,λy=>?_⟩)
      · refine List.pairwise_append.2 ⟨h3,List.pairwise_singleton _ _,λa ha b hb=>?_⟩
        rw [List.mem_singleton.1 hb];exact ((h4 a).1 ha).1.2
      · rw [List.mem_append,List.mem_singleton,h4 y]
        constructor
        · rintro (⟨g1,g2,g3⟩ | rfl)
          · exact ⟨by omega,g2,g3⟩
          · exact ⟨⟨h0,by simp only;omega⟩,getD_at hc,k2⟩
        · rintro ⟨g1,g2,g3⟩
          by_cases g:y.dL=i
          · right
            rw [g,getD_at hc] at g2
            cases y;simp only at g g2;rw [g,g2]
          · exact .inl ⟨by omega,g2,g3⟩
      · rw [h4 y]
        constructor
        · rintro ⟨g1,g2,g3⟩;exact ⟨by omega,g2,g3⟩
        · rintro ⟨g1,g2,g3⟩
          refine ⟨⟨g1.1,?_⟩,g2,g3⟩
          by_cases g:y.dL=i
          · rw [g,getD_at hc] at g2;exact absurd (g2 ▸ g3) k2
          · omega
    · have k:¬ i<17:=k
      refine bL (aG ⟨h3,λy=>?_⟩)
      rw [h4 y,show i=17 by omega]
  · refine ⟨by simp,by simp,by simp,List.Pairwise.nil,λy=>⟨λq=>(nomatch q),λq=>by simp only at q;omega⟩⟩
  · rw [hm.2 y,<- aDS hd y]
    constructor
    · rintro ⟨g1,g2,g3⟩
      rw [q2 _ (by omega),show ((y.dL.toNat:Nat):Int)=y.dL by omega] at g2
      exact ⟨g2,g3⟩
    · intro g
      have hy:=((aDS hd y).1 g).1
      have g1:=(hk y hy).1
      refine ⟨g1,?_,g.2⟩
      rw [q2 _ (by omega),show ((y.dL.toNat:Nat):Int)=y.dL by omega];exact g.1
theorem YB {l:List aN} {n:Nat} (hn:66<n) (hl:l.length<=19) (hd:(l.map (·.dL)).Nodup):xV n l=tK n l:=by
  obtain ⟨a,ea,ha1,ha2⟩:=IU hn hl hd
  obtain ⟨b,eb,hb1,hb2⟩:=r07 hn hl hd
  rw [ea,eb]
  by_cases k:∀ x∈l,iW x
  · obtain ⟨a1,a2,a3⟩:=ha1 k
    obtain ⟨b1,b2,b3⟩:=hb1 k
    have e:=aER a2 b2 λy=>by rw [a3,b3]
    cases a;cases b
    simp only at a1 b1 e
    rw [e,a1,b1]
  · rw [ha2 k,hb2 k]
theorem aLK {m:List aN} {n:Nat} (hn:66<n) (hl:m.length<=40):HZ n m=some (gP (m.map (·.bM))):=by
  refine gF ?_
  unfold HZ XA
  simp only [WT.run,bT]
  refine aW (λ(r:List Int)=>r=m.map (·.bM))
    (gB (λ(v:Int×List Int)=>0<=v.1/\v.1<=(m.length:Int)/\v.2=(m.take v.1.toNat).map (·.bM)) (λv=>m.length-v.1.toNat) ?_ (v:=(0,[])) (by simp) (by simp;omega)) ?_
  · rintro ⟨i,a⟩ ⟨h0,h1,h2⟩
    simp only at h0 h1 h2
    subst h2
    refine bK (aD (aQ (λh=>?_) λh=>?_))
    · refine eZ h0 h λx hx=>?_
      have e:(i+1).toNat=i.toNat+1:=by omega
      simp only [take_at (f:=aN.bM) hx]
      refine aD (dO (bG (dD ⟨⟨by simp only;omega,by simp only;omega,?_⟩,by simp only;omega⟩)))
      simp only [e]
    · refine bL (aG ?_)
      simp only [List.take_of_length_le (show m.length<=i.toNat by omega)]
  · rintro _ rfl
    exact x_eq (wQ (by simp;omega) (by simp;omega)) (aG rfl)
def CO (m:List aN):Prop:=(1<=m.length/\m.length<=12)/\(gP (m.map (·.bM))).1=0/\(gP (m.map (·.bM))).2=0
theorem aH2 {x:aN} (h:iW x) (h2:x.bM≠0):H8 x=some false:=by
  refine gF ?_
  unfold H8 aEM
  simp only [WT.run,bT,aAK,aED,Option.bind_some]
  rw [decide_eq_true h.1,decide_eq_true h.2]
  exact aW (λb=>b=false) (aD (bU (aD (aQ (λk=>absurd k h2) λ_=>aD (aG rfl))))) λb hb=>aG hb
theorem aP6 {m:List aN} {n:Nat} (hn:66<n) (hl:m.length<=40) (hk:∀ x∈m,iW x/\x.bM≠0):Ex (λr=>r=true↔CO m) (M5 n m):=by
  unfold M5 VF
  simp only [WT.run,bT]
  refine aW (λb=>b=true↔¬ (1<=m.length/\m.length<=12)) (aD (aQ (λk=>aG ⟨λ_=>by omega,λ_=>rfl⟩) λk=>aD (aG ?_))) λb hb=>fJ (λk=>aG ⟨(λq=>nomatch q),λq=>absurd q.1 (hb.1 k)⟩) λk=>?_
  · rw [decide_eq_true_eq];omega
  have hlen:1<=m.length/\m.length<=12:=Classical.not_not.1 λq=>by rw [hb.2 q] at k;cases k
  refine x_eq (aLK hn hl) (aW (λz=>z=true↔CO m) (aW (λb=>b=false) (aW (λ(v:Int)=>v=-1) (aW (λ(r:Unit⊕Int)=>r=.inl ()) ?_ λr hr=>by subst hr;exact dA (aG rfl)) λv hv=>?_) λb hb=>?_) λz hz=>aG hz)
  · refine gB (λ(v:Int)=>0<=v/\v<=(m.length:Int)) (λ(v:Int)=>m.length-v.toNat) ?_ (v:=0) (by simp) (by simp;omega)
    rintro i ⟨h0,h1⟩
    refine aD (aQ (λh=>eZ h0 h λx hx=>x_eq (aH2 (hk x (fO hx)).1 (hk x (fO hx)).2) (bU (bG (dD ⟨⟨by omega,by omega⟩,by omega⟩)))) λh=>bL (dD rfl))
  · subst hv;exact aD (aG (by decide))
  · subst hb
    refine aD (dF (aD (aQ (λq=>aD (aG ?_)) λq=>aG ⟨(λz=>nomatch z),λz=>absurd z.2.1 q⟩)))
    rw [decide_eq_true_eq];exact ⟨λz=>⟨hlen,q,z⟩,λz=>z.2.2⟩
theorem aP1 {m:List aN} {n:Nat} (hn:66<n) (hl:m.length<=40) (hk:∀ x∈m,iW x/\x.bM≠0):Ex (λr=>r=true↔CO m) (BI n m):=by
  unfold BI Q3
  simp only [WT.run,bT]
  refine aW (λ(r:List Int⊕Bool)=>r=.inl (m.map (·.bM)))
    (gB (λ(v:Int×List Int)=>0<=v.1/\v.1<=(m.length:Int)/\v.2=(m.take v.1.toNat).map (·.bM)) (λv=>m.length-v.1.toNat) ?_ (v:=(0,[])) (by simp) (by simp;omega)) λr hr=>?_
  · rintro ⟨i,a⟩ ⟨h0,h1,h2⟩
    simp only at h0 h1 h2
    subst h2
    refine bK (aD (aQ (λh=>?_) λh=>?_))
    · have hx:=List.getElem?_eq_getElem (l:=m) (i:=i.toNat) (by omega)
      generalize m[i.toNat]'(by omega)=x at hx
      have e:(i+1).toNat=i.toNat+1:=by omega
      have hkx:=hk x (fO hx)
      refine aW (λb=>b=false) (dB h0 hx (aW _ (L4 x) λb hb=>?_)) λb hb=>?_
      · rw [hb.2 hkx.1]
        exact aD (bU (dB h0 hx (aD (aG (decide_eq_false hkx.2)))))
      · subst hb
        refine bU (dB h0 hx ?_)
        simp only [take_at (f:=aN.bM) hx]
        refine aD (dO (bG (dD ⟨⟨by simp only;omega,by simp only;omega,?_⟩,by simp only;omega⟩)))
        simp only [e]
    · refine bL (dD ?_)
      show _=_
      rw [List.take_of_length_le (by omega)]
  · subst hr
    refine dA (x_eq (uM (by simp;omega) (by simp;omega)) (aW (λz=>z=true↔CO m) ?_ λz hz=>aG hz))
    refine aD (aQ (λk1=>aD (aQ (λk2=>aD (aQ (λk3=>aD (aG ?_)) λk3=>aG ⟨(λz=>nomatch z),λz=>absurd z.2.2 k3⟩)) λk2=>aG ⟨(λz=>nomatch z),λz=>absurd z.1.2 (by omega)⟩)) λk1=>aG ⟨(λz=>nomatch z),λz=>absurd z.1.1 (by omega)⟩)
    rw [decide_eq_true_eq];exact ⟨λz=>⟨⟨by omega,by omega⟩,z,k3⟩,λz=>z.2.1⟩
def oU:List Int->List aN->Option (List Int)
  | b,[]=>some b
  | b,x :: r=>if (jS (b.getD x.dL.toNat 0) x.bM).2≠0 then none else oU (b.set x.dL.toNat (jS (b.getD x.dL.toNat 0) x.bM).1) r
def xD (gW:List Int) (m:List aN):List Int×Int:=match oU gW m with | some b=>(b,0) | none=>(gW,2)
theorem pW (a b:Int):(jS a b).2=0\/(jS a b).2=2:=by unfold jS;split <;> simp
theorem aAP:∀ {m:List aN} {b b':List Int},oU b m=some b'->b'.length=b.length
  | [],b,b',h=>by cases h;rfl
  | x :: r,b,b',h=>by
    unfold oU at h
    split at h
    · cases h
    · rw [aAP h,List.length_set]
theorem aFU {x9:List aN×Int} {gW:List Int} (hk:∀ x∈x9.1,iW x):∀ {n:Nat} {i:Int} {b:List Int},0<=i->i<=(x9.1.length:Int)->x9.1.length-i.toNat<n->x9.1.length<=40->b.length=17 ->
    Ex (λr=>match r with | .inl b'=>oU b (x9.1.drop i.toNat)=some b' | .inr q=>q.1=2/\oU b (x9.1.drop i.toNat)=none) (yZ x9 n i b):=by
  intro n
  induction n with
  | zero=>intro i b _ _ h;exact absurd h (Nat.not_lt_zero _)
  | succ n ih =>
    intro i b h0 h1 hn h40 hb
    unfold yZ
    refine aD (aQ (λh=>?_) λh=>?_)
    · have hx:=List.getElem?_eq_getElem (l:=x9.1) (i:=i.toNat) (by omega)
      generalize x9.1[i.toNat]'(by omega)=x at hx
      have g:=(hk x (fO hx)).1
      have hc:=List.getElem?_eq_getElem (l:=b) (i:=x.dL.toNat) (by omega)
      generalize b[x.dL.toNat]'(by omega)=c at hc
      have e:(i+1).toNat=i.toNat+1:=by omega
      rw [(drop_at hx).2]
      unfold oU
      rw [getD_at hc]
      refine dB h0 hx (dB g.1 hc (x_eq (OW c x.bM) (aD (aD (aQ (λk=>bL (aG ?_)) λk=>bG ?_)))))
      · rw [if_pos k];exact ⟨(pW _ _).resolve_left k,rfl⟩
      · rw [if_neg k]
        have:=ih (i:=i+1) (b:=b.set x.dL.toNat (jS c x.bM).1) (by omega) (by omega) (by omega) h40 (by rw [List.length_set];exact hb)
        rwa [e] at this
    · refine dD ?_
      rw [List.drop_eq_nil_of_le (by omega)];rfl
end Go.Pv
