import Derived.Test.YtgoihillpibdjaaGreatPG80
set_option linter.unusedVariables false
set_option linter.unusedSimpArgs false
namespace Go.Pv
open Go.Proofs
set_option maxRecDepth 1000000
set_option maxHeartbeats 1000000
theorem aHY (a:Int):FN a=some (decide (0<=a/\a<17)):=by
  unfold FN aD1
  simp only [WT.run,bR]
  by_cases h1:a>=0
  · by_cases h2:a<17
    · exact dA (a:=true) (fJ h1 (fC (fJ h2 rfl))) (by simp;omega)
    · exact dA (a:=false) (fJ h1 (fC (eB h2 rfl))) (by simp;omega)
  · exact dA (a:=false) (eB h1 (dB rfl)) (by simp;omega)
theorem aFZ (a:Int):FR a=some (decide (bQ a)):=by
  unfold FR ZM
  simp only [WT.run,bR]
  by_cases h1:a>=-288230376151711744
  · by_cases h2:a<=288230376151711744
    · exact dA (a:=true) (fJ h1 (fC (fJ h2 rfl))) (congrArg some (decide_eq_true (p:=bQ a) ⟨h1,h2⟩).symm)
    · exact dA (a:=false) (fJ h1 (fC (eB h2 rfl))) (congrArg some (decide_eq_false (p:=bQ a) λq=>h2 q.2).symm)
  · exact dA (a:=false) (eB h1 (dB rfl)) (congrArg some (decide_eq_false (p:=bQ a) λq=>h1 q.1).symm)
theorem aPO (x:aS):Ex (λr=>r=true↔¬ iN x) (ML x):=by
  unfold ML aBA iN
  simp only [WT.run,bR,aHY,aFZ,Option.bind_some]
  refine aT (λb=>b=true↔¬ ((0<=x.dM/\x.dM<17)/\bQ x.bO)) ?_ λb hb=>aF hb
  by_cases k1:0<=x.dM/\x.dM<17
  · rw [decide_eq_true k1]
    refine aD (bU (aD (aF ?_)))
    by_cases k2:bQ x.bO
    · rw [decide_eq_true k2];exact ⟨(λq=>nomatch q),λq=>absurd ⟨k1,k2⟩ q⟩
    · rw [decide_eq_false k2];exact ⟨λ_ q=>k2 q.2,λ_=>rfl⟩
  · rw [decide_eq_false k1];exact aD (cO (aF ⟨λ_ q=>k1 q.1,λ_=>rfl⟩))
def YV (l:List aS) (r:List aS×Int):Prop:=r.2=0/\lS r.1/\∀ y,y∈r.1↔y∈l/\y.bO≠0
theorem OO {l:List aS} {n:Nat} (hn:66<n) (hl:l.length<=19) (hd:(l.map (·.dM)).Nodup) :
    Ex (λr=>((∀ x∈l,iN x)->YV l r)/\((¬ ∀ x∈l,iN x)->r=([],1))) (vS n l):=by
  obtain ⟨n',hn'⟩:∃ m,n=m+1:=⟨n-1,by omega⟩
  unfold vS ZH
  simp only [WT.run,bR]
  refine aT (λb=>b=true↔¬ ∀ x∈l,iN x) (aT (λ(v:Int)=>v>=0↔¬ ∀ x∈l,iN x) ?_ λv hv=>aD (aF (by simpa using hv))) λb hb=>?_
  · refine aT (λ(r:Unit⊕Int)=>match r with | .inl _=>∀ x∈l,iN x | .inr v=>v>=0/\¬ ∀ x∈l,iN x)
      (fM (λ(v:Int)=>0<=v/\v<=(l.length:Int)/\((∀ x∈l.drop v.toNat,iN x)->∀ x∈l,iN x)) (λ(v:Int)=>l.length-v.toNat) ?_ (v:=0) (by simp) (by simp;omega)) λr hr=>jI (λa e=>?_) λb e=>?_
    · rintro i ⟨h0,h1,h2⟩
      refine aD (aH (λh=>?_) λh=>?_)
      · refine eF h0 h λx hx=>aT _ (aPO x) λb hb=>eX (λk=>bK (bK (aF ⟨h0,λhh=>hb.1 k (hh x (fF hx))⟩))) λk=>bF (bX ⟨⟨by omega,by omega,λhh=>h2 λy hy=>?_⟩,by omega⟩)
        have e:(i+1).toNat=i.toNat+1:=by omega
        rw [e] at hh
        rw [(drop_at hx).2] at hy
        rcases List.mem_cons.1 hy with rfl | hy
        · exact Classical.not_not.1 λq=>by rw [hb.2 q] at k;cases k
        · exact hh y hy
      · refine bK (bX (h2 λx hx=>?_))
        rw [List.drop_eq_nil_of_le (by omega)] at hx;cases hx
    · subst e;exact aF ⟨λk=>absurd k (by decide),λk=>absurd hr k⟩
    · subst e;exact ⟨λ_=>hr.2,λ_=>hr.1⟩
  refine eX (λk=>aF ⟨λq=>absurd q (hb.1 k),λ_=>rfl⟩) λk=>dF ?_
  have hk:∀ x∈l,iN x:=Classical.not_not.1 λq=>by rw [hb.2 q] at k;cases k
  refine aT (λ(r:List aS)=>lS r/\r.Perm l) (aT (λ(r:List aS)=>lS r/\r.Perm l) (aT (λ(r:List aS)=>lS r/\r.Perm l) (aT (λ_=>True) ?_ λ_ _=>aT (λ(r:List aS)=>lS r/\r.Perm l) (aT (λ(r:List aS)=>lS r/\r.Perm l) ?_ λy hy=>aF hy) λy hy=>iF hy.2.length_eq (aT (λ_=>True) ?_ λ_ _=>aF hy)) λy hy=>aF hy) λy hy=>aF hy) λs hs=>?_
  · exact fM (λ_=>True) (λ_=>0) (λv _=>aD (iF (decide_eq_false (by omega)) (bK (aF trivial)))) trivial (by omega)
  rotate_left
  · exact fM (λ_=>True) (λ_=>0) (λv _=>aD (iF (decide_eq_false (by omega)) (bK (aF trivial)))) trivial (by omega)
  · have hsl:=hs.2.length_eq
    refine iF hsl ?_
    refine aT (λ(r:List aS⊕(List aS×Int))=>r=.inl s) (fM (λ(v:Int×List aS)=>0<=v.1/\v.1<=(s.length:Int)/\v.2=s.take v.1.toNat) (λv=>s.length-v.1.toNat) ?_ (v:=(0,[])) (by simp) (by simp;omega)) λr hr=>?_
    · rintro ⟨i,acc⟩ ⟨h0,h1,h2⟩
      simp only at h0 h1 h2
      subst h2
      refine bE (aD (aH (λh=>?_) λh=>?_))
      · have hx:=List.getElem?_eq_getElem (l:=s) (i:=i.toNat) (by omega)
        generalize s[i.toNat]'(by omega)=x at hx
        have ei:(i+1).toNat=i.toNat+1:=by omega
        have hal:(s.take i.toNat).length=i.toNat:=by rw [List.length_take];omega
        refine aT (λr=>r=.inl (s.take (i.toNat+1))) (bW h0 hx (gL (by rw [hal];omega) ?_)) λr hr=>?_
        · refine aT (λb=>b=false) ?_ λb hb=>?_
          · refine aD (aH (λq=>?_) λ_=>aF rfl)
            rw [hal] at q
            have hy:=List.getElem?_eq_getElem (l:=s) (i:=i.toNat-1) (by omega)
            generalize hyy:s[i.toNat-1]'(by omega)=y at hy
            have hlt:y.dM<x.dM:=by
              have e1:s=s.take i.toNat++x :: s.drop (i.toNat+1):=by rw [<- (drop_at hx).2,List.take_append_drop]
              have hss:=hs.1
              unfold lS at hss
              rw [e1,List.pairwise_append] at hss
              refine hss.2.2 y ?_ x (by simp)
              refine List.mem_of_getElem? (i:=i.toNat-1) ?_
              rw [List.getElem?_take_of_lt (by omega)];exact hy
            rw [hal]
            refine bW (a:=y) (by omega) ?_ (aD (aF (decide_eq_false (by omega))))
            rw [List.getElem?_take_of_lt (by omega),show ((i.toNat:Nat):Int)-1=i-1 by omega,show (i-1).toNat=i.toNat-1 by omega];exact hy
          · subst hb
            refine bU (aD (dF (bX ?_)))
            have:=take_at (f:=id) hx
            simp only [List.map_id,id] at this
            rw [this]
        · subst hr
          exact bY (bF (bX ⟨⟨by simp only;omega,by simp only;omega,by simp only [ei]⟩,by simp only;omega⟩))
      · refine bK (bX ?_)
        show _=_
        rw [List.take_of_length_le (by omega)]
    · subst hr
      refine bY ?_
      refine aT (λ(a:Nat×Nat×List aS)=>a.1+a.2.1<=a.2.2.length/\(a.2.2.drop a.1).take a.2.1=s.filter (λz=>decide (z.bO≠0))) ?_ λa ha=>bE (bE (iF ha.1 (aF ⟨λ_=>⟨rfl,?_,?_⟩,λq=>absurd hk q⟩)))
      · refine aT (λ(v:Int)=>(v=-1/\∀ z∈s,z.bO≠0)\/(0<=v/\v<(s.length:Int)/\(∀ z∈s.take v.toNat,z.bO≠0)/\∃ z,s[v.toNat]?=some z/\z.bO=0)) ?_ λv hv=>?_
        · refine aT (λ(r:Unit⊕Int)=>match r with | .inl _=>∀ z∈s,z.bO≠0 | .inr v=>0<=v/\v<(s.length:Int)/\(∀ z∈s.take v.toNat,z.bO≠0)/\∃ z,s[v.toNat]?=some z/\z.bO=0)
            (fM (λ(v:Int)=>0<=v/\v<=(s.length:Int)/\∀ z∈s.take v.toNat,z.bO≠0) (λ(v:Int)=>s.length-v.toNat) ?_ (v:=0) (by simp) (by simp;omega)) λr hr=>jI (λa e=>?_) λb e=>?_
          · rintro i ⟨h0,h1,h2⟩
            refine aD (aH (λh=>eF h0 h λx hx=>x_eq (a:=decide (x.bO=0)) rfl (aH (λk=>bK (bK (aF ⟨h0,h,h2,x,hx,k⟩))) λk=>bF (bX ⟨⟨by omega,by omega,λz hz=>?_⟩,by omega⟩))) λh=>bK (bX λz hz=>?_))
            · rw [show (i+1).toNat=i.toNat+1 by omega,List.take_add_one,hx] at hz
              rcases List.mem_append.1 hz with hz | hz
              · exact h2 z hz
              · have:z=x:=by simpa using hz
                rw [this];exact k
            · rw [List.take_of_length_le (by omega)] at h2;exact h2 z hz
          · subst e;exact aF (.inl ⟨rfl,hr⟩)
          · subst e;exact .inr hr
        · refine aD (aH (λk=>aF ⟨by simp,?_⟩) λk=>?_)
          · rcases hv with ⟨_,hv⟩ | ⟨q,_⟩
            · simp only [List.drop_zero,List.take_length]
              exact (List.filter_eq_self.2 λz hz=>decide_eq_true (hv z hz)).symm
            · exfalso;omega
          · rcases hv with ⟨q,_⟩ | ⟨v0,v1,v2,z0,v3,v4⟩
            · exact absurd q k
            refine bF (aT (λ(r:Int×List aS)=>0<=r.1/\r.1<(r.2.length:Int)/\r.2.length=s.length/\r.2.take r.1.toNat=s.filter (λz=>decide (z.bO≠0)))
              (fM (λ(u:Int×Int×List aS)=>0<=u.1/\u.1<u.2.1/\u.2.1<=(s.length:Int)/\u.2.2.length=s.length/\u.2.2.take u.1.toNat=(s.take u.2.1.toNat).filter (λz=>decide (z.bO≠0))/\u.2.2.drop u.2.1.toNat=s.drop u.2.1.toNat) (λu=>s.length-u.2.1.toNat) ?_ (v:=(v,v+1,s)) ⟨v0,by simp only;omega,by simp only;omega,rfl,?_,rfl⟩ (by simp only;omega)) λr hr=>bE (iF ⟨hr.1,hr.2.1⟩ (aD (iF ⟨hr.1,by omega⟩ (aF ⟨?_,?_⟩)))))
            · rintro ⟨w,j,L⟩ ⟨h0,h1,h2,h3,h4,h5⟩
              simp only at h0 h1 h2 h3 h4 h5
              refine bE (bE (aD (aH (λh=>?_) λh=>?_)))
              · have h:j<(L.length:Int):=h
                have hx:=List.getElem?_eq_getElem (l:=s) (i:=j.toNat) (by omega)
                generalize s[j.toNat]'(by omega)=x at hx
                have hxL:L[j.toNat]?=some x:=by
                  have e1:(L.drop j.toNat)[0]?=(s.drop j.toNat)[0]?:=by rw [h5]
                  rw [List.getElem?_drop,List.getElem?_drop,Nat.add_zero] at e1
                  rw [e1];exact hx
                have ej:(j+1).toNat=j.toNat+1:=by omega
                have ew:(w+1).toNat=w.toNat+1:=by omega
                have d5:L.drop (j.toNat+1)=s.drop (j.toNat+1):=by
                  have:=congrArg (List.drop 1) h5
                  rwa [List.drop_drop,List.drop_drop] at this
                have f5:(s.take (j.toNat+1)).filter (λz=>decide (z.bO≠0))=(s.take j.toNat).filter (λz=>decide (z.bO≠0))++[x].filter (λz=>decide (z.bO≠0)):=by
                  rw [List.take_add_one,hx,List.filter_append];rfl
                refine aT (λ(r:Int×List aS)=>0<=r.1/\r.1<j+1/\r.2.length=s.length/\r.2.take r.1.toNat=(s.take (j.toNat+1)).filter (λz=>decide (z.bO≠0))/\r.2.drop (j.toNat+1)=s.drop (j.toNat+1)) ?_ λr hr=>bE (gL (by have:=hr.2.1;have:=hr.1;first | omega | (simp only;omega)) (bX ⟨⟨hr.1,hr.2.1,by simp only;omega,hr.2.2.1,by simp only [ej];exact hr.2.2.2.1,by simp only [ej];exact hr.2.2.2.2⟩,by simp only;omega⟩))
                refine bW (show 0<=j by omega) hxL (x_eq (a:=decide (x.bO=0)) rfl (aD ?_))
                by_cases q:x.bO=0
                · rw [decide_eq_true q]
                  refine bU (aF ⟨h0,by simp only;omega,h3,?_,d5⟩)
                  rw [f5,h4];simp [q]
                · rw [decide_eq_false q]
                  have hwL:=List.getElem?_eq_getElem (l:=L) (i:=w.toNat) (by omega)
                  refine cO (bW h0 hwL (aD (bF (aF ⟨by simp only;omega,by simp only;omega,by simp only [List.length_set];exact h3,?_,?_⟩))))
                  · simp only [ew]
                    rw [f5,List.take_add_one,List.getElem?_set_self (by omega),List.take_set_of_le (by omega),h4];simp [q]
                  · simp only
                    rw [List.drop_set_of_lt (by omega)];exact d5
              · have h:¬ j<(L.length:Int):=h
                refine bK (aF ⟨h0,by simp only;omega,h3,?_⟩)
                simp only
                rw [h4,List.take_of_length_le (by omega)]
            · simp only
              rw [show (v+1).toNat=v.toNat+1 by omega,List.take_add_one,v3,List.filter_append]
              have e1:(s.take v.toNat).filter (λz=>decide (z.bO≠0))=s.take v.toNat:=List.filter_eq_self.2 λz hz=>decide_eq_true (v2 z hz)
              rw [e1];simp [v4]
            · simp;omega
            · simp only [Nat.zero_add,Nat.sub_zero,List.drop_zero,List.take_take,Nat.min_self];exact hr.2.2.2
      · simp only [ha.2]
        exact List.Pairwise.filter _ hs.1
      · intro y
        simp only [ha.2]
        rw [List.mem_filter,hs.2.mem_iff,decide_eq_true_eq]
  · refine fM (λ(v:Int×List aS)=>1<=v.1/\∃ S,v.2=S++l.drop v.1.toNat/\lS S/\S.Perm (l.take v.1.toNat)) (λv=>l.length-v.1.toNat) ?_ (v:=(1,l)) ⟨by simp,l.take 1,by show l=l.take 1++l.drop 1;rw [List.take_append_drop],?_,List.Perm.refl _⟩ (by simp;omega)
    · rintro ⟨i,L⟩ ⟨h0,S,h1,h2,h3⟩
      simp only at h0 h1 h2 h3
      subst h1
      refine bE (aD (aH (λh=>?_) λh=>?_))
      · have hx:=List.getElem?_eq_getElem (l:=l) (i:=i.toNat) (by omega)
        generalize l[i.toNat]'(by omega)=x at hx
        have hsl:S.length=i.toNat:=by rw [h3.length_eq,List.length_take];omega
        have ei:(i+1).toNat=i.toNat+1:=by omega
        have hne:∀ y∈S,y.dM≠x.dM:=by
          intro y hy e
          have hy:=h3.mem_iff.1 hy
          have e1:l=l.take i.toNat++x :: l.drop (i.toNat+1):=by rw [<- (drop_at hx).2,List.take_append_drop]
          rw [e1,List.map_append,List.map_cons] at hd
          exact (List.nodup_append.1 hd).2.2 _ (List.mem_map_of_mem hy) x.dM (by simp) e
        have fin:∀ S':List aS,S'.Perm (S++[x])->S'.Perm (l.take (i.toNat+1)):=λS' hp=>by
          rw [List.take_add_one,hx]
          exact hp.trans (List.Perm.append_right _ h3)
        rw [(drop_at hx).2]
        refine aT (λr=>∃ S',r=S'++l.drop (i.toNat+1)/\lS S'/\S'.Perm (S++[x])) (aT (λr=>∃ S',r=S'++l.drop (i.toNat+1)/\lS S'/\S'.Perm (S++[x])) ?_ λy hy=>aF hy) λy hy=>?_
        · have:=aPB (x:=x) (R:=l.drop (i.toNat+1)) (n:=n) (A:=S) (B:=[]) (f:=?f) ?_ ?_ (by omega) (by omega) (by simpa using h2) (by simpa using hne) (by simp)
          · rw [show ((S.length:Nat):Int)=i by omega] at this
            simpa using this
          · intro z
            refine eT (bE (aT (λb=>b=false) (aD (aH (λh=>absurd h (show ¬ (0:Int)>0 by decide)) λ_=>aF rfl)) λb hb=>?_))
            subst hb;exact bU (bK (aF rfl))
          · intro A y T hA
            have i1:((A.length:Int)+1).toNat=A.length+1:=by omega
            have i2:((A.length:Int)+1-1).toNat=A.length:=by omega
            have g1:(A++y :: x :: T)[((A.length:Int)+1).toNat]?=some x:=by rw [i1];exact aVN A y x T
            have g2:(A++y :: x :: T)[((A.length:Int)+1-1).toNat]?=some y:=by rw [i2];exact aIR A y (x :: T)
            refine eT (bE (aT (λb=>b=true↔x.dM<y.dM) ?_ λb hb=>?_))
            · refine aD (aH (λ_=>bW (by omega) g1 (bF (bW (by omega) g2 (aT (λv=>v<0↔x.dM<y.dM) ?_ λv hv=>aD (aF ?_))))) λk=>?_)
              · exact x_eq (a:=x.dM) rfl (x_eq (a:=y.dM) rfl (aQ6 _ _))
              · rw [decide_eq_true_eq];exact hv
              · exfalso;omega
            · refine eX (λk=>?_) λk=>bK (aF ?_)
              · rw [if_pos (hb.1 k)]
                refine bF (bF (bW (by omega) g2 (bW (by omega) g1 (aD (bW (a:=y) (by omega) ?_ (aD (bF (bX ?_))))))))
                · rw [i1,i2,List.getElem?_set_ne (by omega)];exact aIR A y (x :: T)
                · rw [i1,i2,Y7,show ((A.length:Int)+1-1)=(A.length:Int) by omega]
              · rw [if_neg λq=>by rw [hb.2 q] at k;cases k]
        · obtain ⟨S',rfl,q1,q2⟩:=hy
          exact bF (bX ⟨⟨by simp only;omega,S',by simp only [ei],q1,by simp only [ei];exact fin S' q2⟩,by simp only;omega⟩)
      · refine bK (aF ?_)
        rw [List.drop_eq_nil_of_le (by omega),List.append_nil]
        rw [List.take_of_length_le (by omega)] at h3
        exact ⟨h2,h3⟩
    · cases l with
      | nil=>exact List.Pairwise.nil
      | cons a r=>exact List.pairwise_singleton _ _
theorem I9:∀ {l:List aS} {a:Int},(∀ y∈l,y.dM≠a)->eD l a=0
  | [],_,_=>rfl
  | x :: r,a,h=>by
    show (if x.dM=a then x.bO else 0)+eD r a=0
    rw [if_neg (h x (List.mem_cons_self ..)),I9 λy hy=>h y (List.mem_cons_of_mem _ hy)];rfl
theorem TJ:∀ {l:List aS} {y:aS},(l.map (·.dM)).Nodup->y∈l->eD l y.dM=y.bO
  | x :: r,y,hd,hy=>by
    rw [List.map_cons,List.nodup_cons] at hd
    show (if x.dM=y.dM then x.bO else 0)+eD r y.dM=y.bO
    rcases List.mem_cons.1 hy with rfl | hy
    · rw [if_pos rfl,I9 (a:=y.dM) λz hz e=>hd.1 (by rw [<- e];exact List.mem_map_of_mem hz),Int.add_zero]
    · rw [if_neg λ(e:x.dM=y.dM)=>hd.1 (by rw [e];exact List.mem_map_of_mem hy),TJ hd.2 hy,Int.zero_add]
theorem Y3 {l:List aS} (hd:(l.map (·.dM)).Nodup) (y:aS):(eD l y.dM=y.bO/\y.bO≠0)↔(y∈l/\y.bO≠0):=by
  constructor
  · rintro ⟨h1,h2⟩
    refine ⟨Classical.byContradiction λh3=>?_,h2⟩
    by_cases h4:∃ z∈l,z.dM=y.dM
    · obtain ⟨z,hz,e⟩:=h4
      have:=TJ hd hz
      rw [e,h1] at this
      apply h3
      cases z;cases y
      simp only at e this
      subst e this;exact hz
    · exact h2 (by rw [<- h1];exact I9 λz hz e=>h4 ⟨z,hz,e⟩)
  · rintro ⟨h1,h2⟩;exact ⟨TJ hd h1,h2⟩
theorem aYL {l:List aS} {i:Nat} {x:aS} (hx:l[i]?=some x) (a:Int):eD (l.take (i+1)) a=eD (l.take i) a+if x.dM=a then x.bO else 0:=by
  rw [List.take_add_one,hx]
  have:eD (l.take i++[x]) a=eD (l.take i) a+eD [x] a:=xD _ _ _
  show eD (l.take i++[x]) a=_
  rw [this];simp [eD,dZ]
theorem r07 {l:List aS} {n:Nat} (hn:66<n) (hl:l.length<=19) (hd:(l.map (·.dM)).Nodup) :
    Ex (λr=>((∀ x∈l,iN x)->YV l r)/\((¬ ∀ x∈l,iN x)->r=([],1))) (rD n l):=by
  unfold rD QG
  simp only [WT.run,bR,vZ,Option.bind_some]
  refine aT (λ(r:Unit⊕(List aS×Int))=>match r with | .inl _=>∀ x∈l,iN x | .inr r=>r=([],1)/\¬ ∀ x∈l,iN x)
    (fM (λ(v:Int)=>0<=v/\v<=(l.length:Int)/\((∀ x∈l.drop v.toNat,iN x)->∀ x∈l,iN x)) (λ(v:Int)=>l.length-v.toNat) ?_ (v:=0) (by simp) (by simp;omega)) λr hr=>jI (λu e=>?_) λb e=>?_
  · rintro i ⟨h0,h1,h2⟩
    refine aD (aH (λh=>?_) λh=>?_)
    · refine eF h0 h λx hx=>aT _ (OG x) λb hb=>aD (eX (λk=>bK (bK (aF ⟨rfl,λhh=>?_⟩))) λk=>bF (bX ⟨⟨by omega,by omega,λhh=>h2 λy hy=>?_⟩,by omega⟩))
      · have:=hb.2 (hh x (fF hx));rw [this] at k;cases k
      · rw [(drop_at hx).2] at hy
        rcases List.mem_cons.1 hy with rfl | hy
        · exact hb.1 (by simpa using k)
        · exact hh y (by rw [show (i+1).toNat=i.toNat+1 by omega];exact hy)
    · refine bK (bX (h2 λx hx=>?_))
      rw [List.drop_eq_nil_of_le (by omega)] at hx;cases hx
  rotate_left
  · subst e;exact ⟨λq=>absurd q hr.2,λ_=>hr.1⟩
  subst e
  have hk:∀ x∈l,iN x:=hr
  refine aT (λ(r:List Int⊕(List aS×Int))=>match r with | .inl h=>h.length=17/\∀ a:Nat,a<17->h.getD a 0=eD l a | .inr r=>False)
    (fM (λ(v:Int×List Int)=>0<=v.1/\v.1<=(l.length:Int)/\v.2.length=17/\∀ a:Nat,a<17->v.2.getD a 0=eD (l.take v.1.toNat) a) (λ(v:Int×List Int)=>l.length-v.1.toNat) ?_ (v:=(0,List.replicate 17 0)) ?_ (by simp;omega)) λr hr=>jI (λh e=>?_) λb e=>?_
  · rintro ⟨i,hv⟩ ⟨h0,h1,h2,h4⟩
    simp only at h0 h1 h2 h4
    refine bE (aD (aH (λh=>?_) λh=>?_))
    · refine eF h0 h λx hx=>?_
      have hx:l[i.toNat]?=some x:=hx
      obtain ⟨g1,g2⟩:=hk x (fF hx)
      refine iF g1 (eF g1.1 (by rw [h2];exact g1.2) λc hc=>eF h0 h λx' hx'=>?_)
      have hx':l[i.toNat]?=some x':=hx'
      rw [hx] at hx';cases hx'
      have hc0:c=0:=by
        have e1:=h4 x.dM.toNat (by omega)
        rw [getD_at hc,show ((x.dM.toNat:Nat):Int)=x.dM by omega] at e1
        rw [e1]
        refine I9 λy hy e=>?_
        have e1:l=l.take i.toNat++x :: l.drop (i.toNat+1):=by rw [<- (drop_at hx).2,List.take_append_drop]
        rw [e1,List.map_append,List.map_cons] at hd
        exact (List.nodup_append.1 hd).2.2 _ (List.mem_map_of_mem hy) x.dM (by simp) e
      subst hc0
      have ha:jK 0 x.bO=(x.bO,0):=by rw [pI ⟨by decide,g2,by rw [Int.zero_add];exact g2⟩,Int.zero_add]
      rw [ha]
      refine aD (aH (λk=>absurd rfl k) λ_=>eF h0 h λx' hx'=>?_)
      have hx':l[i.toNat]?=some x':=hx'
      rw [hx] at hx';cases hx'
      refine iF g1 (eF g1.1 (by rw [h2];exact g1.2) λc' hc'=>aD (bF (bX ⟨⟨by simp only;omega,by simp only;omega,by simp only [List.length_set];exact h2,?_⟩,by simp only;omega⟩)))
      intro a ha
      show (hv.set x.dM.toNat x.bO).getD a 0=eD (l.take (i+1).toNat) a
      rw [MX (by omega),show (i+1).toNat=i.toNat+1 by omega,aYL hx]
      have h5:=h4 a ha
      by_cases hA:x.dM.toNat=a
      · rw [if_pos hA,if_pos (by omega),<- h5,<- hA,getD_at hc,Int.zero_add]
      · rw [if_neg hA,if_neg (by omega),Int.add_zero];exact h5
    · refine bK (bX ⟨h2,λa ha=>?_⟩)
      have h5:=h4 a ha
      rw [List.take_of_length_le (by omega)] at h5;exact h5
  · refine ⟨by simp,by simp,by simp,λa ha=>?_⟩
    show (List.replicate 17 (0:Int)).getD a 0=eD (l.take 0) a
    have:(List.replicate 17 (0:Int)).getD a 0=0:=by
      rw [List.getD_eq_getElem?_getD,List.getElem?_replicate];split <;> rfl
    rw [this];rfl
  rotate_left
  · subst e;exact hr.elim
  subst e
  obtain ⟨q1,q2⟩:=hr
  refine aT (λ(m:List aS)=>lS m/\∀ y,y∈m↔(0<=y.dM/\y.dM<17)/\h.getD y.dM.toNat 0=y.bO/\y.bO≠0)
    (fM (λ(v:Int×List aS)=>0<=v.1/\v.1<=17/\(v.2.length:Int)<=v.1/\lS v.2/\∀ y,y∈v.2↔(0<=y.dM/\y.dM<v.1)/\h.getD y.dM.toNat 0=y.bO/\y.bO≠0) (λ(v:Int×List aS)=>17-v.1.toNat) ?_ (v:=(0,[])) ?_ (by simp;omega)) λm hm=>aF ⟨λ_=>⟨rfl,hm.1,λy=>?_⟩,λq=>absurd hk q⟩
  · rintro ⟨i,m⟩ ⟨h0,h1,h2,h3,h4⟩
    simp only at h0 h1 h2 h3 h4
    refine bE (aD (aH (λk=>?_) λk=>?_))
    · have k:i<17:=k
      refine aT (λ(m':List aS)=>(m'.length:Int)<=i+1/\lS m'/\∀ y,y∈m'↔(0<=y.dM/\y.dM<i+1)/\h.getD y.dM.toNat 0=y.bO/\y.bO≠0) ?_ λm' hm'=>bF (bX ⟨⟨by simp only;omega,by simp only;omega,hm'.1,hm'.2.1,hm'.2.2⟩,by simp only;omega⟩)
      refine iF ⟨h0,k⟩ (eF h0 (by rw [q1];exact k) λc hc=>?_)
      have hc:h[i.toNat]?=some c:=hc
      refine aD (aH (λk2=>iF ⟨h0,k⟩ (aD (iF (by show (m++[_]).length<=_;simp;omega) (aF ⟨by show ((m++[_]).length:Int)<=_;simp;omega,?_,λy=>?_⟩)))) λk2=>aF ⟨by show (m.length:Int)<=_;omega,h3,λy=>?_⟩)
      · refine List.pairwise_append.2 ⟨h3,List.pairwise_singleton _ _,λa ha b hb=>?_⟩
        rw [List.mem_singleton.1 hb];exact ((h4 a).1 ha).1.2
      · rw [List.mem_append,List.mem_singleton,h4 y]
        constructor
        · rintro (⟨g1,g2,g3⟩ | rfl)
          · exact ⟨by omega,g2,g3⟩
          · exact ⟨⟨h0,by simp only;omega⟩,getD_at hc,k2⟩
        · rintro ⟨g1,g2,g3⟩
          by_cases g:y.dM=i
          · right
            rw [g,getD_at hc] at g2
            cases y;simp only at g g2;rw [g,g2]
          · exact .inl ⟨by omega,g2,g3⟩
      · rw [h4 y]
        constructor
        · rintro ⟨g1,g2,g3⟩;exact ⟨by omega,g2,g3⟩
        · rintro ⟨g1,g2,g3⟩
          refine ⟨⟨g1.1,?_⟩,g2,g3⟩
          by_cases g:y.dM=i
          · rw [g,getD_at hc] at g2;exact absurd (g2 ▸ g3) k2
          · omega
    · have k:¬ i<17:=k
      refine bK (aF ⟨h3,λy=>?_⟩)
      rw [h4 y,show i=17 by omega]
  · refine ⟨by simp,by simp,by simp,List.Pairwise.nil,λy=>⟨λq=>(nomatch q),λq=>by simp only at q;omega⟩⟩
  · rw [hm.2 y,<- Y3 hd y]
    constructor
    · rintro ⟨g1,g2,g3⟩
      rw [q2 _ (by omega),show ((y.dM.toNat:Nat):Int)=y.dM by omega] at g2
      exact ⟨g2,g3⟩
    · intro g
      have hy:=((Y3 hd y).1 g).1
      have g1:=(hk y hy).1
      refine ⟨g1,?_,g.2⟩
      rw [q2 _ (by omega),show ((y.dM.toNat:Nat):Int)=y.dM by omega];exact g.1
theorem X0 {l:List aS} {n:Nat} (hn:66<n) (hl:l.length<=19) (hd:(l.map (·.dM)).Nodup):vS n l=rD n l:=by
  obtain ⟨a,ea,ha1,ha2⟩:=OO hn hl hd
  obtain ⟨b,eb,hb1,hb2⟩:=r07 hn hl hd
  rw [ea,eb]
  by_cases k:∀ x∈l,iN x
  · obtain ⟨a1,a2,a3⟩:=ha1 k
    obtain ⟨b1,b2,b3⟩:=hb1 k
    have e:=YD a2 b2 λy=>by rw [a3,b3]
    cases a;cases b
    simp only at a1 b1 e
    rw [e,a1,b1]
  · rw [ha2 k,hb2 k]
theorem a0J {m:List aS} {n:Nat} (hn:66<n) (hl:m.length<=40):N6 n m=some (gG (m.map (·.bO))):=by
  refine eT ?_
  unfold N6 aI9
  simp only [WT.run,bR]
  refine aT (λ(r:List Int)=>r=m.map (·.bO))
    (fM (λ(v:Int×List Int)=>0<=v.1/\v.1<=(m.length:Int)/\v.2=(m.take v.1.toNat).map (·.bO)) (λv=>m.length-v.1.toNat) ?_ (v:=(0,[])) (by simp) (by simp;omega)) ?_
  · rintro ⟨i,a⟩ ⟨h0,h1,h2⟩
    simp only at h0 h1 h2
    subst h2
    refine bE (aD (aH (λh=>?_) λh=>?_))
    · refine eF h0 h λx hx=>?_
      have e:(i+1).toNat=i.toNat+1:=by omega
      simp only [take_at (f:=aS.bO) hx]
      refine aD (dF (bF (bX ⟨⟨by simp only;omega,by simp only;omega,?_⟩,by simp only;omega⟩)))
      simp only [e]
    · refine bK (aF ?_)
      simp only [List.take_of_length_le (show m.length<=i.toNat by omega)]
  · rintro _ rfl
    exact x_eq (uT (by simp;omega) (by simp;omega)) (aF rfl)
def CB (m:List aS):Prop:=(1<=m.length/\m.length<=12)/\(gG (m.map (·.bO))).1=0/\(gG (m.map (·.bO))).2=0
theorem aWG {x:aS} (h:iN x) (h2:x.bO≠0):IZ x=some false:=by
  refine eT ?_
  unfold IZ YR
  simp only [WT.run,bR,aHY,aFZ,Option.bind_some]
  rw [decide_eq_true h.1,decide_eq_true h.2]
  exact aT (λb=>b=false) (aD (bU (aD (aH (λk=>absurd k h2) λ_=>aD (aF rfl))))) λb hb=>aF hb
theorem aR5 {m:List aS} {n:Nat} (hn:66<n) (hl:m.length<=40) (hk:∀ x∈m,iN x/\x.bO≠0):Ex (λr=>r=true↔CB m) (OC n m):=by
  unfold OC aCA
  simp only [WT.run,bR]
  refine aT (λb=>b=true↔¬ (1<=m.length/\m.length<=12)) (aD (aH (λk=>aF ⟨λ_=>by omega,λ_=>rfl⟩) λk=>aD (aF ?_))) λb hb=>eX (λk=>aF ⟨(λq=>nomatch q),λq=>absurd q.1 (hb.1 k)⟩) λk=>?_
  · rw [decide_eq_true_eq];omega
  have hlen:1<=m.length/\m.length<=12:=Classical.not_not.1 λq=>by rw [hb.2 q] at k;cases k
  refine x_eq (a0J hn hl) (aT (λz=>z=true↔CB m) (aT (λb=>b=false) (aT (λ(v:Int)=>v=-1) (aT (λ(r:Unit⊕Int)=>r=.inl ()) ?_ λr hr=>by subst hr;exact bY (aF rfl)) λv hv=>?_) λb hb=>?_) λz hz=>aF hz)
  · refine fM (λ(v:Int)=>0<=v/\v<=(m.length:Int)) (λ(v:Int)=>m.length-v.toNat) ?_ (v:=0) (by simp) (by simp;omega)
    rintro i ⟨h0,h1⟩
    refine aD (aH (λh=>eF h0 h λx hx=>x_eq (aWG (hk x (fF hx)).1 (hk x (fF hx)).2) (bU (bF (bX ⟨⟨by omega,by omega⟩,by omega⟩)))) λh=>bK (bX rfl))
  · subst hv;exact aD (aF (by decide))
  · subst hb
    refine aD (cO (aD (aH (λq=>aD (aF ?_)) λq=>aF ⟨(λz=>nomatch z),λz=>absurd z.2.1 q⟩)))
    rw [decide_eq_true_eq];exact ⟨λz=>⟨hlen,q,z⟩,λz=>z.2.2⟩
theorem aKY {m:List aS} {n:Nat} (hn:66<n) (hl:m.length<=40) (hk:∀ x∈m,iN x/\x.bO≠0):Ex (λr=>r=true↔CB m) (A8 n m):=by
  unfold A8 QJ
  simp only [WT.run,bR]
  refine aT (λ(r:List Int⊕Bool)=>r=.inl (m.map (·.bO)))
    (fM (λ(v:Int×List Int)=>0<=v.1/\v.1<=(m.length:Int)/\v.2=(m.take v.1.toNat).map (·.bO)) (λv=>m.length-v.1.toNat) ?_ (v:=(0,[])) (by simp) (by simp;omega)) λr hr=>?_
  · rintro ⟨i,a⟩ ⟨h0,h1,h2⟩
    simp only at h0 h1 h2
    subst h2
    refine bE (aD (aH (λh=>?_) λh=>?_))
    · have hx:=List.getElem?_eq_getElem (l:=m) (i:=i.toNat) (by omega)
      generalize m[i.toNat]'(by omega)=x at hx
      have e:(i+1).toNat=i.toNat+1:=by omega
      have hkx:=hk x (fF hx)
      refine aT (λb=>b=false) (bW h0 hx (aT _ (OG x) λb hb=>?_)) λb hb=>?_
      · rw [hb.2 hkx.1]
        exact aD (bU (bW h0 hx (aD (aF (decide_eq_false hkx.2)))))
      · subst hb
        refine bU (bW h0 hx ?_)
        simp only [take_at (f:=aS.bO) hx]
        refine aD (dF (bF (bX ⟨⟨by simp only;omega,by simp only;omega,?_⟩,by simp only;omega⟩)))
        simp only [e]
    · refine bK (bX ?_)
      show _=_
      rw [List.take_of_length_le (by omega)]
  · subst hr
    refine bY (x_eq (uH (by simp;omega) (by simp;omega)) (aT (λz=>z=true↔CB m) ?_ λz hz=>aF hz))
    refine aD (aH (λk1=>aD (aH (λk2=>aD (aH (λk3=>aD (aF ?_)) λk3=>aF ⟨(λz=>nomatch z),λz=>absurd z.2.2 k3⟩)) λk2=>aF ⟨(λz=>nomatch z),λz=>absurd z.1.2 (by omega)⟩)) λk1=>aF ⟨(λz=>nomatch z),λz=>absurd z.1.1 (by omega)⟩)
    rw [decide_eq_true_eq];exact ⟨λz=>⟨⟨by omega,by omega⟩,z,k3⟩,λz=>z.2.1⟩
def l6:List Int->List aS->Option (List Int)
  | b,[]=>some b
  | b,x :: r=>if (jK (b.getD x.dM.toNat 0) x.bO).2≠0 then none else l6 (b.set x.dM.toNat (jK (b.getD x.dM.toNat 0) x.bO).1) r
def wS (gK:List Int) (m:List aS):List Int×Int:=match l6 gK m with | some b=>(b,0) | none=>(gK,2)
theorem aCX:∀ {m:List aS} {b b':List Int},l6 b m=some b'->b'.length=b.length
  | [],b,b',h=>by cases h;rfl
  | x :: r,b,b',h=>by
    unfold l6 at h
    split at h
    · cases h
    · rw [aCX h,List.length_set]
theorem aLJ {b:List Int} {x:aS} {r:List aS}:l6 b (x :: r)=if (jK (b.getD x.dM.toNat 0) x.bO).2≠0 then none else l6 (b.set x.dM.toNat (jK (b.getD x.dM.toNat 0) x.bO).1) r:=rfl
def BL (m:List aS×Int):Prop:=m.2≠0\/(0<m.1.length/\¬ CB m.1)
noncomputable def rM (gK:List Int) (m:List aS×Int):List Int×Int:=open Classical in if BL m then (gK,10) else wS gK m.1
theorem aBV {gK:List Int} {m:List aS×Int} (h:BL m):rM gK m=(gK,10):=if_pos h
theorem VO {gK:List Int} {m:List aS×Int} (h:¬ BL m):rM gK m=wS gK m.1:=if_neg h
theorem aI4 {m:List aS×Int} {D:Option Bool} (hD:(∀ x∈m.1,iN x/\x.bO≠0)->Ex (λr=>r=true↔CB m.1) D) (hk:∀ x∈m.1,iN x/\x.bO≠0) :
    Ex (λb=>b=true↔BL m) (bnd (decide (m.2≠0)) λx=>cond x (some true) (bnd (decide ((m.1.length:Int)>0)) λy=>cond y (D.bind λz=>bnd (!z) λw=>some w) (some false))):=by
  refine aD (aH (λk=>aF ⟨λ_=>.inl k,λ_=>rfl⟩) λk=>aD (aH (λk2=>aT _ (hD hk) λz hz=>aD (aF ?_)) λk2=>aF ⟨(λq=>nomatch q),λq=>?_⟩))
  · cases z with
    | true=>exact ⟨(λq=>nomatch q),λq=>by rcases q with q | q;exact absurd q k;exact absurd (hz.1 rfl) q.2⟩
    | false=>exact ⟨λ_=>.inr ⟨by omega,λq=>nomatch hz.2 q⟩,λ_=>rfl⟩
  · rcases q with q | q
    · exact absurd q k
    · omega
theorem pGl {gK:List Int} {l:List aS} {m:List aS×Int} {n:Nat} (hn:66<n) (hb:gK.length=17) (e:vS n l=some m) (hk:∀ x∈m.1,iN x/\x.bO≠0) (hl:m.1.length<=19):OR n gK l=some (rM gK m):=by
  refine eT ?_
  unfold OR YX
  simp only [WT.run,bR,VA,Option.bind_some]
  refine aD (aH (λk=>?_) λ_=>?_)
  · exfalso;omega
  refine aT (λ(r:Int⊕List Int)=>match r with | .inr b=>(b,(0:Int))=rM gK m | .inl e=>(gK,e)=rM gK m) (dF (aT (λ(r:Int×List Int)=>(r.1=0/\r.2.length=17/\(r.2,(0:Int))=rM gK m)\/(r.1≠0/\(gK,r.1)=rM gK m))
    (x_eq e (aT _ (aI4 (λhk=>aR5 hn (by omega) hk) hk) λb hb2=>eX (λk=>aF (.inr ⟨by show (10:Int)≠0;decide,(aBV (hb2.1 k)).symm⟩)) λk=>?_)) λr hr=>bE (aD (aH (λk=>dF (aF ?_)) λk=>?_)))) λr hr=>?_
  · have hnb:¬ BL m:=λq=>by rw [hb2.2 q] at k;cases k
    refine aT (λ(r:List Int⊕(Int×List Int))=>match r with | .inl b'=>l6 gK m.1=some b' | .inr q=>q.1=2/\l6 gK m.1=none)
      (fM (λ(v:Int×List Int)=>0<=v.1/\v.1<=(m.1.length:Int)/\v.2.length=17/\l6 gK m.1=l6 v.2 (m.1.drop v.1.toNat)) (λv=>m.1.length-v.1.toNat) ?_ (v:=(0,gK)) ⟨by simp,by simp,hb,rfl⟩ (by simp;omega)) λr hr=>jI (λa e=>?_) λq e=>?_
    · rintro ⟨i,b⟩ ⟨h0,h1,h2,h3⟩
      simp only at h0 h1 h2 h3
      refine bE (aD (aH (λh=>?_) λh=>bK (bX ?_)))
      · have hx:=List.getElem?_eq_getElem (l:=m.1) (i:=i.toNat) (by first | omega | (simp only;omega))
        generalize m.1[i.toNat]'(by first | omega | (simp only;omega))=x at hx
        have g:=(hk x (fF hx)).1.1
        have hc:=List.getElem?_eq_getElem (l:=b) (i:=x.dM.toNat) (by omega)
        generalize b[x.dM.toNat]'(by omega)=c at hc
        have e:(i+1).toNat=i.toNat+1:=by omega
        have e3:l6 b (m.1.drop i.toNat)=if (jK c x.bO).2≠0 then none else l6 (b.set x.dM.toNat (jK c x.bO).1) (m.1.drop (i.toNat+1)):=by
          rw [(drop_at hx).2,<- getD_at hc];rfl
        rw [e3] at h3
        refine bW h0 hx (bW g.1 hc (aD (aD (aH (λk=>bK (bK (aF ?_))) λk=>bF (bX ⟨⟨by first | omega | (simp only;omega),by first | omega | (simp only;omega),by simp only;rw [List.length_set];exact h2,?_⟩,by first | omega | (simp only;omega)⟩)))))
        · rw [if_pos k] at h3;exact ⟨(oU _ _).resolve_left k,h3⟩
        · rw [if_neg k] at h3;simp only;rw [e];exact h3
      · rw [List.drop_eq_nil_of_le (by first | omega | (simp only;omega))] at h3;exact h3
    · subst e
      have hr:l6 gK m.1=some a:=hr
      refine aF (.inl ⟨rfl,by rw [aCX hr];exact hb,?_⟩)
      rw [VO hnb];unfold wS;rw [hr]
    · subst e
      have hr:q.1=2/\l6 gK m.1=none:=hr
      have e2:q.1=2:=hr.1
      refine .inr ⟨by rw [e2];decide,?_⟩
      rw [VO hnb,e2];unfold wS;rw [hr.2]
  · rcases hr with ⟨h1,_⟩ | ⟨_,h2⟩
    · exact absurd h1 k
    · exact h2
  · rcases hr with ⟨h1,h2,h3⟩ | ⟨h1,_⟩
    · exact dF (aF h3)
    · exact absurd h1 k
  · cases r with
    | inr b=>exact aF hr
    | inl e=>exact aF hr
theorem rGl {gK:List Int} {l:List aS} {m:List aS×Int} {n:Nat} (hn:66<n) (hb:gK.length=17) (e:rD n l=some m) (hk:∀ x∈m.1,iN x/\x.bO≠0) (hl:m.1.length<=19):zO n gK l=some (rM gK m):=by
  refine eT ?_
  unfold zO U0
  simp only [WT.run,bR,vZ,Option.bind_some]
  refine aD (aH (λk=>?_) λ_=>?_)
  · exfalso;omega
  refine dF (x_eq e (aT _ (aI4 (λhk=>aKY hn (by omega) hk) hk) λb hb2=>eX (λk=>aF (aBV (hb2.1 k)).symm) λk=>dF ?_))
  have hnb:¬ BL m:=λq=>by rw [hb2.2 q] at k;cases k
  rw [VO hnb]
  refine aT (λ(r:List Int⊕(List Int×Int))=>match r with | .inl b'=>l6 gK m.1=some b' | .inr q=>q=wS gK m.1)
    (fM (λ(v:Int×List Int)=>0<=v.1/\v.1<=(m.1.length:Int)/\v.2.length=17/\l6 gK m.1=l6 v.2 (m.1.drop v.1.toNat)) (λv=>m.1.length-v.1.toNat) ?_ (v:=(0,gK)) ⟨by simp,by simp,hb,rfl⟩ (by simp;omega)) λr hr=>jI (λa e=>?_) λq e=>?_
  · rintro ⟨i,b⟩ ⟨h0,h1,h2,h3⟩
    simp only at h0 h1 h2 h3
    refine bE (aD (aH (λh=>?_) λh=>?_))
    · have h:i<(m.1.length:Int):=h
      have hx:=List.getElem?_eq_getElem (l:=m.1) (i:=i.toNat) (by omega)
      generalize m.1[i.toNat]'(by omega)=x at hx
      have g:=(hk x (fF hx)).1.1
      have hc:=List.getElem?_eq_getElem (l:=b) (i:=x.dM.toNat) (by omega)
      generalize b[x.dM.toNat]'(by omega)=c at hc
      have e:(i+1).toNat=i.toNat+1:=by omega
      rw [(drop_at hx).2] at h3
      rw [aLJ,getD_at hc] at h3
      refine bW h0 hx (bW g.1 hc (bW h0 hx (aD (aH (λk=>bK (bK (aF ?_))) λk=>bW h0 hx (bW g.1 hc (aD (bF (bX ⟨⟨by simp only;omega,by simp only;omega,by simp only [List.length_set];exact h2,?_⟩,by simp only;omega⟩))))))))
      · rw [if_pos k] at h3
        show (gK,_)=wS gK m.1
        unfold wS;rw [h3];simp only;rw [(oU _ _).resolve_left k]
      · rw [if_neg k] at h3
        simp only [e];exact h3
    · have h:¬ i<(m.1.length:Int):=h
      refine bK (bX ?_)
      show l6 gK m.1=some b
      rw [h3,List.drop_eq_nil_of_le (by omega)];rfl
  · subst e;have hr:l6 gK m.1=some a:=hr
    refine aF ?_
    unfold wS;rw [hr]
  · subst e;exact hr
theorem aHE:∀ {m:List aS} {k:Int},lS m->(∀ y∈m,k<=y.dM/\y.dM<17)->k<=17->(m.length:Int)<=17-k
  | [],k,_,_,h=>by simp;omega
  | x :: r,k,h,hb,hk=>by
    have h':=List.pairwise_cons.1 h
    have hx:=hb x (List.mem_cons_self ..)
    have:=aHE (k:=x.dM+1) h'.2 (λy hy=>⟨by have:=h'.1 y hy;omega,(hb y (List.mem_cons_of_mem _ hy)).2⟩) (by omega)
    simp;omega
theorem aCC {l:List aS} {m:List aS×Int} {n:Nat} (hn:66<n) (hl:l.length<=19) (hd:(l.map (·.dM)).Nodup) (e:vS n l=some m):(∀ x∈m.1,iN x/\x.bO≠0)/\m.1.length<=19/\(m.1.map (·.dM)).Nodup:=by
  have h:=H6 (OO hn hl hd) e
  by_cases k:∀ x∈l,iN x
  · obtain ⟨h1,h2,h3⟩:=h.1 k
    have hnd:(m.1.map (·.dM)).Nodup:=by
      unfold List.Nodup
      rw [List.pairwise_map]
      exact List.Pairwise.imp (λ{a b} q=>by omega) h2
    refine ⟨λx hx=>⟨k x ((h3 x).1 hx).1,((h3 x).1 hx).2⟩,?_,hnd⟩
    have:=aHE (k:=0) h2 (λy hy=>(k y ((h3 y).1 hy).1).1) (by decide)
    omega
  · rw [h.2 k];simp
theorem post_eq {s:aA} {n:Nat} (hn:66<n) (h:SS s) {e:Int} {l:List aS} (hl:l.length<=19) (hd:(l.map (·.dM)).Nodup):uP n s e l=kS n s e l:=by
  have hf:=h.toS0.gU
  have ep:=X0 hn hl hd
  obtain ⟨m,em,_⟩:=OO hn hl hd
  have em2:rD n l=some m:=by rw [<- ep];exact em
  obtain ⟨m1,m2,m3⟩:=aCC hn hl hd em
  by_cases he:0<=e/\e<(s.bC.length:Int)
  rotate_left
  · have e1:uP n s e l=some (s,4):=by
      refine eT ?_
      unfold uP G8
      simp only [WT.run,bR]
      refine aT (λb=>b=true) (aD (aH (λ_=>aF rfl) λk=>aD (aF (decide_eq_true (by omega))))) λb hb=>by subst hb;exact cO (aF rfl)
    have e2:kS n s e l=some (s,4):=by
      refine eT ?_
      unfold kS AR
      simp only [WT.run,bR,oN,Option.bind_some]
      refine bF ?_
      rw [decide_eq_false (p:=0<=e/\e<=(s.bC.length:Int)-1) (by omega)]
      exact aD (cO (aF rfl))
    rw [e1,e2]
  have hx:=List.getElem?_eq_getElem (l:=s.bC) (i:=e.toNat) (by omega)
  generalize s.bC[e.toNat]'(by omega)=x at hx
  obtain ⟨bL,hm,_,_,hes⟩:=h.bL hx
  have hfew:=hes.gU hf.2.2
  obtain ⟨q,eq,_⟩:=OO (l:=m.1) hn m2 m3
  have eq2:rD n m.1=some q:=by rw [<- X0 hn m2 m3];exact eq
  obtain ⟨q1,q2,q3⟩:=aCC hn m2 m3 eq
  have ga:=pGl hn hes.lb eq q1 q2
  have gb:=rGl hn hes.lb eq2 q1 q2
  have key:∃ v,uP n s e l=some v/\kS n s e l=some v:=by
    by_cases k:m.2≠0
    · refine ⟨(s,m.2),?_,?_⟩
      · refine eT ?_
        unfold uP G8
        simp only [WT.run,bR]
        refine aT (λb=>b=false) (aD (aH (λk=>absurd k (by omega)) λk=>aD (aF (decide_eq_false (by omega))))) λb hb=>?_
        subst hb;exact bU (x_eq em (aD (aH (λ_=>aF rfl) λz=>absurd k z)))
      · refine eT ?_
        unfold kS AR
        simp only [WT.run,bR,oN,Option.bind_some]
        refine bF ?_
        rw [decide_eq_true (p:=0<=e/\e<=(s.bC.length:Int)-1) (by omega)]
        exact aD (bU (x_eq em2 (aD (aH (λ_=>aF rfl) λz=>absurd k z))))
    · by_cases k2:(rM x.dK q).2≠0
      · refine ⟨(s,(rM x.dK q).2),?_,?_⟩
        · refine eT ?_
          unfold uP G8
          simp only [WT.run,bR]
          refine aT (λb=>b=false) (aD (aH (λk=>absurd k (by omega)) λk=>aD (aF (decide_eq_false (by omega))))) λb hb=>?_
          subst hb;exact bU (x_eq em (aD (aH (λz=>absurd z k) λ_=>bW he.1 hx (x_eq ga (aD (aH (λ_=>aF rfl) λz=>absurd k2 z))))))
        · refine eT ?_
          unfold kS AR
          simp only [WT.run,bR,oN,Option.bind_some]
          refine bF ?_
          rw [decide_eq_true (p:=0<=e/\e<=(s.bC.length:Int)-1) (by omega)]
          exact aD (bU (x_eq em2 (aD (aH (λz=>absurd z k) λ_=>bW he.1 hx (x_eq gb (aD (aH (λ_=>aF rfl) λz=>absurd k2 z)))))))
      · refine ⟨(kP s e.toNat { x with dK:=(rM x.dK q).1 },0),?_,?_⟩
        · refine eT ?_
          unfold uP G8
          simp only [WT.run,bR]
          refine aT (λb=>b=false) (aD (aH (λk=>absurd k (by omega)) λk=>aD (aF (decide_eq_false (by omega))))) λb hb=>?_
          subst hb
          refine bU (x_eq em (aD (aH (λz=>absurd z k) λ_=>bW he.1 hx (x_eq ga (aD (aH (λz=>absurd z k2) λ_=>?_))))))
          exact aT (λ_=>True) (dF (bW he.1 hx (aF trivial))) λ_ _=>bW he.1 hx (aD (aF rfl))
        · refine eT ?_
          unfold kS AR
          simp only [WT.run,bR,oN,Option.bind_some]
          refine bF ?_
          rw [decide_eq_true (p:=0<=e/\e<=(s.bC.length:Int)-1) (by omega)]
          refine aD (bU (x_eq em2 (aD (aH (λz=>absurd z k) λ_=>bW he.1 hx (x_eq gb (aD (aH (λz=>absurd z k2) λ_=>?_)))))))
          refine aT (λr=>r=(x.fO,x.Closed,x.fP,x.bS,x.dK,x.dH,x.fZ,x.Down)) (dF (bW he.1 hx (dF (dF (dF (dF (dF (aF rfl)))))))) λr hr=>?_
          subst hr
          exact bE (bE (bE (bE (bE (bE (bE (bW he.1 hx (aF rfl))))))))
  obtain ⟨v,e1,e2⟩:=key
  rw [e1,e2]
end Go.Pv
