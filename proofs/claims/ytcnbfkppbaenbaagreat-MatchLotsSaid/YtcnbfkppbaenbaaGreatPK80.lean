import Derived.Test.YtcnbfkppbaenbaaGreatPH80
set_option linter.unusedVariables false
set_option linter.unusedSimpArgs false
namespace Go.Pv
open Go.Proofs
set_option maxRecDepth 1000000
set_option maxHeartbeats 1000000
theorem F4:∀ {l:List aN} {a:Int},(∀ y∈l,y.dI≠a)->eP l a=0
  | [],_,_=>rfl
  | x :: r,a,h=>by
    show (if x.dI=a then x.bM else 0)+eP r a=0
    rw [if_neg (h x (List.mem_cons_self ..)),F4 λy hy=>h y (List.mem_cons_of_mem _ hy)];rfl
theorem NC:∀ {l:List aN} {y:aN},(l.map (·.dI)).Nodup->y∈l->eP l y.dI=y.bM
  | x :: r,y,hd,hy=>by
    rw [List.map_cons,List.nodup_cons] at hd
    show (if x.dI=y.dI then x.bM else 0)+eP r y.dI=y.bM
    rcases List.mem_cons.1 hy with rfl | hy
    · rw [if_pos rfl,F4 (a:=y.dI) λz hz e=>hd.1 (by rw [<- e];exact List.mem_map_of_mem hz),Int.add_zero]
    · rw [if_neg λ(e:x.dI=y.dI)=>hd.1 (by rw [e];exact List.mem_map_of_mem hy),NC hd.2 hy,Int.zero_add]
theorem T9 {l:List aN} (hd:(l.map (·.dI)).Nodup) (y:aN):(eP l y.dI=y.bM/\y.bM≠0)↔(y∈l/\y.bM≠0):=by
  constructor
  · rintro ⟨h1,h2⟩
    refine ⟨Classical.byContradiction λh3=>?_,h2⟩
    by_cases h4:∃ z∈l,z.dI=y.dI
    · obtain ⟨z,hz,e⟩:=h4
      have:=NC hd hz
      rw [e,h1] at this
      apply h3
      cases z;cases y
      simp only at e this
      subst e this;exact hz
    · exact h2 (by rw [<- h1];exact F4 λz hz e=>h4 ⟨z,hz,e⟩)
  · rintro ⟨h1,h2⟩;exact ⟨NC hd h1,h2⟩
theorem aMB {l:List aN} {i:Nat} {x:aN} (hx:l[i]?=some x) (a:Int):eP (l.take (i+1)) a=eP (l.take i) a+if x.dI=a then x.bM else 0:=by
  rw [List.take_add_one,hx]
  have:eP (l.take i++[x]) a=eP (l.take i) a+eP [x] a:=vV _ _ _
  show eP (l.take i++[x]) a=_
  rw [this];simp [eP,eD]
theorem r07 {l:List aN} {n:Nat} (hn:66<n) (hl:l.length<=19) (hd:(l.map (·.dI)).Nodup) :
    Ex (λr=>((∀ x∈l,iP x)->VA l r)/\((¬ ∀ x∈l,iP x)->r=([],1))) (rJ n l):=by
  unfold rJ PO
  simp only [WT.run,bS,wS,Option.bind_some]
  refine aU (λ(r:Unit⊕(List aN×Int))=>match r with | .inl _=>∀ x∈l,iP x | .inr r=>r=([],1)/\¬ ∀ x∈l,iP x)
    (fJ (λ(v:Int)=>0<=v/\v<=(l.length:Int)/\((∀ x∈l.drop v.toNat,iP x)->∀ x∈l,iP x)) (λ(v:Int)=>l.length-v.toNat) ?_ (v:=0) (by simp) (by simp;omega)) λr hr=>iZ (λu e=>?_) λb e=>?_
  · rintro i ⟨h0,h1,h2⟩
    refine aF (aI (λh=>?_) λh=>?_)
    · refine eT h0 h λx hx=>aU _ (LD x) λb hb=>aF (fB (λk=>bJ (bJ (aD ⟨rfl,λhh=>?_⟩))) λk=>bE (cK ⟨⟨by omega,by omega,λhh=>h2 λy hy=>?_⟩,by omega⟩))
      · have:=hb.2 (hh x (fE hx));rw [this] at k;cases k
      · rw [(drop_at hx).2] at hy
        rcases List.mem_cons.1 hy with rfl | hy
        · exact hb.1 (by simpa using k)
        · exact hh y (by rw [show (i+1).toNat=i.toNat+1 by omega];exact hy)
    · refine bJ (cK (h2 λx hx=>?_))
      rw [List.drop_eq_nil_of_le (by omega)] at hx;cases hx
  rotate_left
  · subst e;exact ⟨λq=>absurd q hr.2,λ_=>hr.1⟩
  subst e
  have hk:∀ x∈l,iP x:=hr
  refine aU (λ(r:List Int⊕(List aN×Int))=>match r with | .inl h=>h.length=17/\∀ a:Nat,a<17->h.getD a 0=eP l a | .inr r=>False)
    (fJ (λ(v:Int×List Int)=>0<=v.1/\v.1<=(l.length:Int)/\v.2.length=17/\∀ a:Nat,a<17->v.2.getD a 0=eP (l.take v.1.toNat) a) (λ(v:Int×List Int)=>l.length-v.1.toNat) ?_ (v:=(0,List.replicate 17 0)) ?_ (by simp;omega)) λr hr=>iZ (λh e=>?_) λb e=>?_
  · rintro ⟨i,hv⟩ ⟨h0,h1,h2,h4⟩
    simp only at h0 h1 h2 h4
    refine bF (aF (aI (λh=>?_) λh=>?_))
    · refine eT h0 h λx hx=>?_
      have hx:l[i.toNat]?=some x:=hx
      obtain ⟨g1,g2⟩:=hk x (fE hx)
      refine iR g1 (eT g1.1 (by rw [h2];exact g1.2) λc hc=>eT h0 h λx' hx'=>?_)
      have hx':l[i.toNat]?=some x':=hx'
      rw [hx] at hx';cases hx'
      have hc0:c=0:=by
        have e1:=h4 x.dI.toNat (by omega)
        rw [getD_at hc,show ((x.dI.toNat:Nat):Int)=x.dI by omega] at e1
        rw [e1]
        refine F4 λy hy e=>?_
        have e1:l=l.take i.toNat++x :: l.drop (i.toNat+1):=by rw [<- (drop_at hx).2,List.take_append_drop]
        rw [e1,List.map_append,List.map_cons] at hd
        exact (List.nodup_append.1 hd).2.2 _ (List.mem_map_of_mem hy) x.dI (by simp) e
      subst hc0
      have ha:jI 0 x.bM=(x.bM,0):=by rw [o8 ⟨by decide,g2,by rw [Int.zero_add];exact g2⟩,Int.zero_add]
      rw [ha]
      refine aF (aI (λk=>absurd rfl k) λ_=>eT h0 h λx' hx'=>?_)
      have hx':l[i.toNat]?=some x':=hx'
      rw [hx] at hx';cases hx'
      refine iR g1 (eT g1.1 (by rw [h2];exact g1.2) λc' hc'=>aF (bE (cK ⟨⟨by simp only;omega,by simp only;omega,by simp only [List.length_set];exact h2,?_⟩,by simp only;omega⟩)))
      intro a ha
      show (hv.set x.dI.toNat x.bM).getD a 0=eP (l.take (i+1).toNat) a
      rw [KG (by omega),show (i+1).toNat=i.toNat+1 by omega,aMB hx]
      have h5:=h4 a ha
      by_cases hA:x.dI.toNat=a
      · rw [if_pos hA,if_pos (by omega),<- h5,<- hA,getD_at hc,Int.zero_add]
      · rw [if_neg hA,if_neg (by omega),Int.add_zero];exact h5
    · refine bJ (cK ⟨h2,λa ha=>?_⟩)
      have h5:=h4 a ha
      rw [List.take_of_length_le (by omega)] at h5;exact h5
  · refine ⟨by simp,by simp,by simp,λa ha=>?_⟩
    show (List.replicate 17 (0:Int)).getD a 0=eP (l.take 0) a
    have:(List.replicate 17 (0:Int)).getD a 0=0:=by
      rw [List.getD_eq_getElem?_getD,List.getElem?_replicate];split <;> rfl
    rw [this];rfl
  rotate_left
  · subst e;exact hr.elim
  subst e
  obtain ⟨q1,q2⟩:=hr
  refine aU (λ(m:List aN)=>lK m/\∀ y,y∈m↔(0<=y.dI/\y.dI<17)/\h.getD y.dI.toNat 0=y.bM/\y.bM≠0)
    (fJ (λ(v:Int×List aN)=>0<=v.1/\v.1<=17/\(v.2.length:Int)<=v.1/\lK v.2/\∀ y,y∈v.2↔(0<=y.dI/\y.dI<v.1)/\h.getD y.dI.toNat 0=y.bM/\y.bM≠0) (λ(v:Int×List aN)=>17-v.1.toNat) ?_ (v:=(0,[])) ?_ (by simp;omega)) λm hm=>aD ⟨λ_=>⟨rfl,hm.1,λy=>?_⟩,λq=>absurd hk q⟩
  · rintro ⟨i,m⟩ ⟨h0,h1,h2,h3,h4⟩
    simp only at h0 h1 h2 h3 h4
    refine bF (aF (aI (λk=>?_) λk=>?_))
    · have k:i<17:=k
      refine aU (λ(m':List aN)=>(m'.length:Int)<=i+1/\lK m'/\∀ y,y∈m'↔(0<=y.dI/\y.dI<i+1)/\h.getD y.dI.toNat 0=y.bM/\y.bM≠0) ?_ λm' hm'=>bE (cK ⟨⟨by simp only;omega,by simp only;omega,hm'.1,hm'.2.1,hm'.2.2⟩,by simp only;omega⟩)
      refine iR ⟨h0,k⟩ (eT h0 (by rw [q1];exact k) λc hc=>?_)
      have hc:h[i.toNat]?=some c:=hc
      refine aF (aI (λk2=>iR ⟨h0,k⟩ (aF (iR (by show (m++[_]).length<=_;simp;omega) (aD ⟨by show ((m++[_]).length:Int)<=_;simp;omega,?_,λy=>?_⟩)))) λk2=>aD ⟨by show (m.length:Int)<=_;omega,h3,λy=>?_⟩)
      · refine List.pairwise_append.2 ⟨h3,List.pairwise_singleton _ _,λa ha b hb=>?_⟩
        rw [List.mem_singleton.1 hb];exact ((h4 a).1 ha).1.2
      · rw [List.mem_append,List.mem_singleton,h4 y]
        constructor
        · rintro (⟨g1,g2,g3⟩ | rfl)
          · exact ⟨by omega,g2,g3⟩
          · exact ⟨⟨h0,by simp only;omega⟩,getD_at hc,k2⟩
        · rintro ⟨g1,g2,g3⟩
          by_cases g:y.dI=i
          · right
            rw [g,getD_at hc] at g2
            cases y;simp only at g g2;rw [g,g2]
          · exact .inl ⟨by omega,g2,g3⟩
      · rw [h4 y]
        constructor
        · rintro ⟨g1,g2,g3⟩;exact ⟨by omega,g2,g3⟩
        · rintro ⟨g1,g2,g3⟩
          refine ⟨⟨g1.1,?_⟩,g2,g3⟩
          by_cases g:y.dI=i
          · rw [g,getD_at hc] at g2;exact absurd (g2 ▸ g3) k2
          · omega
    · have k:¬ i<17:=k
      refine bJ (aD ⟨h3,λy=>?_⟩)
      rw [h4 y,show i=17 by omega]
  · refine ⟨by simp,by simp,by simp,List.Pairwise.nil,λy=>⟨λq=>(nomatch q),λq=>by simp only at q;omega⟩⟩
  · rw [hm.2 y,<- T9 hd y]
    constructor
    · rintro ⟨g1,g2,g3⟩
      rw [q2 _ (by omega),show ((y.dI.toNat:Nat):Int)=y.dI by omega] at g2
      exact ⟨g2,g3⟩
    · intro g
      have hy:=((T9 hd y).1 g).1
      have g1:=(hk y hy).1
      refine ⟨g1,?_,g.2⟩
      rw [q2 _ (by omega),show ((y.dI.toNat:Nat):Int)=y.dI by omega];exact g.1
theorem Y4 {l:List aN} {n:Nat} (hn:66<n) (hl:l.length<=19) (hd:(l.map (·.dI)).Nodup):vU n l=rJ n l:=by
  obtain ⟨a,ea,ha1,ha2⟩:=IX hn hl hd
  obtain ⟨b,eb,hb1,hb2⟩:=r07 hn hl hd
  rw [ea,eb]
  by_cases k:∀ x∈l,iP x
  · obtain ⟨a1,a2,a3⟩:=ha1 k
    obtain ⟨b1,b2,b3⟩:=hb1 k
    have e:=U4 a2 b2 λy=>by rw [a3,b3]
    cases a;cases b
    simp only at a1 b1 e
    rw [e,a1,b1]
  · rw [ha2 k,hb2 k]
theorem aMG {m:List aN} {n:Nat} (hn:66<n) (hl:m.length<=40):KH n m=some (gM (m.map (·.bM))):=by
  refine fH ?_
  unfold KH aFL
  simp only [WT.run,bS]
  refine aU (λ(r:List Int)=>r=m.map (·.bM))
    (fJ (λ(v:Int×List Int)=>0<=v.1/\v.1<=(m.length:Int)/\v.2=(m.take v.1.toNat).map (·.bM)) (λv=>m.length-v.1.toNat) ?_ (v:=(0,[])) (by simp) (by simp;omega)) ?_
  · rintro ⟨i,a⟩ ⟨h0,h1,h2⟩
    simp only at h0 h1 h2
    subst h2
    refine bF (aF (aI (λh=>?_) λh=>?_))
    · refine eT h0 h λx hx=>?_
      have e:(i+1).toNat=i.toNat+1:=by omega
      simp only [take_at (f:=aN.bM) hx]
      refine aF (dM (bE (cK ⟨⟨by simp only;omega,by simp only;omega,?_⟩,by simp only;omega⟩)))
      simp only [e]
    · refine bJ (aD ?_)
      simp only [List.take_of_length_le (show m.length<=i.toNat by omega)]
  · rintro _ rfl
    exact x_eq (EQ (by simp;omega) (by simp;omega)) (aD rfl)
def AQ (m:List aN):Prop:=(1<=m.length/\m.length<=12)/\(gM (m.map (·.bM))).1=0/\(gM (m.map (·.bM))).2=0
theorem aQ2 {x:aN} (h:iP x) (h2:x.bM≠0):JS x=some false:=by
  refine fH ?_
  unfold JS aGN
  simp only [WT.run,bS,aAH,aDH,Option.bind_some]
  rw [decide_eq_true h.1,decide_eq_true h.2]
  exact aU (λb=>b=false) (aF (bW (aF (aI (λk=>absurd k h2) λ_=>aF (aD rfl))))) λb hb=>aD hb
theorem aQD {m:List aN} {n:Nat} (hn:66<n) (hl:m.length<=40) (hk:∀ x∈m,iP x/\x.bM≠0):Ex (λr=>r=true↔AQ m) (J9 n m):=by
  unfold J9 VQ
  simp only [WT.run,bS]
  refine aU (λb=>b=true↔¬ (1<=m.length/\m.length<=12)) (aF (aI (λk=>aD ⟨λ_=>by omega,λ_=>rfl⟩) λk=>aF (aD ?_))) λb hb=>fB (λk=>aD ⟨(λq=>nomatch q),λq=>absurd q.1 (hb.1 k)⟩) λk=>?_
  · rw [decide_eq_true_eq];omega
  have hlen:1<=m.length/\m.length<=12:=Classical.not_not.1 λq=>by rw [hb.2 q] at k;cases k
  refine x_eq (aMG hn hl) (aU (λz=>z=true↔AQ m) (aU (λb=>b=false) (aU (λ(v:Int)=>v=-1) (aU (λ(r:Unit⊕Int)=>r=.inl ()) ?_ λr hr=>by subst hr;exact cZ (aD rfl)) λv hv=>?_) λb hb=>?_) λz hz=>aD hz)
  · refine fJ (λ(v:Int)=>0<=v/\v<=(m.length:Int)) (λ(v:Int)=>m.length-v.toNat) ?_ (v:=0) (by simp) (by simp;omega)
    rintro i ⟨h0,h1⟩
    refine aF (aI (λh=>eT h0 h λx hx=>x_eq (aQ2 (hk x (fE hx)).1 (hk x (fE hx)).2) (bW (bE (cK ⟨⟨by omega,by omega⟩,by omega⟩)))) λh=>bJ (cK rfl))
  · subst hv;exact aF (aD (by decide))
  · subst hb
    refine aF (dB (aF (aI (λq=>aF (aD ?_)) λq=>aD ⟨(λz=>nomatch z),λz=>absurd z.2.1 q⟩)))
    rw [decide_eq_true_eq];exact ⟨λz=>⟨hlen,q,z⟩,λz=>z.2.2⟩
theorem aOJ {m:List aN} {n:Nat} (hn:66<n) (hl:m.length<=40) (hk:∀ x∈m,iP x/\x.bM≠0):Ex (λr=>r=true↔AQ m) (A9 n m):=by
  unfold A9 NL
  simp only [WT.run,bS]
  refine aU (λ(r:List Int⊕Bool)=>r=.inl (m.map (·.bM)))
    (fJ (λ(v:Int×List Int)=>0<=v.1/\v.1<=(m.length:Int)/\v.2=(m.take v.1.toNat).map (·.bM)) (λv=>m.length-v.1.toNat) ?_ (v:=(0,[])) (by simp) (by simp;omega)) λr hr=>?_
  · rintro ⟨i,a⟩ ⟨h0,h1,h2⟩
    simp only at h0 h1 h2
    subst h2
    refine bF (aF (aI (λh=>?_) λh=>?_))
    · have hx:=List.getElem?_eq_getElem (l:=m) (i:=i.toNat) (by omega)
      generalize m[i.toNat]'(by omega)=x at hx
      have e:(i+1).toNat=i.toNat+1:=by omega
      have hkx:=hk x (fE hx)
      refine aU (λb=>b=false) (dD h0 hx (aU _ (LD x) λb hb=>?_)) λb hb=>?_
      · rw [hb.2 hkx.1]
        exact aF (bW (dD h0 hx (aF (aD (decide_eq_false hkx.2)))))
      · subst hb
        refine bW (dD h0 hx ?_)
        simp only [take_at (f:=aN.bM) hx]
        refine aF (dM (bE (cK ⟨⟨by simp only;omega,by simp only;omega,?_⟩,by simp only;omega⟩)))
        simp only [e]
    · refine bJ (cK ?_)
      show _=_
      rw [List.take_of_length_le (by omega)]
  · subst hr
    refine cZ (x_eq (tF (by simp;omega) (by simp;omega)) (aU (λz=>z=true↔AQ m) ?_ λz hz=>aD hz))
    refine aF (aI (λk1=>aF (aI (λk2=>aF (aI (λk3=>aF (aD ?_)) λk3=>aD ⟨(λz=>nomatch z),λz=>absurd z.2.2 k3⟩)) λk2=>aD ⟨(λz=>nomatch z),λz=>absurd z.1.2 (by omega)⟩)) λk1=>aD ⟨(λz=>nomatch z),λz=>absurd z.1.1 (by omega)⟩)
    rw [decide_eq_true_eq];exact ⟨λz=>⟨⟨by omega,by omega⟩,z,k3⟩,λz=>z.2.1⟩
def lW:List Int->List aN->Option (List Int)
  | b,[]=>some b
  | b,x :: r=>if (jI (b.getD x.dI.toNat 0) x.bM).2≠0 then none else lW (b.set x.dI.toNat (jI (b.getD x.dI.toNat 0) x.bM).1) r
def vG (gH:List Int) (m:List aN):List Int×Int:=match lW gH m with | some b=>(b,0) | none=>(gH,2)
theorem aFS:∀ {m:List aN} {b b':List Int},lW b m=some b'->b'.length=b.length
  | [],b,b',h=>by cases h;rfl
  | x :: r,b,b',h=>by
    unfold lW at h
    split at h
    · cases h
    · rw [aFS h,List.length_set]
theorem aHM {b:List Int} {x:aN} {r:List aN}:lW b (x :: r)=if (jI (b.getD x.dI.toNat 0) x.bM).2≠0 then none else lW (b.set x.dI.toNat (jI (b.getD x.dI.toNat 0) x.bM).1) r:=rfl
def zL (m:List aN×Int):Prop:=m.2≠0\/(0<m.1.length/\¬ AQ m.1)
noncomputable def qQ (gH:List Int) (m:List aN×Int):List Int×Int:=open Classical in if zL m then (gH,10) else vG gH m.1
theorem VY {gH:List Int} {m:List aN×Int} (h:zL m):qQ gH m=(gH,10):=if_pos h
theorem PL {gH:List Int} {m:List aN×Int} (h:¬ zL m):qQ gH m=vG gH m.1:=if_neg h
theorem aAI {m:List aN×Int} {D:Option Bool} (hD:(∀ x∈m.1,iP x/\x.bM≠0)->Ex (λr=>r=true↔AQ m.1) D) (hk:∀ x∈m.1,iP x/\x.bM≠0) :
    Ex (λb=>b=true↔zL m) (bnd (decide (m.2≠0)) λx=>cond x (some true) (bnd (decide ((m.1.length:Int)>0)) λy=>cond y (D.bind λz=>bnd (!z) λw=>some w) (some false))):=by
  refine aF (aI (λk=>aD ⟨λ_=>.inl k,λ_=>rfl⟩) λk=>aF (aI (λk2=>aU _ (hD hk) λz hz=>aF (aD ?_)) λk2=>aD ⟨(λq=>nomatch q),λq=>?_⟩))
  · cases z with
    | true=>exact ⟨(λq=>nomatch q),λq=>by rcases q with q | q;exact absurd q k;exact absurd (hz.1 rfl) q.2⟩
    | false=>exact ⟨λ_=>.inr ⟨by omega,λq=>nomatch hz.2 q⟩,λ_=>rfl⟩
  · rcases q with q | q
    · exact absurd q k
    · omega
theorem pGl {gH:List Int} {l:List aN} {m:List aN×Int} {n:Nat} (hn:66<n) (hb:gH.length=17) (e:vU n l=some m) (hk:∀ x∈m.1,iP x/\x.bM≠0) (hl:m.1.length<=19):J6 n gH l=some (qQ gH m):=by
  refine fH ?_
  unfold J6 aEW
  simp only [WT.run,bS,TC,Option.bind_some]
  refine aF (aI (λk=>?_) λ_=>?_)
  · exfalso;omega
  refine aU (λ(r:Int⊕List Int)=>match r with | .inr b=>(b,(0:Int))=qQ gH m | .inl e=>(gH,e)=qQ gH m) (dM (aU (λ(r:Int×List Int)=>(r.1=0/\r.2.length=17/\(r.2,(0:Int))=qQ gH m)\/(r.1≠0/\(gH,r.1)=qQ gH m))
    (x_eq e (aU _ (aAI (λhk=>aQD hn (by omega) hk) hk) λb hb2=>fB (λk=>aD (.inr ⟨by show (10:Int)≠0;decide,(VY (hb2.1 k)).symm⟩)) λk=>?_)) λr hr=>bF (aF (aI (λk=>dM (aD ?_)) λk=>?_)))) λr hr=>?_
  · have hnb:¬ zL m:=λq=>by rw [hb2.2 q] at k;cases k
    refine aU (λ(r:List Int⊕(Int×List Int))=>match r with | .inl b'=>lW gH m.1=some b' | .inr q=>q.1=2/\lW gH m.1=none)
      (fJ (λ(v:Int×List Int)=>0<=v.1/\v.1<=(m.1.length:Int)/\v.2.length=17/\lW gH m.1=lW v.2 (m.1.drop v.1.toNat)) (λv=>m.1.length-v.1.toNat) ?_ (v:=(0,gH)) ⟨by simp,by simp,hb,rfl⟩ (by simp;omega)) λr hr=>iZ (λa e=>?_) λq e=>?_
    · rintro ⟨i,b⟩ ⟨h0,h1,h2,h3⟩
      simp only at h0 h1 h2 h3
      refine bF (aF (aI (λh=>?_) λh=>bJ (cK ?_)))
      · have hx:=List.getElem?_eq_getElem (l:=m.1) (i:=i.toNat) (by first | omega | (simp only;omega))
        generalize m.1[i.toNat]'(by first | omega | (simp only;omega))=x at hx
        have g:=(hk x (fE hx)).1.1
        have hc:=List.getElem?_eq_getElem (l:=b) (i:=x.dI.toNat) (by omega)
        generalize b[x.dI.toNat]'(by omega)=c at hc
        have e:(i+1).toNat=i.toNat+1:=by omega
        have e3:lW b (m.1.drop i.toNat)=if (jI c x.bM).2≠0 then none else lW (b.set x.dI.toNat (jI c x.bM).1) (m.1.drop (i.toNat+1)):=by
          rw [(drop_at hx).2,<- getD_at hc];rfl
        rw [e3] at h3
        refine dD h0 hx (dD g.1 hc (aF (aF (aI (λk=>bJ (bJ (aD ?_))) λk=>bE (cK ⟨⟨by first | omega | (simp only;omega),by first | omega | (simp only;omega),by simp only;rw [List.length_set];exact h2,?_⟩,by first | omega | (simp only;omega)⟩)))))
        · rw [if_pos k] at h3;exact ⟨(oI _ _).resolve_left k,h3⟩
        · rw [if_neg k] at h3;simp only;rw [e];exact h3
      · rw [List.drop_eq_nil_of_le (by first | omega | (simp only;omega))] at h3;exact h3
    · subst e
      have hr:lW gH m.1=some a:=hr
      refine aD (.inl ⟨rfl,by rw [aFS hr];exact hb,?_⟩)
      rw [PL hnb];unfold vG;rw [hr]
    · subst e
      have hr:q.1=2/\lW gH m.1=none:=hr
      have e2:q.1=2:=hr.1
      refine .inr ⟨by rw [e2];decide,?_⟩
      rw [PL hnb,e2];unfold vG;rw [hr.2]
  · rcases hr with ⟨h1,_⟩ | ⟨_,h2⟩
    · exact absurd h1 k
    · exact h2
  · rcases hr with ⟨h1,h2,h3⟩ | ⟨h1,_⟩
    · exact dM (aD h3)
    · exact absurd h1 k
  · cases r with
    | inr b=>exact aD hr
    | inl e=>exact aD hr
theorem rGl {gH:List Int} {l:List aN} {m:List aN×Int} {n:Nat} (hn:66<n) (hb:gH.length=17) (e:rJ n l=some m) (hk:∀ x∈m.1,iP x/\x.bM≠0) (hl:m.1.length<=19):zH n gH l=some (qQ gH m):=by
  refine fH ?_
  unfold zH QZ
  simp only [WT.run,bS,wS,Option.bind_some]
  refine aF (aI (λk=>?_) λ_=>?_)
  · exfalso;omega
  refine dM (x_eq e (aU _ (aAI (λhk=>aOJ hn (by omega) hk) hk) λb hb2=>fB (λk=>aD (VY (hb2.1 k)).symm) λk=>dM ?_))
  have hnb:¬ zL m:=λq=>by rw [hb2.2 q] at k;cases k
  rw [PL hnb]
  refine aU (λ(r:List Int⊕(List Int×Int))=>match r with | .inl b'=>lW gH m.1=some b' | .inr q=>q=vG gH m.1)
    (fJ (λ(v:Int×List Int)=>0<=v.1/\v.1<=(m.1.length:Int)/\v.2.length=17/\lW gH m.1=lW v.2 (m.1.drop v.1.toNat)) (λv=>m.1.length-v.1.toNat) ?_ (v:=(0,gH)) ⟨by simp,by simp,hb,rfl⟩ (by simp;omega)) λr hr=>iZ (λa e=>?_) λq e=>?_
  · rintro ⟨i,b⟩ ⟨h0,h1,h2,h3⟩
    simp only at h0 h1 h2 h3
    refine bF (aF (aI (λh=>?_) λh=>?_))
    · have h:i<(m.1.length:Int):=h
      have hx:=List.getElem?_eq_getElem (l:=m.1) (i:=i.toNat) (by omega)
      generalize m.1[i.toNat]'(by omega)=x at hx
      have g:=(hk x (fE hx)).1.1
      have hc:=List.getElem?_eq_getElem (l:=b) (i:=x.dI.toNat) (by omega)
      generalize b[x.dI.toNat]'(by omega)=c at hc
      have e:(i+1).toNat=i.toNat+1:=by omega
      rw [(drop_at hx).2] at h3
      rw [aHM,getD_at hc] at h3
      refine dD h0 hx (dD g.1 hc (dD h0 hx (aF (aI (λk=>bJ (bJ (aD ?_))) λk=>dD h0 hx (dD g.1 hc (aF (bE (cK ⟨⟨by simp only;omega,by simp only;omega,by simp only [List.length_set];exact h2,?_⟩,by simp only;omega⟩))))))))
      · rw [if_pos k] at h3
        show (gH,_)=vG gH m.1
        unfold vG;rw [h3];simp only;rw [(oI _ _).resolve_left k]
      · rw [if_neg k] at h3
        simp only [e];exact h3
    · have h:¬ i<(m.1.length:Int):=h
      refine bJ (cK ?_)
      show lW gH m.1=some b
      rw [h3,List.drop_eq_nil_of_le (by omega)];rfl
  · subst e;have hr:lW gH m.1=some a:=hr
    refine aD ?_
    unfold vG;rw [hr]
  · subst e;exact hr
theorem X7:∀ {m:List aN} {k:Int},lK m->(∀ y∈m,k<=y.dI/\y.dI<17)->k<=17->(m.length:Int)<=17-k
  | [],k,_,_,h=>by simp;omega
  | x :: r,k,h,hb,hk=>by
    have h':=List.pairwise_cons.1 h
    have hx:=hb x (List.mem_cons_self ..)
    have:=X7 (k:=x.dI+1) h'.2 (λy hy=>⟨by have:=h'.1 y hy;omega,(hb y (List.mem_cons_of_mem _ hy)).2⟩) (by omega)
    simp;omega
theorem WK {l:List aN} {m:List aN×Int} {n:Nat} (hn:66<n) (hl:l.length<=19) (hd:(l.map (·.dI)).Nodup) (e:vU n l=some m):(∀ x∈m.1,iP x/\x.bM≠0)/\m.1.length<=19/\(m.1.map (·.dI)).Nodup:=by
  have h:=aDU (IX hn hl hd) e
  by_cases k:∀ x∈l,iP x
  · obtain ⟨h1,h2,h3⟩:=h.1 k
    have hnd:(m.1.map (·.dI)).Nodup:=by
      unfold List.Nodup
      rw [List.pairwise_map]
      exact List.Pairwise.imp (λ{a b} q=>by omega) h2
    refine ⟨λx hx=>⟨k x ((h3 x).1 hx).1,((h3 x).1 hx).2⟩,?_,hnd⟩
    have:=X7 (k:=0) h2 (λy hy=>(k y ((h3 y).1 hy).1).1) (by decide)
    omega
  · rw [h.2 k];simp
theorem post_eq {s:aA} {n:Nat} (hn:66<n) (h:SS s) {e:Int} {l:List aN} (hl:l.length<=19) (hd:(l.map (·.dI)).Nodup):sW n s e l=kV n s e l:=by
  have hf:=h.toS0.iC
  have ep:=Y4 hn hl hd
  obtain ⟨m,em,_⟩:=IX hn hl hd
  have em2:rJ n l=some m:=by rw [<- ep];exact em
  obtain ⟨m1,m2,m3⟩:=WK hn hl hd em
  by_cases he:0<=e/\e<(s.bD.length:Int)
  rotate_left
  · have e1:sW n s e l=some (s,4):=by
      refine fH ?_
      unfold sW C5
      simp only [WT.run,bS]
      refine aU (λb=>b=true) (aF (aI (λ_=>aD rfl) λk=>aF (aD (decide_eq_true (by omega))))) λb hb=>by subst hb;exact dB (aD rfl)
    have e2:kV n s e l=some (s,4):=by
      refine fH ?_
      unfold kV zU
      simp only [WT.run,bS,qF,Option.bind_some]
      refine bE ?_
      rw [decide_eq_false (p:=0<=e/\e<=(s.bD.length:Int)-1) (by omega)]
      exact aF (dB (aD rfl))
    rw [e1,e2]
  have hx:=List.getElem?_eq_getElem (l:=s.bD) (i:=e.toNat) (by omega)
  generalize s.bD[e.toNat]'(by omega)=x at hx
  obtain ⟨bL,hm,_,_,hes⟩:=h.bL hx
  have hfew:=hes.iC hf.2.2
  obtain ⟨q,eq,_⟩:=IX (l:=m.1) hn m2 m3
  have eq2:rJ n m.1=some q:=by rw [<- Y4 hn m2 m3];exact eq
  obtain ⟨q1,q2,q3⟩:=WK hn m2 m3 eq
  have ga:=pGl hn hes.lb eq q1 q2
  have gb:=rGl hn hes.lb eq2 q1 q2
  have key:∃ v,sW n s e l=some v/\kV n s e l=some v:=by
    by_cases k:m.2≠0
    · refine ⟨(s,m.2),?_,?_⟩
      · refine fH ?_
        unfold sW C5
        simp only [WT.run,bS]
        refine aU (λb=>b=false) (aF (aI (λk=>absurd k (by omega)) λk=>aF (aD (decide_eq_false (by omega))))) λb hb=>?_
        subst hb;exact bW (x_eq em (aF (aI (λ_=>aD rfl) λz=>absurd k z)))
      · refine fH ?_
        unfold kV zU
        simp only [WT.run,bS,qF,Option.bind_some]
        refine bE ?_
        rw [decide_eq_true (p:=0<=e/\e<=(s.bD.length:Int)-1) (by omega)]
        exact aF (bW (x_eq em2 (aF (aI (λ_=>aD rfl) λz=>absurd k z))))
    · by_cases k2:(qQ x.dR q).2≠0
      · refine ⟨(s,(qQ x.dR q).2),?_,?_⟩
        · refine fH ?_
          unfold sW C5
          simp only [WT.run,bS]
          refine aU (λb=>b=false) (aF (aI (λk=>absurd k (by omega)) λk=>aF (aD (decide_eq_false (by omega))))) λb hb=>?_
          subst hb;exact bW (x_eq em (aF (aI (λz=>absurd z k) λ_=>dD he.1 hx (x_eq ga (aF (aI (λ_=>aD rfl) λz=>absurd k2 z))))))
        · refine fH ?_
          unfold kV zU
          simp only [WT.run,bS,qF,Option.bind_some]
          refine bE ?_
          rw [decide_eq_true (p:=0<=e/\e<=(s.bD.length:Int)-1) (by omega)]
          exact aF (bW (x_eq em2 (aF (aI (λz=>absurd z k) λ_=>dD he.1 hx (x_eq gb (aF (aI (λ_=>aD rfl) λz=>absurd k2 z)))))))
      · refine ⟨(lM s e.toNat { x with dR:=(qQ x.dR q).1 },0),?_,?_⟩
        · refine fH ?_
          unfold sW C5
          simp only [WT.run,bS]
          refine aU (λb=>b=false) (aF (aI (λk=>absurd k (by omega)) λk=>aF (aD (decide_eq_false (by omega))))) λb hb=>?_
          subst hb
          refine bW (x_eq em (aF (aI (λz=>absurd z k) λ_=>dD he.1 hx (x_eq ga (aF (aI (λz=>absurd z k2) λ_=>?_))))))
          exact aU (λ_=>True) (dM (dD he.1 hx (aD trivial))) λ_ _=>dD he.1 hx (aF (aD rfl))
        · refine fH ?_
          unfold kV zU
          simp only [WT.run,bS,qF,Option.bind_some]
          refine bE ?_
          rw [decide_eq_true (p:=0<=e/\e<=(s.bD.length:Int)-1) (by omega)]
          refine aF (bW (x_eq em2 (aF (aI (λz=>absurd z k) λ_=>dD he.1 hx (x_eq gb (aF (aI (λz=>absurd z k2) λ_=>?_)))))))
          refine aU (λr=>r=(x.fU,x.Closed,x.fV,x.bX,x.dR,x.dQ,x.gI,x.Down)) (dM (dD he.1 hx (dM (dM (dM (dM (dM (aD rfl)))))))) λr hr=>?_
          subst hr
          exact bF (bF (bF (bF (bF (bF (bF (dD he.1 hx (aD rfl))))))))
  obtain ⟨v,e1,e2⟩:=key
  rw [e1,e2]
end Go.Pv
