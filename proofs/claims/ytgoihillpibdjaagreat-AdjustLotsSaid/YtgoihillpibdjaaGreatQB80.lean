import Derived.Test.YtgoihillpibdjaaGreatX90l
import Derived.Test.YtgoihillpibdjaaGreatH70
set_option linter.unusedVariables false
set_option linter.unusedSimpArgs false
namespace Go.Pv
open Go.Proofs
set_option maxRecDepth 1000000
set_option maxHeartbeats 1000000
theorem pIn (a:Int):zG a=some (decide (bQ a)):=by
  unfold zG aAS bQ
  simp only [WT.run,bR]
  by_cases h1:a>=-288230376151711744
  · by_cases h2:a<=288230376151711744
    · simp [bnd,h1,h2,cond]
    · simp [bnd,h1,h2,cond]
  · simp [bnd,h1,cond]
theorem VA (a b:Int):nG a b=some (jK a b):=by
  unfold nG aCL jK
  simp only [WT.run,bR,pIn,Option.bind_some]
  by_cases h1:bQ a
  · by_cases h2:bQ b
    · have e:aW (a+b)=a+b:=by unfold bQ at h1 h2;exact wrap64 (by omega)
      by_cases h3:bQ (a+b)
      · simp [bnd,h1,h2,h3,cond,e]
      · simp [bnd,h1,h2,h3,cond,e]
    · simp [bnd,h1,h2,cond]
  · simp [bnd,h1,cond]
theorem uT {l:List Int} {n:Nat} (hn:l.length+1<n) (hl:(l.length:Int)<1000000000):pX n l=some (gG l):=by
  have key:Ex (λr=>r=gG l) (pX n l):=by
    unfold pX X3
    simp only [WT.run,bR,VA,Option.bind_some]
    refine aT (λ(r:Int⊕(Int×Int))=>match r with | .inl a=>iD 0 l=some a | .inr q=>q=gG l) (fM (λ(v:Int×Int)=>0<=v.2/\v.2<=(l.length:Int)/\iD 0 l=iD v.1 (l.drop v.2.toNat)) (λ(v:Int×Int)=>l.length-v.2.toNat) ?_ (v:=(0,0)) (by simp) (by simp;omega)) ?_
    · rintro ⟨s,i⟩ ⟨h0,h1,h2⟩
      refine bE (aD (eX (λh=>?_) λh=>?_))
      · have h:=of_decide_eq_true h
        simp only at h0 h1 h2 h
        refine eF h0 h λx hx=>?_
        refine aD (eX (λh3=>?_) λh3=>?_)
        · refine bK (bK (aF ?_))
          have h3:=of_decide_eq_true h3
          have e2:iD 0 l=none:=by
            rw [h2,(drop_at hx).2];unfold jK at h3;unfold iD
            by_cases h4:bQ s/\bQ x/\bQ (s+x)
            · rw [if_pos h4] at h3;exact absurd rfl h3
            · rw [if_neg h4]
          have e3:(jK s x).2=2:=by
            unfold jK at h3 ⊢
            by_cases h4:bQ s/\bQ x/\bQ (s+x)
            · rw [if_pos h4] at h3;exact absurd rfl h3
            · rw [if_neg h4]
          show ((0:Int),(jK s x).2)=gG l
          unfold gG;rw [e2,e3]
        · have h3:=of_decide_eq_false h3
          have h4:bQ s/\bQ x/\bQ (s+x):=by
            by_cases h4:bQ s/\bQ x/\bQ (s+x)
            · exact h4
            · unfold jK at h3;rw [if_neg h4] at h3;exact absurd (show ((0:Int),(2:Int)).snd≠0 by decide) h3
          refine bF (bX ⟨⟨by omega,by omega,?_⟩,?_⟩)
          · have e:(i+1).toNat=i.toNat+1:=by omega
            show iD 0 l=iD (jK s x).1 (l.drop (i+1).toNat)
            rw [h2,(drop_at hx).2,e];unfold jK;rw [if_pos h4,iD,if_pos h4]
          · show l.length-(i+1).toNat<l.length-i.toNat
            omega
      · have h:=of_decide_eq_false h
        refine bK (bX ?_)
        have e:l.drop i.toNat=[]:=List.drop_eq_nil_of_le (by simp only at h h0;omega)
        show iD 0 l=some s
        rw [h2,e];rfl
    · intro r hr
      refine jI (λa e=>aF ?_) λq e=>?_
      · subst e;show (a,(0:Int))=gG l;unfold gG;rw [show iD 0 l=some a from hr]
      · subst e;exact hr
  obtain ⟨r,e,rfl⟩:=key;exact e
def jX:List Int->Int | []=>0 | x :: r=>x+jX r
def kW:List Int->Int | []=>0 | x :: r=>ab x+kW r
theorem WG:∀ l:List Int,0<=kW l
  | []=>Int.le_refl _
  | x :: r=>by have:=WG r;have:=lV x;show 0<=ab x+kW r;omega
theorem VG:∀ {l:List Int} {n:Int},ab n+kW l<=288230376151711744->iD n l=some (n+jX l)
  | [],n,h=>by show some n=some (n+0);rw [Int.add_zero]
  | x :: r,n,h=>by
    have h:ab n+(ab x+kW r)<=288230376151711744:=h
    have h1:=WG r;have h2:=lV n;have h3:=lV x;have h4:=lV (n+x)
    have h5:ab (n+x)<=ab n+ab x:=by unfold ab;split <;> split <;> split <;> omega
    unfold iD
    rw [if_pos (by unfold bQ;omega),VG (by omega)]
    show some (n+x+jX r)=some (n+(x+jX r));rw [Int.add_assoc]
theorem QE:∀ {l:List Int} {n r:Int},bQ n->iD n l=some r->bQ r/\r=n+jX l
  | [],n,r,hn,h=>by cases h;exact ⟨hn,(Int.add_zero _).symm⟩
  | x :: l,n,r,hn,h=>by
    unfold iD at h
    by_cases k:bQ n/\bQ x/\bQ (n+x)
    · rw [if_pos k] at h
      obtain ⟨a,b⟩:=QE k.2.2 h
      exact ⟨a,by rw [b];show _=n+(x+jX l);omega⟩
    · rw [if_neg k] at h;cases h
theorem BE {l:List Int} (h:kW l=jX l):(jX l<=288230376151711744/\gG l=(jX l,0))\/(¬ jX l<=288230376151711744/\(gG l).2=2):=by
  by_cases k:jX l<=288230376151711744
  · left;refine ⟨k,?_⟩
    unfold gG;rw [VG (by rw [h];show 0+_<=_;omega)];show (0+jX l,(0:Int))=_;rw [Int.zero_add]
  · right;refine ⟨k,?_⟩
    unfold gG
    cases e:iD 0 l with
    | none=>rfl
    | some v=>obtain ⟨a,b⟩:=QE (by unfold bQ;omega) e;unfold bQ at a;omega
theorem aC4 (l:List Int):gG l=(jX l,0)\/((gG l).2=2/\¬ kW l<=288230376151711744):=by
  by_cases k:kW l<=288230376151711744
  · left
    unfold gG;rw [VG (by show 0+_<=_;omega)];show (0+jX l,(0:Int))=_;rw [Int.zero_add]
  · unfold gG
    cases e:iD 0 l with
    | none=>exact .inr ⟨rfl,k⟩
    | some v=>obtain ⟨a,b⟩:=QE (by unfold bQ;omega) e;left;show (v,(0:Int))=_;rw [b,Int.zero_add]
theorem aYJ {l:List aB} (hk:∀ x∈l,jA x):jX (l.map (·.aI))=tQ l/\kW (l.map (·.aI))=tQ l/\jX (l.map (·.Value))=tV l/\kW (l.map (·.Value))=tV l/\jX (l.map (·.bN))=tP l/\kW (l.map (·.bN))=tS l:=by
  induction l with
  | nil=>exact ⟨rfl,rfl,rfl,rfl,rfl,rfl⟩
  | cons x r ih =>
    obtain ⟨h1,h2,h3,h4,h5,h6⟩:=ih λy hy=>hk y (List.mem_cons_of_mem _ hy)
    obtain ⟨c1,c2,c3⟩:=hk x (List.mem_cons_self ..)
    have e1:ab x.aI=x.aI:=by unfold ab;rw [if_neg (by omega)]
    have e2:ab x.Value=x.Value:=by unfold ab;rw [if_neg (by omega)]
    simp only [List.map_cons,jX,kW,tQ,tV,tP,tS,h1,h2,h3,h4,h5,h6,e1,e2,and_self]
theorem take_at {α β:Type} {l:List α} {i:Nat} {x:α} {f:α->β} (h:l[i]?=some x):(l.take i).map f++[f x]=(l.take (i+1)).map f:=by
  obtain ⟨hi,e⟩:=List.getElem?_eq_some_iff.1 h
  rw [List.take_add_one,h,List.map_append];rfl
theorem SX {l:List aB} {n:Nat} (hn:l.length+1<n) (hl:(l.length:Int)<1000000000) (hk:∀ x∈l,jA x) :
    Ex (λr=>(tQ l<=288230376151711744->tV l<=288230376151711744->tS l<=288230376151711744->r=(⟨tQ l,tV l,tP l⟩,0))/\(r.2=0->tQ l<=288230376151711744/\tV l<=288230376151711744)) (wV n l):=by
  unfold wV Y2
  simp only [WT.run,bR]
  refine aT (λ(r:List Int×List Int×List Int)=>r=(l.map (·.aI),l.map (·.Value),l.map (·.bN)))
    (fM (λ(v:Int×List Int×List Int×List Int)=>0<=v.1/\v.1<=(l.length:Int)/\v.2=((l.take v.1.toNat).map (·.aI),(l.take v.1.toNat).map (·.Value),(l.take v.1.toNat).map (·.bN))) (λv=>l.length-v.1.toNat) ?_ (v:=(0,[],[],[])) (by simp) (by simp;omega)) ?_
  · rintro ⟨i,a,b,c⟩ ⟨h0,h1,h2⟩
    simp only [Prod.mk.injEq] at h0 h1 h2
    obtain ⟨rfl,rfl,rfl⟩:=h2
    refine bE (bE (bE (aD (aH (λh=>?_) λh=>?_))))
    · refine eF h0 h λx hx=>?_
      have e:(i+1).toNat=i.toNat+1:=by omega
      simp only [take_at (f:=aB.aI) hx,take_at (f:=aB.Value) hx,take_at (f:=aB.bN) hx]
      refine aD (dF (aD (dF (aD (dF (bF (bX ⟨⟨by simp only;omega,by simp only;omega,?_⟩,by simp only;omega⟩)))))))
      simp only [e]
    · refine bK (aF ?_)
      simp only [List.take_of_length_le (show l.length<=i.toNat by omega)]
  · rintro _ rfl
    obtain ⟨m1,m2,m3,m4,m5,m6⟩:=aYJ hk
    refine bE (bE ?_)
    refine aT (λ(r:aB⊕(aB×Int))=>match r with
      | .inl a=>a=⟨tQ l,tV l,tP l⟩/\tQ l<=288230376151711744/\tV l<=288230376151711744
      | .inr q=>q.2=2/\¬ (tQ l<=288230376151711744/\tV l<=288230376151711744/\tS l<=288230376151711744)) ?_ λr hr=>jI (λa e=>?_) λb e=>?_
    · refine x_eq (uT (by simp;omega) (by simp;omega)) (aD (aH (λk=>bK (aF ?_)) λk=>x_eq (uT (by simp;omega) (by simp;omega)) (aD (aH (λk2=>bK (aF ?_)) λk2=>x_eq (uT (by simp;omega) (by simp;omega)) (aD (aH (λk3=>bK (aF ?_)) λk3=>bX ?_))))))
      · rcases BE (m2.trans m1.symm) with ⟨g1,g2⟩ | ⟨g1,g2⟩
        · rw [g2] at k;exact absurd rfl k
        · exact ⟨g2,λhh=>g1 (by rw [m1];exact hh.1)⟩
      · rcases BE (m4.trans m3.symm) with ⟨g1,g2⟩ | ⟨g1,g2⟩
        · rw [g2] at k2;exact absurd rfl k2
        · exact ⟨g2,λhh=>g1 (by rw [m3];exact hh.2.1)⟩
      · rcases aC4 (l.map (·.bN)) with g2 | ⟨g1,g2⟩
        · rw [g2] at k3;exact absurd rfl k3
        · exact ⟨g1,λhh=>g2 (by rw [m6];exact hh.2.2)⟩
      · rcases BE (m2.trans m1.symm) with ⟨g1,g2⟩ | ⟨g1,g2⟩
        · rcases BE (m4.trans m3.symm) with ⟨g3,g4⟩ | ⟨g3,g4⟩
          · rcases aC4 (l.map (·.bN)) with g5 | ⟨g5,g6⟩
            · simp only [g2,g4,g5,m1,m3,m5];exact ⟨by first | rfl | trivial,by omega,by omega⟩
            · rw [g5] at k3;exact absurd (by decide) k3
          · rw [g4] at k2;exact absurd (by decide) k2
        · rw [g2] at k;exact absurd (by decide) k
    · subst e;obtain ⟨g1,g2,g3⟩:=hr
      exact aF ⟨λ_ _ _=>by rw [g1],λ_=>⟨g2,g3⟩⟩
    · subst e;obtain ⟨g1,g2⟩:=hr
      exact ⟨λa1 a2 a3=>absurd ⟨a1,a2,a3⟩ g2,λk=>by rw [g1] at k;exact absurd k (by decide)⟩
theorem aRI {l:List aB} {n:Nat} (hn:l.length+1<n) (hl:(l.length:Int)<1000000000) (hk:∀ x∈l,jA x):GN n l=some (decide (tS l<=288230376151711744)):=by
  have key:Ex (λr=>r=decide (tS l<=288230376151711744)) (GN n l):=by
    unfold GN Y6
    simp only [WT.run,bR]
    refine aT (λ(r:List Int)=>r=l.map (λx=>ab x.bN))
      (fM (λ(v:Int×List Int)=>0<=v.1/\v.1<=(l.length:Int)/\v.2=(l.take v.1.toNat).map (λx=>ab x.bN)) (λv=>l.length-v.1.toNat) ?_ (v:=(0,[])) (by simp) (by simp;omega)) ?_
    · rintro ⟨i,a⟩ ⟨h0,h1,h2⟩
      simp only at h0 h1 h2
      subst h2
      refine bE (aD (aH (λh=>?_) λh=>?_))
      · refine eF h0 h λx hx=>?_
        have e:(i+1).toNat=i.toNat+1:=by omega
        obtain ⟨c1,c2,c3⟩:=hk x (fF hx)
        unfold bQ at c3
        have e2:(if 0-x.bN>x.bN then 0-x.bN else x.bN)=ab x.bN:=by unfold ab;split <;> split <;> omega
        refine bF (aD ?_)
        simp only [e2,take_at (f:=λx=>ab x.bN) hx]
        refine aD (dF (bF (bX ⟨⟨by simp only;omega,by simp only;omega,?_⟩,by simp only;omega⟩)))
        simp only [e]
      · refine bK (aF ?_)
        simp only [List.take_of_length_le (show l.length<=i.toNat by omega)]
    · rintro _ rfl
      refine x_eq (uT (by simp;omega) (by simp;omega)) (aD (aF ?_))
      have e1:jX (l.map (λx=>ab x.bN))=tS l/\kW (l.map (λx=>ab x.bN))=tS l:=by
        clear hn hl hk
        induction l with
        | nil=>exact ⟨rfl,rfl⟩
        | cons x r ih =>
          have e:ab (ab x.bN)=ab x.bN:=by have:=lV x.bN;unfold ab;split <;> (try split) <;> omega
          simp only [List.map_cons,jX,kW,tS,ih.1,ih.2,e,and_self]
      rcases BE (e1.2.trans e1.1.symm) with ⟨g1,g2⟩ | ⟨g1,g2⟩
      · rw [g2,e1.1];rw [e1.1] at g1;simp [g1]
      · rw [e1.1] at g1;simp only [g2];simp [g1]
  exact eT key
theorem aVE (x:aB):Ex (λr=>r=true↔¬ jA x) (MU x):=by
  unfold MU aHO jA bQ
  simp only [WT.run,bR]
  repeat' with_reducible first | refine bF ?_ | refine dP ?_ | apply aD | apply bE | apply dS | apply dI | apply dN | apply dR | apply dO | apply dL | apply dU | apply dQ | refine aH (λ_=>?_) λ_=>?_ | refine dG (λ_=>?_) λ_=>?_ | apply cO | apply bU | apply bY | apply bK | apply aF
  all_goals try (exact ⟨λ_=>by omega,λ_=>rfl⟩)
  simp only [decide_eq_true_eq];exact ⟨λ_=>by omega,λ_=>by omega⟩
theorem aZP {l:List aB} {n:Nat} (hn:l.length+1<n) (hl:(l.length:Int)<1000000000):Ex (λr=>r=true↔LR l) (IM n l):=by
  unfold IM aA7
  simp only [WT.run,bR]
  refine aT (λb=>b=true↔(¬ l.length<=30\/¬ ∀ x∈l,jA x)) (aD (aH (λh=>aF ⟨λ_=>.inl (by omega),λ_=>rfl⟩) λh=>aT (λb=>b=true↔¬ ∀ x∈l,jA x) (aT (λ(v:Int)=>v>=0↔¬ ∀ x∈l,jA x) ?_ λv hv=>aD (aF (by simpa using hv))) λb hb=>aF ⟨λk=>.inr (hb.1 k),λk=>hb.2 (k.resolve_left (by omega))⟩)) λb hb=>?_
  · refine aT (λ(r:Unit⊕Int)=>match r with | .inl _=>∀ x∈l,jA x | .inr v=>v>=0/\¬ ∀ x∈l,jA x)
      (fM (λ(v:Int)=>0<=v/\v<=(l.length:Int)/\((∀ x∈l.drop v.toNat,jA x)->∀ x∈l,jA x)) (λ(v:Int)=>l.length-v.toNat) ?_ (v:=0) (by simp) (by simp;omega)) λr hr=>jI (λa e=>?_) λb e=>?_
    · rintro i ⟨h0,h1,h2⟩
      refine aD (aH (λh=>?_) λh=>?_)
      · refine eF h0 h λx hx=>aT _ (aVE x) λb hb=>eX (λk=>bK (bK (aF ⟨h0,λhh=>hb.1 k (hh x (fF hx))⟩))) λk=>bF (bX ⟨⟨by omega,by omega,λhh=>h2 λy hy=>?_⟩,by omega⟩)
        have e:(i+1).toNat=i.toNat+1:=by omega
        rw [e] at hh
        rw [(drop_at hx).2] at hy
        rcases List.mem_cons.1 hy with rfl | hy
        · exact Classical.not_not.1 λq=>by rw [hb.2 q] at k;cases k
        · exact hh y hy
      · refine bK (bX (h2 λx hx=>?_))
        rw [List.drop_eq_nil_of_le (by omega)] at hx;cases hx
    · subst e;exact aF ⟨λk=>absurd k (by decide),λk=>absurd hr k⟩
    · subst e;exact ⟨λ_=>hr.2,λ_=>hr.1⟩
  · refine eX (λk=>aF ⟨(λq=>nomatch q),λq=>?_⟩) λk=>?_
    · rcases hb.1 k with g | g
      · exact absurd q.2.1 g
      · exact absurd q.1 g
    · have g:l.length<=30/\∀ x∈l,jA x:=by
        by_cases g1:l.length<=30
        · by_cases g2:∀ x∈l,jA x
          · exact ⟨g1,g2⟩
          · rw [hb.2 (.inr g2)] at k;cases k
        · rw [hb.2 (.inl g1)] at k;cases k
      refine aT _ (SX hn hl g.2) λt ht=>aT (λb=>b=true↔LR l) (aD (aH (λq=>?_) λq=>aF ⟨(λz=>nomatch z),λz=>?_⟩)) λb hb=>aF hb
      · rw [aRI hn hl g.2]
        have:=ht.2 q
        refine ⟨_,rfl,?_⟩
        show decide _=true↔_
        rw [decide_eq_true_eq]
        exact ⟨λz=>⟨g.2,g.1,this.1,this.2,z⟩,λz=>z.2.2.2.2⟩
      · exact absurd (by rw [ht.1 z.2.2.1 z.2.2.2.1 z.2.2.2.2]) q
open Classical in
noncomputable def f9 (l:List aB) (x:aB):List aB×Int:=if x.aI<1\/x.Value<0 then (l,1) else if 30<=l.length then (l,6) else if LR (l++[x]) then (l++[x],0) else (l,2)
theorem DR {l:List aB} {x:aB} (h:x.aI<1\/x.Value<0):f9 l x=(l,1):=if_pos h
theorem VY {l:List aB} {x:aB} (h:¬ (x.aI<1\/x.Value<0)) (h2:30<=l.length):f9 l x=(l,6):=by unfold f9;rw [if_neg h,if_pos h2]
theorem SY {l:List aB} {x:aB} (h:¬ (x.aI<1\/x.Value<0)) (h2:¬ 30<=l.length) (h3:¬ LR (l++[x])):f9 l x=(l,2):=by unfold f9;rw [if_neg h,if_neg h2,if_neg h3]
theorem Q8 {l:List aB} {x:aB} (h:¬ (x.aI<1\/x.Value<0)) (h2:¬ 30<=l.length) (h3:LR (l++[x])):f9 l x=(l++[x],0):=by unfold f9;rw [if_neg h,if_neg h2,if_pos h3]
theorem r9 {l:List aB} {x:aB} {n:Nat} (hn:66<n) (hl:LR l):zS n l x=some (f9 l x):=by
  have h1:=lQ hl
  refine eT ?_
  unfold zS UA
  simp only [WT.run,bR]
  refine dF (aD (dF ?_))
  repeat' with_reducible first | refine bF ?_ | refine dP ?_ | apply aD | apply bE | apply dS | apply dI | apply dN | apply dR | apply dO | apply dL | apply dU | apply dQ | refine aH (λ_=>?_) λ_=>?_ | refine dG (λ_=>?_) λ_=>?_ | apply cO | apply bU | apply bY | apply bK | apply aF
  · exact (DR (by omega)).symm
  · exact (DR (by omega)).symm
  · exact (VY (by omega) (by omega)).symm
  refine aT _ (CO (l:=l++[x]) (by simp;omega) (by simp;omega)) λb hb=>?_
  repeat' with_reducible first | refine bF ?_ | refine dP ?_ | apply aD | apply bE | apply dS | apply dI | apply dN | apply dR | apply dO | apply dL | apply dU | apply dQ | refine aH (λ_=>?_) λ_=>?_ | refine dG (λ_=>?_) λ_=>?_ | apply cO | apply bU | apply bY | apply bK | apply aF
  · rename_i k;exact (SY (by omega) (by omega) λq=>by rw [hb.2 q] at k;cases k).symm
  · rename_i k;exact (Q8 (by omega) (by omega) (hb.1 k)).symm
theorem p9 {l:List aB} {x:aB} {n:Nat} (hn:66<n) (hl:LR l):F4 n l x=some (f9 l x):=by
  have h1:=lQ hl
  refine eT ?_
  unfold F4 aAF
  simp only [WT.run,bR]
  refine dF ?_
  repeat' with_reducible first | refine bF ?_ | refine dP ?_ | apply aD | apply bE | apply dS | apply dI | apply dN | apply dR | apply dO | apply dL | apply dU | apply dQ | refine aH (λ_=>?_) λ_=>?_ | refine dG (λ_=>?_) λ_=>?_ | apply cO | apply bU | apply bY | apply bK | apply aF
  · exact (DR (by omega)).symm
  · exact (DR (by omega)).symm
  · exact (VY (by omega) (by omega)).symm
  refine dF (aD (dF (aT _ (aZP (l:=l++[x]) (by simp;omega) (by simp;omega)) λb hb=>?_)))
  repeat' with_reducible first | refine bF ?_ | refine dP ?_ | apply aD | apply bE | apply dS | apply dI | apply dN | apply dR | apply dO | apply dL | apply dU | apply dQ | refine aH (λ_=>?_) λ_=>?_ | refine dG (λ_=>?_) λ_=>?_ | apply cO | apply bU | apply bY | apply bK | apply aF
  · rename_i k;exact (SY (by omega) (by omega) λq=>by rw [hb.2 q] at k;cases k).symm
  · rename_i k;exact (Q8 (by omega) (by omega) (hb.1 k)).symm
open Classical in
noncomputable def f10 (l:List aB) (x:aB):List aB×Int:=if x.aI<1\/x.Value<0 then (l,1) else if LR (l++[x]) then ([⟨tQ l+x.aI,tV l+x.Value,tP l+x.bN⟩],0) else (l,2)
theorem QK {l:List aB} {x:aB} (h:x.aI<1\/x.Value<0):f10 l x=(l,1):=if_pos h
theorem aC8 {l:List aB} {x:aB} (h:¬ (x.aI<1\/x.Value<0)) (h3:¬ LR (l++[x])):f10 l x=(l,2):=by unfold f10;rw [if_neg h,if_neg h3]
theorem aCS {l:List aB} {x:aB} (h:¬ (x.aI<1\/x.Value<0)) (h3:LR (l++[x])):f10 l x=([⟨tQ l+x.aI,tV l+x.Value,tP l+x.bN⟩],0):=by unfold f10;rw [if_neg h,if_pos h3]
theorem PL {l:List aB} {n:Nat} (hn:66<n) (hl:LR l):wV n l=some (⟨tQ l,tV l,tP l⟩,0):=by
  have h1:=lQ hl
  obtain ⟨r,e,h,_⟩:=SX (n:=n) (by omega) (by omega) hl.1
  rw [e,h hl.2.2.1 hl.2.2.2.1 hl.2.2.2.2]
theorem xP {l:List aB} {x:aB} {n:Nat} (hn:66<n) (hl:LR l):vX n l x=some (f10 l x):=by
  have h1:=lQ hl
  obtain ⟨a1,a2,a3,a4⟩:=tL l [x]
  simp only [tQ,tV,tP,tS,Int.add_zero] at a1 a2 a3 a4
  refine eT ?_
  unfold vX OY
  simp only [WT.run,bR]
  repeat' with_reducible first | refine bF ?_ | refine dP ?_ | apply aD | apply bE | apply dS | apply dI | apply dN | apply dR | apply dO | apply dL | apply dU | apply dQ | refine aH (λ_=>?_) λ_=>?_ | refine dG (λ_=>?_) λ_=>?_ | apply cO | apply bU | apply bY | apply bK | apply aF
  · exact (QK (by omega)).symm
  · exact (QK (by omega)).symm
  refine dF (aD (dF (aT _ (CO (by simp;omega) (by simp;omega)) λb hb=>?_)))
  repeat' with_reducible first | refine bF ?_ | refine dP ?_ | apply aD | apply bE | apply dS | apply dI | apply dN | apply dR | apply dO | apply dL | apply dU | apply dQ | refine aH (λ_=>?_) λ_=>?_ | refine dG (λ_=>?_) λ_=>?_ | apply cO | apply bU | apply bY | apply bK | apply aF
  · rename_i k;exact (aC8 (by omega) λq=>by rw [hb.2 q] at k;cases k).symm
  · rename_i k
    have h3:=hb.1 k
    refine x_eq (wM hn h3) (aF ?_)
    rw [aCS (by omega) h3]
    simp only [a1,a2,a3,tQ,tV,tP]
theorem xS {l:List aB} {x:aB} {n:Nat} (hn:66<n) (hl:LR l) (h2:l.length<30):AI n l x=some (f10 l x):=by
  obtain ⟨a1,a2,a3,a4⟩:=tL l [x]
  simp only [tQ,tV,tP,tS,Int.add_zero] at a1 a2 a3 a4
  refine eT ?_
  unfold AI aF1
  simp only [WT.run,bR,p9 hn hl,Option.bind_some]
  by_cases k1:x.aI<1\/x.Value<0
  · rw [DR k1,QK k1];exact aD (cO (aF rfl))
  · by_cases k2:LR (l++[x])
    · rw [Q8 k1 (by omega) k2,aCS k1 k2]
      refine aD (bU (x_eq (PL hn k2) (aD (bU (aF ?_)))))
      simp only [a1,a2,a3,tQ,tV,tP]
    · rw [SY k1 (by omega) k2,aC8 k1 k2];exact aD (cO (aF rfl))
set_option maxRecDepth 100000
def jL (a b:aB):aB:=⟨a.aI+b.aI,a.Value+b.Value,a.bN+b.bN⟩
theorem MG (a:aB):jL a ⟨0,0,0⟩=a:=by unfold jL;simp
theorem WI (a b c:aB):jL (jL a b) c=jL a (jL b c):=by unfold jL;simp [Int.add_assoc]
def jZ (x:aB) (q:Int):aB:=⟨q,pt x.Value q x.aI,pt x.bN q x.aI⟩
def lq (x:aB) (q:Int):aB:=⟨x.aI-q,x.Value-pt x.Value q x.aI,x.bN-pt x.bN q x.aI⟩
def tk:List aB->Int->List aB×aB
  | [],_=>([],⟨0,0,0⟩)
  | x :: r,q=>if q<=0 then (x :: r,⟨0,0,0⟩) else if x.aI>q then (lq x q :: r,jZ x q) else ((tk r (q-x.aI)).1,jL x (tk r (q-x.aI)).2)
theorem GV {l:List aB} {q:Int} (h:q<=0):tk l q=(l,⟨0,0,0⟩):=by
  cases l with
  | nil=>rfl
  | cons x r=>unfold tk;rw [if_pos h]
theorem aD5 {x:aB} {r:List aB} {q:Int} (h:¬ q<=0) (h2:x.aI>q):tk (x :: r) q=(lq x q :: r,jZ x q):=by
  rw [tk,if_neg h,if_pos h2]
theorem XX {x:aB} {r:List aB} {q:Int} (h:¬ q<=0) (h2:¬ x.aI>q):tk (x :: r) q=((tk r (q-x.aI)).1,jL x (tk r (q-x.aI)).2):=by
  rw [tk,if_neg h,if_neg h2]
def o9 (l:List aB) (q:Int):List aB×aB×Int:=if q<1 then (l,⟨0,0,0⟩,1) else if tQ l<q then (l,⟨0,0,0⟩,5) else ((tk l q).1,(tk l q).2,0)
structure TI (l m:List aB) (o:aB):Prop where
  ok:∀ x∈m,jA x
  len:m.length<=l.length
  q:tQ m+o.aI=tQ l
  v:tV m+o.Value=tV l
  p:tP m+o.bN=tP l
  s:tS m+ab o.bN<=tS l
  oq:0<=o.aI
  ov:0<=o.Value
theorem TI.init {l:List aB} (h:LR l):TI l l ⟨0,0,0⟩:=⟨h.1,Nat.le_refl _,by simp,by simp,by simp,by simp [ab],by simp,by simp⟩
theorem TI.b {l m:List aB} {o:aB} (h:TI l m o) (hl:LR l):(0<=o.aI/\o.aI<=tQ l)/\(0<=o.Value/\o.Value<=288230376151711744)/\(-288230376151711744<=o.bN/\o.bN<=288230376151711744)/\tQ l<=288230376151711744:=by
  have h1:=lX h.ok
  obtain ⟨b1,b2,b3⟩:=lV o.bN
  have h2:=gN hl
  have:=h.q;have:=h.v;have:=h.s;have:=h.oq;have:=h.ov
  refine ⟨⟨?_,?_⟩,⟨?_,?_⟩,⟨?_,?_⟩,?_⟩ <;> omega
theorem aF2 (a b:Int):ab (a+b)<=ab a+ab b:=by unfold ab;repeat' split <;> omega
theorem TI.whole {l r:List aB} {x o:aB} (h:TI l (x :: r) o):TI l r (jL o x):=by
  have hx:=h.ok x (List.mem_cons_self ..)
  obtain ⟨g1,g2,g3⟩:=hx
  have h1:=h.q;have h2:=h.v;have h3:=h.p;have h4:=h.s;have h5:=h.len;have h6:=h.oq;have h7:=h.ov
  have b:=aF2 o.bN x.bN
  simp only [tQ,tV,tP,tS,List.length_cons] at h1 h2 h3 h4 h5
  exact ⟨λy hy=>h.ok y (List.mem_cons_of_mem _ hy),by omega,by simp only [jL];omega,by simp only [jL];omega,by simp only [jL];omega,by simp only [jL];omega,by simp only [jL];omega,by simp only [jL];omega⟩
theorem RD {x:aB} {w:Int} (hx:jA x) (hw:1<=w/\w<x.aI):(0<=pt x.Value w x.aI/\pt x.Value w x.aI<=x.Value)/\ab (x.bN-pt x.bN w x.aI)+ab (pt x.bN w x.aI)=ab x.bN/\(-288230376151711744<=pt x.bN w x.aI/\pt x.bN w x.aI<=288230376151711744)/\(-288230376151711744<=x.bN-pt x.bN w x.aI/\x.bN-pt x.bN w x.aI<=288230376151711744):=by
  obtain ⟨g1,g2,g3⟩:=hx
  have p1:=aDF (v:=x.Value) (w:=w) (q:=x.aI) g2 hw
  obtain ⟨p3,p4,p5⟩:=aE1 (p:=x.bN) (w:=w) (q:=x.aI) g3 hw
  exact ⟨p1,p3,p4,p5⟩
theorem TI.part {l r:List aB} {x o:aB} {w:Int} (h:TI l (x :: r) o) (hw:1<=w/\w<x.aI):TI l (lq x w :: r) (jL o (jZ x w)):=by
  have hx:=h.ok x (List.mem_cons_self ..)
  obtain ⟨p1,p2,p3,p4⟩:=RD hx hw
  obtain ⟨g1,g2,g3⟩:=hx
  have h1:=h.q;have h2:=h.v;have h3:=h.p;have h4:=h.s;have h5:=h.len;have h6:=h.oq;have h7:=h.ov
  have b:=aF2 o.bN (pt x.bN w x.aI)
  simp only [tQ,tV,tP,tS,List.length_cons] at h1 h2 h3 h4 h5
  refine ⟨λy hy=>?_,by simp only [List.length_cons];omega,by simp only [jL,lq,jZ,tQ];omega,by simp only [jL,lq,jZ,tV];omega,by simp only [jL,lq,jZ,tP];omega,by simp only [jL,lq,jZ,tS];omega,by simp only [jL,jZ];omega,by simp only [jL,jZ];omega⟩
  rcases List.mem_cons.1 hy with rfl | hy
  · exact ⟨by simp only [lq];omega,by simp only [lq];omega,by unfold bQ;simp only [lq];omega⟩
  · exact h.ok y (List.mem_cons_of_mem _ hy)
theorem Q6 {l:List aB} {q:Int} {n:Nat} (hn:66<n) (hl:LR l) (hq:-9223372036854775808<=q/\q<=9223372036854775807):yU n l q=some (o9 l q):=by
  have hl0:=hl
  obtain ⟨hk,h30,hQ,hV,hS⟩:=hl
  have hp:=lX hk
  refine eT ?_
  unfold yU QR o9
  simp only [WT.run,bR]
  refine aT _ (ID (by omega) (by omega) hk) λt ht=>?_
  rw [ht.1 hQ hV hS]
  refine aD (aH (λk1=>aF (by rw [if_pos k1])) λk1=>aD (aH (λk2=>aF (by have k2:tQ l<q:=k2;rw [if_neg k1,if_pos k2])) λk2=>?_))
  have k2:¬ tQ l<q:=k2
  rw [if_neg k1,if_neg k2]
  refine aT (λ(r:aB×List aB)=>r=((tk l q).2,(tk l q).1)) (fM (λ(v:Int×aB×List aB)=>0<=v.1/\v.1<=(l.length:Int)/\TI l (v.2.2++l.drop v.1.toNat) v.2.1/\v.2.1.aI<=q/\(v.2.1.aI<q->v.2.2=[])/\tk l q=(v.2.2++(tk (l.drop v.1.toNat) (q-v.2.1.aI)).1,jL v.2.1 (tk (l.drop v.1.toNat) (q-v.2.1.aI)).2)) (λv=>l.length-v.1.toNat) ?_ (v:=(0,⟨0,0,0⟩,[])) ⟨by simp,by simp,by simpa using TI.init hl0,by simp only;omega,λ_=>rfl,by simp [jL]⟩ (by simp only;omega)) λr hr=>?_
  · rintro ⟨i,g,m⟩ ⟨h0,h1,ti,hg,hm,e⟩
    simp only at h0 h1 ti hg hm e
    have tb:=ti.b hl0
    refine bE (bE (aD (aH (λhi=>?_) λhi=>bK (aF ?_))))
    · have hi:i<(l.length:Int):=hi
      have e2:(i+1).toNat=i.toNat+1:=by omega
      refine aT (λ(r:aB×List aB)=>TI l (r.2++l.drop (i.toNat+1)) r.1/\r.1.aI<=q/\(r.1.aI<q->r.2=[])/\tk l q=(r.2++(tk (l.drop (i.toNat+1)) (q-r.1.aI)).1,jL r.1 (tk (l.drop (i.toNat+1)) (q-r.1.aI)).2)) ?_ λr hr=>bE (bF (bX ⟨⟨by first | omega | (simp only;omega),by first | omega | (simp only;omega),by simp only;rw [e2];exact hr.1,hr.2.1,hr.2.2.1,by simp only;rw [e2];exact hr.2.2.2⟩,by first | omega | (simp only;omega)⟩))
      refine eF h0 hi λx hx=>?_
      have hx:l[i.toNat]?=some x:=hx
      rw [(drop_at hx).2] at ti e
      have hxk:=hk x (fF hx)
      obtain ⟨g1,g2,g3⟩:=hxk
      have ml:m.length<=30:=by have:=ti.len;simp at this;omega
      refine bF (aD (aH (λc1=>?_) λc1=>?_))
      · have c1:q-g.aI<=0:=c1
        rw [GV c1] at e
        refine aD (dF (aF ⟨by simpa using ti,hg,λk=>absurd (show g.aI<q from k) (by omega),?_⟩))
        simp only;rw [GV c1];simpa using e
      · have c1:¬ q-g.aI<=0:=c1
        have m0:=hm (by omega)
        subst m0
        simp only [List.nil_append] at ti e
        refine aT (λ(r:List aB×aB)=>(r=([lq x (q-g.aI)],jZ x (q-g.aI))/\x.aI>q-g.aI)\/(r=([],x)/\¬ x.aI>q-g.aI)) ?_ λr hr=>?_
        · refine aD (aH (λc2=>?_) λc2=>aF (.inr ⟨rfl,c2⟩))
          have c2:x.aI>q-g.aI:=c2
          obtain ⟨p1,p2,p3,p4⟩:=RD ⟨g1,g2,g3⟩ (w:=q-g.aI) ⟨by omega,by omega⟩
          exact x_eq (qF hn (by simp only;omega) (by omega)) (x_eq (qF hn (by simp only;omega) (by omega)) (gL (by simp only;omega) (gL (by simp only;omega) (gL (by simp only;omega) (aD (iF (by simp) (aF (.inl ⟨rfl,c2⟩))))))))
        · rcases hr with ⟨rfl,c2⟩ | ⟨rfl,c2⟩
          · have t2:=ti.part (w:=q-g.aI) ⟨by omega,by omega⟩
            have b2:=t2.b hl0
            rw [aD5 c1 c2] at e
            simp only [jL,jZ] at b2
            refine bE (gL (by simp only [jZ];omega) (gL (by simp only [jZ];omega) (gL (by simp only [jZ];omega) (aF ⟨t2,by simp only [jZ];omega,λk=>absurd k (by simp only [jZ];omega),?_⟩))))
            simp only [jZ,show q-(g.aI+(q-g.aI))=0 by omega]
            rw [GV (Int.le_refl 0)]
            simpa [jL,jZ] using e
          · have t2:=ti.whole
            have b2:=t2.b hl0
            rw [XX c1 c2] at e
            simp only [jL] at b2
            refine bE (gL (by simp only;omega) (gL (by simp only;omega) (gL (by simp only;omega) (aF ⟨t2,by simp only;omega,λ_=>rfl,?_⟩))))
            simp only [<- Int.sub_sub]
            rw [e,<- WI];rfl
    · have hd:l.drop i.toNat=[]:=List.drop_eq_nil_of_le (by first | omega | (simp only;omega))
      rw [hd] at e
      simp only [tk,List.append_nil,MG] at e
      rw [e]
  · subst hr
    exact bE (aF rfl)
end Go.Pv
