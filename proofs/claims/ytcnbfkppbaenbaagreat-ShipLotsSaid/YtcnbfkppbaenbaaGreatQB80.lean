import Derived.Test.YtcnbfkppbaenbaaGreatX80n
import Derived.Test.YtcnbfkppbaenbaaGreatH70
set_option linter.unusedVariables false
set_option linter.unusedSimpArgs false
namespace Go.Pv
open Go.Proofs
set_option maxRecDepth 1000000
set_option maxHeartbeats 1000000
theorem pIn (a:Int):xU a=some (decide (bQ a)):=by
  unfold xU aCO bQ
  simp only [WT.run,bS]
  by_cases h1:a>=-288230376151711744
  · by_cases h2:a<=288230376151711744
    · simp [bnd,h1,h2,cond]
    · simp [bnd,h1,h2,cond]
  · simp [bnd,h1,cond]
theorem TC (a b:Int):mP a b=some (jI a b):=by
  unfold mP aEX jI
  simp only [WT.run,bS,pIn,Option.bind_some]
  by_cases h1:bQ a
  · by_cases h2:bQ b
    · have e:bA (a+b)=a+b:=by unfold bQ at h1 h2;exact wrap64 (by omega)
      by_cases h3:bQ (a+b)
      · simp [bnd,h1,h2,h3,cond,e]
      · simp [bnd,h1,h2,h3,cond,e]
    · simp [bnd,h1,h2,cond]
  · simp [bnd,h1,cond]
theorem EQ {l:List Int} {n:Nat} (hn:l.length+1<n) (hl:(l.length:Int)<1000000000):uD n l=some (gM l):=by
  have key:Ex (λr=>r=gM l) (uD n l):=by
    unfold uD aC9
    simp only [WT.run,bS,TC,Option.bind_some]
    refine aU (λ(r:Int⊕(Int×Int))=>match r with | .inl a=>iD 0 l=some a | .inr q=>q=gM l) (fJ (λ(v:Int×Int)=>0<=v.2/\v.2<=(l.length:Int)/\iD 0 l=iD v.1 (l.drop v.2.toNat)) (λ(v:Int×Int)=>l.length-v.2.toNat) ?_ (v:=(0,0)) (by simp) (by simp;omega)) ?_
    · rintro ⟨s,i⟩ ⟨h0,h1,h2⟩
      refine bF (aF (fB (λh=>?_) λh=>?_))
      · have h:=of_decide_eq_true h
        simp only at h0 h1 h2 h
        refine eT h0 h λx hx=>?_
        refine aF (fB (λh3=>?_) λh3=>?_)
        · refine bJ (bJ (aD ?_))
          have h3:=of_decide_eq_true h3
          have e2:iD 0 l=none:=by
            rw [h2,(drop_at hx).2];unfold jI at h3;unfold iD
            by_cases h4:bQ s/\bQ x/\bQ (s+x)
            · rw [if_pos h4] at h3;exact absurd rfl h3
            · rw [if_neg h4]
          have e3:(jI s x).2=2:=by
            unfold jI at h3 ⊢
            by_cases h4:bQ s/\bQ x/\bQ (s+x)
            · rw [if_pos h4] at h3;exact absurd rfl h3
            · rw [if_neg h4]
          show ((0:Int),(jI s x).2)=gM l
          unfold gM;rw [e2,e3]
        · have h3:=of_decide_eq_false h3
          have h4:bQ s/\bQ x/\bQ (s+x):=by
            by_cases h4:bQ s/\bQ x/\bQ (s+x)
            · exact h4
            · unfold jI at h3;rw [if_neg h4] at h3;exact absurd (show ((0:Int),(2:Int)).snd≠0 by decide) h3
          refine bE (cK ⟨⟨by omega,by omega,?_⟩,?_⟩)
          · have e:(i+1).toNat=i.toNat+1:=by omega
            show iD 0 l=iD (jI s x).1 (l.drop (i+1).toNat)
            rw [h2,(drop_at hx).2,e];unfold jI;rw [if_pos h4,iD,if_pos h4]
          · show l.length-(i+1).toNat<l.length-i.toNat
            omega
      · have h:=of_decide_eq_false h
        refine bJ (cK ?_)
        have e:l.drop i.toNat=[]:=List.drop_eq_nil_of_le (by simp only at h h0;omega)
        show iD 0 l=some s
        rw [h2,e];rfl
    · intro r hr
      refine iZ (λa e=>aD ?_) λq e=>?_
      · subst e;show (a,(0:Int))=gM l;unfold gM;rw [show iD 0 l=some a from hr]
      · subst e;exact hr
  obtain ⟨r,e,rfl⟩:=key;exact e
def lS:List Int->Int | []=>0 | x :: r=>x+lS r
def oF:List Int->Int | []=>0 | x :: r=>ab x+oF r
theorem UX:∀ l:List Int,0<=oF l
  | []=>Int.le_refl _
  | x :: r=>by have:=UX r;have:=mE x;show 0<=ab x+oF r;omega
theorem RH:∀ {l:List Int} {n:Int},ab n+oF l<=288230376151711744->iD n l=some (n+lS l)
  | [],n,h=>by show some n=some (n+0);rw [Int.add_zero]
  | x :: r,n,h=>by
    have h:ab n+(ab x+oF r)<=288230376151711744:=h
    have h1:=UX r;have h2:=mE n;have h3:=mE x;have h4:=mE (n+x)
    have h5:ab (n+x)<=ab n+ab x:=by unfold ab;split <;> split <;> split <;> omega
    unfold iD
    rw [if_pos (by unfold bQ;omega),RH (by omega)]
    show some (n+x+lS r)=some (n+(x+lS r));rw [Int.add_assoc]
theorem OV:∀ {l:List Int} {n r:Int},bQ n->iD n l=some r->bQ r/\r=n+lS l
  | [],n,r,hn,h=>by cases h;exact ⟨hn,(Int.add_zero _).symm⟩
  | x :: l,n,r,hn,h=>by
    unfold iD at h
    by_cases k:bQ n/\bQ x/\bQ (n+x)
    · rw [if_pos k] at h
      obtain ⟨a,b⟩:=OV k.2.2 h
      exact ⟨a,by rw [b];show _=n+(x+lS l);omega⟩
    · rw [if_neg k] at h;cases h
theorem E9 {l:List Int} (h:oF l=lS l):(lS l<=288230376151711744/\gM l=(lS l,0))\/(¬ lS l<=288230376151711744/\(gM l).2=2):=by
  by_cases k:lS l<=288230376151711744
  · left;refine ⟨k,?_⟩
    unfold gM;rw [RH (by rw [h];show 0+_<=_;omega)];show (0+lS l,(0:Int))=_;rw [Int.zero_add]
  · right;refine ⟨k,?_⟩
    unfold gM
    cases e:iD 0 l with
    | none=>rfl
    | some v=>obtain ⟨a,b⟩:=OV (by unfold bQ;omega) e;unfold bQ at a;omega
theorem aC6 (l:List Int):gM l=(lS l,0)\/((gM l).2=2/\¬ oF l<=288230376151711744):=by
  by_cases k:oF l<=288230376151711744
  · left
    unfold gM;rw [RH (by show 0+_<=_;omega)];show (0+lS l,(0:Int))=_;rw [Int.zero_add]
  · unfold gM
    cases e:iD 0 l with
    | none=>exact .inr ⟨rfl,k⟩
    | some v=>obtain ⟨a,b⟩:=OV (by unfold bQ;omega) e;left;show (v,(0:Int))=_;rw [b,Int.zero_add]
theorem aK3 {l:List aB} (hk:∀ x∈l,jA x):lS (l.map (·.aG))=tQ l/\oF (l.map (·.aG))=tQ l/\lS (l.map (·.Value))=tV l/\oF (l.map (·.Value))=tV l/\lS (l.map (·.bO))=tP l/\oF (l.map (·.bO))=tS l:=by
  induction l with
  | nil=>exact ⟨rfl,rfl,rfl,rfl,rfl,rfl⟩
  | cons x r ih =>
    obtain ⟨h1,h2,h3,h4,h5,h6⟩:=ih λy hy=>hk y (List.mem_cons_of_mem _ hy)
    obtain ⟨c1,c2,c3⟩:=hk x (List.mem_cons_self ..)
    have e1:ab x.aG=x.aG:=by unfold ab;rw [if_neg (by omega)]
    have e2:ab x.Value=x.Value:=by unfold ab;rw [if_neg (by omega)]
    simp only [List.map_cons,lS,oF,tQ,tV,tP,tS,h1,h2,h3,h4,h5,h6,e1,e2,and_self]
theorem take_at {α β:Type} {l:List α} {i:Nat} {x:α} {f:α->β} (h:l[i]?=some x):(l.take i).map f++[f x]=(l.take (i+1)).map f:=by
  obtain ⟨hi,e⟩:=List.getElem?_eq_some_iff.1 h
  rw [List.take_add_one,h,List.map_append];rfl
theorem T6 {l:List aB} {n:Nat} (hn:l.length+1<n) (hl:(l.length:Int)<1000000000) (hk:∀ x∈l,jA x) :
    Ex (λr=>(tQ l<=288230376151711744->tV l<=288230376151711744->tS l<=288230376151711744->r=(⟨tQ l,tV l,tP l⟩,0))/\(r.2=0->tQ l<=288230376151711744/\tV l<=288230376151711744)) (AA n l):=by
  unfold AA VJ
  simp only [WT.run,bS]
  refine aU (λ(r:List Int×List Int×List Int)=>r=(l.map (·.aG),l.map (·.Value),l.map (·.bO)))
    (fJ (λ(v:Int×List Int×List Int×List Int)=>0<=v.1/\v.1<=(l.length:Int)/\v.2=((l.take v.1.toNat).map (·.aG),(l.take v.1.toNat).map (·.Value),(l.take v.1.toNat).map (·.bO))) (λv=>l.length-v.1.toNat) ?_ (v:=(0,[],[],[])) (by simp) (by simp;omega)) ?_
  · rintro ⟨i,a,b,c⟩ ⟨h0,h1,h2⟩
    simp only [Prod.mk.injEq] at h0 h1 h2
    obtain ⟨rfl,rfl,rfl⟩:=h2
    refine bF (bF (bF (aF (aI (λh=>?_) λh=>?_))))
    · refine eT h0 h λx hx=>?_
      have e:(i+1).toNat=i.toNat+1:=by omega
      simp only [take_at (f:=aB.aG) hx,take_at (f:=aB.Value) hx,take_at (f:=aB.bO) hx]
      refine aF (dM (aF (dM (aF (dM (bE (cK ⟨⟨by simp only;omega,by simp only;omega,?_⟩,by simp only;omega⟩)))))))
      simp only [e]
    · refine bJ (aD ?_)
      simp only [List.take_of_length_le (show l.length<=i.toNat by omega)]
  · rintro _ rfl
    obtain ⟨m1,m2,m3,m4,m5,m6⟩:=aK3 hk
    refine bF (bF ?_)
    refine aU (λ(r:aB⊕(aB×Int))=>match r with
      | .inl a=>a=⟨tQ l,tV l,tP l⟩/\tQ l<=288230376151711744/\tV l<=288230376151711744
      | .inr q=>q.2=2/\¬ (tQ l<=288230376151711744/\tV l<=288230376151711744/\tS l<=288230376151711744)) ?_ λr hr=>iZ (λa e=>?_) λb e=>?_
    · refine x_eq (EQ (by simp;omega) (by simp;omega)) (aF (aI (λk=>bJ (aD ?_)) λk=>x_eq (EQ (by simp;omega) (by simp;omega)) (aF (aI (λk2=>bJ (aD ?_)) λk2=>x_eq (EQ (by simp;omega) (by simp;omega)) (aF (aI (λk3=>bJ (aD ?_)) λk3=>cK ?_))))))
      · rcases E9 (m2.trans m1.symm) with ⟨g1,g2⟩ | ⟨g1,g2⟩
        · rw [g2] at k;exact absurd rfl k
        · exact ⟨g2,λhh=>g1 (by rw [m1];exact hh.1)⟩
      · rcases E9 (m4.trans m3.symm) with ⟨g1,g2⟩ | ⟨g1,g2⟩
        · rw [g2] at k2;exact absurd rfl k2
        · exact ⟨g2,λhh=>g1 (by rw [m3];exact hh.2.1)⟩
      · rcases aC6 (l.map (·.bO)) with g2 | ⟨g1,g2⟩
        · rw [g2] at k3;exact absurd rfl k3
        · exact ⟨g1,λhh=>g2 (by rw [m6];exact hh.2.2)⟩
      · rcases E9 (m2.trans m1.symm) with ⟨g1,g2⟩ | ⟨g1,g2⟩
        · rcases E9 (m4.trans m3.symm) with ⟨g3,g4⟩ | ⟨g3,g4⟩
          · rcases aC6 (l.map (·.bO)) with g5 | ⟨g5,g6⟩
            · simp only [g2,g4,g5,m1,m3,m5];exact ⟨by first | rfl | trivial,by omega,by omega⟩
            · rw [g5] at k3;exact absurd (by decide) k3
          · rw [g4] at k2;exact absurd (by decide) k2
        · rw [g2] at k;exact absurd (by decide) k
    · subst e;obtain ⟨g1,g2,g3⟩:=hr
      exact aD ⟨λ_ _ _=>by rw [g1],λ_=>⟨g2,g3⟩⟩
    · subst e;obtain ⟨g1,g2⟩:=hr
      exact ⟨λa1 a2 a3=>absurd ⟨a1,a2,a3⟩ g2,λk=>by rw [g1] at k;exact absurd k (by decide)⟩
theorem aTO {l:List aB} {n:Nat} (hn:l.length+1<n) (hl:(l.length:Int)<1000000000) (hk:∀ x∈l,jA x):DV n l=some (decide (tS l<=288230376151711744)):=by
  have key:Ex (λr=>r=decide (tS l<=288230376151711744)) (DV n l):=by
    unfold DV T8
    simp only [WT.run,bS]
    refine aU (λ(r:List Int)=>r=l.map (λx=>ab x.bO))
      (fJ (λ(v:Int×List Int)=>0<=v.1/\v.1<=(l.length:Int)/\v.2=(l.take v.1.toNat).map (λx=>ab x.bO)) (λv=>l.length-v.1.toNat) ?_ (v:=(0,[])) (by simp) (by simp;omega)) ?_
    · rintro ⟨i,a⟩ ⟨h0,h1,h2⟩
      simp only at h0 h1 h2
      subst h2
      refine bF (aF (aI (λh=>?_) λh=>?_))
      · refine eT h0 h λx hx=>?_
        have e:(i+1).toNat=i.toNat+1:=by omega
        obtain ⟨c1,c2,c3⟩:=hk x (fE hx)
        unfold bQ at c3
        have e2:(if 0-x.bO>x.bO then 0-x.bO else x.bO)=ab x.bO:=by unfold ab;split <;> split <;> omega
        refine bE (aF ?_)
        simp only [e2,take_at (f:=λx=>ab x.bO) hx]
        refine aF (dM (bE (cK ⟨⟨by simp only;omega,by simp only;omega,?_⟩,by simp only;omega⟩)))
        simp only [e]
      · refine bJ (aD ?_)
        simp only [List.take_of_length_le (show l.length<=i.toNat by omega)]
    · rintro _ rfl
      refine x_eq (EQ (by simp;omega) (by simp;omega)) (aF (aD ?_))
      have e1:lS (l.map (λx=>ab x.bO))=tS l/\oF (l.map (λx=>ab x.bO))=tS l:=by
        clear hn hl hk
        induction l with
        | nil=>exact ⟨rfl,rfl⟩
        | cons x r ih =>
          have e:ab (ab x.bO)=ab x.bO:=by have:=mE x.bO;unfold ab;split <;> (try split) <;> omega
          simp only [List.map_cons,lS,oF,tS,ih.1,ih.2,e,and_self]
      rcases E9 (e1.2.trans e1.1.symm) with ⟨g1,g2⟩ | ⟨g1,g2⟩
      · rw [g2,e1.1];rw [e1.1] at g1;simp [g1]
      · rw [e1.1] at g1;simp only [g2];simp [g1]
  exact fH key
theorem aJ3 (x:aB):Ex (λr=>r=true↔¬ jA x) (KO x):=by
  unfold KO aA9 jA bQ
  simp only [WT.run,bS]
  repeat' with_reducible first | refine bE ?_ | refine dU ?_ | apply aF | apply bF | apply dY | apply dN | apply dV | apply dZ | apply d9 | apply dO | apply dW | apply dS | refine aI (λ_=>?_) λ_=>?_ | refine dJ (λ_=>?_) λ_=>?_ | apply dB | apply bW | apply cZ | apply bJ | apply aD
  all_goals try (exact ⟨λ_=>by omega,λ_=>rfl⟩)
  simp only [decide_eq_true_eq];exact ⟨λ_=>by omega,λ_=>by omega⟩
theorem aO4 {l:List aB} {n:Nat} (hn:l.length+1<n) (hl:(l.length:Int)<1000000000):Ex (λr=>r=true↔LR l) (MY n l):=by
  unfold MY aFC
  simp only [WT.run,bS]
  refine aU (λb=>b=true↔(¬ l.length<=30\/¬ ∀ x∈l,jA x)) (aF (aI (λh=>aD ⟨λ_=>.inl (by omega),λ_=>rfl⟩) λh=>aU (λb=>b=true↔¬ ∀ x∈l,jA x) (aU (λ(v:Int)=>v>=0↔¬ ∀ x∈l,jA x) ?_ λv hv=>aF (aD (by simpa using hv))) λb hb=>aD ⟨λk=>.inr (hb.1 k),λk=>hb.2 (k.resolve_left (by omega))⟩)) λb hb=>?_
  · refine aU (λ(r:Unit⊕Int)=>match r with | .inl _=>∀ x∈l,jA x | .inr v=>v>=0/\¬ ∀ x∈l,jA x)
      (fJ (λ(v:Int)=>0<=v/\v<=(l.length:Int)/\((∀ x∈l.drop v.toNat,jA x)->∀ x∈l,jA x)) (λ(v:Int)=>l.length-v.toNat) ?_ (v:=0) (by simp) (by simp;omega)) λr hr=>iZ (λa e=>?_) λb e=>?_
    · rintro i ⟨h0,h1,h2⟩
      refine aF (aI (λh=>?_) λh=>?_)
      · refine eT h0 h λx hx=>aU _ (aJ3 x) λb hb=>fB (λk=>bJ (bJ (aD ⟨h0,λhh=>hb.1 k (hh x (fE hx))⟩))) λk=>bE (cK ⟨⟨by omega,by omega,λhh=>h2 λy hy=>?_⟩,by omega⟩)
        have e:(i+1).toNat=i.toNat+1:=by omega
        rw [e] at hh
        rw [(drop_at hx).2] at hy
        rcases List.mem_cons.1 hy with rfl | hy
        · exact Classical.not_not.1 λq=>by rw [hb.2 q] at k;cases k
        · exact hh y hy
      · refine bJ (cK (h2 λx hx=>?_))
        rw [List.drop_eq_nil_of_le (by omega)] at hx;cases hx
    · subst e;exact aD ⟨λk=>absurd k (by decide),λk=>absurd hr k⟩
    · subst e;exact ⟨λ_=>hr.2,λ_=>hr.1⟩
  · refine fB (λk=>aD ⟨(λq=>nomatch q),λq=>?_⟩) λk=>?_
    · rcases hb.1 k with g | g
      · exact absurd q.2.1 g
      · exact absurd q.1 g
    · have g:l.length<=30/\∀ x∈l,jA x:=by
        by_cases g1:l.length<=30
        · by_cases g2:∀ x∈l,jA x
          · exact ⟨g1,g2⟩
          · rw [hb.2 (.inr g2)] at k;cases k
        · rw [hb.2 (.inl g1)] at k;cases k
      refine aU _ (T6 hn hl g.2) λt ht=>aU (λb=>b=true↔LR l) (aF (aI (λq=>?_) λq=>aD ⟨(λz=>nomatch z),λz=>?_⟩)) λb hb=>aD hb
      · rw [aTO hn hl g.2]
        have:=ht.2 q
        refine ⟨_,rfl,?_⟩
        show decide _=true↔_
        rw [decide_eq_true_eq]
        exact ⟨λz=>⟨g.2,g.1,this.1,this.2,z⟩,λz=>z.2.2.2.2⟩
      · exact absurd (by rw [ht.1 z.2.2.1 z.2.2.2.1 z.2.2.2.2]) q
open Classical in
noncomputable def f9 (l:List aB) (x:aB):List aB×Int:=if x.aG<1\/x.Value<0 then (l,1) else if 30<=l.length then (l,6) else if LR (l++[x]) then (l++[x],0) else (l,2)
theorem D5 {l:List aB} {x:aB} (h:x.aG<1\/x.Value<0):f9 l x=(l,1):=if_pos h
theorem ZT {l:List aB} {x:aB} (h:¬ (x.aG<1\/x.Value<0)) (h2:30<=l.length):f9 l x=(l,6):=by unfold f9;rw [if_neg h,if_pos h2]
theorem PM {l:List aB} {x:aB} (h:¬ (x.aG<1\/x.Value<0)) (h2:¬ 30<=l.length) (h3:¬ LR (l++[x])):f9 l x=(l,2):=by unfold f9;rw [if_neg h,if_neg h2,if_neg h3]
theorem SF {l:List aB} {x:aB} (h:¬ (x.aG<1\/x.Value<0)) (h2:¬ 30<=l.length) (h3:LR (l++[x])):f9 l x=(l++[x],0):=by unfold f9;rw [if_neg h,if_neg h2,if_pos h3]
theorem r9 {l:List aB} {x:aB} {n:Nat} (hn:66<n) (hl:LR l):yY n l x=some (f9 l x):=by
  have h1:=tC hl
  refine fH ?_
  unfold yY QE
  simp only [WT.run,bS]
  refine dM (aF (dM ?_))
  repeat' with_reducible first | refine bE ?_ | refine dU ?_ | apply aF | apply bF | apply dY | apply dN | apply dV | apply dZ | apply d9 | apply dO | apply dW | apply dS | refine aI (λ_=>?_) λ_=>?_ | refine dJ (λ_=>?_) λ_=>?_ | apply dB | apply bW | apply cZ | apply bJ | apply aD
  · exact (D5 (by omega)).symm
  · exact (D5 (by omega)).symm
  · exact (ZT (by omega) (by omega)).symm
  refine aU _ (BK (l:=l++[x]) (by simp;omega) (by simp;omega)) λb hb=>?_
  repeat' with_reducible first | refine bE ?_ | refine dU ?_ | apply aF | apply bF | apply dY | apply dN | apply dV | apply dZ | apply d9 | apply dO | apply dW | apply dS | refine aI (λ_=>?_) λ_=>?_ | refine dJ (λ_=>?_) λ_=>?_ | apply dB | apply bW | apply cZ | apply bJ | apply aD
  · rename_i k;exact (PM (by omega) (by omega) λq=>by rw [hb.2 q] at k;cases k).symm
  · rename_i k;exact (SF (by omega) (by omega) (hb.1 k)).symm
theorem p9 {l:List aB} {x:aB} {n:Nat} (hn:66<n) (hl:LR l):DO n l x=some (f9 l x):=by
  have h1:=tC hl
  refine fH ?_
  unfold DO aE7
  simp only [WT.run,bS]
  refine dM ?_
  repeat' with_reducible first | refine bE ?_ | refine dU ?_ | apply aF | apply bF | apply dY | apply dN | apply dV | apply dZ | apply d9 | apply dO | apply dW | apply dS | refine aI (λ_=>?_) λ_=>?_ | refine dJ (λ_=>?_) λ_=>?_ | apply dB | apply bW | apply cZ | apply bJ | apply aD
  · exact (D5 (by omega)).symm
  · exact (D5 (by omega)).symm
  · exact (ZT (by omega) (by omega)).symm
  refine dM (aF (dM (aU _ (aO4 (l:=l++[x]) (by simp;omega) (by simp;omega)) λb hb=>?_)))
  repeat' with_reducible first | refine bE ?_ | refine dU ?_ | apply aF | apply bF | apply dY | apply dN | apply dV | apply dZ | apply d9 | apply dO | apply dW | apply dS | refine aI (λ_=>?_) λ_=>?_ | refine dJ (λ_=>?_) λ_=>?_ | apply dB | apply bW | apply cZ | apply bJ | apply aD
  · rename_i k;exact (PM (by omega) (by omega) λq=>by rw [hb.2 q] at k;cases k).symm
  · rename_i k;exact (SF (by omega) (by omega) (hb.1 k)).symm
open Classical in
noncomputable def f10 (l:List aB) (x:aB):List aB×Int:=if x.aG<1\/x.Value<0 then (l,1) else if LR (l++[x]) then ([⟨tQ l+x.aG,tV l+x.Value,tP l+x.bO⟩],0) else (l,2)
theorem Q3 {l:List aB} {x:aB} (h:x.aG<1\/x.Value<0):f10 l x=(l,1):=if_pos h
theorem aEU {l:List aB} {x:aB} (h:¬ (x.aG<1\/x.Value<0)) (h3:¬ LR (l++[x])):f10 l x=(l,2):=by unfold f10;rw [if_neg h,if_neg h3]
theorem aE3 {l:List aB} {x:aB} (h:¬ (x.aG<1\/x.Value<0)) (h3:LR (l++[x])):f10 l x=([⟨tQ l+x.aG,tV l+x.Value,tP l+x.bO⟩],0):=by unfold f10;rw [if_neg h,if_pos h3]
theorem aUY {l:List aB} {n:Nat} (hn:66<n) (hl:LR l):AA n l=some (⟨tQ l,tV l,tP l⟩,0):=by
  have h1:=tC hl
  obtain ⟨r,e,h,_⟩:=T6 (n:=n) (by omega) (by omega) hl.1
  rw [e,h hl.2.2.1 hl.2.2.2.1 hl.2.2.2.2]
theorem G5 {l:List aB} {x:aB} {n:Nat} (hn:66<n) (hl:LR l):vB n l x=some (f10 l x):=by
  have h1:=tC hl
  obtain ⟨a1,a2,a3,a4⟩:=tK l [x]
  simp only [tQ,tV,tP,tS,Int.add_zero] at a1 a2 a3 a4
  refine fH ?_
  unfold vB N7
  simp only [WT.run,bS]
  repeat' with_reducible first | refine bE ?_ | refine dU ?_ | apply aF | apply bF | apply dY | apply dN | apply dV | apply dZ | apply d9 | apply dO | apply dW | apply dS | refine aI (λ_=>?_) λ_=>?_ | refine dJ (λ_=>?_) λ_=>?_ | apply dB | apply bW | apply cZ | apply bJ | apply aD
  · exact (Q3 (by omega)).symm
  · exact (Q3 (by omega)).symm
  refine dM (aF (dM (aU _ (BK (by simp;omega) (by simp;omega)) λb hb=>?_)))
  repeat' with_reducible first | refine bE ?_ | refine dU ?_ | apply aF | apply bF | apply dY | apply dN | apply dV | apply dZ | apply d9 | apply dO | apply dW | apply dS | refine aI (λ_=>?_) λ_=>?_ | refine dJ (λ_=>?_) λ_=>?_ | apply dB | apply bW | apply cZ | apply bJ | apply aD
  · rename_i k;exact (aEU (by omega) λq=>by rw [hb.2 q] at k;cases k).symm
  · rename_i k
    have h3:=hb.1 k
    refine x_eq (xI hn h3) (aD ?_)
    rw [aE3 (by omega) h3]
    simp only [a1,a2,a3,tQ,tV,tP]
theorem uS {l:List aB} {x:aB} {n:Nat} (hn:66<n) (hl:LR l) (h2:l.length<30):AJ n l x=some (f10 l x):=by
  obtain ⟨a1,a2,a3,a4⟩:=tK l [x]
  simp only [tQ,tV,tP,tS,Int.add_zero] at a1 a2 a3 a4
  refine fH ?_
  unfold AJ UC
  simp only [WT.run,bS,p9 hn hl,Option.bind_some]
  by_cases k1:x.aG<1\/x.Value<0
  · rw [D5 k1,Q3 k1];exact aF (dB (aD rfl))
  · by_cases k2:LR (l++[x])
    · rw [SF k1 (by omega) k2,aE3 k1 k2]
      refine aF (bW (x_eq (aUY hn k2) (aF (bW (aD ?_)))))
      simp only [a1,a2,a3,tQ,tV,tP]
    · rw [PM k1 (by omega) k2,aEU k1 k2];exact aF (dB (aD rfl))
set_option maxRecDepth 100000
def jM (a b:aB):aB:=⟨a.aG+b.aG,a.Value+b.Value,a.bO+b.bO⟩
theorem NA (a:aB):jM a ⟨0,0,0⟩=a:=by unfold jM;simp
theorem ZV (a b c:aB):jM (jM a b) c=jM a (jM b c):=by unfold jM;simp [Int.add_assoc]
def jY (x:aB) (q:Int):aB:=⟨q,pt x.Value q x.aG,pt x.bO q x.aG⟩
def lq (x:aB) (q:Int):aB:=⟨x.aG-q,x.Value-pt x.Value q x.aG,x.bO-pt x.bO q x.aG⟩
def tk:List aB->Int->List aB×aB
  | [],_=>([],⟨0,0,0⟩)
  | x :: r,q=>if q<=0 then (x :: r,⟨0,0,0⟩) else if x.aG>q then (lq x q :: r,jY x q) else ((tk r (q-x.aG)).1,jM x (tk r (q-x.aG)).2)
theorem E5 {l:List aB} {q:Int} (h:q<=0):tk l q=(l,⟨0,0,0⟩):=by
  cases l with
  | nil=>rfl
  | cons x r=>unfold tk;rw [if_pos h]
theorem aD8 {x:aB} {r:List aB} {q:Int} (h:¬ q<=0) (h2:x.aG>q):tk (x :: r) q=(lq x q :: r,jY x q):=by
  rw [tk,if_neg h,if_pos h2]
theorem aB8 {x:aB} {r:List aB} {q:Int} (h:¬ q<=0) (h2:¬ x.aG>q):tk (x :: r) q=((tk r (q-x.aG)).1,jM x (tk r (q-x.aG)).2):=by
  rw [tk,if_neg h,if_neg h2]
def o9 (l:List aB) (q:Int):List aB×aB×Int:=if q<1 then (l,⟨0,0,0⟩,1) else if tQ l<q then (l,⟨0,0,0⟩,5) else ((tk l q).1,(tk l q).2,0)
structure TI (l m:List aB) (o:aB):Prop where
  ok:∀ x∈m,jA x
  len:m.length<=l.length
  q:tQ m+o.aG=tQ l
  v:tV m+o.Value=tV l
  p:tP m+o.bO=tP l
  s:tS m+ab o.bO<=tS l
  oq:0<=o.aG
  ov:0<=o.Value
theorem TI.init {l:List aB} (h:LR l):TI l l ⟨0,0,0⟩:=⟨h.1,Nat.le_refl _,by simp,by simp,by simp,by simp [ab],by simp,by simp⟩
theorem TI.b {l m:List aB} {o:aB} (h:TI l m o) (hl:LR l):(0<=o.aG/\o.aG<=tQ l)/\(0<=o.Value/\o.Value<=288230376151711744)/\(-288230376151711744<=o.bO/\o.bO<=288230376151711744)/\tQ l<=288230376151711744:=by
  have h1:=l9 h.ok
  obtain ⟨b1,b2,b3⟩:=mE o.bO
  have h2:=gV hl
  have:=h.q;have:=h.v;have:=h.s;have:=h.oq;have:=h.ov
  refine ⟨⟨?_,?_⟩,⟨?_,?_⟩,⟨?_,?_⟩,?_⟩ <;> omega
theorem VG (a b:Int):ab (a+b)<=ab a+ab b:=by unfold ab;repeat' split <;> omega
theorem TI.whole {l r:List aB} {x o:aB} (h:TI l (x :: r) o):TI l r (jM o x):=by
  have hx:=h.ok x (List.mem_cons_self ..)
  obtain ⟨g1,g2,g3⟩:=hx
  have h1:=h.q;have h2:=h.v;have h3:=h.p;have h4:=h.s;have h5:=h.len;have h6:=h.oq;have h7:=h.ov
  have b:=VG o.bO x.bO
  simp only [tQ,tV,tP,tS,List.length_cons] at h1 h2 h3 h4 h5
  exact ⟨λy hy=>h.ok y (List.mem_cons_of_mem _ hy),by omega,by simp only [jM];omega,by simp only [jM];omega,by simp only [jM];omega,by simp only [jM];omega,by simp only [jM];omega,by simp only [jM];omega⟩
theorem OT {x:aB} {w:Int} (hx:jA x) (hw:1<=w/\w<x.aG):(0<=pt x.Value w x.aG/\pt x.Value w x.aG<=x.Value)/\ab (x.bO-pt x.bO w x.aG)+ab (pt x.bO w x.aG)=ab x.bO/\(-288230376151711744<=pt x.bO w x.aG/\pt x.bO w x.aG<=288230376151711744)/\(-288230376151711744<=x.bO-pt x.bO w x.aG/\x.bO-pt x.bO w x.aG<=288230376151711744):=by
  obtain ⟨g1,g2,g3⟩:=hx
  have p1:=ZP (v:=x.Value) (w:=w) (q:=x.aG) g2 hw
  obtain ⟨p3,p4,p5⟩:=WL (p:=x.bO) (w:=w) (q:=x.aG) g3 hw
  exact ⟨p1,p3,p4,p5⟩
theorem TI.part {l r:List aB} {x o:aB} {w:Int} (h:TI l (x :: r) o) (hw:1<=w/\w<x.aG):TI l (lq x w :: r) (jM o (jY x w)):=by
  have hx:=h.ok x (List.mem_cons_self ..)
  obtain ⟨p1,p2,p3,p4⟩:=OT hx hw
  obtain ⟨g1,g2,g3⟩:=hx
  have h1:=h.q;have h2:=h.v;have h3:=h.p;have h4:=h.s;have h5:=h.len;have h6:=h.oq;have h7:=h.ov
  have b:=VG o.bO (pt x.bO w x.aG)
  simp only [tQ,tV,tP,tS,List.length_cons] at h1 h2 h3 h4 h5
  refine ⟨λy hy=>?_,by simp only [List.length_cons];omega,by simp only [jM,lq,jY,tQ];omega,by simp only [jM,lq,jY,tV];omega,by simp only [jM,lq,jY,tP];omega,by simp only [jM,lq,jY,tS];omega,by simp only [jM,jY];omega,by simp only [jM,jY];omega⟩
  rcases List.mem_cons.1 hy with rfl | hy
  · exact ⟨by simp only [lq];omega,by simp only [lq];omega,by unfold bQ;simp only [lq];omega⟩
  · exact h.ok y (List.mem_cons_of_mem _ hy)
theorem SG {l:List aB} {q:Int} {n:Nat} (hn:66<n) (hl:LR l) (hq:-9223372036854775808<=q/\q<=9223372036854775807):xN n l q=some (o9 l q):=by
  have hl0:=hl
  obtain ⟨hk,h30,hQ,hV,hS⟩:=hl
  have hp:=l9 hk
  refine fH ?_
  unfold xN SY o9
  simp only [WT.run,bS]
  refine aU _ (LC (by omega) (by omega) hk) λt ht=>?_
  rw [ht.1 hQ hV hS]
  refine aF (aI (λk1=>aD (by rw [if_pos k1])) λk1=>aF (aI (λk2=>aD (by have k2:tQ l<q:=k2;rw [if_neg k1,if_pos k2])) λk2=>?_))
  have k2:¬ tQ l<q:=k2
  rw [if_neg k1,if_neg k2]
  refine aU (λ(r:aB×List aB)=>r=((tk l q).2,(tk l q).1)) (fJ (λ(v:Int×aB×List aB)=>0<=v.1/\v.1<=(l.length:Int)/\TI l (v.2.2++l.drop v.1.toNat) v.2.1/\v.2.1.aG<=q/\(v.2.1.aG<q->v.2.2=[])/\tk l q=(v.2.2++(tk (l.drop v.1.toNat) (q-v.2.1.aG)).1,jM v.2.1 (tk (l.drop v.1.toNat) (q-v.2.1.aG)).2)) (λv=>l.length-v.1.toNat) ?_ (v:=(0,⟨0,0,0⟩,[])) ⟨by simp,by simp,by simpa using TI.init hl0,by simp only;omega,λ_=>rfl,by simp [jM]⟩ (by simp only;omega)) λr hr=>?_
  · rintro ⟨i,g,m⟩ ⟨h0,h1,ti,hg,hm,e⟩
    simp only at h0 h1 ti hg hm e
    have tb:=ti.b hl0
    refine bF (bF (aF (aI (λhi=>?_) λhi=>bJ (aD ?_))))
    · have hi:i<(l.length:Int):=hi
      have e2:(i+1).toNat=i.toNat+1:=by omega
      refine aU (λ(r:aB×List aB)=>TI l (r.2++l.drop (i.toNat+1)) r.1/\r.1.aG<=q/\(r.1.aG<q->r.2=[])/\tk l q=(r.2++(tk (l.drop (i.toNat+1)) (q-r.1.aG)).1,jM r.1 (tk (l.drop (i.toNat+1)) (q-r.1.aG)).2)) ?_ λr hr=>bF (bE (cK ⟨⟨by first | omega | (simp only;omega),by first | omega | (simp only;omega),by simp only;rw [e2];exact hr.1,hr.2.1,hr.2.2.1,by simp only;rw [e2];exact hr.2.2.2⟩,by first | omega | (simp only;omega)⟩))
      refine eT h0 hi λx hx=>?_
      have hx:l[i.toNat]?=some x:=hx
      rw [(drop_at hx).2] at ti e
      have hxk:=hk x (fE hx)
      obtain ⟨g1,g2,g3⟩:=hxk
      have ml:m.length<=30:=by have:=ti.len;simp at this;omega
      refine bE (aF (aI (λc1=>?_) λc1=>?_))
      · have c1:q-g.aG<=0:=c1
        rw [E5 c1] at e
        refine aF (dM (aD ⟨by simpa using ti,hg,λk=>absurd (show g.aG<q from k) (by omega),?_⟩))
        simp only;rw [E5 c1];simpa using e
      · have c1:¬ q-g.aG<=0:=c1
        have m0:=hm (by omega)
        subst m0
        simp only [List.nil_append] at ti e
        refine aU (λ(r:List aB×aB)=>(r=([lq x (q-g.aG)],jY x (q-g.aG))/\x.aG>q-g.aG)\/(r=([],x)/\¬ x.aG>q-g.aG)) ?_ λr hr=>?_
        · refine aF (aI (λc2=>?_) λc2=>aD (.inr ⟨rfl,c2⟩))
          have c2:x.aG>q-g.aG:=c2
          obtain ⟨p1,p2,p3,p4⟩:=OT ⟨g1,g2,g3⟩ (w:=q-g.aG) ⟨by omega,by omega⟩
          exact x_eq (oJ hn (by simp only;omega) (by omega)) (x_eq (oJ hn (by simp only;omega) (by omega)) (gU (by simp only;omega) (gU (by simp only;omega) (gU (by simp only;omega) (aF (iR (by simp) (aD (.inl ⟨rfl,c2⟩))))))))
        · rcases hr with ⟨rfl,c2⟩ | ⟨rfl,c2⟩
          · have t2:=ti.part (w:=q-g.aG) ⟨by omega,by omega⟩
            have b2:=t2.b hl0
            rw [aD8 c1 c2] at e
            simp only [jM,jY] at b2
            refine bF (gU (by simp only [jY];omega) (gU (by simp only [jY];omega) (gU (by simp only [jY];omega) (aD ⟨t2,by simp only [jY];omega,λk=>absurd k (by simp only [jY];omega),?_⟩))))
            simp only [jY,show q-(g.aG+(q-g.aG))=0 by omega]
            rw [E5 (Int.le_refl 0)]
            simpa [jM,jY] using e
          · have t2:=ti.whole
            have b2:=t2.b hl0
            rw [aB8 c1 c2] at e
            simp only [jM] at b2
            refine bF (gU (by simp only;omega) (gU (by simp only;omega) (gU (by simp only;omega) (aD ⟨t2,by simp only;omega,λ_=>rfl,?_⟩))))
            simp only [<- Int.sub_sub]
            rw [e,<- ZV];rfl
    · have hd:l.drop i.toNat=[]:=List.drop_eq_nil_of_le (by first | omega | (simp only;omega))
      rw [hd] at e
      simp only [tk,List.append_nil,NA] at e
      rw [e]
  · subst hr
    exact bF (aD rfl)
end Go.Pv
