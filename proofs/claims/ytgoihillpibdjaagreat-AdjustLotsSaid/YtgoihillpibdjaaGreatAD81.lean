import Derived.Test.YtgoihillpibdjaaGreatQK80
import Derived.Test.YtgoihillpibdjaaGreatPT80
set_option linter.unusedVariables false
set_option linter.unusedSimpArgs false
namespace Go.Pv
open Go.Proofs
set_option maxRecDepth 1000000
set_option maxHeartbeats 1000000
theorem aTJ {m:fG} {v odd:Int} {n:Nat} (hn:200<n) (h:MN m):Ex (λr=>r.eY.length<=4) (GZ n m v odd):=by
  unfold GZ X4
  simp only [WT.run,bR]
  refine aT _ (OK (by decide)) λk hk=>aT _ (PG h) λo ho=>?_
  have f1:=td (a:=k) (b:=32) hk.1 (by decide)
  refine aT (λ(r:bM⊕bM)=>match r with | .inl o=>o.eY.length<=4 | .inr o=>o.eY.length<=4)
    (fM (λ(u:Int×bM)=>0<=u.1/\u.1<=64/\u.2.eY.length<=3) (λu=>64-u.1.toNat) ?_ (v:=(0,o)) ⟨by simp,by simp,ho⟩ (by simp;omega)) λr hr=>jI (λa e=>by subst e;exact aF hr) λb e=>by subst e;exact hr
  rintro ⟨i,x⟩ ⟨h0,h1,h2⟩
  simp only at h0 h1 h2
  refine bE (aD (aH (λq=>?_) λq=>bK (bX (by show x.eY.length<=4;omega))))
  have q:i<64:=q
  have f3:=tm (a:=k.tdiv 32) (b:=4) f1.1 (by decide)
  have f4:=tm (a:=k+i+1) (b:=32) (by omega) (by decide)
  refine aT (λ(r:bM⊕((Int×bM)⊕(bM⊕bM)))=>match r with | .inl y=>y.eY.length<=3 | .inr (.inl _)=>False | .inr (.inr (.inl _))=>False | .inr (.inr (.inr o))=>o.eY.length<=4) ?_ λr hr=>?_
  · refine aT (λ(r:Unit⊕(bM⊕((Int×bM)⊕(bM⊕bM))))=>match r with | .inl _=>True | .inr (.inl _)=>False | .inr (.inr (.inl _))=>False | .inr (.inr (.inr (.inl _)))=>False | .inr (.inr (.inr (.inr o)))=>o.eY.length<=4)
      (fM (λ(y:Int)=>0<=y/\y<=4) (λy=>4-y.toNat) ?_ (v:=0) (by simp) (by simp;omega)) λr hr=>?_
    · rintro y ⟨y0,y1⟩
      refine aD (aH (λq1=>?_) λq1=>bK (bX trivial))
      refine aT (λ_=>True) ?_ λb _=>eX (λ_=>aT _ (aOY (o:=x) (v:=odd) h2) λo2 ho2=>bK (bK (bK (bK (bK (aF ho2)))))) λ_=>bF (bX ⟨⟨by omega,by omega⟩,by omega⟩)
      refine iF ⟨y0,q1⟩ (eF y0 (by simpa using q1) λz hz=>aD (aH (λ_=>aD (aH (λ_=>aF trivial) λ_=>iF ⟨y0,q1⟩ (bF (aD (iF f3 (eF f3.1 (by simpa using f3.2) λw hw=>aD (aF trivial))))))) λ_=>aF trivial))
    · match r,hr with
      | .inl _,_ =>
        refine bY (bF (bF (bF (bF (aD (bF (aT _ (PG h) λo2 h2=>bX h2)))))))
      | .inr (.inr (.inr (.inr o))),hr=>exact mG hr
  · match r,hr with
    | .inl y,hr=>exact bY (bF (bX ⟨⟨by first | omega | (simp only;omega),by first | omega | (simp only;omega),hr⟩,by first | omega | (simp only;omega)⟩))
    | .inr (.inr (.inr o)),hr=>exact mG hr
theorem YY:DD 300=some true:=by decide +kernel
theorem aLG {K:Int} {s:aA} {o:bM} (h:Inv K s) (hK:K<=1000000) (ho:C9 o):G9 300 s o=some true:=by
  have e:=aU7 (n:=300) (by decide) h ho.q ⟨ho.a.1,ho.a9⟩ ho.l7
  obtain ⟨r,hr,hk⟩:=r17 (n:=300) (o:=o) (by decide) h ho.q ⟨ho.a.1,ho.a9⟩ ho.l7
  have hi:Inv K r.1:=by
    rcases hk with k | k
    · exact k.2
    · rw [k.2];exact h
  refine eT ?_
  unfold G9 YE
  simp only [WT.run,bR]
  refine x_eq (e.trans hr) (x_eq hr (aT (λ(b:Bool)=>b=true) (x_eq (aDL hi (by decide)) (cO (aD (aH (λ_=>aD (aH (λ_=>x_eq (hi.aIS hK (by decide)) (aF rfl)) λk=>?_)) λk=>absurd rfl k)))) λb hb=>aF hb))
  rcases hk with k2 | k2
  · exact absurd k2.1 k
  · have e2:yF 300 r.1 s=some true:=by rw [k2.2];exact aDL h (by decide)
    exact x_eq e2 (cO (x_eq (hi.aIS hK (by decide)) (aF rfl)))
theorem aKG {K:Int} {s:aA} {o:bM} (h:Inv K s) (ho:C9 o):Ex (λr=>Inv K r.1) (aH4 300 s o):=by
  rw [aU7 (n:=300) (by decide) h ho.q ⟨ho.a.1,ho.a9⟩ ho.l7]
  obtain ⟨r,hr,hk⟩:=r17 (n:=300) (o:=o) (by decide) h ho.q ⟨ho.a.1,ho.a9⟩ ho.l7
  refine ⟨r,hr,?_⟩
  rcases hk with k | k
  · exact k.2
  · rw [k.2];exact h
theorem aVM (a1:Int) (a2 a3:List Int):aTF 300 a1 a2 a3=some true:=by
  refine eT ?_
  unfold aTF aYT
  simp only [WT.run,bR]
  refine aT _ (aY2 (by decide)) λm hm=>aT _ (aZR (by decide) hm) λs hs=>?_
  refine aT (λ(r:Unit⊕Bool)=>match r with | .inl _=>True | .inr b=>b=true) ?_ λr hr=>jI (λ_ _=>x_eq YY (aF rfl)) λb e=>by subst e;exact hr
  refine fM (λ(v:Int×aA)=>0<=v.1/\v.1<=25/\Inv (1000+v.1) v.2) (λv=>25-v.1.toNat) ?_ (v:=(0,s)) ⟨by simp,by simp,hs⟩ (by simp)
  rintro ⟨i,t⟩ ⟨h0,h1,h2⟩
  simp only at h0 h1 h2
  refine bE (aT (λ(b:Bool)=>b=true->i<a3.length/\i<25) (aD (aH (λk1=>aD (aF λk2=>⟨k1,of_decide_eq_true k2⟩)) λ_=>aF (λk=>nomatch k))) λb hb=>eX (λkb=>?_) λ_=>bK (bX trivial))
  obtain ⟨k1,k2⟩:=hb kb
  refine aT (λ(r:aA⊕((Int×aA)⊕(Unit⊕Bool)))=>match r with | .inl u=>Inv (1000+(i+1)) u | .inr (.inl _)=>False | .inr (.inr (.inl _))=>False | .inr (.inr (.inr b))=>b=true) ?_ λr hr=>?_
  · refine eF h0 k1 λx hx=>aT _ (aTJ (by decide) hm) λo ho=>eF h0 k1 λy hy=>aD (aD (aH (λ_=>?_) λ_=>?_))
    · exact eF h0 k1 λz hz=>aT _ (PG hm) λo2 ho2=>aT _ (aPH (by decide) h2 (by omega) (aFS (by decide) (by omega))) λr hr=>bX (by show Inv _ _;rw [<- Int.add_assoc];exact hr)
    · obtain ⟨c,ec,hc⟩:=aFS (o:=o) (n:=300) (by decide) (by omega)
      cases c with
      | false =>
        refine aT (λ(b:Bool)=>b=true) (x_eq ec (aD (cO (aF rfl)))) λb hb=>?_
        subst hb
        exact cO (aT (λ(b:Bool)=>b=true) (x_eq ec (aD (cO (x_eq YY (aF rfl))))) λb hb=>bK (bK (bK (aF hb))))
      | true =>
        refine aT (λ(b:Bool)=>b=false) (x_eq ec (aD (bU (x_eq (aLG h2 (by omega) (hc rfl)) (aD (aF rfl)))))) λb hb=>?_
        subst hb
        exact bU (aT _ (aKG h2 (hc rfl)) λr hr=>bX (hr.mono (by omega)))
  · match r,hr with
    | .inl u,hr=>exact bY (bF (bX ⟨⟨by first | omega | (simp only;omega),by first | omega | (simp only;omega),hr⟩,by first | omega | (simp only;omega)⟩))
    | .inr (.inr (.inr b)),hr=>exact mG hr
end Go.Pv
