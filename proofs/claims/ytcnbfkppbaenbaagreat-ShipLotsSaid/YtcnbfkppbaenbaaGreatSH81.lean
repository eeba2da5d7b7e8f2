import Derived.Test.YtcnbfkppbaenbaaGreatQI80
import Derived.Test.YtcnbfkppbaenbaaGreatPT80
set_option linter.unusedVariables false
set_option linter.unusedSimpArgs false
namespace Go.Pv
open Go.Proofs
set_option maxRecDepth 1000000
set_option maxHeartbeats 1000000
theorem a2I {m:fC} {v odd:Int} {n:Nat} (hn:200<n) (h:MN m):Ex (λr=>r.fA.length<=4) (aYO n m v odd):=by
  unfold aYO a1E
  simp only [WT.run,bS]
  refine aU _ (KE (by decide)) λk hk=>aU _ (SK h) λo ho=>?_
  have f1:=td (a:=k) (b:=32) hk.1 (by decide)
  refine aU (λ(r:bK⊕bK)=>match r with | .inl o=>o.fA.length<=4 | .inr o=>o.fA.length<=4)
    (fJ (λ(u:Int×bK)=>0<=u.1/\u.1<=64/\u.2.fA.length<=3) (λu=>64-u.1.toNat) ?_ (v:=(0,o)) ⟨by simp,by simp,ho⟩ (by simp;omega)) λr hr=>iZ (λa e=>by subst e;exact aD hr) λb e=>by subst e;exact hr
  rintro ⟨i,x⟩ ⟨h0,h1,h2⟩
  simp only at h0 h1 h2
  refine bF (aF (aI (λq=>?_) λq=>bJ (cK (by show x.fA.length<=4;omega))))
  have q:i<64:=q
  have f3:=tm (a:=k.tdiv 32) (b:=2) f1.1 (by decide)
  have f4:=tm (a:=k+i+1) (b:=32) (by omega) (by decide)
  refine aU (λ(r:bK⊕((Int×bK)⊕(bK⊕bK)))=>match r with | .inl y=>y.fA.length<=3 | .inr (.inl _)=>False | .inr (.inr (.inl _))=>False | .inr (.inr (.inr o))=>o.fA.length<=4) ?_ λr hr=>?_
  · refine aU (λ(r:Unit⊕(bK⊕((Int×bK)⊕(bK⊕bK))))=>match r with | .inl _=>True | .inr (.inl _)=>False | .inr (.inr (.inl _))=>False | .inr (.inr (.inr (.inl _)))=>False | .inr (.inr (.inr (.inr o)))=>o.fA.length<=4)
      (fJ (λ(y:Int)=>0<=y/\y<=2) (λy=>2-y.toNat) ?_ (v:=0) (by simp) (by simp;omega)) λr hr=>?_
    · rintro y ⟨y0,y1⟩
      refine aF (aI (λq1=>?_) λq1=>bJ (cK trivial))
      refine aU (λ_=>True) ?_ λb _=>fB (λ_=>aU _ (aH8 (o:=x) (v:=odd) h2) λo2 ho2=>bJ (bJ (bJ (bJ (bJ (aD ho2)))))) λ_=>bE (cK ⟨⟨by omega,by omega⟩,by omega⟩)
      refine iR ⟨y0,q1⟩ (eT y0 (by simpa using q1) λz hz=>aF (aI (λ_=>aF (aI (λ_=>aD trivial) λ_=>iR ⟨y0,q1⟩ (bE (aF (iR f3 (eT f3.1 (by simpa using f3.2) λw hw=>aF (aD trivial))))))) λ_=>aD trivial))
    · match r,hr with
      | .inl _,_ =>
        refine cZ (bE (bE (bE (bE (aF (bE (aU _ (SK h) λo2 h2=>cK h2)))))))
      | .inr (.inr (.inr (.inr o))),hr=>exact yK hr
  · match r,hr with
    | .inl y,hr=>exact cZ (bE (cK ⟨⟨by first | omega | (simp only;omega),by first | omega | (simp only;omega),hr⟩,by first | omega | (simp only;omega)⟩))
    | .inr (.inr (.inr o)),hr=>exact yK hr
theorem a0C:aX9 300=some true:=by decide +kernel
theorem a1I {K:Int} {s:aA} {o:bK} (h:Inv K s) (hK:K<=1000000) (ho:zV o):aYF 300 s o=some true:=by
  have e:=a2B (n:=300) (by decide) h ho.q ho.a
  obtain ⟨r,hr,hk⟩:=r20 (n:=300) (o:=o) (by decide) h ho.q ho.a ho.t12
  have hi:Inv K r.1:=by
    rcases hk with k | k
    · exact k.2
    · rw [k.2];exact h
  refine fH ?_
  unfold aYF aZW
  simp only [WT.run,bS]
  refine x_eq (e.trans hr) (x_eq hr (aU (λ(b:Bool)=>b=true) (x_eq (TS hi (by decide)) (dB (aF (aI (λ_=>aF (aI (λ_=>x_eq (hi.UY hK (by decide)) (aD rfl)) λk=>?_)) λk=>absurd rfl k)))) λb hb=>aD hb))
  rcases hk with k2 | k2
  · exact absurd k2.1 k
  · have e2:yZ 300 r.1 s=some true:=by rw [k2.2];exact TS h (by decide)
    exact x_eq e2 (dB (x_eq (hi.UY hK (by decide)) (aD rfl)))
theorem a2J {K:Int} {s:aA} {o:bK} (h:Inv K s) (ho:zV o):Ex (λr=>Inv K r.1) (aX2 300 s o):=by
  rw [a2B (n:=300) (by decide) h ho.q ho.a]
  obtain ⟨r,hr,hk⟩:=r20 (n:=300) (o:=o) (by decide) h ho.q ho.a ho.t12
  refine ⟨r,hr,?_⟩
  rcases hk with k | k
  · exact k.2
  · rw [k.2];exact h
theorem a2P (a1:Int) (a2 a3:List Int):a1T 300 a1 a2 a3=some true:=by
  refine fH ?_
  unfold a1T a2C
  simp only [WT.run,bS]
  refine aU _ (aQO (by decide)) λm hm=>aU _ (aT7 (by decide) hm) λs hs=>?_
  refine aU (λ(r:Unit⊕Bool)=>match r with | .inl _=>True | .inr b=>b=true) ?_ λr hr=>iZ (λ_ _=>x_eq a0C (aD rfl)) λb e=>by subst e;exact hr
  refine fJ (λ(v:Int×aA)=>0<=v.1/\v.1<=25/\Inv (1000+v.1) v.2) (λv=>25-v.1.toNat) ?_ (v:=(0,s)) ⟨by simp,by simp,hs⟩ (by simp)
  rintro ⟨i,t⟩ ⟨h0,h1,h2⟩
  simp only at h0 h1 h2
  refine bF (aU (λ(b:Bool)=>b=true->i<a3.length/\i<25) (aF (aI (λk1=>aF (aD λk2=>⟨k1,of_decide_eq_true k2⟩)) λ_=>aD (λk=>nomatch k))) λb hb=>fB (λkb=>?_) λ_=>bJ (cK trivial))
  obtain ⟨k1,k2⟩:=hb kb
  refine aU (λ(r:aA⊕((Int×aA)⊕(Unit⊕Bool)))=>match r with | .inl u=>Inv (1000+(i+1)) u | .inr (.inl _)=>False | .inr (.inr (.inl _))=>False | .inr (.inr (.inr b))=>b=true) ?_ λr hr=>?_
  · refine eT h0 k1 λx hx=>aU _ (a2I (by decide) hm) λo ho=>eT h0 k1 λy hy=>aF (aF (aI (λ_=>?_) λ_=>?_))
    · exact eT h0 k1 λz hz=>aU _ (SK hm) λo2 ho2=>aU _ (aUQ (by decide) h2 (by omega) (TW (by decide) (by omega))) λr hr=>cK (by show Inv _ _;rw [<- Int.add_assoc];exact hr)
    · obtain ⟨c,ec,hc⟩:=TW (o:=o) (n:=300) (by decide) (by omega)
      cases c with
      | false =>
        refine aU (λ(b:Bool)=>b=true) (x_eq ec (aF (dB (aD rfl)))) λb hb=>?_
        subst hb
        exact dB (aU (λ(b:Bool)=>b=true) (x_eq ec (aF (dB (x_eq a0C (aD rfl))))) λb hb=>bJ (bJ (bJ (aD hb))))
      | true =>
        refine aU (λ(b:Bool)=>b=false) (x_eq ec (aF (bW (x_eq (a1I h2 (by omega) (hc rfl)) (aF (aD rfl)))))) λb hb=>?_
        subst hb
        exact bW (aU _ (a2J h2 (hc rfl)) λr hr=>cK (hr.mono (by omega)))
  · match r,hr with
    | .inl u,hr=>exact cZ (bE (cK ⟨⟨by first | omega | (simp only;omega),by first | omega | (simp only;omega),hr⟩,by first | omega | (simp only;omega)⟩))
    | .inr (.inr (.inr b)),hr=>exact yK hr
end Go.Pv
