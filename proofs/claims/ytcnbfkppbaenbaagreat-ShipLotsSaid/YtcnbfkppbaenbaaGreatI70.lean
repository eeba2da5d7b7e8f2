/- Pools: what goes (the document's ref10 .. ref13). -/
import Derived.Test.YtcnbfkppbaenbaaGreatH70
set_option linter.unusedVariables false
set_option linter.unusedSimpArgs false
namespace Go.Pv
open Go.Proofs
set_option maxRecDepth 100000
set_option maxHeartbeats 1000000
theorem LB {l:List aB} {q:Int} {n:Nat} (hn:66<n) (hl:LR l) (hq:-9223372036854775808<=q/\q<=9223372036854775807) :
    Ex (λr=>(r.2.2=0/\1<=q/\r.2.1.aG=q/\qM l r.1 r.2.1)\/(r.2.2≠0/\r.1=l/\r.2.1=⟨0,0,0⟩/\(1<=q->tQ l<q))) (pO n l q):=by
  unfold pO TE
  simp only [WT.run,bS]
  refine aU _ (QG hn hl hq) λr hr=>?_
  repeat' with_reducible first | refine bE ?_ | refine dU ?_ | apply aF | apply bF | apply dY | apply dN | apply dV | apply dZ | apply d9 | apply dO | apply dW | apply dS | refine aI (λ_=>?_) λ_=>?_ | refine dJ (λ_=>?_) λ_=>?_ | apply dB | apply bW | apply cZ | apply bJ | apply aD
  exact hr
theorem y9 {l m:List aB} {g:aB} (hl:LR l) (h:qM l m g):(0<=g.Value/\g.Value<=288230376151711744)/\(-288230376151711744<=g.bO/\g.bO<=288230376151711744)/\LR m/\tQ m+g.aG=tQ l/\tV m+g.Value=tV l/\tP m+g.bO=tP l/\tS m+ab g.bO<=tS l/\m.length<=l.length:=by
  obtain ⟨h1,h2,h3,h4,h5,h6,h7⟩:=h
  have a:=gV hl
  have b:=gV h1
  obtain ⟨c1,c2,c3⟩:=mE g.bO
  refine ⟨by omega,by omega,h1,h3,h4,h5,h6,h2⟩
theorem aWA {l:List aB} {q c:Int} {n:Nat} (hn:66<n) (hl:LR l) (h1:l.length<=1) (hc:0<=c/\c<=1073741824) (hq:-9223372036854775808<=q/\q<=9223372036854775807) :
    Ex (λr=>(r.2.2=0/\1<=q/\r.2.1.aG=q/\qM l r.1 r.2.1)\/r.2.2≠0) (BO n l q c):=by
  unfold BO TG
  simp only [WT.run,bS]
  repeat' with_reducible first | refine bE ?_ | refine dU ?_ | apply aF | apply bF | apply dY | apply dN | apply dV | apply dZ | apply d9 | apply dO | apply dW | apply dS | refine aI (λ_=>?_) λ_=>?_ | refine dJ (λ_=>?_) λ_=>?_ | apply dB | apply bW | apply cZ | apply bJ | apply aD
  all_goals try exact .inr (λk=>nomatch k)
  all_goals try (exfalso;omega)
  refine aU _ (LB hn hl hq) λr hr=>?_
  rcases hr with ⟨e1,e2,e3,e4⟩ | ⟨e1,e2⟩
  · repeat' with_reducible first | refine bE ?_ | refine dU ?_ | apply aF | apply bF | apply dY | apply dN | apply dV | apply dZ | apply d9 | apply dO | apply dW | apply dS | refine aI (λ_=>?_) λ_=>?_ | refine dJ (λ_=>?_) λ_=>?_ | apply dB | apply bW | apply cZ | apply bJ | apply aD
    · omega
    · exact .inl ⟨e1,e2,e3,e4⟩
    · rename_i k1 k2 k3
      obtain ⟨t1,t2,t3,t4,t5,t6,t7,t8⟩:=y9 hl e4
      have hb:=gV hl
      have hbm:=gV t3
      refine x_eq (xI hn hl) (x_eq (M6 hn (by omega) (by omega)) ?_)
      have hm:=yN q c 1
      refine aU (λ(b:Bool)=>b=false->(md q c 1).1<=tV l) ?_ λb hb2=>aU (λ(v:Int)=>0<=v/\v<=tV l) (fB (λ_=>aD (by simp only;omega)) λk=>aD ⟨hm.1,hb2 k⟩) λv hv=>?_
      · repeat' with_reducible first | refine bE ?_ | refine dU ?_ | apply aF | apply bF | apply dY | apply dN | apply dV | apply dZ | apply d9 | apply dO | apply dW | apply dS | refine aI (λ_=>?_) λ_=>?_ | refine dJ (λ_=>?_) λ_=>?_ | apply dB | apply bW | apply cZ | apply bJ | apply aD
        · exact λk=>nomatch k
        · rename_i k;intro k2
          have k2:=of_decide_eq_false k2
          (try simp only at *);omega
      · repeat' with_reducible first | refine bE ?_ | refine dU ?_ | apply aF | apply bF | apply dY | apply dN | apply dV | apply dZ | apply d9 | apply dO | apply dW | apply dS | refine aI (λ_=>?_) λ_=>?_ | refine dJ (λ_=>?_) λ_=>?_ | apply dB | apply bW | apply cZ | apply bJ | apply aD
        refine Or.inl ⟨rfl,e2,e3,?_⟩
        show qM l [⟨tQ l-q,tV l-v,tP l-r.2.1.bO⟩] ⟨r.2.1.aG,v,r.2.1.bO⟩
        rw [e3] at t4
        have e5:tQ l-q=tQ r.1:=by omega
        have e6:tP l-r.2.1.bO=tP r.1:=by omega
        rw [e5,e6,e3]
        have k4:1<=r.1.length:=by omega
        refine ⟨Y7 (by omega) (by omega) (by unfold bQ;omega),by simp;omega,by simp [tQ];omega,by simp [tV],by simp [tP];omega,?_,by simp only;omega⟩
        have:ab (tP r.1)<=tS r.1:=by unfold ab;split <;> omega
        simp only [tS];omega
  · repeat' with_reducible first | refine bE ?_ | refine dU ?_ | apply aF | apply bF | apply dY | apply dN | apply dV | apply dZ | apply d9 | apply dO | apply dW | apply dS | refine aI (λ_=>?_) λ_=>?_ | refine dJ (λ_=>?_) λ_=>?_ | apply dB | apply bW | apply cZ | apply bJ | apply aD
    · exact .inr e1
    · omega
    · omega
theorem aXL {m q:Int} {p:aH} {n:Nat} (hn:66<n) (h:PR m p) (hq:-9223372036854775808<=q/\q<=9223372036854775807) :
    Ex (λr=>(r.2.2=0/\1<=q/\q<=tQ p.aW-p.bN.a0-p.bN.a1-p.bN.a2/\r.2.1.aG=q/\qM p.aW r.1.aW r.2.1/\r.1.bN=p.bN)\/r.2.2≠0) (AF n p q):=by
  unfold AF OK
  simp only [WT.run,bS,EY hn h,Option.bind_some]
  repeat' with_reducible first | refine bE ?_ | refine dU ?_ | apply aF | apply bF | apply dY | apply dN | apply dV | apply dZ | apply d9 | apply dO | apply dW | apply dS | refine aI (λ_=>?_) λ_=>?_ | refine dJ (λ_=>?_) λ_=>?_ | apply dB | apply bW | apply cZ | apply bJ | apply aD
  all_goals try exact .inr (λk=>nomatch k)
  refine aU _ (LB hn h.ly hq) λr hr=>aD ?_
  rcases hr with ⟨e1,e2,e3,e4⟩ | ⟨e1,e2⟩
  · exact .inl ⟨e1,e2,by omega,e3,e4,rfl⟩
  · exact .inr e1
theorem aWW {m k q:Int} {p:aH} {n:Nat} (hn:66<n) (h:PR m p) (hm:m=3) (hq:-9223372036854775808<=q/\q<=9223372036854775807) :
    Ex (λr=>(r.2=0/\PR m r.1/\r.1.aW=p.aW/\1<=q/\r.1.bN.a0+r.1.bN.a1+r.1.bN.a2=p.bN.a0+p.bN.a1+p.bN.a2+q)\/(r.2≠0/\r.1=p)) (AM n p k q):=by
  have hl:=gV h.ly
  have h0:=h.p0;have h1:=h.p1;have h2:=h.p2;have h3:=h.sum
  unfold AM NV
  simp only [WT.run,bS,EY hn h,Option.bind_some]
  repeat' with_reducible first | refine bE ?_ | refine dU ?_ | apply aF | apply bF | apply dY | apply dN | apply dV | apply dZ | apply d9 | apply dO | apply dW | apply dS | refine aI (λ_=>?_) λ_=>?_ | refine dJ (λ_=>?_) λ_=>?_ | apply dB | apply bW | apply cZ | apply bJ | apply aD | refine dM ?_
  all_goals try exact .inr ⟨(λk=>nomatch k),rfl⟩
  all_goals try (exfalso;omega)
  all_goals (refine .inl ⟨rfl,⟨h.mt,h.ly,h.one,by first | omega | (simp only;omega),by first | omega | (simp only;omega),by first | omega | (simp only;omega),by first | omega | (simp only;omega),λk=>absurd hm k⟩,rfl,by omega,by first | omega | (simp only;omega)⟩)
def Gone (m:Int) (p r:aH) (x:aB):Prop:=PR m r/\tQ r.aW+x.aG=tQ p.aW/\tV r.aW+x.Value=tV p.aW/\tP r.aW+x.bO=tP p.aW/\tS r.aW+ab x.bO<=tS p.aW/\(0<=x.Value/\x.Value<=288230376151711744)/\(-288230376151711744<=x.bO/\x.bO<=288230376151711744)
theorem KY {m:Int} {p:aH} {l:List aB} {x:aB} (h:PR m p) (ht:qM p.aW l x) (hs:p.bN.a0+p.bN.a1+p.bN.a2+x.aG<=tQ p.aW):Gone m p ⟨l,p.bN⟩ x:=by
  obtain ⟨t1,t2,t3,t4,t5,t6,t7,t8⟩:=y9 h.ly ht
  refine ⟨{ h with ly:=t3,one:=λk=>by have:=h.one k;show l.length<=1;omega,sum:=by show _<=tQ l;simp only;omega },t4,t5,t6,t7,t1,t2⟩
theorem aIS {m c k q:Int} {p:aH} {n:Nat} (hn:66<n) (h:PR m p) (hc:0<=c/\c<=1073741824) (hq:-9223372036854775808<=q/\q<=9223372036854775807) :
    Ex (λr=>(r.2.2.2=0/\1<=q/\Gone m p r.1 r.2.1/\(r.2.2.1=false->r.2.1.aG=q)/\(r.2.2.1=true->r.2.1=⟨0,0,0⟩/\m=3/\k≠3))\/r.2.2.2≠0) (zJ n m c p k q):=by
  have hl:=gV h.ly
  have h0:=h.p0;have h1:=h.p1;have h2:=h.p2;have h3:=h.sum
  unfold zJ RB
  simp only [WT.run,bS]
  refine aU (λ_=>True) ?_ λb _=>fB (λ_=>aD (.inr (λk=>nomatch k))) λ_=>?_
  · repeat' with_reducible first | refine bE ?_ | refine dU ?_ | apply aF | apply bF | apply dY | apply dN | apply dV | apply dZ | apply d9 | apply dO | apply dW | apply dS | refine aI (λ_=>?_) λ_=>?_ | refine dJ (λ_=>?_) λ_=>?_ | apply dB | apply bW | apply cZ | apply bJ | apply aD
    all_goals trivial
  refine aU (λ(r:(Int×aH×aB)⊕(aH×aB×Bool×Int))=>match r with
    | .inl r=>r.1=0->1<=q/\Gone m p r.2.1 r.2.2/\r.2.2.aG=q
    | .inr r=>(r.2.2.2=0/\1<=q/\Gone m p r.1 r.2.1/\(r.2.2.1=false->r.2.1.aG=q)/\(r.2.2.1=true->r.2.1=⟨0,0,0⟩/\m=3/\k≠3))\/r.2.2.2≠0) ?_ λr hr=>?_
  · refine aF (aI (λk1=>?_) λk1=>aF (aI (λk2=>?_) λk2=>aF (aI (λk3=>?_) λk3=>aF (aI (λk4=>?_) λk4=>cK (λk=>nomatch k)))))
    · refine aU _ (QG hn h.ly hq) λr hr=>cK ?_
      rcases hr with ⟨e1,e2,e3,e4⟩ | ⟨e1,e2⟩
      · obtain ⟨o1,o2,o3⟩:=h.uQ (by omega)
        have:=y9 h.ly e4
        have:=gV this.2.2.1
        intro _;exact ⟨e2,KY h e4 (by first | omega | (simp only;omega)),e3⟩
      · intro k;exact absurd k e1
    · refine aU _ (LB hn h.ly hq) λr hr=>cK ?_
      rcases hr with ⟨e1,e2,e3,e4⟩ | ⟨e1,e2⟩
      · obtain ⟨o1,o2,o3⟩:=h.uQ (by omega)
        have:=y9 h.ly e4
        have:=gV this.2.2.1
        intro _;exact ⟨e2,KY h e4 (by first | omega | (simp only;omega)),e3⟩
      · intro k;exact absurd k e1
    · refine aF (aI (λk4=>?_) λk4=>?_)
      · refine aU _ (aWW hn h k3 hq) λr hr=>aF (bJ (aD ?_))
        rcases hr with ⟨e1,e2,e3,e4,e5⟩ | ⟨e1,e2⟩
        · refine .inl ⟨e1,e4,⟨e2,by simp only [e3];omega,by simp only [e3];omega,by simp only [e3];omega,by simp only [e3];show tS p.aW+0<=_;omega,(by first | omega | (simp only;omega)),(by first | omega | (simp only;omega))⟩,λk=>?_,λ_=>⟨rfl,k3,k4⟩⟩
          have k:decide (r.2=0)=false:=k
          exact absurd e1 (of_decide_eq_false k)
        · exact .inr e1
      · refine aU _ (aXL hn h hq) λr hr=>cK ?_
        rcases hr with ⟨e1,e2,e3,e4,e5,e6⟩ | e1
        · intro _
          have:=KY h e5 (by first | omega | (simp only;omega))
          rw [<- e6] at this
          exact ⟨e2,this,e4⟩
        · intro k;exact absurd k e1
    · refine aU _ (aWA hn h.ly (h.one (by omega)) hc hq) λr hr=>cK ?_
      rcases hr with ⟨e1,e2,e3,e4⟩ | e1
      · obtain ⟨o1,o2,o3⟩:=h.uQ (by omega)
        have:=y9 h.ly e4
        have:=gV this.2.2.1
        intro _;exact ⟨e2,KY h e4 (by first | omega | (simp only;omega)),e3⟩
      · intro k;exact absurd k e1
  · refine iZ (λa e=>?_) λa e=>?_
    · subst e
      repeat' with_reducible first | refine bE ?_ | refine dU ?_ | apply aF | apply bF | apply dY | apply dN | apply dV | apply dZ | apply d9 | apply dO | apply dW | apply dS | refine aI (λ_=>?_) λ_=>?_ | refine dJ (λ_=>?_) λ_=>?_ | apply dB | apply bW | apply cZ | apply bJ | apply aD
      · rename_i k;exact .inr k
      · rename_i k
        have k:a.1=0:=by simpa using k
        obtain ⟨g1,g2,g3⟩:=hr k
        exact .inl ⟨rfl,g1,g2,λ_=>g3,λk=>nomatch k⟩
    · subst e;exact hr
end Go.Pv
