/- Pools: what goes (the document's ref10 .. ref13). -/
import Derived.Test.YtgoihillpibdjaaGreatH70
set_option linter.unusedVariables false
set_option linter.unusedSimpArgs false
namespace Go.Pv
open Go.Proofs
set_option maxRecDepth 100000
set_option maxHeartbeats 1000000
theorem LV {l:List aB} {q:Int} {n:Nat} (hn:66<n) (hl:LR l) (hq:-9223372036854775808<=q/\q<=9223372036854775807) :
    Ex (λr=>(r.2.2=0/\1<=q/\r.2.1.aI=q/\rW l r.1 r.2.1)\/(r.2.2≠0/\r.1=l/\r.2.1=⟨0,0,0⟩/\(1<=q->tQ l<q))) (qE n l q):=by
  unfold qE T4
  simp only [WT.run,bR]
  refine aT _ (PU hn hl hq) λr hr=>?_
  repeat' with_reducible first | refine bF ?_ | refine dP ?_ | apply aD | apply bE | apply dS | apply dI | apply dN | apply dR | apply dO | apply dL | apply dU | apply dQ | refine aH (λ_=>?_) λ_=>?_ | refine dG (λ_=>?_) λ_=>?_ | apply cO | apply bU | apply bY | apply bK | apply aF
  exact hr
theorem AM {l m:List aB} {g:aB} (hl:LR l) (h:rW l m g):(0<=g.Value/\g.Value<=288230376151711744)/\(-288230376151711744<=g.bN/\g.bN<=288230376151711744)/\LR m/\tQ m+g.aI=tQ l/\tV m+g.Value=tV l/\tP m+g.bN=tP l/\tS m+ab g.bN<=tS l/\m.length<=l.length:=by
  obtain ⟨h1,h2,h3,h4,h5,h6,h7⟩:=h
  have a:=gN hl
  have b:=gN h1
  obtain ⟨c1,c2,c3⟩:=lV g.bN
  refine ⟨by omega,by omega,h1,h3,h4,h5,h6,h2⟩
theorem aOT {l:List aB} {q c:Int} {n:Nat} (hn:66<n) (hl:LR l) (h1:l.length<=1) (hc:0<=c/\c<=1073741824) (hq:-9223372036854775808<=q/\q<=9223372036854775807) :
    Ex (λr=>(r.2.2=0/\1<=q/\r.2.1.aI=q/\rW l r.1 r.2.1)\/r.2.2≠0) (AY n l q c):=by
  unfold AY TB
  simp only [WT.run,bR]
  repeat' with_reducible first | refine bF ?_ | refine dP ?_ | apply aD | apply bE | apply dS | apply dI | apply dN | apply dR | apply dO | apply dL | apply dU | apply dQ | refine aH (λ_=>?_) λ_=>?_ | refine dG (λ_=>?_) λ_=>?_ | apply cO | apply bU | apply bY | apply bK | apply aF
  all_goals try exact .inr (λk=>nomatch k)
  all_goals try (exfalso;omega)
  refine aT _ (LV hn hl hq) λr hr=>?_
  rcases hr with ⟨e1,e2,e3,e4⟩ | ⟨e1,e2⟩
  · repeat' with_reducible first | refine bF ?_ | refine dP ?_ | apply aD | apply bE | apply dS | apply dI | apply dN | apply dR | apply dO | apply dL | apply dU | apply dQ | refine aH (λ_=>?_) λ_=>?_ | refine dG (λ_=>?_) λ_=>?_ | apply cO | apply bU | apply bY | apply bK | apply aF
    · omega
    · exact .inl ⟨e1,e2,e3,e4⟩
    · rename_i k1 k2 k3
      obtain ⟨t1,t2,t3,t4,t5,t6,t7,t8⟩:=AM hl e4
      have hb:=gN hl
      have hbm:=gN t3
      refine x_eq (wM hn hl) (x_eq (BZ hn (by omega) (by omega)) ?_)
      have hm:=pF q c 1
      refine aT (λ(b:Bool)=>b=false->(md q c 1).1<=tV l) ?_ λb hb2=>aT (λ(v:Int)=>0<=v/\v<=tV l) (eX (λ_=>aF (by simp only;omega)) λk=>aF ⟨hm.1,hb2 k⟩) λv hv=>?_
      · repeat' with_reducible first | refine bF ?_ | refine dP ?_ | apply aD | apply bE | apply dS | apply dI | apply dN | apply dR | apply dO | apply dL | apply dU | apply dQ | refine aH (λ_=>?_) λ_=>?_ | refine dG (λ_=>?_) λ_=>?_ | apply cO | apply bU | apply bY | apply bK | apply aF
        · exact λk=>nomatch k
        · rename_i k;intro k2
          have k2:=of_decide_eq_false k2
          (try simp only at *);omega
      · repeat' with_reducible first | refine bF ?_ | refine dP ?_ | apply aD | apply bE | apply dS | apply dI | apply dN | apply dR | apply dO | apply dL | apply dU | apply dQ | refine aH (λ_=>?_) λ_=>?_ | refine dG (λ_=>?_) λ_=>?_ | apply cO | apply bU | apply bY | apply bK | apply aF
        refine Or.inl ⟨rfl,e2,e3,?_⟩
        show rW l [⟨tQ l-q,tV l-v,tP l-r.2.1.bN⟩] ⟨r.2.1.aI,v,r.2.1.bN⟩
        rw [e3] at t4
        have e5:tQ l-q=tQ r.1:=by omega
        have e6:tP l-r.2.1.bN=tP r.1:=by omega
        rw [e5,e6,e3]
        have k4:1<=r.1.length:=by omega
        refine ⟨aFD (by omega) (by omega) (by unfold bQ;omega),by simp;omega,by simp [tQ];omega,by simp [tV],by simp [tP];omega,?_,by simp only;omega⟩
        have:ab (tP r.1)<=tS r.1:=by unfold ab;split <;> omega
        simp only [tS];omega
  · repeat' with_reducible first | refine bF ?_ | refine dP ?_ | apply aD | apply bE | apply dS | apply dI | apply dN | apply dR | apply dO | apply dL | apply dU | apply dQ | refine aH (λ_=>?_) λ_=>?_ | refine dG (λ_=>?_) λ_=>?_ | apply cO | apply bU | apply bY | apply bK | apply aF
    · exact .inr e1
    · omega
    · omega
theorem aXJ {m q:Int} {p:aQ} {n:Nat} (hn:66<n) (h:PR m p) (hq:-9223372036854775808<=q/\q<=9223372036854775807) :
    Ex (λr=>(r.2.2=0/\1<=q/\q<=tQ p.aG-p.bH.a0-p.bH.a1-p.bH.a2/\r.2.1.aI=q/\rW p.aG r.1.aG r.2.1/\r.1.bH=p.bH)\/r.2.2≠0) (C8 n p q):=by
  unfold C8 VQ
  simp only [WT.run,bR,E5 hn h,Option.bind_some]
  repeat' with_reducible first | refine bF ?_ | refine dP ?_ | apply aD | apply bE | apply dS | apply dI | apply dN | apply dR | apply dO | apply dL | apply dU | apply dQ | refine aH (λ_=>?_) λ_=>?_ | refine dG (λ_=>?_) λ_=>?_ | apply cO | apply bU | apply bY | apply bK | apply aF
  all_goals try exact .inr (λk=>nomatch k)
  refine aT _ (LV hn h.ly hq) λr hr=>aF ?_
  rcases hr with ⟨e1,e2,e3,e4⟩ | ⟨e1,e2⟩
  · exact .inl ⟨e1,e2,by omega,e3,e4,rfl⟩
  · exact .inr e1
theorem aWS {m k q:Int} {p:aQ} {n:Nat} (hn:66<n) (h:PR m p) (hm:m=3) (hq:-9223372036854775808<=q/\q<=9223372036854775807) :
    Ex (λr=>(r.2=0/\PR m r.1/\r.1.aG=p.aG/\1<=q/\r.1.bH.a0+r.1.bH.a1+r.1.bH.a2=p.bH.a0+p.bH.a1+p.bH.a2+q)\/(r.2≠0/\r.1=p)) (BO n p k q):=by
  have hl:=gN h.ly
  have h0:=h.p0;have h1:=h.p1;have h2:=h.p2;have h3:=h.sum
  unfold BO RO
  simp only [WT.run,bR,E5 hn h,Option.bind_some]
  repeat' with_reducible first | refine bF ?_ | refine dP ?_ | apply aD | apply bE | apply dS | apply dI | apply dN | apply dR | apply dO | apply dL | apply dU | apply dQ | refine aH (λ_=>?_) λ_=>?_ | refine dG (λ_=>?_) λ_=>?_ | apply cO | apply bU | apply bY | apply bK | apply aF | refine dF ?_
  all_goals try exact .inr ⟨(λk=>nomatch k),rfl⟩
  all_goals try (exfalso;omega)
  all_goals (refine .inl ⟨rfl,⟨h.mt,h.ly,h.one,by first | omega | (simp only;omega),by first | omega | (simp only;omega),by first | omega | (simp only;omega),by first | omega | (simp only;omega),λk=>absurd hm k⟩,rfl,by omega,by first | omega | (simp only;omega)⟩)
def Gone (m:Int) (p r:aQ) (x:aB):Prop:=PR m r/\tQ r.aG+x.aI=tQ p.aG/\tV r.aG+x.Value=tV p.aG/\tP r.aG+x.bN=tP p.aG/\tS r.aG+ab x.bN<=tS p.aG/\(0<=x.Value/\x.Value<=288230376151711744)/\(-288230376151711744<=x.bN/\x.bN<=288230376151711744)
theorem JD {m:Int} {p:aQ} {l:List aB} {x:aB} (h:PR m p) (ht:rW p.aG l x) (hs:p.bH.a0+p.bH.a1+p.bH.a2+x.aI<=tQ p.aG):Gone m p ⟨l,p.bH⟩ x:=by
  obtain ⟨t1,t2,t3,t4,t5,t6,t7,t8⟩:=AM h.ly ht
  refine ⟨{ h with ly:=t3,one:=λk=>by have:=h.one k;show l.length<=1;omega,sum:=by show _<=tQ l;simp only;omega },t4,t5,t6,t7,t1,t2⟩
theorem aZW {m c k q:Int} {p:aQ} {n:Nat} (hn:66<n) (h:PR m p) (hc:0<=c/\c<=1073741824) (hq:-9223372036854775808<=q/\q<=9223372036854775807) :
    Ex (λr=>(r.2.2.2=0/\1<=q/\Gone m p r.1 r.2.1/\(r.2.2.1=false->r.2.1.aI=q)/\(r.2.2.1=true->r.2.1=⟨0,0,0⟩/\m=3/\k≠3))\/r.2.2.2≠0) (B9 n m c p k q):=by
  have hl:=gN h.ly
  have h0:=h.p0;have h1:=h.p1;have h2:=h.p2;have h3:=h.sum
  unfold B9 UN
  simp only [WT.run,bR]
  refine aT (λ_=>True) ?_ λb _=>eX (λ_=>aF (.inr (λk=>nomatch k))) λ_=>?_
  · repeat' with_reducible first | refine bF ?_ | refine dP ?_ | apply aD | apply bE | apply dS | apply dI | apply dN | apply dR | apply dO | apply dL | apply dU | apply dQ | refine aH (λ_=>?_) λ_=>?_ | refine dG (λ_=>?_) λ_=>?_ | apply cO | apply bU | apply bY | apply bK | apply aF
    all_goals trivial
  refine aT (λ(r:(Int×aQ×aB)⊕(aQ×aB×Bool×Int))=>match r with
    | .inl r=>r.1=0->1<=q/\Gone m p r.2.1 r.2.2/\r.2.2.aI=q
    | .inr r=>(r.2.2.2=0/\1<=q/\Gone m p r.1 r.2.1/\(r.2.2.1=false->r.2.1.aI=q)/\(r.2.2.1=true->r.2.1=⟨0,0,0⟩/\m=3/\k≠3))\/r.2.2.2≠0) ?_ λr hr=>?_
  · refine aD (aH (λk1=>?_) λk1=>aD (aH (λk2=>?_) λk2=>aD (aH (λk3=>?_) λk3=>aD (aH (λk4=>?_) λk4=>bX (λk=>nomatch k)))))
    · refine aT _ (PU hn h.ly hq) λr hr=>bX ?_
      rcases hr with ⟨e1,e2,e3,e4⟩ | ⟨e1,e2⟩
      · obtain ⟨o1,o2,o3⟩:=h.sZ (by omega)
        have:=AM h.ly e4
        have:=gN this.2.2.1
        intro _;exact ⟨e2,JD h e4 (by first | omega | (simp only;omega)),e3⟩
      · intro k;exact absurd k e1
    · refine aT _ (LV hn h.ly hq) λr hr=>bX ?_
      rcases hr with ⟨e1,e2,e3,e4⟩ | ⟨e1,e2⟩
      · obtain ⟨o1,o2,o3⟩:=h.sZ (by omega)
        have:=AM h.ly e4
        have:=gN this.2.2.1
        intro _;exact ⟨e2,JD h e4 (by first | omega | (simp only;omega)),e3⟩
      · intro k;exact absurd k e1
    · refine aD (aH (λk4=>?_) λk4=>?_)
      · refine aT _ (aWS hn h k3 hq) λr hr=>aD (bK (aF ?_))
        rcases hr with ⟨e1,e2,e3,e4,e5⟩ | ⟨e1,e2⟩
        · refine .inl ⟨e1,e4,⟨e2,by simp only [e3];omega,by simp only [e3];omega,by simp only [e3];omega,by simp only [e3];show tS p.aG+0<=_;omega,(by first | omega | (simp only;omega)),(by first | omega | (simp only;omega))⟩,λk=>?_,λ_=>⟨rfl,k3,k4⟩⟩
          have k:decide (r.2=0)=false:=k
          exact absurd e1 (of_decide_eq_false k)
        · exact .inr e1
      · refine aT _ (aXJ hn h hq) λr hr=>bX ?_
        rcases hr with ⟨e1,e2,e3,e4,e5,e6⟩ | e1
        · intro _
          have:=JD h e5 (by first | omega | (simp only;omega))
          rw [<- e6] at this
          exact ⟨e2,this,e4⟩
        · intro k;exact absurd k e1
    · refine aT _ (aOT hn h.ly (h.one (by omega)) hc hq) λr hr=>bX ?_
      rcases hr with ⟨e1,e2,e3,e4⟩ | e1
      · obtain ⟨o1,o2,o3⟩:=h.sZ (by omega)
        have:=AM h.ly e4
        have:=gN this.2.2.1
        intro _;exact ⟨e2,JD h e4 (by first | omega | (simp only;omega)),e3⟩
      · intro k;exact absurd k e1
  · refine jI (λa e=>?_) λa e=>?_
    · subst e
      repeat' with_reducible first | refine bF ?_ | refine dP ?_ | apply aD | apply bE | apply dS | apply dI | apply dN | apply dR | apply dO | apply dL | apply dU | apply dQ | refine aH (λ_=>?_) λ_=>?_ | refine dG (λ_=>?_) λ_=>?_ | apply cO | apply bU | apply bY | apply bK | apply aF
      · rename_i k;exact .inr k
      · rename_i k
        have k:a.1=0:=by simpa using k
        obtain ⟨g1,g2,g3⟩:=hr k
        exact .inl ⟨rfl,g1,g2,λ_=>g3,λk=>nomatch k⟩
    · subst e;exact hr
end Go.Pv
