import Derived.Test.YtcnbfkppbaenbaaGreatQB80
import Derived.Test.YtcnbfkppbaenbaaGreatQA80
import Derived.Test.YtcnbfkppbaenbaaGreatX80l
set_option linter.unusedVariables false
set_option linter.unusedSimpArgs false
namespace Go.Pv
open Go.Proofs
set_option maxRecDepth 100000
set_option maxHeartbeats 1000000
theorem FV {n:Nat} {v q k:Int} (hn:66<n) (hq:-9223372036854775808<=q/\q<=9223372036854775807) (hk:-9223372036854775808<=k/\k<=9223372036854775807):qK n v q k=some (pt v q k):=by
  refine fH ?_
  unfold qK aGG pt
  simp only [WT.run,bS,pIn,Option.bind_some]
  refine aU (λb=>b=true↔(k<1\/q<0\/q>k\/¬ bQ v)) ?_ λb hb=>?_
  · repeat' with_reducible first | refine bE ?_ | refine dU ?_ | apply aF | apply bF | apply dY | apply dN | apply dV | apply dZ | apply d9 | apply dO | apply dW | apply dS | refine aI (λ_=>?_) λ_=>?_ | refine dJ (λ_=>?_) λ_=>?_ | apply dB | apply bW | apply cZ | apply bJ | apply aD
    all_goals first | (simp only [true_iff];omega) | skip
    rename_i h1 h2 h3
    simp only [Bool.not_eq_true',decide_eq_false_iff_not]
    exact ⟨λh=>.inr (.inr (.inr h)),λh=>by rcases h with h | h | h | h <;> first | omega | exact h⟩
  · refine fB (λk1=>aD (by rw [if_pos (hb.1 k1)])) λk1=>?_
    have hc:¬ (k<1\/q<0\/q>k\/¬ bQ v):=λh=>by rw [hb.2 h] at k1;cases k1
    rw [if_neg hc]
    have hv:bQ v:=Classical.not_not.1 λh=>hc (.inr (.inr (.inr h)))
    have h1:1<=k/\0<=q/\q<=k:=by omega
    unfold bQ at hv
    have mm:∀ w:Int,0<=w->w<=288230376151711744->md w q k=(w*q / k,w*q % k,0)/\0<=w*q / k/\w*q / k<=w:=λw w0 w1=>by
      obtain ⟨g1,g2⟩:=rM (v:=w) (q:=q) (n:=k) w0 (by omega) (by omega)
      exact ⟨by unfold md;rw [if_neg (by omega),if_neg (by omega)],g1,g2⟩
    refine aF (aI (λe=>aD ?_) λe=>aF (aI (λh5=>?_) λh5=>?_))
    · subst e
      rw [Int.mul_ediv_cancel _ (by omega),Int.mul_ediv_cancel _ (by omega)]
      split <;> omega
    · obtain ⟨e1,g1,g2⟩:=mm (-v) (by omega) (by omega)
      rw [if_pos h5,show (0:Int)-v=-v by omega]
      refine bE (x_eq (Q6 hn (by omega) hq hk) ?_)
      rw [e1]
      exact bE (aD (by simp only;omega))
    · obtain ⟨e1,g1,g2⟩:=mm v (by omega) (by omega)
      rw [if_neg h5]
      refine x_eq (Q6 hn (by omega) hq hk) (aD ?_)
      rw [e1]
theorem aEY {l:List aB} {q:Int} {n:Nat} (hn:66<n) (hl:LR l) (hq:1<=q/\q<=9223372036854775807):FE n l q=some (decide (q<=tQ l)):=by
  have hb:=gV hl
  refine fH ?_
  unfold FE aDR
  simp only [WT.run,bS]
  refine aU (λ(r:Unit⊕Bool)=>match r with | .inl _=>¬ q<=tQ l | .inr b=>b=true/\q<=tQ l) (fJ (λ(v:Int×Int)=>0<=v.2/\v.2<=(l.length:Int)/\1<=v.1/\v.1<=q/\v.1+tQ l=q+tQ (l.drop v.2.toNat)) (λv=>l.length-v.2.toNat) ?_ (v:=(q,0)) ⟨by simp,by simp,hq.1,Int.le_refl _,by simp⟩ (by simp only;omega)) λr hr=>iZ (λa e=>?_) λb e=>?_
  · rintro ⟨c,i⟩ ⟨h0,h1,h2,h4,h3⟩
    simp only at h0 h1 h2 h3 h4
    refine bF (aF (aI (λhi=>?_) λhi=>bJ (cK ?_)))
    · have hi:i<(l.length:Int):=hi
      refine eT h0 hi λx hx=>?_
      have hx:l[i.toNat]?=some x:=hx
      obtain ⟨d1,d2,d3,d4⟩:=BV hx
      obtain ⟨g1,g2,g3⟩:=hl.1 x (fE hx)
      have hr:=l9 (l:=l.drop (i.toNat+1)) λy hy=>hl.1 y (List.mem_of_mem_drop hy)
      have e2:(i+1).toNat=i.toNat+1:=by omega
      rw [if_neg (show ¬ (0:Int)>x.aG by omega)]
      refine aF (aF ?_)
      by_cases k:c<x.aG
      · rw [if_pos k]
        exact bE (aF (aI (λ_=>bJ (bJ (aD ⟨rfl,by omega⟩))) λz=>absurd (show c-c=0 by omega) z))
      · rw [if_neg k]
        refine bE (aF (aI (λz=>bJ (bJ (aD ⟨rfl,by omega⟩))) λz=>bE (cK ⟨⟨by first | omega | (simp only;omega),by first | omega | (simp only;omega),by first | omega | (simp only;omega),by first | omega | (simp only;omega),by simp only;rw [e2];omega⟩,by first | omega | (simp only;omega)⟩)))
    · have hd:l.drop i.toNat=[]:=List.drop_eq_nil_of_le (by first | omega | (simp only;omega))
      rw [hd] at h3
      simp only [tQ] at h3
      show ¬ q<=tQ l
      omega
  · subst e;exact aD (decide_eq_false hr).symm
  · subst e;rw [decide_eq_true hr.2];exact hr.1
def win (a b:Nat) (L:List aB):List aB:=(L.drop a).take b
theorem Q4 {a b:Nat} {L:List aB} {x:aB} (h:L[a]?=some x):win a (b+1) L=x :: win (a+1) b L:=by
  unfold win;rw [(drop_at h).2];rfl
theorem QJ {a b:Nat} {L:List aB} {y:aB} (h:a<L.length):win a (b+1) (L.set a y)=y :: win (a+1) b L:=by
  rw [Q4 (x:=y) (by simp [h])]
  unfold win
  rw [List.drop_set_of_lt (by omega)]
theorem aE8 {a b:Nat} {L:List aB} (h:a+b<=L.length):(win a b L).length=b:=by unfold win;simp;omega
noncomputable def aS7 (n:Nat) (v:Nat×Nat×Int×List aB×aB):Option ((Nat×Nat×Int×List aB×aB)⊕(Nat×Nat×List aB×aB)) :=
  p2 (λ(a:Nat) q0=>p2 (λ(b:Nat) q1=>p2 (λ(c:Int) q2=>p2 (λ(L:List aB) (o:aB) =>
    (bnd (decide ((b:Int)>0)) λx=>cond x (bnd (decide (c>0)) λx=>some x) (some false)).bind λy =>
    cond y (iO ((0:Int)<=0/\0<(b:Int)) ((ix L ((a:Int)+0)).bind λx=>bnd (decide (x.aG>c)) λz =>
      (cond z ((qK n x.Value c x.aG).bind λs=>(qK n x.bO c x.aG).bind λt =>
          iO ((0:Int)<=0/\0<(b:Int)) (bnd (bA (x.aG-c)) λu=>iO ((0:Int)<=0/\0<(b:Int)) (bnd (bA (x.Value-s)) λw=>iO ((0:Int)<=0/\0<(b:Int)) (bnd (bA (x.bO-t)) λz =>
          iO ((0:Int)<=0/\0<(b:Int)) (bnd (L.set (Int.toNat ((a:Int)+0)) ⟨u,x.Value,x.bO⟩) λL1=>iO ((0:Int)<=0/\0<(b:Int)) (bnd (L1.set (Int.toNat ((a:Int)+0)) ⟨u,w,x.bO⟩) λL2=>iO ((0:Int)<=0/\0<(b:Int)) (bnd (L2.set (Int.toNat ((a:Int)+0)) ⟨u,w,z⟩) λL3=>some (a,b,L3,(⟨c,s,t⟩:aB)))))))))
        (iO ((0:Int)<=1/\1<=(b:Int)/\(b:Int)<=(b:Int)/\1<((b:Int)+1)) (bnd (if Int.toNat (b:Int)=1 then a else a+1) λa1=>some (a1,Int.toNat (b:Int)-1,L,x)))).bind λy =>
      p2 (λ(a1:Nat) q0=>p2 (λ(b1:Nat) q1=>p2 (λ(L1:List aB) (g:aB)=>bnd (bA (o.aG+g.aG)) λe=>bnd (bA (o.Value+g.Value)) λf=>bnd (bA (o.bO+g.bO)) λh=>bnd (bA (c-g.aG)) λk=>brk (a1,b1,k,L1,(⟨e,f,h⟩:aB))) q1) q0) y))
      (esc (some (a,b,L,o)))) q2) q1) q0) v
theorem Y2 {l:List aB} {q:Int} {n:Nat} (hn:66<n) (hl:LR l) (hq:1<=q/\q<=tQ l) :
    Ex (λ(r:Nat×Nat×List aB×aB)=>r.1+r.2.1<=r.2.2.1.length/\win r.1 r.2.1 r.2.2.1=(tk l q).1/\r.2.2.2=(tk l q).2) (iter (aS7 n) n (0,l.length,q,l,⟨0,0,0⟩)):=by
  have hb:=gV hl
  refine fJ (λ(v:Nat×Nat×Int×List aB×aB)=>v.1+v.2.1<=v.2.2.2.1.length/\TI l (win v.1 v.2.1 v.2.2.2.1) v.2.2.2.2/\v.2.2.1+v.2.2.2.2.aG=q/\0<=v.2.2.1/\tk l q=((tk (win v.1 v.2.1 v.2.2.2.1) v.2.2.1).1,jM v.2.2.2.2 (tk (win v.1 v.2.1 v.2.2.2.1) v.2.2.1).2)) (λv=>2*v.2.1+(if v.2.2.1>0 then 1 else 0)) ?_ ⟨by simp,by simpa [win] using TI.init hl,by simp,by simp only;omega,by simp [win,jM]⟩ (by simp only;split <;> omega)
  rintro ⟨a,b,c,L,o⟩ ⟨h1,ti,hc,hc0,e⟩
  simp only at h1 ti hc hc0 e
  have tb:=ti.b hl
  have wl:=aE8 h1
  refine bF (bF (bF (bF (aU (λy=>y=true↔0<b/\0<c) (aF (aI (λk1=>aF (aD ?_)) λk1=>aD ?_)) λy hy=>fB (λky=>?_) λky=>bJ (aD ?_)))))
  · have k1:(b:Int)>0:=k1
    simp only [decide_eq_true_eq];exact ⟨λk=>⟨by omega,k⟩,λk=>k.2⟩
  · have k1:¬ (b:Int)>0:=k1
    exact ⟨(λk=>nomatch k),λk=>absurd k.1 (by omega)⟩
  · obtain ⟨b0,c0⟩:=hy.1 ky
    obtain ⟨k,rfl⟩:∃ k,b=k+1:=⟨b-1,by omega⟩
    refine dM (eT (by omega) (by simp only;omega) λx hx=>?_)
    have ea:((a:Int)+0).toNat=a:=by omega
    have hx:L[((a:Int)+0).toNat]?=some x:=hx
    rw [ea] at hx
    rw [Q4 hx] at ti e
    obtain ⟨g1,g2,g3⟩:=ti.ok x (List.mem_cons_self ..)
    refine aF (aU (λ(r:Nat×Nat×List aB×aB)=>(x.aG>c/\r=(a,k+1,L.set a (lq x c),jY x c))\/(¬ x.aG>c/\∃ a1,r=(a1,k,L,x)/\a1+k<=L.length/\win a1 k L=win (a+1) k L)) (aI (λk2=>?_) λk2=>?_) λr hr=>?_)
    · have k2:x.aG>c:=k2
      obtain ⟨p1,p2,p3,p4⟩:=OT (w:=c) ⟨g1,g2,g3⟩ ⟨by omega,by omega⟩
      refine x_eq (FV hn (by simp only;omega) (by omega)) (x_eq (FV hn (by simp only;omega) (by omega)) ?_)
      refine dM (gU (by simp only;omega) (dM (gU (by simp only;omega) (dM (gU (by simp only;omega) (dM (aF (dM (aF (dM (aF (aD (.inl ⟨k2,?_⟩)))))))))))))
      simp only [ea,List.set_set];rfl
    · have k2:¬ x.aG>c:=k2
      refine dM (aF (aD (.inr ⟨k2,_,rfl,?_,?_⟩)))
      · split <;> omega
      · by_cases k0:k=0
        · subst k0;simp [win]
        · rw [if_neg (show ¬ Int.toNat ((k+1:Nat):Int)=1 by omega)]
    · rcases hr with ⟨k2,rfl⟩ | ⟨k2,a1,rfl,w1,w2⟩
      · have t2:=ti.part (w:=c) ⟨by omega,by omega⟩
        have b2:=t2.b hl
        simp only [jM,jY] at b2
        have al:a<L.length:=by omega
        refine bF (bF (bF (gU (by simp only [jY];omega) (gU (by simp only [jY];omega) (gU (by simp only [jY];omega) (gU (by simp only [jY];omega) (cK ⟨⟨by simp only [List.length_set];omega,?_,by simp only [jY];omega,by simp only [jY];omega,?_⟩,?_⟩)))))))
        · simp only [QJ al];exact t2
        · rw [aD8 (by omega) k2] at e
          simp only [QJ al,jY,show c-c=0 by omega]
          rw [E5 (Int.le_refl 0),NA];exact e
        · simp only [jY,show c-c=0 by omega]
          rw [if_pos c0,if_neg (by decide)];omega
      · have t2:=ti.whole
        have b2:=t2.b hl
        simp only [jM] at b2
        refine bF (bF (bF (gU (by simp only;omega) (gU (by simp only;omega) (gU (by simp only;omega) (gU (by simp only;omega) (cK ⟨⟨w1,?_,by simp only;omega,by simp only;omega,?_⟩,?_⟩)))))))
        · simp only [w2];exact t2
        · rw [aB8 (by omega) k2] at e
          simp only [w2]
          rw [e,<- ZV];rfl
        · simp only;rw [if_pos c0];split <;> omega
  · have hz:¬ (0<b/\0<c):=λk=>by rw [hy.2 k] at ky;cases ky
    by_cases k:b=0
    · subst k
      have w0:win a 0 L=[]:=by unfold win;simp
      rw [w0] at e
      have hq2:=ti.q
      rw [w0] at hq2
      simp only [tk,NA] at e
      refine ⟨h1,by simp only [w0];rw [e],by rw [e]⟩
    · have c0:c<=0:=by omega
      rw [E5 c0,NA] at e
      exact ⟨h1,by rw [e],by rw [e]⟩
theorem p9o {l:List aB} {q:Int} {n:Nat} (hn:66<n) (hl:LR l) (hq:-9223372036854775808<=q/\q<=9223372036854775807):DW n l q=some (o9 l q):=by
  have hb:=gV hl
  refine fH ?_
  unfold DW YS o9
  simp only [WT.run,bS]
  refine dM (aF (aI (λk1=>aD (by rw [if_pos k1])) λk1=>x_eq (aEY hn hl (by omega)) ?_))
  rw [if_neg k1]
  by_cases k2:q<=tQ l
  · rw [if_neg (by omega),decide_eq_true k2]
    refine aF (bW (aU _ (Y2 hn hl (by omega)) λr hr=>bF (bF (bF (iR hr.1 (aD ?_))))))
    rw [<- hr.2.1,<- hr.2.2];rfl
  · rw [if_pos (by omega),decide_eq_false k2]
    exact aF (dB (aD rfl))
theorem aC5 {l:List aB} {q:Int} {n:Nat} (hn:66<n) (hl:LR l) (hq:-9223372036854775808<=q/\q<=9223372036854775807):CL n l q=some (o9 l q):=by
  refine fH ?_
  unfold CL VF
  simp only [WT.run,bS,p9o hn hl hq,Option.bind_some]
  exact aD rfl
theorem NP {l:List aB} {q:Int} {n:Nat} (hn:66<n) (hl:LR l) (hq:-9223372036854775808<=q/\q<=9223372036854775807):pO n l q=some (o9 l q):=by
  refine fH ?_
  unfold pO TE
  simp only [WT.run,bS,SG hn hl hq,Option.bind_some]
  exact aD rfl
set_option maxRecDepth 1000000
theorem YR {c:Int} (hc:0<=c/\c<=1073741824):EA c=some true:=by
  unfold EA aBC
  simp only [WT.run,bS]
  exact dK (a:=true) (fQ hc.1 (fK (fQ hc.2 rfl))) rfl
theorem UN {n:Nat} {c q:Int} (hn:66<n) (hc:0<=c/\c<=1073741824) (h1:1<=q) (h2:q<=9223372036854775807):DC n c q=some ((md q c 1).1,(md q c 1).2.2):=by
  unfold DC aBE
  simp only [WT.run,bS]
  have e:(if 0>q then 0 else q)=q:=if_neg (by omega)
  rw [e]
  exact dK (Q6 hn (by omega) (by omega) (by omega)) rfl
noncomputable def f12 (l:List aB) (x:aB) (c:Int):List aB×Int×Int :=
  if x.aG<1\/x.Value<0 then (l,0,1) else if (md x.aG c 1).2.2≠0\/x.Value>288230376151711744 then (l,0,2)
  else if (f10 l ⟨x.aG,(md x.aG c 1).1,x.bO⟩).2≠0 then (l,0,(f10 l ⟨x.aG,(md x.aG c 1).1,x.bO⟩).2) else ((f10 l ⟨x.aG,(md x.aG c 1).1,x.bO⟩).1,x.Value-(md x.aG c 1).1,0)
theorem rR {l:List aB} {x:aB} {c:Int} {n:Nat} (hn:66<n) (hl:LR l) (h1:l.length<=1) (hc:0<=c/\c<=1073741824) (hx:x.aG<=9223372036854775807):MO n l x c=some (f12 l x c):=by
  have hm:=yN x.aG c 1
  refine fH ?_
  unfold MO aES f12
  simp only [WT.run,bS]
  refine dM ?_
  refine aU (λb=>b=true↔(x.aG<1\/x.Value<0)) (x_eq (YR hc) (aF (bW (aF (aI (λk=>aD ⟨λ_=>.inl k,λ_=>rfl⟩) λk=>aF (aD ⟨λq=>.inr (of_decide_eq_true q),λq=>decide_eq_true (q.resolve_left k)⟩)))))) λb hb=>fB (λk=>aD (by rw [if_pos (hb.1 k)])) λk=>?_
  have hb:¬ (x.aG<1\/x.Value<0):=λq=>by rw [hb.2 q] at k;cases k
  rw [if_neg hb]
  refine x_eq (UN hn hc (by omega) hx) ?_
  refine aU (λb=>b=true↔((md x.aG c 1).2.2≠0\/x.Value>288230376151711744)) (aF (aI (λk=>aD ⟨λ_=>.inl k,λ_=>rfl⟩) λk=>aF (aD ⟨λq=>.inr (of_decide_eq_true q),λq=>decide_eq_true (q.resolve_left k)⟩))) λb hb2=>fB (λk=>aD (by rw [if_pos (hb2.1 k)])) λk=>?_
  have hb2:¬ ((md x.aG c 1).2.2≠0\/x.Value>288230376151711744):=λq=>by rw [hb2.2 q] at k;cases k
  rw [if_neg hb2]
  refine bE ?_
  refine x_eq (uS hn hl (by omega)) (aF (aI (λk=>aD ?_) λk=>aD ?_))
  · rw [if_pos k]
  · rw [if_neg k]
noncomputable def g13 (m c:Int) (p:aH) (x:aB):aH×Int×Int :=
  if m=1 then (⟨(f9 p.aW x).1,p.bN⟩,0,(f9 p.aW x).2) else if m=4 then (⟨(f12 p.aW x c).1,p.bN⟩,(f12 p.aW x c).2.1,(f12 p.aW x c).2.2) else (⟨(f10 p.aW x).1,p.bN⟩,0,(f10 p.aW x).2)
noncomputable def f13 (m c:Int) (p:aH) (x:aB):aH×Int×Int:=if (g13 m c p x).2.2≠0 then (p,0,(g13 m c p x).2.2) else ((g13 m c p x).1,(g13 m c p x).2.1,0)
theorem p11 {p:aH} {x:aB} {n:Nat} (hn:66<n) (hl:LR p.aW) (h1:p.aW.length<=1):JG n p x=some (⟨(f10 p.aW x).1,p.bN⟩,(f10 p.aW x).2):=by
  refine fH ?_
  unfold JG aGH
  simp only [WT.run,bS]
  have h2:(f10 p.aW x).1.length<=1:=by
    unfold f10
    split
    · exact h1
    · split
      · exact Nat.le_refl _
      · exact h1
  refine x_eq (uS hn hl (by omega)) (aU (λr=>r=⟨(f10 p.aW x).1,p.bN⟩) ?_ λr hr=>aD (by rw [hr]))
  unfold uN OA
  simp only [WT.run,bS]
  exact dM (aD rfl)
theorem NE {m:Int} {p:aH} (h:PR m p):m=1\/m=2\/m=3\/m=4:=by have:=h.mt;omega
theorem aCC {p:aH} (h:p.aW.length<=1000):nD p=some p:=by
  refine fH ?_
  unfold nD aDN
  simp only [WT.run,bS]
  exact dM (aU (λ_=>True) (aD trivial) λ_ _=>aD rfl)
theorem vZ (p:aH) (l:List aB):wL p l=some ⟨l,p.bN⟩:=rfl
theorem ZY {m c:Int} {p:aH} {x:aB} {n:Nat} (hn:66<n) (h:PR m p) (hc:0<=c/\c<=1073741824) (hx:x.aG<=9223372036854775807):aDJ n m c p x=some (f13 m c p x):=by
  have hl:=tC h.ly
  refine fH ?_
  unfold aDJ aGB f13 g13
  have ho:=aCC (p:=p) (by omega)
  rcases NE h with rfl | rfl | rfl | rfl
  · simp only [WT.run,bS,p9 hn h.ly,vZ,ho,Option.bind_some,bnd,decide_true,cond_true,wM,Sum.elim_inl,Sum.elim_inr,p2,if_true]
    refine aI (λk=>aD ?_) λk=>aD ?_
    · rw [if_pos k]
    · rw [if_neg k]
  · have h1:=h.one (by decide)
    simp only [WT.run,bS,uS hn h.ly (by omega),vZ,ho,Option.bind_some,bnd,decide_true,cond_true,cond_false,wM,p2,if_true,if_false,Sum.elim_inl,Sum.elim_inr,show decide ((2:Int)=1)=false from rfl,show ((2:Int)=1)=False from by simp,show ((2:Int)=4)=False from by simp]
    refine aI (λk=>aD ?_) λk=>aD ?_
    · rw [if_pos k]
    · rw [if_neg k]
  · have h1:=h.one (by decide)
    simp only [WT.run,bS,p11 hn h.ly h1,vZ,ho,Option.bind_some,bnd,decide_true,cond_true,cond_false,wM,p2,if_true,if_false,Sum.elim_inl,Sum.elim_inr,show decide ((3:Int)=1)=false from rfl,show decide ((3:Int)=2)=false from rfl,show ((3:Int)=1)=False from by simp,show ((3:Int)=4)=False from by simp]
    refine aI (λk=>aD ?_) λk=>aD ?_
    · rw [if_pos k]
    · rw [if_neg k]
  · have h1:=h.one (by decide)
    simp only [WT.run,bS,rR hn h.ly h1 hc hx,vZ,ho,Option.bind_some,bnd,decide_true,cond_true,cond_false,wM,p2,if_true,if_false,Sum.elim_inl,Sum.elim_inr,show decide ((4:Int)=1)=false from rfl,show decide ((4:Int)=2)=false from rfl,show decide ((4:Int)=3)=false from rfl,show ((4:Int)=1)=False from by simp]
    refine aI (λk=>aD ?_) λk=>aD ?_
    · rw [if_pos k]
    · rw [if_neg k]
set_option maxRecDepth 100000
theorem LB {l:List aB} {q:Int} {n:Nat} (hn:66<n) (hl:LR l) (hq:-9223372036854775808<=q/\q<=9223372036854775807) :
    Ex (λr=>(r.2.2=0/\1<=q/\r.2.1.aG=q/\qM l r.1 r.2.1)\/(r.2.2≠0/\r.1=l/\r.2.1=⟨0,0,0⟩/\(1<=q->tQ l<q))) (pO n l q):=by
  unfold pO TE
  simp only [WT.run,bS]
  refine aU _ (QG hn hl hq) λr hr=>?_
  repeat' with_reducible first | refine bE ?_ | refine dU ?_ | apply aF | apply bF | apply dY | apply dN | apply dV | apply dZ | apply d9 | apply dO | apply dW | apply dS | refine aI (λ_=>?_) λ_=>?_ | refine dJ (λ_=>?_) λ_=>?_ | apply dB | apply bW | apply cZ | apply bJ | apply aD
  exact hr
theorem y9 {l m:List aB} {g:aB} (hl:LR l) (h:qM l m g):(0<=g.Value/\g.Value<=288230376151711744)/\(-288230376151711744<=g.bO/\g.bO<=288230376151711744)/\LR m/\tQ m+g.aG=tQ l/\tV m+g.Value=tV l/\tP m+g.bO=tP l/\tS m+ab g.bO<=tS l/\m.length<=l.length:=by
  obtain ⟨h1,h2,h3,h4,h5,h6,h7⟩:=h
  have a:=gV hl
  have b:=gV h1
  obtain ⟨c1,c2,c3⟩:=mE g.bO
  refine ⟨by omega,by omega,h1,h3,h4,h5,h6,h2⟩
theorem aWA {l:List aB} {q c:Int} {n:Nat} (hn:66<n) (hl:LR l) (h1:l.length<=1) (hc:0<=c/\c<=1073741824) (hq:-9223372036854775808<=q/\q<=9223372036854775807) :
    Ex (λr=>(r.2.2=0/\1<=q/\r.2.1.aG=q/\qM l r.1 r.2.1)\/r.2.2≠0) (BO n l q c):=by
  unfold BO TG
  simp only [WT.run,bS]
  repeat' with_reducible first | refine bE ?_ | refine dU ?_ | apply aF | apply bF | apply dY | apply dN | apply dV | apply dZ | apply d9 | apply dO | apply dW | apply dS | refine aI (λ_=>?_) λ_=>?_ | refine dJ (λ_=>?_) λ_=>?_ | apply dB | apply bW | apply cZ | apply bJ | apply aD
  all_goals try exact .inr (λk=>nomatch k)
  all_goals try (exfalso;omega)
  refine aU _ (LB hn hl hq) λr hr=>?_
  rcases hr with ⟨e1,e2,e3,e4⟩ | ⟨e1,e2⟩
  · repeat' with_reducible first | refine bE ?_ | refine dU ?_ | apply aF | apply bF | apply dY | apply dN | apply dV | apply dZ | apply d9 | apply dO | apply dW | apply dS | refine aI (λ_=>?_) λ_=>?_ | refine dJ (λ_=>?_) λ_=>?_ | apply dB | apply bW | apply cZ | apply bJ | apply aD
    · omega
    · exact .inl ⟨e1,e2,e3,e4⟩
    · rename_i k1 k2 k3
      obtain ⟨t1,t2,t3,t4,t5,t6,t7,t8⟩:=y9 hl e4
      have hb:=gV hl
      have hbm:=gV t3
      refine x_eq (xI hn hl) (x_eq (M6 hn (by omega) (by omega)) ?_)
      have hm:=yN q c 1
      refine aU (λ(b:Bool)=>b=false->(md q c 1).1<=tV l) ?_ λb hb2=>aU (λ(v:Int)=>0<=v/\v<=tV l) (fB (λ_=>aD (by simp only;omega)) λk=>aD ⟨hm.1,hb2 k⟩) λv hv=>?_
      · repeat' with_reducible first | refine bE ?_ | refine dU ?_ | apply aF | apply bF | apply dY | apply dN | apply dV | apply dZ | apply d9 | apply dO | apply dW | apply dS | refine aI (λ_=>?_) λ_=>?_ | refine dJ (λ_=>?_) λ_=>?_ | apply dB | apply bW | apply cZ | apply bJ | apply aD
        · exact λk=>nomatch k
        · rename_i k;intro k2
          have k2:=of_decide_eq_false k2
          (try simp only at *);omega
      · repeat' with_reducible first | refine bE ?_ | refine dU ?_ | apply aF | apply bF | apply dY | apply dN | apply dV | apply dZ | apply d9 | apply dO | apply dW | apply dS | refine aI (λ_=>?_) λ_=>?_ | refine dJ (λ_=>?_) λ_=>?_ | apply dB | apply bW | apply cZ | apply bJ | apply aD
        refine Or.inl ⟨rfl,e2,e3,?_⟩
        show qM l [⟨tQ l-q,tV l-v,tP l-r.2.1.bO⟩] ⟨r.2.1.aG,v,r.2.1.bO⟩
        rw [e3] at t4
        have e5:tQ l-q=tQ r.1:=by omega
        have e6:tP l-r.2.1.bO=tP r.1:=by omega
        rw [e5,e6,e3]
        have k4:1<=r.1.length:=by omega
        refine ⟨Y7 (by omega) (by omega) (by unfold bQ;omega),by simp;omega,by simp [tQ];omega,by simp [tV],by simp [tP];omega,?_,by simp only;omega⟩
        have:ab (tP r.1)<=tS r.1:=by unfold ab;split <;> omega
        simp only [tS];omega
  · repeat' with_reducible first | refine bE ?_ | refine dU ?_ | apply aF | apply bF | apply dY | apply dN | apply dV | apply dZ | apply d9 | apply dO | apply dW | apply dS | refine aI (λ_=>?_) λ_=>?_ | refine dJ (λ_=>?_) λ_=>?_ | apply dB | apply bW | apply cZ | apply bJ | apply aD
    · exact .inr e1
    · omega
    · omega
theorem aXL {m q:Int} {p:aH} {n:Nat} (hn:66<n) (h:PR m p) (hq:-9223372036854775808<=q/\q<=9223372036854775807) :
    Ex (λr=>(r.2.2=0/\1<=q/\q<=tQ p.aW-p.bN.a0-p.bN.a1-p.bN.a2/\r.2.1.aG=q/\qM p.aW r.1.aW r.2.1/\r.1.bN=p.bN)\/r.2.2≠0) (AF n p q):=by
  unfold AF OK
  simp only [WT.run,bS,EY hn h,Option.bind_some]
  repeat' with_reducible first | refine bE ?_ | refine dU ?_ | apply aF | apply bF | apply dY | apply dN | apply dV | apply dZ | apply d9 | apply dO | apply dW | apply dS | refine aI (λ_=>?_) λ_=>?_ | refine dJ (λ_=>?_) λ_=>?_ | apply dB | apply bW | apply cZ | apply bJ | apply aD
  all_goals try exact .inr (λk=>nomatch k)
  refine aU _ (LB hn h.ly hq) λr hr=>aD ?_
  rcases hr with ⟨e1,e2,e3,e4⟩ | ⟨e1,e2⟩
  · exact .inl ⟨e1,e2,by omega,e3,e4,rfl⟩
  · exact .inr e1
theorem aWW {m k q:Int} {p:aH} {n:Nat} (hn:66<n) (h:PR m p) (hm:m=3) (hq:-9223372036854775808<=q/\q<=9223372036854775807) :
    Ex (λr=>(r.2=0/\PR m r.1/\r.1.aW=p.aW/\1<=q/\r.1.bN.a0+r.1.bN.a1+r.1.bN.a2=p.bN.a0+p.bN.a1+p.bN.a2+q)\/(r.2≠0/\r.1=p)) (AM n p k q):=by
  have hl:=gV h.ly
  have h0:=h.p0;have h1:=h.p1;have h2:=h.p2;have h3:=h.sum
  unfold AM NV
  simp only [WT.run,bS,EY hn h,Option.bind_some]
  repeat' with_reducible first | refine bE ?_ | refine dU ?_ | apply aF | apply bF | apply dY | apply dN | apply dV | apply dZ | apply d9 | apply dO | apply dW | apply dS | refine aI (λ_=>?_) λ_=>?_ | refine dJ (λ_=>?_) λ_=>?_ | apply dB | apply bW | apply cZ | apply bJ | apply aD | refine dM ?_
  all_goals try exact .inr ⟨(λk=>nomatch k),rfl⟩
  all_goals try (exfalso;omega)
  all_goals (refine .inl ⟨rfl,⟨h.mt,h.ly,h.one,by first | omega | (simp only;omega),by first | omega | (simp only;omega),by first | omega | (simp only;omega),by first | omega | (simp only;omega),λk=>absurd hm k⟩,rfl,by omega,by first | omega | (simp only;omega)⟩)
def Gone (m:Int) (p r:aH) (x:aB):Prop:=PR m r/\tQ r.aW+x.aG=tQ p.aW/\tV r.aW+x.Value=tV p.aW/\tP r.aW+x.bO=tP p.aW/\tS r.aW+ab x.bO<=tS p.aW/\(0<=x.Value/\x.Value<=288230376151711744)/\(-288230376151711744<=x.bO/\x.bO<=288230376151711744)
theorem KY {m:Int} {p:aH} {l:List aB} {x:aB} (h:PR m p) (ht:qM p.aW l x) (hs:p.bN.a0+p.bN.a1+p.bN.a2+x.aG<=tQ p.aW):Gone m p ⟨l,p.bN⟩ x:=by
  obtain ⟨t1,t2,t3,t4,t5,t6,t7,t8⟩:=y9 h.ly ht
  refine ⟨{ h with ly:=t3,one:=λk=>by have:=h.one k;show l.length<=1;omega,sum:=by show _<=tQ l;simp only;omega },t4,t5,t6,t7,t1,t2⟩
theorem aIS {m c k q:Int} {p:aH} {n:Nat} (hn:66<n) (h:PR m p) (hc:0<=c/\c<=1073741824) (hq:-9223372036854775808<=q/\q<=9223372036854775807) :
    Ex (λr=>(r.2.2.2=0/\1<=q/\Gone m p r.1 r.2.1/\(r.2.2.1=false->r.2.1.aG=q)/\(r.2.2.1=true->r.2.1=⟨0,0,0⟩/\m=3/\k≠3))\/r.2.2.2≠0) (zJ n m c p k q):=by
  have hl:=gV h.ly
  have h0:=h.p0;have h1:=h.p1;have h2:=h.p2;have h3:=h.sum
  unfold zJ RB
  simp only [WT.run,bS]
  refine aU (λ_=>True) ?_ λb _=>fB (λ_=>aD (.inr (λk=>nomatch k))) λ_=>?_
  · repeat' with_reducible first | refine bE ?_ | refine dU ?_ | apply aF | apply bF | apply dY | apply dN | apply dV | apply dZ | apply d9 | apply dO | apply dW | apply dS | refine aI (λ_=>?_) λ_=>?_ | refine dJ (λ_=>?_) λ_=>?_ | apply dB | apply bW | apply cZ | apply bJ | apply aD
    all_goals trivial
  refine aU (λ(r:(Int×aH×aB)⊕(aH×aB×Bool×Int))=>match r with
    | .inl r=>r.1=0->1<=q/\Gone m p r.2.1 r.2.2/\r.2.2.aG=q
    | .inr r=>(r.2.2.2=0/\1<=q/\Gone m p r.1 r.2.1/\(r.2.2.1=false->r.2.1.aG=q)/\(r.2.2.1=true->r.2.1=⟨0,0,0⟩/\m=3/\k≠3))\/r.2.2.2≠0) ?_ λr hr=>?_
  · refine aF (aI (λk1=>?_) λk1=>aF (aI (λk2=>?_) λk2=>aF (aI (λk3=>?_) λk3=>aF (aI (λk4=>?_) λk4=>cK (λk=>nomatch k)))))
    · refine aU _ (QG hn h.ly hq) λr hr=>cK ?_
      rcases hr with ⟨e1,e2,e3,e4⟩ | ⟨e1,e2⟩
      · obtain ⟨o1,o2,o3⟩:=h.uQ (by omega)
        have:=y9 h.ly e4
        have:=gV this.2.2.1
        intro _;exact ⟨e2,KY h e4 (by first | omega | (simp only;omega)),e3⟩
      · intro k;exact absurd k e1
    · refine aU _ (LB hn h.ly hq) λr hr=>cK ?_
      rcases hr with ⟨e1,e2,e3,e4⟩ | ⟨e1,e2⟩
      · obtain ⟨o1,o2,o3⟩:=h.uQ (by omega)
        have:=y9 h.ly e4
        have:=gV this.2.2.1
        intro _;exact ⟨e2,KY h e4 (by first | omega | (simp only;omega)),e3⟩
      · intro k;exact absurd k e1
    · refine aF (aI (λk4=>?_) λk4=>?_)
      · refine aU _ (aWW hn h k3 hq) λr hr=>aF (bJ (aD ?_))
        rcases hr with ⟨e1,e2,e3,e4,e5⟩ | ⟨e1,e2⟩
        · refine .inl ⟨e1,e4,⟨e2,by simp only [e3];omega,by simp only [e3];omega,by simp only [e3];omega,by simp only [e3];show tS p.aW+0<=_;omega,(by first | omega | (simp only;omega)),(by first | omega | (simp only;omega))⟩,λk=>?_,λ_=>⟨rfl,k3,k4⟩⟩
          have k:decide (r.2=0)=false:=k
          exact absurd e1 (of_decide_eq_false k)
        · exact .inr e1
      · refine aU _ (aXL hn h hq) λr hr=>cK ?_
        rcases hr with ⟨e1,e2,e3,e4,e5,e6⟩ | e1
        · intro _
          have:=KY h e5 (by first | omega | (simp only;omega))
          rw [<- e6] at this
          exact ⟨e2,this,e4⟩
        · intro k;exact absurd k e1
    · refine aU _ (aWA hn h.ly (h.one (by omega)) hc hq) λr hr=>cK ?_
      rcases hr with ⟨e1,e2,e3,e4⟩ | e1
      · obtain ⟨o1,o2,o3⟩:=h.uQ (by omega)
        have:=y9 h.ly e4
        have:=gV this.2.2.1
        intro _;exact ⟨e2,KY h e4 (by first | omega | (simp only;omega)),e3⟩
      · intro k;exact absurd k e1
  · refine iZ (λa e=>?_) λa e=>?_
    · subst e
      repeat' with_reducible first | refine bE ?_ | refine dU ?_ | apply aF | apply bF | apply dY | apply dN | apply dV | apply dZ | apply d9 | apply dO | apply dW | apply dS | refine aI (λ_=>?_) λ_=>?_ | refine dJ (λ_=>?_) λ_=>?_ | apply dB | apply bW | apply cZ | apply bJ | apply aD
      · rename_i k;exact .inr k
      · rename_i k
        have k:a.1=0:=by simpa using k
        obtain ⟨g1,g2,g3⟩:=hr k
        exact .inl ⟨rfl,g1,g2,λ_=>g3,λk=>nomatch k⟩
    · subst e;exact hr
end Go.Pv
