import Derived.Test.YtcnbfkppbaenbaaGreatPC80
import Derived.Test.YtcnbfkppbaenbaaGreatI70
set_option linter.unusedVariables false
set_option linter.unusedSimpArgs false
namespace Go.Pv
open Go.Proofs
set_option maxRecDepth 100000
set_option maxHeartbeats 1000000
def qA (p:aH):Int:=tQ p.aW-p.bN.a0-p.bN.a1-p.bN.a2
theorem PR.b {m:Int} {p:aH} (h:PR m p):(0<=tQ p.aW/\tQ p.aW<=288230376151711744)/\(0<=qA p/\qA p<=288230376151711744)/\(0<=p.bN.a0/\p.bN.a0<=288230376151711744)/\(0<=p.bN.a1/\p.bN.a1<=288230376151711744)/\(0<=p.bN.a2/\p.bN.a2<=288230376151711744)/\p.aW.length<=30:=by
  have hl:=gV h.ly
  have h0:=h.p0;have h1:=h.p1;have h2:=h.p2;have h3:=h.sum
  unfold qA
  refine ⟨⟨?_,?_⟩,⟨?_,?_⟩,⟨?_,?_⟩,⟨?_,?_⟩,⟨?_,?_⟩,?_⟩ <;> omega
theorem aB3 {m:Int} {p:aH} {n:Nat} (hn:66<n) (h:PR m p):C6 n p=some (qA p):=by
  have hb:=h.b
  refine fH ?_
  unfold C6 UD
  simp only [WT.run,bS]
  refine aU (λs=>s=tQ p.aW) (fJ (λ(v:Int×Int)=>0<=v.2/\v.2<=(p.aW.length:Int)/\v.1+tQ (p.aW.drop v.2.toNat)=tQ p.aW) (λv=>p.aW.length-v.2.toNat) ?_ (v:=(0,0)) ⟨by simp,by simp,by simp⟩ (by simp only;omega)) λs hs=>?_
  · rintro ⟨s,i⟩ ⟨h0,h1,h2⟩
    simp only at h0 h1 h2
    refine bF (aF (aI (λhi=>?_) λhi=>bJ (aD ?_)))
    · have hi:i<(p.aW.length:Int):=hi
      refine eT h0 hi λx hx=>?_
      have hx:p.aW[i.toNat]?=some x:=hx
      obtain ⟨d1,d2,d3,d4⟩:=BV hx
      obtain ⟨g1,g2,g3⟩:=h.ly.1 x (fE hx)
      have hr:=l9 (l:=p.aW.drop (i.toNat+1)) λy hy=>h.ly.1 y (List.mem_of_mem_drop hy)
      have hr0:=l9 (l:=p.aW.drop i.toNat) λy hy=>h.ly.1 y (List.mem_of_mem_drop hy)
      have hp:=l9 h.ly.1
      have e2:(i+1).toNat=i.toNat+1:=by omega
      have sb:-288230376151711744<=s/\s<=288230376151711744:=by
        have:=tK (p.aW.take i.toNat) (p.aW.drop i.toNat)
        rw [List.take_append_drop] at this
        have h4:=l9 (l:=p.aW.take i.toNat) λy hy=>h.ly.1 y (List.mem_of_mem_take hy)
        omega
      exact bE (bE (cK ⟨⟨by first | omega | (simp only;omega),by first | omega | (simp only;omega),by simp only;rw [e2];omega⟩,by first | omega | (simp only;omega)⟩))
    · have hd:p.aW.drop i.toNat=[]:=List.drop_eq_nil_of_le (by first | omega | (simp only;omega))
      rw [hd] at h2
      simp only [tQ] at h2
      show s=tQ p.aW
      omega
  · subst hs
    refine aU (λs=>s=qA p) (fJ (λ(v:Int×Int)=>(v.2=0/\v.1=tQ p.aW)\/(v.2=1/\v.1=tQ p.aW-p.bN.a0)\/(v.2=2/\v.1=tQ p.aW-p.bN.a0-p.bN.a1)\/(v.2=3/\v.1=qA p)) (λv=>3-v.2.toNat) ?_ (.inl ⟨rfl,rfl⟩) (by simp;omega)) λs hs=>by subst hs;exact aD rfl
    rintro ⟨s,i⟩ hi
    rcases hi with ⟨rfl,hs⟩ | ⟨rfl,hs⟩ | ⟨rfl,hs⟩ | ⟨rfl,hs⟩
    all_goals simp only at hs
    · refine bF (aF (aI (λ_=>dD (a:=p.bN.a0) (show (0:Int)<=0 by decide) rfl (bE (gU (show (-9223372036854775808:Int)<=0+1/\(0+1:Int)<=9223372036854775807 by decide) (cK ⟨by simp only;omega,by simp⟩)))) λk=>absurd (show (0:Int)<3 by decide) k))
    · refine bF (aF (aI (λ_=>dD (a:=p.bN.a1) (show (0:Int)<=1 by decide) rfl (bE (gU (show (-9223372036854775808:Int)<=1+1/\(1+1:Int)<=9223372036854775807 by decide) (cK ⟨by simp only;omega,by simp⟩)))) λk=>absurd (show (1:Int)<3 by decide) k))
    · refine bF (aF (aI (λ_=>dD (a:=p.bN.a2) (show (0:Int)<=2 by decide) rfl (bE (gU (show (-9223372036854775808:Int)<=2+1/\(2+1:Int)<=9223372036854775807 by decide) (cK ⟨by simp only;unfold qA;omega,by simp⟩)))) λk=>absurd (show (2:Int)<3 by decide) k))
    · exact bF (aF (aI (λk=>absurd k (show ¬ (3:Int)<3 by decide)) λ_=>bJ (aD hs)))
theorem RX {p:aH} {l:List aB} (h:l.length<=1000):uN p l=some ⟨l,p.bN⟩:=by
  refine fH ?_
  unfold uN OA
  simp only [WT.run,bS]
  repeat' with_reducible first | refine bE ?_ | refine dU ?_ | apply aF | apply bF | apply dY | apply dN | apply dV | apply dZ | apply d9 | apply dO | apply dW | apply dS | refine aI (λ_=>?_) λ_=>?_ | refine dJ (λ_=>?_) λ_=>?_ | apply dB | apply bW | apply cZ | apply bJ | apply aD | refine dM ?_
  all_goals rfl
theorem aQE (l:List aB) (q:Int):(tk l q).1.length<=l.length:=by
  induction l generalizing q with
  | nil=>simp [tk]
  | cons x r ih =>
    unfold tk
    split
    · exact Nat.le_refl _
    · split
      · simp
      · have:=ih (q-x.aG);simp only [List.length_cons];omega
theorem ZE (l:List aB) (q:Int):(o9 l q).1.length<=l.length:=by
  unfold o9
  split
  · exact Nat.le_refl _
  · split
    · exact Nat.le_refl _
    · exact aQE l q
def FN (p:aH) (q:Int):aH×aB×Int:=if q<1 then (p,⟨0,0,0⟩,1) else if q>qA p then (p,⟨0,0,0⟩,5) else (⟨(o9 p.aW q).1,p.bN⟩,(o9 p.aW q).2.1,(o9 p.aW q).2.2)
theorem aR3 {m:Int} {p:aH} {q:Int} {n:Nat} (hn:66<n) (h:PR m p) (hq:-9223372036854775808<=q/\q<=9223372036854775807):AF n p q=some (FN p q):=by
  refine fH ?_
  unfold AF OK FN
  have hf:wJ n p=some (qA p):=EY hn h
  simp only [WT.run,bS,hf,NP hn h.ly hq,Option.bind_some]
  refine aF (aI (λk=>aD (by rw [if_pos k])) λk=>aF (aI (λk2=>aD (by rw [if_neg k,if_pos k2])) λk2=>aD (by rw [if_neg k,if_neg k2])))
theorem aKM {m:Int} {p:aH} {q:Int} {n:Nat} (hn:66<n) (h:PR m p) (hq:-9223372036854775808<=q/\q<=9223372036854775807):L5 n p q=some (FN p q):=by
  have hb:=h.b
  have ho:=ZE p.aW q
  refine fH ?_
  unfold L5 Z8 FN
  simp only [WT.run,bS,aB3 hn h,aC5 hn h.ly hq,RX (p:=p) (l:=p.aW) (by omega),RX (p:=p) (l:=(o9 p.aW q).1) (by omega),Option.bind_some]
  refine aF (aI (λk=>aD (by rw [if_pos k])) λk=>aF (aI (λk2=>aD (by rw [if_neg k,if_pos k2])) λk2=>aD (by rw [if_neg k,if_neg k2])))
def mG (p:aH) (k q:Int):aH×Int:=if k<0\/k>=3\/q<1 then (p,1) else if q>qA p then (p,5) else (⟨p.aW,if k=0 then ⟨p.bN.a0+q,p.bN.a1,p.bN.a2⟩ else if k=1 then ⟨p.bN.a0,p.bN.a1+q,p.bN.a2⟩ else ⟨p.bN.a0,p.bN.a1,p.bN.a2+q⟩⟩,0)
theorem U3 {m:Int} {p:aH} {k q:Int} (h:PR m p) (hc:¬ (k<0\/k>=3\/q<1)) (h2:¬ q>qA p):Ex (λr=>r=mG p k q) (bnd (decide (k=0)) λz=>cond z (bnd (bA (p.bN.a0+q)) λx=>some ((⟨p.aW,⟨x,p.bN.a1,p.bN.a2⟩⟩:aH),(0:Int))) (bnd (decide (k=1)) λz=>cond z (bnd (bA (p.bN.a1+q)) λx=>some ((⟨p.aW,⟨p.bN.a0,x,p.bN.a2⟩⟩:aH),(0:Int))) (iO (k=2) (bnd (bA (p.bN.a2+q)) λx=>some ((⟨p.aW,⟨p.bN.a0,p.bN.a1,x⟩⟩:aH),(0:Int)))))):=by
  have hb:=h.b
  unfold mG
  rw [if_neg hc,if_neg h2]
  refine aF (aI (λe=>bE (aD (by rw [if_pos e]))) λe=>aF (aI (λe2=>bE (aD (by rw [if_neg e,if_pos e2]))) λe2=>dM (bE (aD (by rw [if_neg e,if_neg e2])))))
theorem aNQ {m:Int} {p:aH} {k q:Int} {n:Nat} (hn:66<n) (h:PR m p):AM n p k q=some (mG p k q):=by
  refine fH ?_
  unfold AM NV
  have hf:wJ n p=some (qA p):=EY hn h
  simp only [WT.run,bS,hf,Option.bind_some]
  refine aU (λb=>b=true↔(k<0\/k>=3\/q<1)) ?_ λb hb=>fB (λz=>aD (by unfold mG;rw [if_pos (hb.1 z)])) λz=>?_
  · repeat' with_reducible first | refine bE ?_ | refine dU ?_ | apply aF | apply bF | apply dY | apply dN | apply dV | apply dZ | apply d9 | apply dO | apply dW | apply dS | refine aI (λ_=>?_) λ_=>?_ | refine dJ (λ_=>?_) λ_=>?_ | apply dB | apply bW | apply cZ | apply bJ | apply aD
    all_goals (simp only [true_iff,decide_eq_true_eq];omega)
  · have hc:¬ (k<0\/k>=3\/q<1):=λy=>by rw [hb.2 y] at z;cases z
    exact aF (aI (λk2=>aD (by unfold mG;rw [if_neg hc];exact (if_pos k2).symm)) λk2=>U3 h hc k2)
theorem aNR {m:Int} {p:aH} {k q:Int} {n:Nat} (hn:66<n) (h:PR m p):H6 n p k q=some (mG p k q):=by
  have hb:=h.b
  refine fH ?_
  have hi:MS k=some (decide (0<=k/\k<3)):=by
    refine fH ?_
    unfold MS aCB
    simp only [WT.run,bS]
    repeat' with_reducible first | refine bE ?_ | refine dU ?_ | apply aF | apply bF | apply dY | apply dN | apply dV | apply dZ | apply d9 | apply dO | apply dW | apply dS | refine aI (λ_=>?_) λ_=>?_ | refine dJ (λ_=>?_) λ_=>?_ | apply dB | apply bW | apply cZ | apply bJ | apply aD
    all_goals first | rfl | (rw [eq_comm,decide_eq_false_iff_not];omega) | (congr 1;simp only [eq_iff_iff];omega)
  unfold H6 XW
  simp only [WT.run,bS,hi,RX (p:=p) (l:=p.aW) (by omega),Option.bind_some]
  refine aU (λb=>b=true↔(k<0\/k>=3\/q<1)) ?_ λb hb=>fB (λz=>aD (by unfold mG;rw [if_pos (hb.1 z)])) λz=>?_
  · by_cases k1:0<=k/\k<3
    · rw [decide_eq_true k1]
      exact aF (bW (aF (aD (by simp only [decide_eq_true_eq];omega))))
    · rw [decide_eq_false k1]
      exact aF (dB (aD (by simp only [true_iff];omega)))
  · have hc:¬ (k<0\/k>=3\/q<1):=λy=>by rw [hb.2 y] at z;cases z
    refine x_eq (aB3 (p:=⟨p.aW,p.bN⟩) hn h) ?_
    exact aF (aI (λk2=>aD (by unfold mG;rw [if_neg hc];exact (if_pos k2).symm)) λk2=>U3 h hc k2)
def v12 (l:List aB) (q c:Int):Int:=if (md q c 1).2.2≠0\/(md q c 1).1>tV l then tV l else (md q c 1).1
def xO (l:List aB) (q c:Int):List aB×aB×Int :=
  if (o9 l q).2.2≠0\/(o9 l q).1.length=0 then o9 l q else ([⟨tQ l-q,tV l-v12 l q c,tP l-(o9 l q).2.1.bO⟩],⟨(o9 l q).2.1.aG,v12 l q c,(o9 l q).2.1.bO⟩,0)
theorem aAG {l:List aB} {q:Int} (hl:LR l) (hq:-9223372036854775808<=q/\q<=9223372036854775807) (h0:¬ (o9 l q).2.2≠0):1<=q/\(o9 l q).2.1.aG=q/\qM l (o9 l q).1 (o9 l q).2.1:=by
  rcases aDU (QG (n:=100) (by decide) hl hq) (SG (by decide) hl hq) with ⟨_,a,b,c⟩ | ⟨a,_⟩
  · exact ⟨a,b,c⟩
  · exact absurd a h0
theorem aFI {l:List aB} {q c:Int} (hl:LR l):0<=v12 l q c/\v12 l q c<=tV l:=by
  have h1:=yN q c 1
  have h2:=gV hl
  unfold v12
  split <;> omega
theorem aPH {l:List aB} {q c:Int} {n:Nat} (hn:66<n) (hl:LR l) (hc:0<=c/\c<=1073741824) (hq:-9223372036854775808<=q/\q<=9223372036854775807):BO n l q c=some (xO l q c):=by
  have hb:=gV hl
  refine fH ?_
  unfold BO TG xO
  simp only [WT.run,bS,NP hn hl hq,xI hn hl,M6 hn hq (show -9223372036854775808<=c/\c<=9223372036854775807 by omega),Option.bind_some]
  refine aU (λb=>b=false) (aF (aI (λk=>absurd k (by omega)) λ_=>aF (aD (decide_eq_false (by omega))))) λb hb2=>?_
  subst hb2
  refine bW (aU (λb=>b=true↔((o9 l q).2.2≠0\/(o9 l q).1.length=0)) ?_ λb hb3=>fB (λz=>aD (by rw [if_pos (hb3.1 z)])) λz=>?_)
  · repeat' with_reducible first | refine bE ?_ | refine dU ?_ | apply aF | apply bF | apply dY | apply dN | apply dV | apply dZ | apply d9 | apply dO | apply dW | apply dS | refine aI (λ_=>?_) λ_=>?_ | refine dJ (λ_=>?_) λ_=>?_ | apply dB | apply bW | apply cZ | apply bJ | apply aD
    all_goals (simp only [true_iff,decide_eq_true_eq];omega)
  · have hz:¬ ((o9 l q).2.2≠0\/(o9 l q).1.length=0):=λy=>by rw [hb3.2 y] at z;cases z
    obtain ⟨t1,t2,t3⟩:=aAG hl hq (λy=>hz (.inl y))
    obtain ⟨s1,s2,s3,s4,s5,s6,s7⟩:=t3
    have hm:=gV s1
    obtain ⟨b1,b2,b3⟩:=mE (o9 l q).2.1.bO
    have hv:=aFI (q:=q) (c:=c) hl
    rw [if_neg hz]
    refine aU (λb=>b=true↔((md q c 1).2.2≠0\/(md q c 1).1>tV l)) ?_ λb hb4=>?_
    · exact aF (fB (λk=>aD ⟨λ_=>.inl (by simpa using k),λ_=>rfl⟩) λk=>aF (aD ⟨λw=>.inr (of_decide_eq_true w),λw=>decide_eq_true (w.resolve_left λz=>z (by simpa using k))⟩))
    · refine aU (λv=>v=v12 l q c) (fB (λy=>aD (by unfold v12;rw [if_pos (hb4.1 y)])) λy=>aD (by unfold v12;rw [if_neg λw=>by rw [hb4.2 w] at y;cases y])) λv hv2=>?_
      subst hv2
      exact bE (bE (bE (aD rfl)))
set_option maxRecDepth 1000000
theorem aVM {p:aH} {k q:Int} (h:(mG p k q).2≠0):(mG p k q).1=p:=by
  unfold mG at h ⊢
  split
  · rfl
  · split
    · rfl
    · rename_i a b;rw [if_neg a,if_neg b] at h;exact absurd rfl h
noncomputable def qE (m c:Int) (p:aH) (q:Int):aH×aB×Int :=
  if m=3 then FN p q else if m=4 then (⟨(xO p.aW q c).1,p.bN⟩,(xO p.aW q c).2.1,(xO p.aW q c).2.2) else (⟨(o9 p.aW q).1,p.bN⟩,(o9 p.aW q).2.1,(o9 p.aW q).2.2)
noncomputable def AN (m c:Int) (p:aH) (k q:Int):aH×aB×Bool×Int :=
  if m=3/\k≠3 then ((mG p k q).1,⟨0,0,0⟩,decide ((mG p k q).2=0),(mG p k q).2) else if (qE m c p q).2.2≠0 then (p,⟨0,0,0⟩,false,(qE m c p q).2.2) else ((qE m c p q).1,(qE m c p q).2.1,false,0)
noncomputable def yF (m c:Int) (p:aH) (k q:Int):aH×aB×Bool×Int:=if k<0\/k>3 then (p,⟨0,0,0⟩,false,1) else AN m c p k q
theorem aPG {m c k q:Int} {p:aH} {n:Nat} (hn:66<n) (h:PR m p) (hc:0<=c/\c<=1073741824) (hq:-9223372036854775808<=q/\q<=9223372036854775807):zJ n m c p k q=some (yF m c p k q):=by
  have hm:=h.mt
  refine fH ?_
  unfold zJ RB yF
  simp only [WT.run,bS]
  refine aU (λb=>b=true↔(k<0\/k>3)) ?_ λb hb=>fB (λz=>aD (by rw [if_pos (hb.1 z)])) λz=>?_
  · refine aF (aI (λ_=>aF (aI (λ_=>aF (aI (λk1=>aD ⟨λ_=>.inl k1,λ_=>rfl⟩) λk1=>aF (aD ⟨λq=>.inr (of_decide_eq_true q),λq=>decide_eq_true (q.resolve_left k1)⟩))) λy=>absurd hm.2 y)) λy=>absurd hm.1 y)
  have hb2:¬ (k<0\/k>3):=λy=>by rw [hb.2 y] at z;cases z
  rw [if_neg hb2]
  unfold AN
  refine aU (λ(r:(Int×aH×aB)⊕(aH×aB×Bool×Int))=>r=if m=3/\k≠3 then .inr ((mG p k q).1,⟨0,0,0⟩,decide ((mG p k q).2=0),(mG p k q).2) else .inl ((qE m c p q).2.2,(qE m c p q).1,(qE m c p q).2.1)) ?_ λr hr=>?_
  · unfold qE
    rcases NE h with rfl | rfl | rfl | rfl
    · rw [if_neg (by simp)]
      exact aF (aI (λ_=>x_eq (SG hn h.ly hq) (cK rfl)) λk=>absurd rfl k)
    · rw [if_neg (by simp)]
      exact aF (aI (λk=>absurd k (by decide)) λ_=>aF (aI (λ_=>x_eq (NP hn h.ly hq) (cK rfl)) λk=>absurd rfl k))
    · refine aF (aI (λk=>absurd k (by decide)) λ_=>aF (aI (λk=>absurd k (by decide)) λ_=>aF (aI (λ_=>aF (aI (λy=>?_) λy=>?_)) λk=>absurd rfl k)))
      · rw [if_pos ⟨rfl,y⟩]
        exact x_eq (aNQ hn h) (aF (bJ (aD rfl)))
      · rw [if_neg (λw=>y w.2)]
        exact x_eq (aR3 hn h hq) (cK rfl)
    · rw [if_neg (by simp)]
      exact aF (aI (λk=>absurd k (by decide)) λ_=>aF (aI (λk=>absurd k (by decide)) λ_=>aF (aI (λk=>absurd k (by decide)) λ_=>aF (aI (λ_=>x_eq (aPH hn h.ly hc hq) (cK rfl)) λk=>absurd rfl k))))
  · by_cases y:m=3/\k≠3
    · rw [if_pos y] at hr ⊢
      subst hr
      exact yK rfl
    · rw [if_neg y] at hr ⊢
      subst hr
      refine cZ (bF (bF (aF (aI (λk=>aD ?_) λk=>aD ?_))))
      · rw [if_pos k]
      · rw [if_neg k]
theorem aQ0 {l:List aB} {q c:Int} {n:Nat} (hn:66<n) (hl:LR l) (h1:l.length<=1) (hc:0<=c/\c<=1073741824) (hq:-9223372036854775808<=q/\q<=9223372036854775807):LF n l q c=some (xO l q c):=by
  have hb:=gV hl
  refine fH ?_
  unfold LF aDI xO
  simp only [WT.run,bS,YR hc,Option.bind_some]
  refine aF (bW ?_)
  refine aU (λ(r:Nat×Nat×aB×Int×List aB)=>r.1+r.2.1<=r.2.2.2.2.length/\win r.1 r.2.1 r.2.2.2.2=(o9 l q).1/\r.2.2.1=(o9 l q).2.1/\r.2.2.2.1=(o9 l q).2.2) ?_ λr hr=>?_
  · unfold o9
    refine aU (λ(r:Nat×Nat×aB×Int×List aB)=>r.1+r.2.1<=r.2.2.2.2.length/\win r.1 r.2.1 r.2.2.2.2=(o9 l q).1/\r.2.2.1=(o9 l q).2.1/\r.2.2.2.1=(o9 l q).2.2) ?_ λr hr=>bF (bF (bF (bF (aD hr))))
    unfold o9
    refine dM (aF (aI (λk1=>aD ?_) λk1=>x_eq (aEY hn hl (by omega)) ?_))
    · rw [if_pos k1];exact ⟨by simp,by simp [win],rfl,rfl⟩
    rw [if_neg k1]
    by_cases k2:q<=tQ l
    · rw [if_neg (by omega),decide_eq_true k2]
      refine aF (bW (aU _ (Y2 hn hl (by omega)) λr hr=>bF (bF (bF (aD ⟨hr.1,hr.2.1,hr.2.2,rfl⟩)))))
    · rw [if_pos (by omega),decide_eq_false k2]
      exact aF (dB (aD ⟨by simp,by simp [win],rfl,rfl⟩))
  · obtain ⟨a,b,o,e,L⟩:=r
    obtain ⟨w1,w2,w3,w4⟩:=hr
    simp only at w1 w2 w3 w4
    have wl:=aE8 w1
    rw [w2] at wl
    refine bF (bF (bF (bF (aU (λz=>z=true↔((o9 l q).2.2≠0\/(o9 l q).1.length=0)) (aF (aI (λk=>aD ⟨λ_=>.inl (by rw [<- w4];exact k),λ_=>rfl⟩) λk=>aF (aD ?_))) λz hz=>fB (λy=>?_) λy=>?_))))
    · show decide (((b:Nat):Int)=0)=true↔_
      have k:¬ e≠0:=k
      rw [decide_eq_true_eq,wl,<- w4]
      exact ⟨λy=>.inr (by omega),λy=>by rcases y with y | y <;> first | exact absurd y k | omega⟩
    · rw [if_pos (hz.1 y)]
      exact iR w1 (aD (by rw [show (L.drop a).take b=win a b L from rfl,w2,w3,w4]))
    · have hz2:¬ ((o9 l q).2.2≠0\/(o9 l q).1.length=0):=λw=>by rw [hz.2 w] at y;cases y
      rw [if_neg hz2]
      obtain ⟨t1,t2,t3⟩:=aAG hl hq (λy=>hz2 (.inl y))
      have hlen:=ZE l q
      obtain rfl:b=1:=by omega
      have hx:=List.getElem?_eq_getElem (l:=L) (i:=a) (by omega)
      have hv:=aFI (q:=q) (c:=c) hl
      obtain ⟨s1,s2,s3,s4,s5,s6,s7⟩:=t3
      have hm:=gV s1
      have e1:(o9 l q).1=[L[a]]:=by rw [<- w2,Q4 hx];simp [win]
      simp only [e1,tQ,tV,tP,tS] at s2 s3 s4 s5 s6 s7 hm
      rw [<- w3] at *
      have ea:((a:Int)+0).toNat=a:=by omega
      refine x_eq (UN hn hc t1 hq.2) (dM (dD (a:=L[a]) (by omega) (by rw [ea];exact hx) (bE ?_)))
      refine aU (λb=>b=true↔((md q c 1).2.2≠0\/(md q c 1).1>tV l)) ?_ λb hb4=>?_
      · have e5:L[a].Value+o.Value=tV l:=by omega
        rw [e5]
        exact aF (aI (λk=>aD ⟨λ_=>.inl k,λ_=>rfl⟩) λk=>aF (aD ⟨λq=>.inr (of_decide_eq_true q),λq=>decide_eq_true (q.resolve_left k)⟩))
      · refine aU (λv=>v=v12 l q c) (fB (λy=>aD (by unfold v12;rw [if_pos (hb4.1 y)];simp only;omega)) λy=>aD (by unfold v12;rw [if_neg λw=>by rw [hb4.2 w] at y;cases y])) λv hv2=>?_
        subst hv2
        refine dM (bE (bE (dM (aF (dM (aD ?_))))))
        rw [ea]
        show (win a 1 (L.set a _),_,_)=_
        rw [QJ (by omega)]
        simp only [win,List.take_zero]
        congr 2
        · congr 1 <;> omega
theorem aRF {m c k q:Int} {p:aH} {n:Nat} (hn:66<n) (h:PR m p) (hc:0<=c/\c<=1073741824) (hq:-9223372036854775808<=q/\q<=9223372036854775807):MP n m c p k q=some (yF m c p k q):=by
  have hl:=tC h.ly
  have ho:=aCC (p:=p) (by omega)
  refine fH ?_
  unfold MP aCX yF
  have e:(k<0\/k>3)↔(decide (k<0) || decide (k>3))=true:=by simp
  simp only [e]
  generalize decide (k<0)=z1
  generalize decide (k>3)=z2
  rcases NE h with rfl | rfl | rfl | rfl
  · simp only [WT.run,bS,p9o hn h.ly hq,vZ,ho,Option.bind_some,bnd,decide_true,cond_true,wM,Sum.elim_inl,Sum.elim_inr,p2,if_true]
    cases z1 <;> cases z2 <;> simp only [Option.bind_some,cond_true,cond_false,Bool.or_false,Bool.or_true,Bool.false_or,Bool.true_or,if_true,if_false,Bool.false_eq_true]
    all_goals try exact aD rfl
    unfold AN qE
    simp only [show ((1:Int)=3)=False from by simp,show ((1:Int)=4)=False from by simp,false_and,if_false]
    exact aI (λk=>aD (by rw [if_pos k])) λk=>aD (by rw [if_neg k])
  · simp only [WT.run,bS,aC5 hn h.ly hq,vZ,ho,Option.bind_some,bnd,decide_true,cond_true,cond_false,wM,p2,if_true,if_false,Sum.elim_inl,Sum.elim_inr,show decide ((2:Int)=1)=false from rfl]
    cases z1 <;> cases z2 <;> simp only [Option.bind_some,cond_true,cond_false,Bool.or_false,Bool.or_true,Bool.false_or,Bool.true_or,if_true,if_false,Bool.false_eq_true]
    all_goals try exact aD rfl
    unfold AN qE
    simp only [show ((2:Int)=3)=False from by simp,show ((2:Int)=4)=False from by simp,false_and,if_false]
    exact aI (λk=>aD (by rw [if_pos k])) λk=>aD (by rw [if_neg k])
  · simp only [WT.run,bS,aNR hn h,aKM hn h hq,vZ,ho,Option.bind_some,bnd,decide_true,cond_true,cond_false,wM,p2,if_true,if_false,Sum.elim_inl,Sum.elim_inr,show decide ((3:Int)=1)=false from rfl,show decide ((3:Int)=2)=false from rfl]
    cases z1 <;> cases z2 <;> simp only [Option.bind_some,cond_true,cond_false,Bool.or_false,Bool.or_true,Bool.false_or,Bool.true_or,if_true,if_false,Bool.false_eq_true]
    all_goals try exact aD rfl
    unfold AN qE
    by_cases y:k=3
    · rw [if_neg (λw=>w.2 y)]
      simp only [decide_eq_false (p:=k≠3) (λw=>w y),cond_false,Option.bind_some,if_true]
      exact aI (λk=>aD (by rw [if_pos k])) λk=>aD (by rw [if_neg k])
    · rw [if_pos ⟨rfl,y⟩]
      simp only [decide_eq_true (p:=k≠3) y,cond_true,Option.bind_some]
      exact aI (λk=>aD (by rw [aVM k,decide_eq_false k])) λk=>aD (by have k:(mG p _ q).2=0:=Classical.not_not.1 k;rw [k];rfl)
  · have h1:=h.one (by decide)
    simp only [WT.run,bS,aQ0 hn h.ly h1 hc hq,vZ,ho,Option.bind_some,bnd,decide_true,cond_true,cond_false,wM,p2,if_true,if_false,Sum.elim_inl,Sum.elim_inr,show decide ((4:Int)=1)=false from rfl,show decide ((4:Int)=2)=false from rfl,show decide ((4:Int)=3)=false from rfl]
    cases z1 <;> cases z2 <;> simp only [Option.bind_some,cond_true,cond_false,Bool.or_false,Bool.or_true,Bool.false_or,Bool.true_or,if_true,if_false,Bool.false_eq_true]
    all_goals try exact aD rfl
    unfold AN qE
    simp only [show ((4:Int)=3)=False from by simp,false_and,if_false,if_true]
    exact aI (λk=>aD (by rw [if_pos k])) λk=>aD (by rw [if_neg k])
end Go.Pv
