import Derived.Test.YtgoihillpibdjaaGreatPC80
import Derived.Test.YtgoihillpibdjaaGreatI70
set_option linter.unusedVariables false
set_option linter.unusedSimpArgs false
namespace Go.Pv
open Go.Proofs
set_option maxRecDepth 100000
set_option maxHeartbeats 1000000
def pZ (p:aQ):Int:=tQ p.aG-p.bH.a0-p.bH.a1-p.bH.a2
theorem PR.b {m:Int} {p:aQ} (h:PR m p):(0<=tQ p.aG/\tQ p.aG<=288230376151711744)/\(0<=pZ p/\pZ p<=288230376151711744)/\(0<=p.bH.a0/\p.bH.a0<=288230376151711744)/\(0<=p.bH.a1/\p.bH.a1<=288230376151711744)/\(0<=p.bH.a2/\p.bH.a2<=288230376151711744)/\p.aG.length<=30:=by
  have hl:=gN h.ly
  have h0:=h.p0;have h1:=h.p1;have h2:=h.p2;have h3:=h.sum
  unfold pZ
  refine ⟨⟨?_,?_⟩,⟨?_,?_⟩,⟨?_,?_⟩,⟨?_,?_⟩,⟨?_,?_⟩,?_⟩ <;> omega
theorem QM {m:Int} {p:aQ} {n:Nat} (hn:66<n) (h:PR m p):zQ n p=some (pZ p):=by
  have hb:=h.b
  refine eT ?_
  unfold zQ aBB
  simp only [WT.run,bR]
  refine aT (λs=>s=tQ p.aG) (fM (λ(v:Int×Int)=>0<=v.2/\v.2<=(p.aG.length:Int)/\v.1+tQ (p.aG.drop v.2.toNat)=tQ p.aG) (λv=>p.aG.length-v.2.toNat) ?_ (v:=(0,0)) ⟨by simp,by simp,by simp⟩ (by simp only;omega)) λs hs=>?_
  · rintro ⟨s,i⟩ ⟨h0,h1,h2⟩
    simp only at h0 h1 h2
    refine bE (aD (aH (λhi=>?_) λhi=>bK (aF ?_)))
    · have hi:i<(p.aG.length:Int):=hi
      refine eF h0 hi λx hx=>?_
      have hx:p.aG[i.toNat]?=some x:=hx
      obtain ⟨d1,d2,d3,d4⟩:=EN hx
      obtain ⟨g1,g2,g3⟩:=h.ly.1 x (fF hx)
      have hr:=lX (l:=p.aG.drop (i.toNat+1)) λy hy=>h.ly.1 y (List.mem_of_mem_drop hy)
      have hr0:=lX (l:=p.aG.drop i.toNat) λy hy=>h.ly.1 y (List.mem_of_mem_drop hy)
      have hp:=lX h.ly.1
      have e2:(i+1).toNat=i.toNat+1:=by omega
      have sb:-288230376151711744<=s/\s<=288230376151711744:=by
        have:=tL (p.aG.take i.toNat) (p.aG.drop i.toNat)
        rw [List.take_append_drop] at this
        have h4:=lX (l:=p.aG.take i.toNat) λy hy=>h.ly.1 y (List.mem_of_mem_take hy)
        omega
      exact bF (bF (bX ⟨⟨by first | omega | (simp only;omega),by first | omega | (simp only;omega),by simp only;rw [e2];omega⟩,by first | omega | (simp only;omega)⟩))
    · have hd:p.aG.drop i.toNat=[]:=List.drop_eq_nil_of_le (by first | omega | (simp only;omega))
      rw [hd] at h2
      simp only [tQ] at h2
      show s=tQ p.aG
      omega
  · subst hs
    refine aT (λs=>s=pZ p) (fM (λ(v:Int×Int)=>(v.2=0/\v.1=tQ p.aG)\/(v.2=1/\v.1=tQ p.aG-p.bH.a0)\/(v.2=2/\v.1=tQ p.aG-p.bH.a0-p.bH.a1)\/(v.2=3/\v.1=pZ p)) (λv=>3-v.2.toNat) ?_ (.inl ⟨rfl,rfl⟩) (by simp;omega)) λs hs=>by subst hs;exact aF rfl
    rintro ⟨s,i⟩ hi
    rcases hi with ⟨rfl,hs⟩ | ⟨rfl,hs⟩ | ⟨rfl,hs⟩ | ⟨rfl,hs⟩
    all_goals simp only at hs
    · refine bE (aD (aH (λ_=>bW (a:=p.bH.a0) (show (0:Int)<=0 by decide) rfl (bF (gL (show (-9223372036854775808:Int)<=0+1/\(0+1:Int)<=9223372036854775807 by decide) (bX ⟨by simp only;omega,by simp⟩)))) λk=>absurd (show (0:Int)<3 by decide) k))
    · refine bE (aD (aH (λ_=>bW (a:=p.bH.a1) (show (0:Int)<=1 by decide) rfl (bF (gL (show (-9223372036854775808:Int)<=1+1/\(1+1:Int)<=9223372036854775807 by decide) (bX ⟨by simp only;omega,by simp⟩)))) λk=>absurd (show (1:Int)<3 by decide) k))
    · refine bE (aD (aH (λ_=>bW (a:=p.bH.a2) (show (0:Int)<=2 by decide) rfl (bF (gL (show (-9223372036854775808:Int)<=2+1/\(2+1:Int)<=9223372036854775807 by decide) (bX ⟨by simp only;unfold pZ;omega,by simp⟩)))) λk=>absurd (show (2:Int)<3 by decide) k))
    · exact bE (aD (aH (λk=>absurd k (show ¬ (3:Int)<3 by decide)) λ_=>bK (aF hs)))
theorem VV {p:aQ} {l:List aB} (h:l.length<=1000):uK p l=some ⟨l,p.bH⟩:=by
  refine eT ?_
  unfold uK UL
  simp only [WT.run,bR]
  repeat' with_reducible first | refine bF ?_ | refine dP ?_ | apply aD | apply bE | apply dS | apply dI | apply dN | apply dR | apply dO | apply dL | apply dU | apply dQ | refine aH (λ_=>?_) λ_=>?_ | refine dG (λ_=>?_) λ_=>?_ | apply cO | apply bU | apply bY | apply bK | apply aF | refine dF ?_
  all_goals rfl
theorem aJ2 (l:List aB) (q:Int):(tk l q).1.length<=l.length:=by
  induction l generalizing q with
  | nil=>simp [tk]
  | cons x r ih =>
    unfold tk
    split
    · exact Nat.le_refl _
    · split
      · simp
      · have:=ih (q-x.aI);simp only [List.length_cons];omega
theorem aEB (l:List aB) (q:Int):(o9 l q).1.length<=l.length:=by
  unfold o9
  split
  · exact Nat.le_refl _
  · split
    · exact Nat.le_refl _
    · exact aJ2 l q
def GC (p:aQ) (q:Int):aQ×aB×Int:=if q<1 then (p,⟨0,0,0⟩,1) else if q>pZ p then (p,⟨0,0,0⟩,5) else (⟨(o9 p.aG q).1,p.bH⟩,(o9 p.aG q).2.1,(o9 p.aG q).2.2)
theorem aNW {m:Int} {p:aQ} {q:Int} {n:Nat} (hn:66<n) (h:PR m p) (hq:-9223372036854775808<=q/\q<=9223372036854775807):C8 n p q=some (GC p q):=by
  refine eT ?_
  unfold C8 VQ GC
  have hf:xJ n p=some (pZ p):=E5 hn h
  simp only [WT.run,bR,hf,UH hn h.ly hq,Option.bind_some]
  refine aD (aH (λk=>aF (by rw [if_pos k])) λk=>aD (aH (λk2=>aF (by rw [if_neg k,if_pos k2])) λk2=>aF (by rw [if_neg k,if_neg k2])))
theorem aRC {m:Int} {p:aQ} {q:Int} {n:Nat} (hn:66<n) (h:PR m p) (hq:-9223372036854775808<=q/\q<=9223372036854775807):LC n p q=some (GC p q):=by
  have hb:=h.b
  have ho:=aEB p.aG q
  refine eT ?_
  unfold LC ZT GC
  simp only [WT.run,bR,QM hn h,aBF hn h.ly hq,VV (p:=p) (l:=p.aG) (by omega),VV (p:=p) (l:=(o9 p.aG q).1) (by omega),Option.bind_some]
  refine aD (aH (λk=>aF (by rw [if_pos k])) λk=>aD (aH (λk2=>aF (by rw [if_neg k,if_pos k2])) λk2=>aF (by rw [if_neg k,if_neg k2])))
def mP (p:aQ) (k q:Int):aQ×Int:=if k<0\/k>=3\/q<1 then (p,1) else if q>pZ p then (p,5) else (⟨p.aG,if k=0 then ⟨p.bH.a0+q,p.bH.a1,p.bH.a2⟩ else if k=1 then ⟨p.bH.a0,p.bH.a1+q,p.bH.a2⟩ else ⟨p.bH.a0,p.bH.a1,p.bH.a2+q⟩⟩,0)
theorem XA {m:Int} {p:aQ} {k q:Int} (h:PR m p) (hc:¬ (k<0\/k>=3\/q<1)) (h2:¬ q>pZ p):Ex (λr=>r=mP p k q) (bnd (decide (k=0)) λz=>cond z (bnd (aW (p.bH.a0+q)) λx=>some ((⟨p.aG,⟨x,p.bH.a1,p.bH.a2⟩⟩:aQ),(0:Int))) (bnd (decide (k=1)) λz=>cond z (bnd (aW (p.bH.a1+q)) λx=>some ((⟨p.aG,⟨p.bH.a0,x,p.bH.a2⟩⟩:aQ),(0:Int))) (iQ (k=2) (bnd (aW (p.bH.a2+q)) λx=>some ((⟨p.aG,⟨p.bH.a0,p.bH.a1,x⟩⟩:aQ),(0:Int)))))):=by
  have hb:=h.b
  unfold mP
  rw [if_neg hc,if_neg h2]
  refine aD (aH (λe=>bF (aF (by rw [if_pos e]))) λe=>aD (aH (λe2=>bF (aF (by rw [if_neg e,if_pos e2]))) λe2=>dF (bF (aF (by rw [if_neg e,if_neg e2])))))
theorem aWI {m:Int} {p:aQ} {k q:Int} {n:Nat} (hn:66<n) (h:PR m p):BO n p k q=some (mP p k q):=by
  refine eT ?_
  unfold BO RO
  have hf:xJ n p=some (pZ p):=E5 hn h
  simp only [WT.run,bR,hf,Option.bind_some]
  refine aT (λb=>b=true↔(k<0\/k>=3\/q<1)) ?_ λb hb=>eX (λz=>aF (by unfold mP;rw [if_pos (hb.1 z)])) λz=>?_
  · repeat' with_reducible first | refine bF ?_ | refine dP ?_ | apply aD | apply bE | apply dS | apply dI | apply dN | apply dR | apply dO | apply dL | apply dU | apply dQ | refine aH (λ_=>?_) λ_=>?_ | refine dG (λ_=>?_) λ_=>?_ | apply cO | apply bU | apply bY | apply bK | apply aF
    all_goals (simp only [true_iff,decide_eq_true_eq];omega)
  · have hc:¬ (k<0\/k>=3\/q<1):=λy=>by rw [hb.2 y] at z;cases z
    exact aD (aH (λk2=>aF (by unfold mP;rw [if_neg hc];exact (if_pos k2).symm)) λk2=>XA h hc k2)
theorem aNF {m:Int} {p:aQ} {k q:Int} {n:Nat} (hn:66<n) (h:PR m p):IG n p k q=some (mP p k q):=by
  have hb:=h.b
  refine eT ?_
  have hi:OT k=some (decide (0<=k/\k<3)):=by
    refine eT ?_
    unfold OT aEK
    simp only [WT.run,bR]
    repeat' with_reducible first | refine bF ?_ | refine dP ?_ | apply aD | apply bE | apply dS | apply dI | apply dN | apply dR | apply dO | apply dL | apply dU | apply dQ | refine aH (λ_=>?_) λ_=>?_ | refine dG (λ_=>?_) λ_=>?_ | apply cO | apply bU | apply bY | apply bK | apply aF
    all_goals first | rfl | (rw [eq_comm,decide_eq_false_iff_not];omega) | (congr 1;simp only [eq_iff_iff];omega)
  unfold IG aFX
  simp only [WT.run,bR,hi,VV (p:=p) (l:=p.aG) (by omega),Option.bind_some]
  refine aT (λb=>b=true↔(k<0\/k>=3\/q<1)) ?_ λb hb=>eX (λz=>aF (by unfold mP;rw [if_pos (hb.1 z)])) λz=>?_
  · by_cases k1:0<=k/\k<3
    · rw [decide_eq_true k1]
      exact aD (bU (aD (aF (by simp only [decide_eq_true_eq];omega))))
    · rw [decide_eq_false k1]
      exact aD (cO (aF (by simp only [true_iff];omega)))
  · have hc:¬ (k<0\/k>=3\/q<1):=λy=>by rw [hb.2 y] at z;cases z
    refine x_eq (QM (p:=⟨p.aG,p.bH⟩) hn h) ?_
    exact aD (aH (λk2=>aF (by unfold mP;rw [if_neg hc];exact (if_pos k2).symm)) λk2=>XA h hc k2)
def v12 (l:List aB) (q c:Int):Int:=if (md q c 1).2.2≠0\/(md q c 1).1>tV l then tV l else (md q c 1).1
def yD (l:List aB) (q c:Int):List aB×aB×Int :=
  if (o9 l q).2.2≠0\/(o9 l q).1.length=0 then o9 l q else ([⟨tQ l-q,tV l-v12 l q c,tP l-(o9 l q).2.1.bN⟩],⟨(o9 l q).2.1.aI,v12 l q c,(o9 l q).2.1.bN⟩,0)
theorem aI1 {l:List aB} {q:Int} (hl:LR l) (hq:-9223372036854775808<=q/\q<=9223372036854775807) (h0:¬ (o9 l q).2.2≠0):1<=q/\(o9 l q).2.1.aI=q/\rW l (o9 l q).1 (o9 l q).2.1:=by
  rcases H6 (PU (n:=100) (by decide) hl hq) (Q6 (by decide) hl hq) with ⟨_,a,b,c⟩ | ⟨a,_⟩
  · exact ⟨a,b,c⟩
  · exact absurd a h0
theorem aBJ {l:List aB} {q c:Int} (hl:LR l):0<=v12 l q c/\v12 l q c<=tV l:=by
  have h1:=pF q c 1
  have h2:=gN hl
  unfold v12
  split <;> omega
theorem aSF {l:List aB} {q c:Int} {n:Nat} (hn:66<n) (hl:LR l) (hc:0<=c/\c<=1073741824) (hq:-9223372036854775808<=q/\q<=9223372036854775807):AY n l q c=some (yD l q c):=by
  have hb:=gN hl
  refine eT ?_
  unfold AY TB yD
  simp only [WT.run,bR,UH hn hl hq,wM hn hl,BZ hn hq (show -9223372036854775808<=c/\c<=9223372036854775807 by omega),Option.bind_some]
  refine aT (λb=>b=false) (aD (aH (λk=>absurd k (by omega)) λ_=>aD (aF (decide_eq_false (by omega))))) λb hb2=>?_
  subst hb2
  refine bU (aT (λb=>b=true↔((o9 l q).2.2≠0\/(o9 l q).1.length=0)) ?_ λb hb3=>eX (λz=>aF (by rw [if_pos (hb3.1 z)])) λz=>?_)
  · repeat' with_reducible first | refine bF ?_ | refine dP ?_ | apply aD | apply bE | apply dS | apply dI | apply dN | apply dR | apply dO | apply dL | apply dU | apply dQ | refine aH (λ_=>?_) λ_=>?_ | refine dG (λ_=>?_) λ_=>?_ | apply cO | apply bU | apply bY | apply bK | apply aF
    all_goals (simp only [true_iff,decide_eq_true_eq];omega)
  · have hz:¬ ((o9 l q).2.2≠0\/(o9 l q).1.length=0):=λy=>by rw [hb3.2 y] at z;cases z
    obtain ⟨t1,t2,t3⟩:=aI1 hl hq (λy=>hz (.inl y))
    obtain ⟨s1,s2,s3,s4,s5,s6,s7⟩:=t3
    have hm:=gN s1
    obtain ⟨b1,b2,b3⟩:=lV (o9 l q).2.1.bN
    have hv:=aBJ (q:=q) (c:=c) hl
    rw [if_neg hz]
    refine aT (λb=>b=true↔((md q c 1).2.2≠0\/(md q c 1).1>tV l)) ?_ λb hb4=>?_
    · exact aD (eX (λk=>aF ⟨λ_=>.inl (by simpa using k),λ_=>rfl⟩) λk=>aD (aF ⟨λw=>.inr (of_decide_eq_true w),λw=>decide_eq_true (w.resolve_left λz=>z (by simpa using k))⟩))
    · refine aT (λv=>v=v12 l q c) (eX (λy=>aF (by unfold v12;rw [if_pos (hb4.1 y)])) λy=>aF (by unfold v12;rw [if_neg λw=>by rw [hb4.2 w] at y;cases y])) λv hv2=>?_
      subst hv2
      exact bF (bF (bF (aF rfl)))
set_option maxRecDepth 1000000
theorem aWZ {p:aQ} {k q:Int} (h:(mP p k q).2≠0):(mP p k q).1=p:=by
  unfold mP at h ⊢
  split
  · rfl
  · split
    · rfl
    · rename_i a b;rw [if_neg a,if_neg b] at h;exact absurd rfl h
noncomputable def pY (m c:Int) (p:aQ) (q:Int):aQ×aB×Int :=
  if m=3 then GC p q else if m=4 then (⟨(yD p.aG q c).1,p.bH⟩,(yD p.aG q c).2.1,(yD p.aG q c).2.2) else (⟨(o9 p.aG q).1,p.bH⟩,(o9 p.aG q).2.1,(o9 p.aG q).2.2)
noncomputable def BK (m c:Int) (p:aQ) (k q:Int):aQ×aB×Bool×Int :=
  if m=3/\k≠3 then ((mP p k q).1,⟨0,0,0⟩,decide ((mP p k q).2=0),(mP p k q).2) else if (pY m c p q).2.2≠0 then (p,⟨0,0,0⟩,false,(pY m c p q).2.2) else ((pY m c p q).1,(pY m c p q).2.1,false,0)
noncomputable def yX (m c:Int) (p:aQ) (k q:Int):aQ×aB×Bool×Int:=if k<0\/k>3 then (p,⟨0,0,0⟩,false,1) else BK m c p k q
theorem aW5 {m c k q:Int} {p:aQ} {n:Nat} (hn:66<n) (h:PR m p) (hc:0<=c/\c<=1073741824) (hq:-9223372036854775808<=q/\q<=9223372036854775807):B9 n m c p k q=some (yX m c p k q):=by
  have hm:=h.mt
  refine eT ?_
  unfold B9 UN yX
  simp only [WT.run,bR]
  refine aT (λb=>b=true↔(k<0\/k>3)) ?_ λb hb=>eX (λz=>aF (by rw [if_pos (hb.1 z)])) λz=>?_
  · refine aD (aH (λ_=>aD (aH (λ_=>aD (aH (λk1=>aF ⟨λ_=>.inl k1,λ_=>rfl⟩) λk1=>aD (aF ⟨λq=>.inr (of_decide_eq_true q),λq=>decide_eq_true (q.resolve_left k1)⟩))) λy=>absurd hm.2 y)) λy=>absurd hm.1 y)
  have hb2:¬ (k<0\/k>3):=λy=>by rw [hb.2 y] at z;cases z
  rw [if_neg hb2]
  unfold BK
  refine aT (λ(r:(Int×aQ×aB)⊕(aQ×aB×Bool×Int))=>r=if m=3/\k≠3 then .inr ((mP p k q).1,⟨0,0,0⟩,decide ((mP p k q).2=0),(mP p k q).2) else .inl ((pY m c p q).2.2,(pY m c p q).1,(pY m c p q).2.1)) ?_ λr hr=>?_
  · unfold pY
    rcases MQ h with rfl | rfl | rfl | rfl
    · rw [if_neg (by simp)]
      exact aD (aH (λ_=>x_eq (Q6 hn h.ly hq) (bX rfl)) λk=>absurd rfl k)
    · rw [if_neg (by simp)]
      exact aD (aH (λk=>absurd k (by decide)) λ_=>aD (aH (λ_=>x_eq (UH hn h.ly hq) (bX rfl)) λk=>absurd rfl k))
    · refine aD (aH (λk=>absurd k (by decide)) λ_=>aD (aH (λk=>absurd k (by decide)) λ_=>aD (aH (λ_=>aD (aH (λy=>?_) λy=>?_)) λk=>absurd rfl k)))
      · rw [if_pos ⟨rfl,y⟩]
        exact x_eq (aWI hn h) (aD (bK (aF rfl)))
      · rw [if_neg (λw=>y w.2)]
        exact x_eq (aNW hn h hq) (bX rfl)
    · rw [if_neg (by simp)]
      exact aD (aH (λk=>absurd k (by decide)) λ_=>aD (aH (λk=>absurd k (by decide)) λ_=>aD (aH (λk=>absurd k (by decide)) λ_=>aD (aH (λ_=>x_eq (aSF hn h.ly hc hq) (bX rfl)) λk=>absurd rfl k))))
  · by_cases y:m=3/\k≠3
    · rw [if_pos y] at hr ⊢
      subst hr
      exact mG rfl
    · rw [if_neg y] at hr ⊢
      subst hr
      refine bY (bE (bE (aD (aH (λk=>aF ?_) λk=>aF ?_))))
      · rw [if_pos k]
      · rw [if_neg k]
theorem aMM {l:List aB} {q c:Int} {n:Nat} (hn:66<n) (hl:LR l) (h1:l.length<=1) (hc:0<=c/\c<=1073741824) (hq:-9223372036854775808<=q/\q<=9223372036854775807):JS n l q c=some (yD l q c):=by
  have hb:=gN hl
  refine eT ?_
  unfold JS aBE yD
  simp only [WT.run,bR,US hc,Option.bind_some]
  refine aD (bU ?_)
  refine aT (λ(r:Nat×Nat×aB×Int×List aB)=>r.1+r.2.1<=r.2.2.2.2.length/\win r.1 r.2.1 r.2.2.2.2=(o9 l q).1/\r.2.2.1=(o9 l q).2.1/\r.2.2.2.1=(o9 l q).2.2) ?_ λr hr=>?_
  · unfold o9
    refine aT (λ(r:Nat×Nat×aB×Int×List aB)=>r.1+r.2.1<=r.2.2.2.2.length/\win r.1 r.2.1 r.2.2.2.2=(o9 l q).1/\r.2.2.1=(o9 l q).2.1/\r.2.2.2.1=(o9 l q).2.2) ?_ λr hr=>bE (bE (bE (bE (aF hr))))
    unfold o9
    refine dF (aD (aH (λk1=>aF ?_) λk1=>x_eq (aFU hn hl (by omega)) ?_))
    · rw [if_pos k1];exact ⟨by simp,by simp [win],rfl,rfl⟩
    rw [if_neg k1]
    by_cases k2:q<=tQ l
    · rw [if_neg (by omega),decide_eq_true k2]
      refine aD (bU (aT _ (aBY hn hl (by omega)) λr hr=>bE (bE (bE (aF ⟨hr.1,hr.2.1,hr.2.2,rfl⟩)))))
    · rw [if_pos (by omega),decide_eq_false k2]
      exact aD (cO (aF ⟨by simp,by simp [win],rfl,rfl⟩))
  · obtain ⟨a,b,o,e,L⟩:=r
    obtain ⟨w1,w2,w3,w4⟩:=hr
    simp only at w1 w2 w3 w4
    have wl:=aFK w1
    rw [w2] at wl
    refine bE (bE (bE (bE (aT (λz=>z=true↔((o9 l q).2.2≠0\/(o9 l q).1.length=0)) (aD (aH (λk=>aF ⟨λ_=>.inl (by rw [<- w4];exact k),λ_=>rfl⟩) λk=>aD (aF ?_))) λz hz=>eX (λy=>?_) λy=>?_))))
    · show decide (((b:Nat):Int)=0)=true↔_
      have k:¬ e≠0:=k
      rw [decide_eq_true_eq,wl,<- w4]
      exact ⟨λy=>.inr (by omega),λy=>by rcases y with y | y <;> first | exact absurd y k | omega⟩
    · rw [if_pos (hz.1 y)]
      exact iF w1 (aF (by rw [show (L.drop a).take b=win a b L from rfl,w2,w3,w4]))
    · have hz2:¬ ((o9 l q).2.2≠0\/(o9 l q).1.length=0):=λw=>by rw [hz.2 w] at y;cases y
      rw [if_neg hz2]
      obtain ⟨t1,t2,t3⟩:=aI1 hl hq (λy=>hz2 (.inl y))
      have hlen:=aEB l q
      obtain rfl:b=1:=by omega
      have hx:=List.getElem?_eq_getElem (l:=L) (i:=a) (by omega)
      have hv:=aBJ (q:=q) (c:=c) hl
      obtain ⟨s1,s2,s3,s4,s5,s6,s7⟩:=t3
      have hm:=gN s1
      have e1:(o9 l q).1=[L[a]]:=by rw [<- w2,UU hx];simp [win]
      simp only [e1,tQ,tV,tP,tS] at s2 s3 s4 s5 s6 s7 hm
      rw [<- w3] at *
      have ea:((a:Int)+0).toNat=a:=by omega
      refine x_eq (TX hn hc t1 hq.2) (dF (bW (a:=L[a]) (by omega) (by rw [ea];exact hx) (bF ?_)))
      refine aT (λb=>b=true↔((md q c 1).2.2≠0\/(md q c 1).1>tV l)) ?_ λb hb4=>?_
      · have e5:L[a].Value+o.Value=tV l:=by omega
        rw [e5]
        exact aD (aH (λk=>aF ⟨λ_=>.inl k,λ_=>rfl⟩) λk=>aD (aF ⟨λq=>.inr (of_decide_eq_true q),λq=>decide_eq_true (q.resolve_left k)⟩))
      · refine aT (λv=>v=v12 l q c) (eX (λy=>aF (by unfold v12;rw [if_pos (hb4.1 y)];simp only;omega)) λy=>aF (by unfold v12;rw [if_neg λw=>by rw [hb4.2 w] at y;cases y])) λv hv2=>?_
        subst hv2
        refine dF (bF (bF (dF (aD (dF (aF ?_))))))
        rw [ea]
        show (win a 1 (L.set a _),_,_)=_
        rw [UZ (by omega)]
        simp only [win,List.take_zero]
        congr 2
        · congr 1 <;> omega
theorem aV1 {m c k q:Int} {p:aQ} {n:Nat} (hn:66<n) (h:PR m p) (hc:0<=c/\c<=1073741824) (hq:-9223372036854775808<=q/\q<=9223372036854775807):IB n m c p k q=some (yX m c p k q):=by
  have hl:=lQ h.ly
  have ho:=aH3 (p:=p) (by omega)
  refine eT ?_
  unfold IB Y0 yX
  have e:(k<0\/k>3)↔(decide (k<0) || decide (k>3))=true:=by simp
  simp only [e]
  generalize decide (k<0)=z1
  generalize decide (k>3)=z2
  rcases MQ h with rfl | rfl | rfl | rfl
  · simp only [WT.run,bR,p9o hn h.ly hq,wB,ho,Option.bind_some,bnd,decide_true,cond_true,wK,Sum.elim_inl,Sum.elim_inr,p2,if_true]
    cases z1 <;> cases z2 <;> simp only [Option.bind_some,cond_true,cond_false,Bool.or_false,Bool.or_true,Bool.false_or,Bool.true_or,if_true,if_false,Bool.false_eq_true]
    all_goals try exact aF rfl
    unfold BK pY
    simp only [show ((1:Int)=3)=False from by simp,show ((1:Int)=4)=False from by simp,false_and,if_false]
    exact aH (λk=>aF (by rw [if_pos k])) λk=>aF (by rw [if_neg k])
  · simp only [WT.run,bR,aBF hn h.ly hq,wB,ho,Option.bind_some,bnd,decide_true,cond_true,cond_false,wK,p2,if_true,if_false,Sum.elim_inl,Sum.elim_inr,show decide ((2:Int)=1)=false from rfl]
    cases z1 <;> cases z2 <;> simp only [Option.bind_some,cond_true,cond_false,Bool.or_false,Bool.or_true,Bool.false_or,Bool.true_or,if_true,if_false,Bool.false_eq_true]
    all_goals try exact aF rfl
    unfold BK pY
    simp only [show ((2:Int)=3)=False from by simp,show ((2:Int)=4)=False from by simp,false_and,if_false]
    exact aH (λk=>aF (by rw [if_pos k])) λk=>aF (by rw [if_neg k])
  · simp only [WT.run,bR,aNF hn h,aRC hn h hq,wB,ho,Option.bind_some,bnd,decide_true,cond_true,cond_false,wK,p2,if_true,if_false,Sum.elim_inl,Sum.elim_inr,show decide ((3:Int)=1)=false from rfl,show decide ((3:Int)=2)=false from rfl]
    cases z1 <;> cases z2 <;> simp only [Option.bind_some,cond_true,cond_false,Bool.or_false,Bool.or_true,Bool.false_or,Bool.true_or,if_true,if_false,Bool.false_eq_true]
    all_goals try exact aF rfl
    unfold BK pY
    by_cases y:k=3
    · rw [if_neg (λw=>w.2 y)]
      simp only [decide_eq_false (p:=k≠3) (λw=>w y),cond_false,Option.bind_some,if_true]
      exact aH (λk=>aF (by rw [if_pos k])) λk=>aF (by rw [if_neg k])
    · rw [if_pos ⟨rfl,y⟩]
      simp only [decide_eq_true (p:=k≠3) y,cond_true,Option.bind_some]
      exact aH (λk=>aF (by rw [aWZ k,decide_eq_false k])) λk=>aF (by have k:(mP p _ q).2=0:=Classical.not_not.1 k;rw [k];rfl)
  · have h1:=h.one (by decide)
    simp only [WT.run,bR,aMM hn h.ly h1 hc hq,wB,ho,Option.bind_some,bnd,decide_true,cond_true,cond_false,wK,p2,if_true,if_false,Sum.elim_inl,Sum.elim_inr,show decide ((4:Int)=1)=false from rfl,show decide ((4:Int)=2)=false from rfl,show decide ((4:Int)=3)=false from rfl]
    cases z1 <;> cases z2 <;> simp only [Option.bind_some,cond_true,cond_false,Bool.or_false,Bool.or_true,Bool.false_or,Bool.true_or,if_true,if_false,Bool.false_eq_true]
    all_goals try exact aF rfl
    unfold BK pY
    simp only [show ((4:Int)=3)=False from by simp,false_and,if_false,if_true]
    exact aH (λk=>aF (by rw [if_pos k])) λk=>aF (by rw [if_neg k])
end Go.Pv
