import Derived.Test.YtihfgehjjbnffaaGreatGB90
set_option linter.unusedVariables false
set_option linter.unusedSimpArgs false
namespace Go.Pv
open Go.Proofs
set_option maxRecDepth 100000
set_option maxHeartbeats 1000000
theorem NS {n:Nat} {a b c:Int} (hn:250<=n) (ha:dB a) (hb:dB b) (hc:dB c):Ex (λr=>(0<=a->0<=r/\r<=a)/\(a<=0->a<=r/\r<=0)) (oO n a b c):=by
  unfold oO VF;simp only [WT.run,bU]
  refine aB (λy=>y=false->1<=c/\0<=b/\b<=c/\gY a) ?_ λy hy=>cZ (λ_=>aF ⟨λh=>⟨Int.le_refl 0,h⟩,λh=>⟨h,Int.le_refl 0⟩⟩) λhy'=>?_
  · refine aD (aU (λ_=>aF λh=>by cases h) λk1=>aD (aU (λ_=>aF λh=>by cases h) λk2=>aD (aU (λ_=>aF λh=>by cases h) λk3=>x_eq (XK a) (aD (aF λh=>⟨by omega,by omega,by omega,by simpa using h⟩)))))
  · obtain ⟨h1,h2,h3,h4⟩:=hy hy'
    unfold gY at h4
    refine aD (aU (λ_=>aF ⟨λh=>⟨h,Int.le_refl a⟩,λh=>⟨Int.le_refl a,h⟩⟩) λ_=>aD (aU (λk=>aD ?_) λk=>?_))
    · have e:bA (0-a)=- a:=by rw [Int.zero_sub];exact wrap64 (by omega)
      rw [e]
      have hb2:=XP (a:=-a) (b:=b) (c:=c) (by omega) h2 h3
      refine x_eq (SX (by omega) (by omega) hb hc) (aD (aF ?_))
      have e2:bA (0-(md (-a) b c).1)=- (md (-a) b c).1:=by rw [Int.zero_sub];exact wrap64 (by omega)
      rw [e2]
      exact ⟨λh=>by omega,λh=>by omega⟩
    · have hb2:=XP (a:=a) (b:=b) (c:=c) (by omega) h2 h3
      refine x_eq (SX (by omega) ha hb hc) (aF ?_)
      exact ⟨λh=>hb2,λh=>by omega⟩
theorem VN (x:aM) (l:List aM):lQ (x :: l)=x.aS+lQ l:=rfl
theorem R8 (x:aM) (l:List aM):lV (x :: l)=x.Value+lV l:=rfl
theorem aE6 (x:aM) (l:List aM):lP (x :: l)=x.bE+lP l:=rfl
theorem aCY (x:aM) (l:List aM):lA (x :: l)=x.bE.natAbs+lA l:=rfl
theorem nJ:∀ {l:List aM},(∀ x∈l,1<=x.aS/\0<=x.Value)->0<=lQ l/\0<=lV l
  | [],_=>by simp [lQ,lV,sI]
  | x :: l,h=>by
    have h1:=nJ (l:=l) λy hy=>h y (List.mem_cons_of_mem _ hy)
    have h2:=h x (List.mem_cons_self ..)
    rw [VN,R8];omega
theorem BA (l:List aM):0<=lA l:=GM _
theorem win {l:List aM} {a c:Nat} {x:aM} (hc:0<c) (hx:l[a]?=some x):(l.drop a).take c=x :: (l.drop (a+1)).take (c-1):=by
  obtain ⟨c,rfl⟩:∃ k,c=k+1:=⟨c-1,by omega⟩
  rw [(U9 hx).2];rfl
def NP (l:List aM):Prop:=∀ x∈l,0<=x.bE
structure OI (l:List aM) (q:Int) (w:List aM) (acc:aM) (q':Int):Prop where
  ok:∀ x∈w,1<=x.aS/\0<=x.Value
  q0:0<=q'
  a0:0<=acc.aS
  q:q'+acc.aS=q
  v0:0<=acc.Value
  sq:lQ w+acc.aS=lQ l
  sv:lV w+acc.Value=lV l
  sp:lP w+acc.bE=lP l
  sa:lA w+acc.bE.natAbs<=lA l
  np:NP l->NP w/\0<=acc.bE
theorem aOH {n:Nat} {l:List aM} {q:Int} (hn:250<=n) (h:LB l) (hq:dB q):Ex (λr=>r.2.2=0->LB r.1/\1<=q/\OI l q r.1 r.2.1 0) (xX n l q):=by
  have h1:=h.len
  unfold dB at hq
  unfold xX US;simp only [WT.run,bU]
  refine dI (aD (aU (λ_=>aF λh=>absurd h (show ¬ (1:Int)=0 by decide)) λhq1=>aB _ (aMR ⟨by omega,hn⟩ (by omega) h.ok) λb hb=>aD (iK (λ_=>aF λh=>absurd h (show ¬ (5:Int)=0 by decide)) λhb'=>?_)))
  have hqQ:=hb hb'
  have hnn:=nJ h.ok
  refine aB (λv=>v.1+v.2.1<=v.2.2.1.length/\v.2.2.1.length<=30/\∃ q',OI l q ((v.2.2.1.drop v.1).take v.2.1) v.2.2.2 q'/\(v.2.1=0\/q'=0)) (qG (λv=>v.1+v.2.1<=v.2.2.2.1.length/\v.2.2.2.1.length<=30/\OI l q ((v.2.2.2.1.drop v.1).take v.2.1) v.2.2.2.2 v.2.2.1) (λv=>if v.2.2.1>0 then v.2.1+1 else 0) ?_ ⟨by simp,h1,?_⟩ (by simp only;split <;> omega)) λv hv=>?_
  · rintro ⟨a,c,q',l',acc⟩ ⟨hi,hl',hI⟩
    simp only at hi hl' hI
    simp only [p2]
    refine aB (λy=>(y=true->0<c/\0<q')/\(y=false->c=0\/q'<=0)) ?_ λy hy=>cZ (λht=>?_) λhf=>bZ (aF ⟨hi,hl',q',hI,(hy.2 hf).imp id λk=>by have:=hI.q0;omega⟩)
    · refine aD (aU (λh=>aD (aF ⟨λh'=>⟨by omega,of_decide_eq_true h'⟩,λh'=>.inr (by have:=of_decide_eq_false h';omega)⟩)) λ_=>aF ⟨(λh=>by cases h),λ_=>.inl (by omega)⟩)
    obtain ⟨hc,hq0⟩:=hy.1 ht
    refine dI (bP (by omega) (by omega) λx hx=>?_)
    rw [show ((a:Int)+0).toNat=a by omega] at hx
    have hw:=win hc hx
    rw [hw] at hI
    have hx2:=hI.ok x (List.mem_cons_self ..)
    have hok:∀ y∈(l'.drop (a+1)).take (c-1),1<=y.aS/\0<=y.Value:=λy hy=>hI.ok y (List.mem_cons_of_mem _ hy)
    have hr:=nJ hok
    have i1:=hI.q;have i2:=hI.sq;have i3:=hI.sv;have i4:=hI.sp;have i5:=hI.sa;have i6:=hI.v0
    rw [VN] at i2;rw [R8] at i3;rw [aE6] at i4;rw [aCY] at i5
    have b1:=h.q;have b2:=h.v;have b3:=h.a
    have hra:=BA ((l'.drop (a+1)).take (c-1))
    have hae:=hI.a0
    refine aD (aB (λy=>y.1+y.2.1<=y.2.2.1.length/\y.2.2.1.length<=30/\y.2.2.2.aS<=q'/\1<=y.2.2.2.aS/\OI l q ((y.2.2.1.drop y.1).take y.2.1) ⟨acc.aS+y.2.2.2.aS,acc.Value+y.2.2.2.Value,acc.bE+y.2.2.2.bE⟩ (q' - y.2.2.2.aS)/\(y.2.1+1=c\/y.2.1=c/\y.2.2.2.aS=q')/\0<=y.2.2.2.Value/\y.2.2.2.Value<=288230376151711744/\(y.2.2.2.bE.natAbs:Int)<=x.bE.natAbs) (aU (λhb=>?_) λhb=>?_) λy hy=>?_)
    · refine aB _ (NS hn (a:=x.Value) (b:=q') (c:=x.aS) (by unfold dB;omega) (by unfold dB;omega) (by unfold dB;omega)) λv1 p1=>aB _ (NS hn (a:=x.bE) (b:=q') (c:=x.aS) (by unfold dB;omega) (by unfold dB;omega) (by unfold dB;omega)) λv2 p2=>dI (aD (dI (aD (dI (aD (dI (aD (dI (aD (dI (aD (aF ?_))))))))))))
      have p1':=p1.1 hx2.2
      have p2':(v2.natAbs:Int)+(x.bE-v2).natAbs=x.bE.natAbs:=by
        rcases Int.le_total 0 x.bE with k | k
        · have:=p2.1 k;omega
        · have:=p2.2 k;omega
      have e1:bA (x.aS-q')=x.aS-q':=wrap64 (by omega)
      have e2:bA (x.Value-v1)=x.Value-v1:=wrap64 (by omega)
      have e3:bA (x.bE-v2)=x.bE-v2:=wrap64 (by omega)
      have hs:(((l'.set ((a:Int)+0).toNat ⟨x.aS-q',x.Value,x.bE⟩).set ((a:Int)+0).toNat ⟨x.aS-q',x.Value-v1,x.bE⟩).set ((a:Int)+0).toNat (⟨x.aS-q',x.Value-v1,x.bE-v2⟩:aM))=l'.set a ⟨x.aS-q',x.Value-v1,x.bE-v2⟩:=by
        rw [show ((a:Int)+0).toNat=a by omega,List.set_set,List.set_set]
      simp only [e1,e2,e3,hs]
      have hx3:(l'.set a ⟨x.aS-q',x.Value-v1,x.bE-v2⟩)[a]?=some (⟨x.aS-q',x.Value-v1,x.bE-v2⟩:aM):=by
        rw [List.getElem?_set];simp [show a<l'.length by omega]
      have hw3:=win hc hx3
      rw [List.drop_set_of_lt (show a<a+1 by omega)] at hw3
      refine ⟨by simp;exact hi,by simp;exact hl',Int.le_refl _,by omega,?_,.inr (by simp),p1'.1,by omega,by omega⟩
      rw [hw3]
      refine ⟨λy hy=>?_,by omega,by simp only;omega,by simp only;omega,by simp only;omega,by rw [VN];simp only;omega,by rw [R8];simp only;omega,by rw [aE6];simp only;omega,by rw [aCY];simp only;omega,λhn=>⟨λy hy=>?_,?_⟩⟩
      · rcases List.mem_cons.1 hy with rfl | hy
        · simp only;omega
        · exact hok y hy
      · obtain ⟨g1,g2⟩:=hI.np hn
        rcases List.mem_cons.1 hy with rfl | hy
        · have:=g1 x (List.mem_cons_self ..);have:=p2.1 this;simp only;omega
        · exact g1 y (List.mem_cons_of_mem _ hy)
      · obtain ⟨g1,g2⟩:=hI.np hn
        have:=g1 x (List.mem_cons_self ..);have:=p2.1 this;simp only;omega
    · refine dI (aD (aF ⟨?_,hl',by simp only;omega,by simp only;omega,?_,.inl ?_,hx2.2,by simp only;omega,Int.le_refl _⟩))
      · simp only;split <;> omega
      · have hwin:((l'.drop (if (c:Int).toNat=1 then a else a+1)).take ((c:Int).toNat-1))=(l'.drop (a+1)).take (c-1):=by
          rw [show (c:Int).toNat=c by omega]
          split
          · rename_i k;subst k;simp
          · rfl
        simp only [hwin]
        exact ⟨hok,by omega,by simp only;omega,by simp only;omega,by simp only;omega,by simp only;omega,by simp only;omega,by simp only;omega,by simp only;omega,λhn=>⟨λy hy=>(hI.np hn).1 y (List.mem_cons_of_mem _ hy),by have h1:=(hI.np hn).1 x (List.mem_cons_self ..);have h2:=(hI.np hn).2;simp only;omega⟩⟩
      · simp only;omega
    · obtain ⟨a',c',l2,x2⟩:=y
      obtain ⟨k1,k2,k3,k4,k5,k6,k7,k8,k9⟩:=hy
      simp only at k1 k2 k3 k4 k5 k6 k7 k8 k9
      have j1:=k5.q;have j2:=k5.sq;have j3:=k5.sv;have j4:=k5.sp;have j5:=k5.sa;have j6:=k5.q0;have j9:=k5.a0;have j7:=nJ k5.ok;have j8:=BA ((l2.drop a').take c')
      simp only at j1 j2 j3 j4 j5 j6 j9
      have e1:bA (acc.aS+x2.aS)=acc.aS+x2.aS:=wrap64 (by omega)
      have e2:bA (acc.Value+x2.Value)=acc.Value+x2.Value:=wrap64 (by omega)
      have e3:bA (acc.bE+x2.bE)=acc.bE+x2.bE:=wrap64 (by omega)
      have e4:bA (q' - x2.aS)=q' - x2.aS:=wrap64 (by omega)
      refine aD (aD (aD (aD (bM ⟨⟨k1,k2,?_⟩,?_⟩))))
      · simp only [e1,e2,e3,e4];exact k5
      · simp only
        rw [if_pos hq0,e4]
        rcases k6 with k6 | ⟨k6,k7⟩
        · split <;> omega
        · rw [k7,if_neg (by rw [Int.sub_self];decide)];omega
  · simp only [List.drop_zero,List.take_length]
    exact ⟨h.ok,by omega,by simp,by simp only;omega,by simp,by simp only;omega,by simp only;omega,by simp only;omega,by simp,λhn=>⟨hn,Int.le_refl 0⟩⟩
  · obtain ⟨a,c,l',acc⟩:=v
    obtain ⟨k1,k2,q',k3,k4⟩:=hv
    simp only [p2] at k1 k2 k3 k4 ⊢
    refine gU k1 (aF λ_=>?_)
    have j2:=k3.sq;have j3:=k3.sv;have j5:=k3.sa;have j7:=nJ k3.ok;have j8:=k3.v0;have j1:=k3.q;have j0:=k3.q0;have j9:=k3.a0
    have b1:=h.q;have b2:=h.v;have b3:=h.a
    have hq':q'=0:=by
      rcases k4 with k4 | k4
      · subst k4
        rw [List.take_zero] at j2
        have:lQ ([]:List aM)=0:=rfl
        omega
      · exact k4
    subst hq'
    refine ⟨⟨by simp only [List.length_take,List.length_drop];omega,k3.ok,by simp only;omega,by simp only;omega,by simp only;omega⟩,by omega,k3⟩
theorem SL (a b:List aM):lQ (a++b)=lQ a+lQ b:=by unfold lQ;rw [List.map_append,sD]
theorem aDM (a b:List aM):lV (a++b)=lV a+lV b:=by unfold lV;rw [List.map_append,sD]
theorem aBO (a b:List aM):lP (a++b)=lP a+lP b:=by unfold lP;rw [List.map_append,sD]
theorem aBQ (a b:List aM):lA (a++b)=lA a+lA b:=by unfold lA;rw [List.map_append,E5]
theorem l1 (x:aM):lQ [x]=x.aS/\lV [x]=x.Value/\lP [x]=x.bE/\lA [x]=x.bE.natAbs:=⟨by simp [lQ,sI],by simp [lV,sI],by simp [lP,sI],by simp [lA,eT]⟩
theorem VT (l:List aM):((lP l).natAbs:Int)<=lA l:=NE _
theorem pR {α:Type} {P Q:α->Prop} {D:Option α} (h:Ex P D) (k:Ex Q D):Ex (λr=>P r/\Q r) D:=by
  obtain ⟨r,e,p⟩:=h
  exact ⟨r,e,p,aO1 k e⟩
structure oI (l:List aM) (x:aM) (r:List aM):Prop where
  b:LB r
  q:lQ r=lQ l+x.aS
  v:lV r=lV l+x.Value
  p:lP r=lP l+x.bE
  a:lA r<=lA l+x.bE.natAbs
  x1:1<=x.aS
  x2:0<=x.Value
  e:l=[]->r=[x]
  np:NP l->0<=x.bE->NP r
structure nV (l:List aM) (k:Int) (r:List aM) (x:aM):Prop where
  b:LB r
  k1:1<=k
  xq:x.aS=k
  x2:0<=x.Value
  q:lQ r+x.aS=lQ l
  v:lV r+x.Value=lV l
  p:lP r+x.bE=lP l
  a:lA r+x.bE.natAbs<=lA l
  np:NP l->NP r/\0<=x.bE
theorem NP.app {l:List aM} {x:aM} (h:NP l) (hx:0<=x.bE):NP (l++[x]):=λy hy=>by
  rcases List.mem_append.1 hy with hy | hy
  · exact h y hy
  · rw [List.mem_singleton.1 hy];exact hx
theorem NP.tot {l:List aM} (h:NP l):NP [Go.Pv.tot l]:=λy hy=>by
  rw [List.mem_singleton.1 hy]
  show 0<=sI (l.map aM.bE)
  have:∀ m:List aM,NP m->0<=sI (m.map aM.bE):=by
    intro m
    induction m with
    | nil=>intro _;simp [sI]
    | cons z m ih=>intro hm;have h1:=ih λw hw=>hm w (List.mem_cons_of_mem _ hw);have h2:=hm z (List.mem_cons_self ..);simp only [List.map_cons,sI];omega
  exact this l h
theorem LB.last {l:List aM} {x:aM} (h:LB (l++[x])):1<=x.aS/\0<=x.Value:=h.ok x (by simp)
theorem aUQ {n:Nat} {l:List aM} {x:aM} (hn:250<=n) (hl:l.length<=30):Ex (λr=>r.2=0->oI l x r.1) (xK n l x) :=
  nR (aGF hn hl) λr hr h=>by
    obtain ⟨e,hb⟩:=hr h
    have hx:=hb.last
    rw [e]
    refine ⟨hb,by rw [SL,(l1 x).1],by rw [aDM,(l1 x).2.1],by rw [aBO,(l1 x).2.2.1],by rw [aBQ,(l1 x).2.2.2];omega,hx.1,hx.2,λh=>by rw [h];rfl,λh k=>h.app k⟩
theorem LB.tot {l:List aM} {x:aM} (h:LB (l++[x])):LB [tot (l++[x])]:=by
  have hx:=h.last
  have h0:=nJ h.ok
  have h1:=nJ (l:=l) λy hy=>h.ok y (by simp [hy])
  have e:lQ (l++[x])=lQ l+x.aS:=by rw [SL,(l1 x).1]
  have h2:=h.q;have h3:=h.v;have h4:=h.a;have h5:=VT (l++[x])
  have k:=l1 (Go.Pv.tot (l++[x]))
  refine ⟨by simp,λy hy=>?_,by rw [k.1];exact h2,by rw [k.2.1];exact h3,by rw [k.2.2.2];exact Int.le_trans h5 h4⟩
  rw [List.mem_singleton.1 hy]
  exact ⟨by show 1<=lQ _;omega,h0.2⟩
theorem aUV (x:aM):tot [x]=x:=by
  unfold tot;rw [(l1 x).1,(l1 x).2.1,(l1 x).2.2.1]
theorem YO {n:Nat} {l:List aM} {x:aM} (hn:250<=n) (h:LQ l) (hx:RL x):Ex (λr=>r.2=0->oI l x r.1) (xH n l x):=by
  have h1:=h.1
  unfold xH PI;simp only [WT.run,bU,Option.bind_some]
  refine aB (λr=>LQ r.1/\(r.2=0->r.1=l++[x]/\LB (l++[x]))) ?_ λr hr=>aD (aU (λk=>aF λh=>absurd h k) λk=>aB _ (VK (hr.1.fuel hn)) λt ht=>aD (aU (λk=>dI (aF λh=>absurd h k)) λk2=>aF λ_=>?_))
  · exact pR (R3 hn h hx) (aGF hn h1)
  · obtain ⟨e,hb⟩:=hr.2 (Classical.not_not.1 k)
    have e2:=(ht.1 (Classical.not_not.1 k2)).1
    rw [e] at e2
    simp only [e2]
    have hb2:=hb.last
    have hk:=l1 (tot (l++[x]))
    refine ⟨hb.tot,?_,?_,?_,?_,hb2.1,hb2.2,λh=>by rw [h];exact congrArg (λz=>[z]) (aUV x),λh k=>(h.app k).tot⟩
    · rw [hk.1];show lQ _=_;rw [SL,(l1 x).1]
    · rw [hk.2.1];show lV _=_;rw [aDM,(l1 x).2.1]
    · rw [hk.2.2.1];show lP _=_;rw [aBO,(l1 x).2.2.1]
    · rw [hk.2.2.2];have:=VT (l++[x]);rw [aBQ,(l1 x).2.2.2] at this;exact this
theorem aC9 {n:Nat} {l:List aM} {q:Int} (hn:250<=n) (h:LB l) (hq:dB q):Ex (λr=>r.2.2=0->nV l q r.1 r.2.1) (xX n l q) :=
  nR (aOH hn h hq) λr hr h=>by
    obtain ⟨h1,h2,h3⟩:=hr h
    have:=h3.q
    exact ⟨h1,h2,by omega,h3.v0,h3.sq,h3.sv,h3.sp,h3.sa,h3.np⟩
theorem aQU {n:Nat} {l:List aM} {q:Int} (hn:250<=n) (h:LB l) (hq:dB q):Ex (λr=>r.2.2=0->nV l q r.1 r.2.1) (uW n l q):=by
  unfold uW VY;simp only [WT.run,bU,Option.bind_some]
  exact aB _ (aC9 hn h hq) λr hr=>aF hr
theorem aND {p:aT} {l:List aM} (h:l.length<=30):rM p l=some ⟨l,p.bR⟩:=by
  refine kG ?_
  unfold rM VZ;simp only [WT.run,bU]
  exact dI (aF rfl)
theorem JG {p:aT} {l:List aM}:sZ p l=some ⟨l,p.bR⟩:=by
  refine kG ?_
  unfold sZ VH;simp only [WT.run,bU]
  exact aF rfl
theorem aGJ {p:aT} (hp:p.bJ.length<=30):mH p=some p:=by
  refine kG ?_
  unfold mH OH;simp only [WT.run,bU]
  exact dI (aF rfl)
theorem aU5 {n:Nat} {p:aT} {x:aM} (hn:250<=n) (hp:iJ p) (hx:RL x):Ex (λr=>r.2=0->oI p.bJ x r.1.bJ/\r.1.bR=p.bR) (BO n p x):=by
  unfold BO V6;simp only [WT.run,bU]
  refine aB (λr=>LQ r.1/\(r.2=0->oI p.bJ x r.1)) ?_ λr hr=>x_eq (aND hr.1.1) (aF λh=>⟨hr.2 h,rfl⟩)
  exact pR (IW hn hp.1 hx) (YO hn hp.1 hx)
def M3 (m:Int):Prop:=m=1\/m=2\/m=3
theorem aU8 {n:Nat} {m c:Int} {p:aT} {x:aM} (hn:250<=n) (hm:M3 m) (hp:iJ p) (hx:RL x):Ex (λr=>r.2.2=0->oI p.bJ x r.1.bJ/\r.1.bR=p.bR/\r.2.1=0) (z8 n m c p x):=by
  have hl:=hp.1.1
  unfold z8 O4;simp only [WT.run,bU]
  refine aB (λy=>match y with | .inl _=>True | .inr (.inl _)=>True | .inr (.inr (.inl _))=>True | _=>False) ?_ λy hy=>?_
  · exact aD (aU (λ_=>aF trivial) λk1=>aD (aU (λ_=>aF trivial) λk2=>aD (aU (λ_=>aF trivial) λk3=>(by unfold M3 at hm;omega))))
  have own:∀ e:Int,e≠0->Ex (λr:aT×Int×Int=>r.2.2=0->oI p.bJ x r.1.bJ/\r.1.bR=p.bR/\r.2.1=0) ((mH p).bind λx=>some (x,0,e)):=λe he=>x_eq (aGJ hl) (aF λh=>absurd h he)
  rcases y with u | u | u | u | u <;> simp only [Sum.elim,WT.run,bU]
  · exact aB (λr=>r.2=0->oI p.bJ x r.1.bJ/\r.1.bR=p.bR) (aB _ (aUQ hn hl) λr hr=>x_eq JG (aF λh=>⟨hr h,rfl⟩)) λr hr=>aD (aU (λk=>own _ k) λk=>aF λ_=>⟨(hr (Classical.not_not.1 k)).1,(hr (Classical.not_not.1 k)).2,rfl⟩)
  · exact aB (λr=>r.2=0->oI p.bJ x r.1.bJ/\r.1.bR=p.bR) (aB _ (YO hn hp.1 hx) λr hr=>x_eq JG (aF λh=>⟨hr h,rfl⟩)) λr hr=>aD (aU (λk=>own _ k) λk=>aF λ_=>⟨(hr (Classical.not_not.1 k)).1,(hr (Classical.not_not.1 k)).2,rfl⟩)
  · exact aB (λr=>r.2=0->oI p.bJ x r.1.bJ/\r.1.bR=p.bR) (aB _ (aU5 hn hp hx) λr hr=>aF λh=>hr h) λr hr=>aD (aU (λk=>own _ k) λk=>aF λ_=>⟨(hr (Classical.not_not.1 k)).1,(hr (Classical.not_not.1 k)).2,rfl⟩)
  · exact absurd hy id
  · exact absurd hy id
end Go.Pv
