import Derived.Test.YtfamehgkphejnaaGreatGB90
set_option linter.unusedVariables false
set_option linter.unusedSimpArgs false
namespace Go.Pv
open Go.Proofs
set_option maxRecDepth 100000
set_option maxHeartbeats 1000000
theorem a4K {n:Nat} {a b c:Int} (hn:250<=n) (ha:XE a) (hb:XE b) (hc:XE c):Ex (λr=>(0<=a->0<=r/\r<=a)/\(a<=0->a<=r/\r<=0)) (mX n a b c):=by
  unfold mX aMF;simp only [WT.run,O9]
  refine tF (λy=>y=false->1<=c/\0<=b/\b<=c/\InM a) ?_ λy hy=>aFQ (λ_=>aEV ⟨λh=>⟨Int.le_refl 0,h⟩,λh=>⟨h,Int.le_refl 0⟩⟩) λhy'=>?_
  · refine aL2 (aEY (λ_=>aEV λh=>by cases h) λk1=>aL2 (aEY (λ_=>aEV λh=>by cases h) λk2=>aL2 (aEY (λ_=>aEV λh=>by cases h) λk3=>x_eq (a9H a) (aL2 (aEV λh=>⟨by omega,by omega,by omega,by simpa using h⟩)))))
  · obtain ⟨h1,h2,h3,h4⟩:=hy hy'
    unfold InM at h4
    refine aL2 (aEY (λ_=>aEV ⟨λh=>⟨h,Int.le_refl a⟩,λh=>⟨Int.le_refl a,h⟩⟩) λ_=>aL2 (aEY (λk=>aL2 ?_) λk=>?_))
    · have e:aI (0-a)=- a:=by rw [Int.zero_sub];exact wrap64 (by omega)
      rw [e]
      have hb2:=a6U (a:=-a) (b:=b) (c:=c) (by omega) h2 h3
      refine x_eq (aXB (by omega) (by omega) hb hc) (aL2 (aEV ?_))
      have e2:aI (0-(md (-a) b c).1)=- (md (-a) b c).1:=by rw [Int.zero_sub];exact wrap64 (by omega)
      rw [e2]
      exact ⟨λh=>by omega,λh=>by omega⟩
    · have hb2:=a6U (a:=a) (b:=b) (c:=c) (by omega) h2 h3
      refine x_eq (aXB (by omega) ha hb hc) (aEV ?_)
      exact ⟨λh=>hb2,λh=>by omega⟩
theorem a6T (x:aB) (l:List aB):lQ (x :: l)=x.aQ+lQ l:=rfl
theorem a6I (x:aB) (l:List aB):lV (x :: l)=x.Value+lV l:=rfl
theorem a7X (x:aB) (l:List aB):lP (x :: l)=x.bO+lP l:=rfl
theorem a9A (x:aB) (l:List aB):lA (x :: l)=x.bO.natAbs+lA l:=rfl
theorem aX6:∀ {l:List aB},(∀ x∈l,1<=x.aQ/\0<=x.Value)->0<=lQ l/\0<=lV l
  | [],_=>by simp [lQ,lV,sI]
  | x :: l,h=>by
    have h1:=aX6 (l:=l) λy hy=>h y (List.mem_cons_of_mem _ hy)
    have h2:=h x (List.mem_cons_self ..)
    rw [a6T,a6I];omega
theorem a4U (l:List aB):0<=lA l:=a5Q _
theorem win {l:List aB} {a c:Nat} {x:aB} (hc:0<c) (hx:l[a]?=some x):(l.drop a).take c=x :: (l.drop (a+1)).take (c-1):=by
  obtain ⟨c,rfl⟩:∃ k,c=k+1:=⟨c-1,by omega⟩
  rw [(a6L hx).2];rfl
structure OI (l:List aB) (q:Int) (w:List aB) (acc:aB) (q':Int):Prop where
  ok:∀ x∈w,1<=x.aQ/\0<=x.Value
  q0:0<=q'
  a0:0<=acc.aQ
  q:q'+acc.aQ=q
  v0:0<=acc.Value
  sq:lQ w+acc.aQ=lQ l
  sv:lV w+acc.Value=lV l
  sp:lP w+acc.bO=lP l
  sa:lA w+acc.bO.natAbs<=lA l
theorem bA7 {n:Nat} {l:List aB} {q:Int} (hn:250<=n) (h:LB l) (hq:XE q):Ex (λr=>r.2.2=0->LB r.1/\1<=q/\OI l q r.1 r.2.1 0) (IU n l q):=by
  have h1:=h.len
  unfold XE at hq
  unfold IU aGD;simp only [WT.run,O9]
  refine x_a (aL2 (aEY (λ_=>aEV λh=>absurd h (show ¬ (1:Int)=0 by decide)) λhq1=>tF _ (bCI ⟨by omega,hn⟩ (by omega) h.ok) λb hb=>aL2 (aEW (λ_=>aEV λh=>absurd h (show ¬ (5:Int)=0 by decide)) λhb'=>?_)))
  have hqQ:=hb hb'
  have hnn:=aX6 h.ok
  refine tF (λv=>v.1+v.2.1<=v.2.2.1.length/\v.2.2.1.length<=30/\∃ q',OI l q ((v.2.2.1.drop v.1).take v.2.1) v.2.2.2 q'/\(v.2.1=0\/q'=0)) (aQJ (λv=>v.1+v.2.1<=v.2.2.2.1.length/\v.2.2.2.1.length<=30/\OI l q ((v.2.2.2.1.drop v.1).take v.2.1) v.2.2.2.2 v.2.2.1) (λv=>if v.2.2.1>0 then v.2.1+1 else 0) ?_ ⟨by simp,h1,?_⟩ (by simp only;split <;> omega)) λv hv=>?_
  · rintro ⟨a,c,q',l',acc⟩ ⟨hi,hl',hI⟩
    simp only at hi hl' hI
    simp only [p2]
    refine tF (λy=>(y=true->0<c/\0<q')/\(y=false->c=0\/q'<=0)) ?_ λy hy=>aFQ (λht=>?_) λhf=>aGQ (aEV ⟨hi,hl',q',hI,(hy.2 hf).imp id λk=>by have:=hI.q0;omega⟩)
    · refine aL2 (aEY (λh=>aL2 (aEV ⟨λh'=>⟨by omega,of_decide_eq_true h'⟩,λh'=>.inr (by have:=of_decide_eq_false h';omega)⟩)) λ_=>aEV ⟨(λh=>by cases h),λ_=>.inl (by omega)⟩)
    obtain ⟨hc,hq0⟩:=hy.1 ht
    refine x_a (ON (by omega) (by omega) λx hx=>?_)
    rw [show ((a:Int)+0).toNat=a by omega] at hx
    have hw:=win hc hx
    rw [hw] at hI
    have hx2:=hI.ok x (List.mem_cons_self ..)
    have hok:∀ y∈(l'.drop (a+1)).take (c-1),1<=y.aQ/\0<=y.Value:=λy hy=>hI.ok y (List.mem_cons_of_mem _ hy)
    have hr:=aX6 hok
    have i1:=hI.q;have i2:=hI.sq;have i3:=hI.sv;have i4:=hI.sp;have i5:=hI.sa;have i6:=hI.v0
    rw [a6T] at i2;rw [a6I] at i3;rw [a7X] at i4;rw [a9A] at i5
    have b1:=h.q;have b2:=h.v;have b3:=h.a
    have hra:=a4U ((l'.drop (a+1)).take (c-1))
    have hae:=hI.a0
    refine aL2 (tF (λy=>y.1+y.2.1<=y.2.2.1.length/\y.2.2.1.length<=30/\y.2.2.2.aQ<=q'/\1<=y.2.2.2.aQ/\OI l q ((y.2.2.1.drop y.1).take y.2.1) ⟨acc.aQ+y.2.2.2.aQ,acc.Value+y.2.2.2.Value,acc.bO+y.2.2.2.bO⟩ (q' - y.2.2.2.aQ)/\(y.2.1+1=c\/y.2.1=c/\y.2.2.2.aQ=q')/\0<=y.2.2.2.Value/\y.2.2.2.Value<=288230376151711744/\(y.2.2.2.bO.natAbs:Int)<=x.bO.natAbs) (aEY (λhb=>?_) λhb=>?_) λy hy=>?_)
    · refine tF _ (a4K hn (a:=x.Value) (b:=q') (c:=x.aQ) (by unfold XE;omega) (by unfold XE;omega) (by unfold XE;omega)) λv1 p1=>tF _ (a4K hn (a:=x.bO) (b:=q') (c:=x.aQ) (by unfold XE;omega) (by unfold XE;omega) (by unfold XE;omega)) λv2 p2=>x_a (aL2 (x_a (aL2 (x_a (aL2 (x_a (aL2 (x_a (aL2 (x_a (aL2 (aEV ?_))))))))))))
      have p1':=p1.1 hx2.2
      have p2':(v2.natAbs:Int)+(x.bO-v2).natAbs=x.bO.natAbs:=by
        rcases Int.le_total 0 x.bO with k | k
        · have:=p2.1 k;omega
        · have:=p2.2 k;omega
      have e1:aI (x.aQ-q')=x.aQ-q':=wrap64 (by omega)
      have e2:aI (x.Value-v1)=x.Value-v1:=wrap64 (by omega)
      have e3:aI (x.bO-v2)=x.bO-v2:=wrap64 (by omega)
      have hs:(((l'.set ((a:Int)+0).toNat ⟨x.aQ-q',x.Value,x.bO⟩).set ((a:Int)+0).toNat ⟨x.aQ-q',x.Value-v1,x.bO⟩).set ((a:Int)+0).toNat (⟨x.aQ-q',x.Value-v1,x.bO-v2⟩:aB))=l'.set a ⟨x.aQ-q',x.Value-v1,x.bO-v2⟩:=by
        rw [show ((a:Int)+0).toNat=a by omega,List.set_set,List.set_set]
      simp only [e1,e2,e3,hs]
      have hx3:(l'.set a ⟨x.aQ-q',x.Value-v1,x.bO-v2⟩)[a]?=some (⟨x.aQ-q',x.Value-v1,x.bO-v2⟩:aB):=by
        rw [List.getElem?_set];simp [show a<l'.length by omega]
      have hw3:=win hc hx3
      rw [List.drop_set_of_lt (show a<a+1 by omega)] at hw3
      refine ⟨by simp;exact hi,by simp;exact hl',Int.le_refl _,by omega,?_,.inr (by simp),p1'.1,by omega,by omega⟩
      rw [hw3]
      refine ⟨λy hy=>?_,by omega,by simp only;omega,by simp only;omega,by simp only;omega,by rw [a6T];simp only;omega,by rw [a6I];simp only;omega,by rw [a7X];simp only;omega,by rw [a9A];simp only;omega⟩
      rcases List.mem_cons.1 hy with rfl | hy
      · simp only;omega
      · exact hok y hy
    · refine x_a (aL2 (aEV ⟨?_,hl',by simp only;omega,by simp only;omega,?_,.inl ?_,hx2.2,by simp only;omega,Int.le_refl _⟩))
      · simp only;split <;> omega
      · have hwin:((l'.drop (if (c:Int).toNat=1 then a else a+1)).take ((c:Int).toNat-1))=(l'.drop (a+1)).take (c-1):=by
          rw [show (c:Int).toNat=c by omega]
          split
          · rename_i k;subst k;simp
          · rfl
        simp only [hwin]
        exact ⟨hok,by omega,by simp only;omega,by simp only;omega,by simp only;omega,by simp only;omega,by simp only;omega,by simp only;omega,by simp only;omega⟩
      · simp only;omega
    · obtain ⟨a',c',l2,x2⟩:=y
      obtain ⟨k1,k2,k3,k4,k5,k6,k7,k8,k9⟩:=hy
      simp only at k1 k2 k3 k4 k5 k6 k7 k8 k9
      have j1:=k5.q;have j2:=k5.sq;have j3:=k5.sv;have j4:=k5.sp;have j5:=k5.sa;have j6:=k5.q0;have j9:=k5.a0;have j7:=aX6 k5.ok;have j8:=a4U ((l2.drop a').take c')
      simp only at j1 j2 j3 j4 j5 j6 j9
      have e1:aI (acc.aQ+x2.aQ)=acc.aQ+x2.aQ:=wrap64 (by omega)
      have e2:aI (acc.Value+x2.Value)=acc.Value+x2.Value:=wrap64 (by omega)
      have e3:aI (acc.bO+x2.bO)=acc.bO+x2.bO:=wrap64 (by omega)
      have e4:aI (q' - x2.aQ)=q' - x2.aQ:=wrap64 (by omega)
      refine aL2 (aL2 (aL2 (aL2 (XC ⟨⟨k1,k2,?_⟩,?_⟩))))
      · simp only [e1,e2,e3,e4];exact k5
      · simp only
        rw [if_pos hq0,e4]
        rcases k6 with k6 | ⟨k6,k7⟩
        · split <;> omega
        · rw [k7,if_neg (by rw [Int.sub_self];decide)];omega
  · simp only [List.drop_zero,List.take_length]
    exact ⟨h.ok,by omega,by simp,by simp only;omega,by simp,by simp only;omega,by simp only;omega,by simp only;omega,by simp⟩
  · obtain ⟨a,c,l',acc⟩:=v
    obtain ⟨k1,k2,q',k3,k4⟩:=hv
    simp only [p2] at k1 k2 k3 k4 ⊢
    refine aL4 k1 (aEV λ_=>?_)
    have j2:=k3.sq;have j3:=k3.sv;have j5:=k3.sa;have j7:=aX6 k3.ok;have j8:=k3.v0;have j1:=k3.q;have j0:=k3.q0;have j9:=k3.a0
    have b1:=h.q;have b2:=h.v;have b3:=h.a
    have hq':q'=0:=by
      rcases k4 with k4 | k4
      · subst k4
        rw [List.take_zero] at j2
        have:lQ ([]:List aB)=0:=rfl
        omega
      · exact k4
    subst hq'
    refine ⟨⟨by simp only [List.length_take,List.length_drop];omega,k3.ok,by simp only;omega,by simp only;omega,by simp only;omega⟩,by omega,k3⟩
theorem a7Q (a b:List aB):lQ (a++b)=lQ a+lQ b:=by unfold lQ;rw [List.map_append,aV8]
theorem a9N (a b:List aB):lV (a++b)=lV a+lV b:=by unfold lV;rw [List.map_append,aV8]
theorem a8I (a b:List aB):lP (a++b)=lP a+lP b:=by unfold lP;rw [List.map_append,aV8]
theorem a8T (a b:List aB):lA (a++b)=lA a+lA b:=by unfold lA;rw [List.map_append,a7D]
theorem l1 (x:aB):lQ [x]=x.aQ/\lV [x]=x.Value/\lP [x]=x.bO/\lA [x]=x.bO.natAbs:=⟨by simp [lQ,sI],by simp [lV,sI],by simp [lP,sI],by simp [lA,sAb]⟩
theorem a7C (l:List aB):((lP l).natAbs:Int)<=lA l:=a7O _
theorem aUT {α:Type} {P Q:α->Prop} {D:Option α} (h:Ex P D) (k:Ex Q D):Ex (λr=>P r/\Q r) D:=by
  obtain ⟨r,e,p⟩:=h
  exact ⟨r,e,p,aW4 k e⟩
structure InR (l:List aB) (x:aB) (r:List aB):Prop where
  b:LB r
  q:lQ r=lQ l+x.aQ
  v:lV r=lV l+x.Value
  p:lP r=lP l+x.bO
  a:lA r<=lA l+x.bO.natAbs
  x1:1<=x.aQ
  x2:0<=x.Value
  e:l=[]->r=[x]
structure a1R (l:List aB) (k:Int) (r:List aB) (x:aB):Prop where
  b:LB r
  k1:1<=k
  xq:x.aQ=k
  x2:0<=x.Value
  q:lQ r+x.aQ=lQ l
  v:lV r+x.Value=lV l
  p:lP r+x.bO=lP l
  a:lA r+x.bO.natAbs<=lA l
theorem LB.last {l:List aB} {x:aB} (h:LB (l++[x])):1<=x.aQ/\0<=x.Value:=h.ok x (by simp)
theorem LB.tot {l:List aB} {x:aB} (h:LB (l++[x])):LB [tot (l++[x])]:=by
  have hx:=h.last
  have h0:=aX6 h.ok
  have h1:=aX6 (l:=l) λy hy=>h.ok y (by simp [hy])
  have e:lQ (l++[x])=lQ l+x.aQ:=by rw [a7Q,(l1 x).1]
  have h2:=h.q;have h3:=h.v;have h4:=h.a;have h5:=a7C (l++[x])
  have k:=l1 (Go.Pv.tot (l++[x]))
  refine ⟨by simp,λy hy=>?_,by rw [k.1];exact h2,by rw [k.2.1];exact h3,by rw [k.2.2.2];exact Int.le_trans h5 h4⟩
  rw [List.mem_singleton.1 hy]
  exact ⟨by show 1<=lQ _;omega,h0.2⟩
theorem bHM (x:aB):tot [x]=x:=by
  unfold tot;rw [(l1 x).1,(l1 x).2.1,(l1 x).2.2.1]
theorem a9G {n:Nat} {l:List aB} {q:Int} (hn:250<=n) (h:LB l) (hq:XE q):Ex (λr=>r.2.2=0->a1R l q r.1 r.2.1) (IU n l q) :=
  aS9 (bA7 hn h hq) λr hr h=>by
    obtain ⟨h1,h2,h3⟩:=hr h
    have:=h3.q
    exact ⟨h1,h2,by omega,h3.v0,h3.sq,h3.sv,h3.sp,h3.sa⟩
theorem a5E {p:aM} {l:List aB}:rX p l=some ⟨l,p.bF⟩:=by
  refine aQX ?_
  unfold rX aM7;simp only [WT.run,O9]
  exact aEV rfl
def M3 (m:Int):Prop:=m=1\/m=2\/m=3
theorem aYI {α:Type} (f:α->Int):∀ {l:List α} {i:Nat} {x y:α},l[i]?=some x->sI ((l.set i y).map f)=sI (l.map f)-f x+f y
  | [],_,_,_,h=>by simp at h
  | a :: l,0,x,y,h=>by
    simp only [List.getElem?_cons_zero,Option.some.injEq] at h
    subst h;simp only [List.set,List.map_cons,sI];omega
  | a :: l,i+1,x,y,h=>by
    simp only [List.getElem?_cons_succ] at h
    have:=aYI f (l:=l) (y:=y) h
    simp only [List.set,List.map_cons,sI,this];omega
theorem a6K {α:Type} (f:α->Int):∀ {l:List α} {i:Nat} {x y:α},l[i]?=some x->sAb ((l.set i y).map f)=sAb (l.map f)-(f x).natAbs+(f y).natAbs
  | [],_,_,_,h=>by simp at h
  | a :: l,0,x,y,h=>by
    simp only [List.getElem?_cons_zero,Option.some.injEq] at h
    subst h;simp only [List.set,List.map_cons,sAb];omega
  | a :: l,i+1,x,y,h=>by
    simp only [List.getElem?_cons_succ] at h
    have:=a6K f (l:=l) (y:=y) h
    simp only [List.set,List.map_cons,sAb,this];omega
structure RI (p0 l:List aB) (v0 left i:Int):Prop where
  len:l.length=p0.length
  lq:LQ l
  q:lQ l=lQ p0
  p:lP l=lP p0
  a:lA l=lA p0
  v:lV l+left=lV p0+v0
  lo:-(i*288230376151711744)<=left
  hi:left<=288230376151711744
  fin:i=p0.length->left=0
def fQ (p:aM):Int:=lQ p.cO
def fV (p:aM):Int:=lV p.cO
def fP (p:aM):Int:=lP p.cO
def fA (p:aM):Int:=lA p.cO
def eS (f:aM->Int) (x:aP):Int:=sI (x.dD.map f)
def gS (f:aM->Int) (s:aA):Int:=sI (s.aW.map (eS f))
def rL (x:aP):Int:=match x.dI with | r :: _=>r.iV | []=>0
def gL (s:aA):Int:=sI (s.aW.map rL)
def gX (x:aP):List Int×Nat:=(x.Down,x.dD.length)
theorem a99 {α β:Type} (f:α->β):∀ {l:List α} {i:Nat} {x y:α},l[i]?=some y->f x=f y->(l.set i x).map f=l.map f
  | [],_,_,_,h,_=>by simp at h
  | a :: l,0,x,y,h,e=>by
    simp only [List.getElem?_cons_zero,Option.some.injEq] at h
    subst h;simp only [List.set,List.map_cons,e]
  | a :: l,i+1,x,y,h,e=>by
    simp only [List.getElem?_cons_succ] at h
    simp only [List.set,List.map_cons,a99 f h e]
def LBs (s:aA):Prop:=∀ x∈s.aW,∀ p∈x.dD,LB p.cO
structure Mv (s t:aA) (q v p a d:Int):Prop where
  k:SK s t
  q:gS fQ t=gS fQ s+q
  v:gS fV t=gS fV s+v
  p:gS fP t=gS fP s+p
  a:gS fA t<=gS fA s+a
  l:gL t=gL s+d
  b:LBs t
  g:t.aW.map gX=s.aW.map gX
theorem Mv.trans {s t u:aA} {q v p a d q' v' p' a' d':Int} (h:Mv s t q v p a d) (k:Mv t u q' v' p' a' d'):Mv s u (q+q') (v+v') (p+p') (a+a') (d+d') :=
  ⟨h.k.trans k.k,by have:=h.q;have:=k.q;omega,by have:=h.v;have:=k.v;omega,by have:=h.p;have:=k.p;omega,by have:=h.a;have:=k.a;omega,by have:=h.l;have:=k.l;omega,k.b,k.g.trans h.g⟩
theorem Mv.to {s t:aA} {q v p a d q' v' p' a' d':Int} (h:Mv s t q v p a d) (h1:q=q') (h2:v=v') (h3:p=p') (h4:a<=a') (h5:d=d'):Mv s t q' v' p' a' d' :=
  ⟨h.k,by have:=h.q;omega,by have:=h.v;omega,by have:=h.p;omega,by have:=h.a;omega,by have:=h.l;omega,h.b,h.g⟩
theorem Mv.rf {s:aA} (h:SQ s) (hb:LBs s):Mv s s 0 0 0 0 0:=⟨h.rf,by omega,by omega,by omega,by omega,by omega,hb,rfl⟩
theorem Mv.set {s:aA} {i:Nat} {x y:aP} {q v p a d:Int} (hk:SK s ⟨s.bA,s.aW.set i x,s.bP,s.bU,s.bY,s.Done⟩) (hy:s.aW[i]?=some y) (hb:LBs s) (h1:eS fQ x=eS fQ y+q) (h2:eS fV x=eS fV y+v) (h3:eS fP x=eS fP y+p) (h4:eS fA x<=eS fA y+a) (h5:rL x=rL y+d) (h6:∀ p∈x.dD,LB p.cO) (h7:gX x=gX y:=by simp [gX]):Mv s ⟨s.bA,s.aW.set i x,s.bP,s.bU,s.bY,s.Done⟩ q v p a d:=by
  refine ⟨hk,?_,?_,?_,?_,?_,λz hz=>?_,a99 gX hy h7⟩
  · unfold gS;simp only;rw [aYI (eS fQ) hy];omega
  · unfold gS;simp only;rw [aYI (eS fV) hy];omega
  · unfold gS;simp only;rw [aYI (eS fP) hy];omega
  · unfold gS;simp only;rw [aYI (eS fA) hy];omega
  · unfold gL;simp only;rw [aYI rL hy];omega
  · rcases List.mem_or_eq_of_mem_set hz with hz | rfl
    · exact hb z hz
    · exact h6
theorem aVO:∀ {l:List Int},(∀ x∈l,0<=x)->0<=sI l/\∀ x∈l,x<=sI l
  | [],_=>⟨by simp [sI],λ_ h=>by cases h⟩
  | x :: l,h=>by
    have h1:=aVO (l:=l) λy hy=>h y (List.mem_cons_of_mem _ hy)
    have h2:=h x (List.mem_cons_self ..)
    refine ⟨by simp only [sI];omega,λy hy=>?_⟩
    simp only [sI]
    rcases List.mem_cons.1 hy with rfl | hy
    · omega
    · have:=h1.2 y hy;omega
theorem aUB {α:Type} {l:List α} {f:α->Int} (h:∀ x∈l,0<=f x):∀ y∈l.map f,0<=y:=λy hy=>by
  obtain ⟨x,hx,rfl⟩:=List.mem_map.1 hy
  exact h x hx
theorem LBs.nn {s:aA} (h:LBs s):0<=gS fQ s/\0<=gS fV s/\0<=gS fA s :=
  ⟨(aVO (aUB λx hx=>(aVO (aUB λp hp=>(aX6 (h x hx p hp).ok).1)).1)).1,(aVO (aUB λx hx=>(aVO (aUB λp hp=>(aX6 (h x hx p hp).ok).2)).1)).1,(aVO (aUB λx hx=>(aVO (aUB λp hp=>a4U _)).1)).1⟩
def M3s (s:aA):Prop:=∀ mt∈s.bA.Methods,∀ m∈mt,M3 m
theorem M3s.sk {s t:aA} (h:M3s s) (k:SK s t):M3s t:=by unfold M3s;rw [k.ma];exact h
theorem LBs.set {s:aA} (hb:LBs s) {i k:Nat} {y:aP} {p:aM} (hy:s.aW[i]?=some y) (hp:LB p.cO):∀ q∈y.dD.set k p,LB q.cO:=λq hq=>by
  rcases List.mem_or_eq_of_mem_set hq with hq | rfl
  · exact hb y (List.mem_of_getElem? hy) q hq
  · exact hp
def aUZ (s:aA):Int:=sI (s.bY.map dB.aQ)
def aT2 (s:aA):Int:=sI (s.bY.map dB.Value)
def aXP (s:aA):Int:=sI (s.bY.map dB.bO)
def aYA (s:aA):Int:=sAb (s.bY.map dB.bO)
def TRs (s:aA):Prop:=∀ t∈s.bY,0<=t.aQ/\0<=t.Value/\t.Item=0
structure Gm (s t:aA) (q w A d:Int):Prop where
  q:gS fQ t+aUZ t=gS fQ s+aUZ s+q
  w:gS fV t+aT2 t-gS fP t-aXP t=gS fV s+aT2 s-gS fP s-aXP s+w
  v:gS fV t+aT2 t<=gS fV s+aT2 s+A
  a:gS fA t+aYA t<=gS fA s+aYA s+A+gS fV s
  l:gL t=gL s+d
  b:LBs t
  tr:TRs t
  el:t.aW.length=s.aW.length
  ma:t.bA=s.bA
  g:t.aW.map gX=s.aW.map gX
  iN:∀ {e i:Int},In' s e i->In' t e i
theorem Mv.tr {s t:aA} {q v p a d:Int} (h:Mv s t q v p a d):aUZ t=aUZ s/\aT2 t=aT2 s/\aXP t=aXP s/\aYA t=aYA s:=by
  unfold aUZ aT2 aXP aYA;rw [h.k.tr];exact ⟨rfl,rfl,rfl,rfl⟩
theorem bDS (a:List dB) (x:dB):sI ((a++[x]).map dB.aQ)=sI (a.map dB.aQ)+x.aQ/\sI ((a++[x]).map dB.Value)=sI (a.map dB.Value)+x.Value/\sI ((a++[x]).map dB.bO)=sI (a.map dB.bO)+x.bO/\sAb ((a++[x]).map dB.bO)=sAb (a.map dB.bO)+x.bO.natAbs:=by
  simp only [List.map_append,aV8,a7D,List.map_cons,List.map_nil,sI,sAb]
  refine ⟨?_,?_,?_,?_⟩ <;> omega
end Go.Pv
