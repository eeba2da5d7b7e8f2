import Derived.Test.YtfamehgkphejnaaGreatGC90
set_option linter.unusedVariables false
set_option linter.unusedSimpArgs false
namespace Go.Pv
open Go.Proofs
set_option maxRecDepth 100000
set_option maxHeartbeats 1000000
theorem a7Q (a b:List aB):lQ (a++b)=lQ a+lQ b:=by unfold lQ;rw [List.map_append,aV8]
theorem a9N (a b:List aB):lV (a++b)=lV a+lV b:=by unfold lV;rw [List.map_append,aV8]
theorem a8I (a b:List aB):lP (a++b)=lP a+lP b:=by unfold lP;rw [List.map_append,aV8]
theorem a8T (a b:List aB):lA (a++b)=lA a+lA b:=by unfold lA;rw [List.map_append,a7D]
theorem l1 (x:aB):lQ [x]=x.aQ/\lV [x]=x.Value/\lP [x]=x.bO/\lA [x]=x.bO.natAbs:=⟨by simp [lQ,sI],by simp [lV,sI],by simp [lP,sI],by simp [lA,sAb]⟩
theorem a7C (l:List aB):((lP l).natAbs:Int)<=lA l:=a7O _
theorem aUT {α:Type} {P Q:α->Prop} {D:Option α} (h:Ex P D) (k:Ex Q D):Ex (λr=>P r/\Q r) D:=by
  obtain ⟨r,e,p⟩:=h
  exact ⟨r,e,p,aW4 k e⟩
structure InR (l:List aB) (x:aB) (r:List aB):Prop where
  b:LB r
  q:lQ r=lQ l+x.aQ
  v:lV r=lV l+x.Value
  p:lP r=lP l+x.bO
  a:lA r<=lA l+x.bO.natAbs
  x1:1<=x.aQ
  x2:0<=x.Value
structure a1R (l:List aB) (k:Int) (r:List aB) (x:aB):Prop where
  b:LB r
  k1:1<=k
  xq:x.aQ=k
  x2:0<=x.Value
  q:lQ r+x.aQ=lQ l
  v:lV r+x.Value=lV l
  p:lP r+x.bO=lP l
  a:lA r+x.bO.natAbs<=lA l
theorem LB.last {l:List aB} {x:aB} (h:LB (l++[x])):1<=x.aQ/\0<=x.Value:=h.ok x (by simp)
theorem bCR {n:Nat} {l:List aB} {x:aB} (hn:250<=n) (hl:l.length<=30):Ex (λr=>r.2=0->InR l x r.1) (JM n l x) :=
  aS9 (a9V hn hl) λr hr h=>by
    obtain ⟨e,hb⟩:=hr h
    have hx:=hb.last
    rw [e]
    refine ⟨hb,by rw [a7Q,(l1 x).1],by rw [a9N,(l1 x).2.1],by rw [a8I,(l1 x).2.2.1],by rw [a8T,(l1 x).2.2.2];omega,hx.1,hx.2⟩
theorem LB.tot {l:List aB} {x:aB} (h:LB (l++[x])):LB [tot (l++[x])]:=by
  have hx:=h.last
  have h0:=aX6 h.ok
  have h1:=aX6 (l:=l) λy hy=>h.ok y (by simp [hy])
  have e:lQ (l++[x])=lQ l+x.aQ:=by rw [a7Q,(l1 x).1]
  have h2:=h.q;have h3:=h.v;have h4:=h.a;have h5:=a7C (l++[x])
  have k:=l1 (Go.Pv.tot (l++[x]))
  refine ⟨by simp,λy hy=>?_,by rw [k.1];exact h2,by rw [k.2.1];exact h3,by rw [k.2.2.2];exact Int.le_trans h5 h4⟩
  rw [List.mem_singleton.1 hy]
  exact ⟨by show 1<=lQ _;omega,h0.2⟩
theorem a8L {n:Nat} {l:List aB} {x:aB} (hn:250<=n) (h:LQ l) (hx:RL x):Ex (λr=>r.2=0->InR l x r.1) (DT n l x):=by
  have h1:=h.1
  unfold DT aAB;simp only [WT.run,O9,Option.bind_some]
  refine tF (λr=>LQ r.1/\(r.2=0->r.1=l++[x]/\LB (l++[x]))) ?_ λr hr=>aL2 (aEY (λk=>aEV λh=>absurd h k) λk=>tF _ (a6M (hr.1.fuel hn)) λt ht=>aL2 (aEY (λk=>x_a (aEV λh=>absurd h k)) λk2=>aEV λ_=>?_))
  · exact aUT (aPC hn h hx) (a9V hn h1)
  · obtain ⟨e,hb⟩:=hr.2 (Classical.not_not.1 k)
    have e2:=(ht.1 (Classical.not_not.1 k2)).1
    rw [e] at e2
    simp only [e2]
    have hb2:=hb.last
    have hk:=l1 (tot (l++[x]))
    refine ⟨hb.tot,?_,?_,?_,?_,hb2.1,hb2.2⟩
    · rw [hk.1];show lQ _=_;rw [a7Q,(l1 x).1]
    · rw [hk.2.1];show lV _=_;rw [a9N,(l1 x).2.1]
    · rw [hk.2.2.1];show lP _=_;rw [a8I,(l1 x).2.2.1]
    · rw [hk.2.2.2];have:=a7C (l++[x]);rw [a8T,(l1 x).2.2.2] at this;exact this
theorem a9G {n:Nat} {l:List aB} {q:Int} (hn:250<=n) (h:LB l) (hq:XE q):Ex (λr=>r.2.2=0->a1R l q r.1 r.2.1) (IU n l q) :=
  aS9 (bA7 hn h hq) λr hr h=>by
    obtain ⟨h1,h2,h3⟩:=hr h
    have:=h3.q
    exact ⟨h1,h2,by omega,h3.v0,h3.sq,h3.sv,h3.sp,h3.sa⟩
theorem a9K {n:Nat} {l:List aB} {q:Int} (hn:250<=n) (h:LB l) (hq:XE q):Ex (λr=>r.2.2=0->a1R l q r.1 r.2.1) (I1 n l q):=by
  unfold I1 aEG;simp only [WT.run,O9,Option.bind_some]
  exact tF _ (a9G hn h hq) λr hr=>aEV hr
theorem a6B {p:aM} {l:List aB} (h:l.length<=30):rG p l=some ⟨l,p.bF⟩:=by
  refine aQX ?_
  unfold rG aBV;simp only [WT.run,O9]
  exact x_a (aEV rfl)
theorem a5E {p:aM} {l:List aB}:rX p l=some ⟨l,p.bF⟩:=by
  refine aQX ?_
  unfold rX aM7;simp only [WT.run,O9]
  exact aEV rfl
theorem bAT {p:aM} (hp:p.cO.length<=30):aTO p=some p:=by
  refine aQX ?_
  unfold aTO aG7;simp only [WT.run,O9]
  exact x_a (aEV rfl)
theorem bCE {n:Nat} {p:aM} {x:aB} (hn:250<=n) (hp:PQ' p) (hx:RL x):Ex (λr=>r.2=0->InR p.cO x r.1.cO/\r.1.bF=p.bF) (VJ n p x):=by
  unfold VJ X7;simp only [WT.run,O9]
  refine tF (λr=>LQ r.1/\(r.2=0->InR p.cO x r.1)) ?_ λr hr=>x_eq (a6B hr.1.1) (aEV λh=>⟨hr.2 h,rfl⟩)
  exact aUT (aO3 hn hp.1 hx) (a8L hn hp.1 hx)
theorem bFM {n:Nat} {p:aM} {q:Int} (hn:250<=n) (hp:PQ' p) (h:LB p.cO) (hq:XE q):Ex (λr=>r.2.2=0->a1R p.cO q r.1.cO r.2.1/\r.1.bF=p.bF) (VF n p q):=by
  have hl:=h.len
  unfold VF aFK;simp only [WT.run,O9]
  refine aL2 (aEY (λ_=>x_eq (a6B hl) (aEV λh=>absurd h (show ¬ (1:Int)=0 by decide))) λ_=>tF _ (aO8 hn hp) λf hf=>aL2 (aEY (λ_=>x_eq (a6B hl) (aEV λh=>absurd h (show ¬ (5:Int)=0 by decide))) λ_=>tF (λr=>LQ r.1/\(r.2.2=0->a1R p.cO q r.1 r.2.1)) ?_ λr hr=>x_eq (a6B hr.1.1) (aEV λh=>⟨hr.2 h,rfl⟩)))
  exact aS9 (aUT (aPB hn hp.1 hq) (a9K hn h hq)) λr hr=>⟨hr.1.1,hr.2⟩
def M3 (m:Int):Prop:=m=1\/m=2\/m=3
theorem bBE {n:Nat} {m c:Int} {p:aM} {x:aB} (hn:250<=n) (hm:M3 m) (hp:PQ' p) (hx:RL x):Ex (λr=>r.2.2=0->InR p.cO x r.1.cO/\r.1.bF=p.bF/\r.2.1=0) (UO n m c p x):=by
  have hl:=hp.1.1
  unfold UO aJE;simp only [WT.run,O9]
  refine tF (λy=>match y with | .inl _=>True | .inr (.inl _)=>True | .inr (.inr (.inl _))=>True | _=>False) ?_ λy hy=>?_
  · exact aL2 (aEY (λ_=>aEV trivial) λk1=>aL2 (aEY (λ_=>aEV trivial) λk2=>aL2 (aEY (λ_=>aEV trivial) λk3=>(by unfold M3 at hm;omega))))
  have own:∀ e:Int,e≠0->Ex (λr:aM×Int×Int=>r.2.2=0->InR p.cO x r.1.cO/\r.1.bF=p.bF/\r.2.1=0) ((aTO p).bind λx=>some (x,0,e)):=λe he=>x_eq (bAT hl) (aEV λh=>absurd h he)
  rcases y with u | u | u | u | u <;> simp only [Sum.elim,WT.run,O9]
  · exact tF (λr=>r.2=0->InR p.cO x r.1.cO/\r.1.bF=p.bF) (tF _ (bCR hn hl) λr hr=>x_eq a5E (aEV λh=>⟨hr h,rfl⟩)) λr hr=>aL2 (aEY (λk=>own _ k) λk=>aEV λ_=>⟨(hr (Classical.not_not.1 k)).1,(hr (Classical.not_not.1 k)).2,rfl⟩)
  · exact tF (λr=>r.2=0->InR p.cO x r.1.cO/\r.1.bF=p.bF) (tF _ (a8L hn hp.1 hx) λr hr=>x_eq a5E (aEV λh=>⟨hr h,rfl⟩)) λr hr=>aL2 (aEY (λk=>own _ k) λk=>aEV λ_=>⟨(hr (Classical.not_not.1 k)).1,(hr (Classical.not_not.1 k)).2,rfl⟩)
  · exact tF (λr=>r.2=0->InR p.cO x r.1.cO/\r.1.bF=p.bF) (tF _ (bCE hn hp hx) λr hr=>aEV λh=>hr h) λr hr=>aL2 (aEY (λk=>own _ k) λk=>aEV λ_=>⟨(hr (Classical.not_not.1 k)).1,(hr (Classical.not_not.1 k)).2,rfl⟩)
  · exact absurd hy id
  · exact absurd hy id
theorem bA4 {n:Nat} {m c q:Int} {p:aM} (hn:250<=n) (hm:M3 m) (hp:PQ' p) (h:LB p.cO) (hq:XE q):Ex (λr=>r.2.2.2=0->a1R p.cO q r.1.cO r.2.1/\r.1.bF=p.bF) (KL n m c p 3 q):=by
  have hl:=h.len
  unfold KL aE0;simp only [WT.run,O9]
  refine tF (λy=>match y with | .inl _=>True | .inr (.inl _)=>True | .inr (.inr (.inl _))=>True | _=>False) ?_ λy hy=>?_
  · exact aL2 (aEY (λ_=>aEV trivial) λk1=>aL2 (aEY (λ_=>aEV trivial) λk2=>aL2 (aEY (λ_=>aEV trivial) λk3=>(by unfold M3 at hm;omega))))
  have own:∀ e:Int,e≠0->Ex (λr:aM×aB×Bool×Int=>r.2.2.2=0->a1R p.cO q r.1.cO r.2.1/\r.1.bF=p.bF) ((aTO p).bind λx=>some (x,⟨0,0,0⟩,false,e)):=λe he=>x_eq (bAT hl) (aEV λh=>absurd h he)
  rcases y with u | u | u | u | u <;> simp only [Sum.elim,WT.run,O9]
  · refine tF (λ_=>True) (aL2 (aEY (λ_=>aEV trivial) λ_=>aL2 (aEV trivial))) λb _=>aFQ (λ_=>own _ (by decide)) λ_=>?_
    simp only [Option.bind_some]
    exact tF (λr=>r.2.2=0->a1R p.cO q r.1.cO r.2.1/\r.1.bF=p.bF) (tF _ (a9G hn h hq) λr hr=>x_eq a5E (aEV λh=>⟨hr h,rfl⟩)) λr hr=>aL2 (aEY (λk=>own _ k) λk=>aEV λ_=>hr (Classical.not_not.1 k))
  · refine tF (λ_=>True) (aL2 (aEY (λ_=>aEV trivial) λ_=>aL2 (aEV trivial))) λb _=>aFQ (λ_=>own _ (by decide)) λ_=>?_
    simp only [Option.bind_some]
    exact tF (λr=>r.2.2=0->a1R p.cO q r.1.cO r.2.1/\r.1.bF=p.bF) (tF _ (a9K hn h hq) λr hr=>x_eq a5E (aEV λh=>⟨hr h,rfl⟩)) λr hr=>aL2 (aEY (λk=>own _ k) λk=>aEV λ_=>hr (Classical.not_not.1 k))
  · refine tF (λ_=>True) (aL2 (aEY (λ_=>aEV trivial) λ_=>aL2 (aEV trivial))) λb _=>aFQ (λ_=>own _ (by decide)) λ_=>?_
    simp only [Option.bind_some]
    refine aL2 (tF (λr=>r.1=0->a1R p.cO q r.2.2.2.cO r.2.2.1/\r.2.2.2.bF=p.bF) (aFQ (λh=>absurd h (by decide)) λ_=>tF (λr=>r.2.2=0->a1R p.cO q r.1.cO r.2.1/\r.1.bF=p.bF) (tF _ (bFM hn hp h hq) λr hr=>aEV hr) λr hr=>aEV hr) λr hr=>aL2 (aEY (λk=>own _ k) λk=>aEV λ_=>hr (Classical.not_not.1 k)))
  · exact absurd hy id
  · exact absurd hy id
theorem bFI {n:Nat} {m:Int} {p:aM} (hn:250<=n) (hp:PQ' p):Ex (λb=>b=true->LB p.cO) (aS4 n m p):=by
  unfold aS4 aWX;simp only [WT.run,O9]
  refine tF (λ_=>True) ?_ λy _=>?_
  · exact aL2 (aEY (λ_=>aEV trivial) λ_=>aL2 (aEY (λ_=>aEV trivial) λ_=>aL2 (aEY (λ_=>aEV trivial) λ_=>aL2 (aEY (λ_=>aEV trivial) λ_=>aEV trivial))))
  rcases y with u | u | u | u | u <;> simp only [Sum.elim,WT.run,O9]
  rotate_right
  · exact aEV λh=>by cases h
  all_goals
    refine tF (λb=>b=false->LB p.cO) (tF _ (a9T hn) λb hb=>aL2 (aEW (λ_=>aEV λh=>by cases h) λhb'=>aL2 (aEY (λ_=>aL2 (aEV λ_=>hb hb')) λ_=>aEV λ_=>hb hb'))) λb hb=>aFQ (λ_=>aEV λh=>by cases h) λhf=>aS9 (P:=λ_=>True) ?_ λr _ _=>hb hf
    refine tF _ (aIR hn hp) λt ht=>tF (λ_=>True) (aQB (m:=3) (λv=>v.2) (λ_=>True) ⟨by simp,by simp,trivial⟩ (by omega) λv h1 h2 h3=>?_) λr _=>aP5 (λ_ _=>aEV trivial) λ_ _=>trivial
    simp only [p2,Option.bind_some]
    refine aL2 (aEY (λhk=>ON h1 (by simp;omega) λx hx=>?_) λ_=>aGQ (XC trivial))
    refine tF (λ_=>True) (aL2 (aEY (λ_=>aEV trivial) λ_=>aL2 (aEY (λ_=>aEV trivial) λ_=>aL2 (aEY (λ_=>aEV trivial) λ_=>aEV trivial)))) λb _=>aFQ (λ_=>aGQ (aGQ (aEV trivial))) λ_=>aL2 (x_v (XC ⟨by omega,rfl,trivial⟩))
theorem aYI {α:Type} (f:α->Int):∀ {l:List α} {i:Nat} {x y:α},l[i]?=some x->sI ((l.set i y).map f)=sI (l.map f)-f x+f y
  | [],_,_,_,h=>by simp at h
  | a :: l,0,x,y,h=>by
    simp only [List.getElem?_cons_zero,Option.some.injEq] at h
    subst h;simp only [List.set,List.map_cons,sI];omega
  | a :: l,i+1,x,y,h=>by
    simp only [List.getElem?_cons_succ] at h
    have:=aYI f (l:=l) (y:=y) h
    simp only [List.set,List.map_cons,sI,this];omega
theorem a6K {α:Type} (f:α->Int):∀ {l:List α} {i:Nat} {x y:α},l[i]?=some x->sAb ((l.set i y).map f)=sAb (l.map f)-(f x).natAbs+(f y).natAbs
  | [],_,_,_,h=>by simp at h
  | a :: l,0,x,y,h=>by
    simp only [List.getElem?_cons_zero,Option.some.injEq] at h
    subst h;simp only [List.set,List.map_cons,sAb];omega
  | a :: l,i+1,x,y,h=>by
    simp only [List.getElem?_cons_succ] at h
    have:=a6K f (l:=l) (y:=y) h
    simp only [List.set,List.map_cons,sAb,this];omega
theorem a7Y {a b:Int} (h:(aZD a b).2=0):(aZD a b).1=a+b/\InM (a+b):=by
  unfold aZD at h ⊢
  by_cases k:InM a/\InM b/\InM (a+b)
  · rw [if_pos k];exact ⟨rfl,k.2.2⟩
  · rw [if_neg k] at h;exact absurd h (show ¬ (2:Int)=0 by decide)
structure RI (p0 l:List aB) (v0 left i:Int):Prop where
  len:l.length=p0.length
  lq:LQ l
  q:lQ l=lQ p0
  p:lP l=lP p0
  a:lA l=lA p0
  v:lV l+left=lV p0+v0
  lo:-(i*288230376151711744)<=left
  hi:left<=288230376151711744
  fin:i=p0.length->left=0
theorem bDM {n:Nat} {m v:Int} {p:aM} (hn:250<=n) (hp:PQ' p) (hv:0<=v/\v<=288230376151711744):Ex (λr=>r.2=0->LB r.1.cO/\lQ r.1.cO=lQ p.cO/\lV r.1.cO=lV p.cO+v/\lP r.1.cO=lP p.cO/\lA r.1.cO=lA p.cO/\p.cO≠[]) (aSZ n m p v):=by
  have hl:=hp.1.1
  have hvR:XE v:=by unfold XE;omega
  unfold aSZ aVY;simp only [WT.run,O9]
  refine tF (λ_=>True) (x_a (tF (λ_=>True) (aEV trivial) λ_ _=>aEV trivial)) λ_ _=>tF (λ_=>True) (aL2 (aEY (λ_=>aEV trivial) λ_=>aL2 (aEV trivial))) λ_ _=>aFQ (λ_=>aEV λh=>absurd h (show ¬ (1:Int)=0 by decide)) λ_=>aL2 (aEY (λ_=>aEV λh=>absurd h (show ¬ (5:Int)=0 by decide)) λhne=>?_)
  refine tF (λ_=>True) (x_a (tF (λ_=>True) (aEV trivial) λ_ _=>aEV trivial)) λ_ _=>tF _ (aIR hn hp) λt ht=>?_
  refine tF (λr=>match r with | .inl l=>LQ l/\lQ l=lQ p.cO/\lV l=lV p.cO+v/\lP l=lP p.cO/\lA l=lA p.cO | .inr q=>q.2≠0) (aQB (m:=p.cO.length) (λv=>v.2.1) (λu=>RI p.cO u.2.2 v u.1 u.2.1) ⟨by simp,by simp,⟨rfl,hp.1,rfl,rfl,rfl,rfl,by simp only;omega,by simp only;omega,λh=>absurd h.symm hne⟩⟩ (by omega) λu h1 h2 h3=>?_) λr hr=>?_
  · obtain ⟨left,i,l⟩:=u
    simp only at h1 h2 h3
    simp only [p2]
    have hlen:=h3.len
    refine aL2 (aEY (λhk=>ON h1 (by omega) λx hx=>x_v (aL2 (tF (λd=>(i<(p.cO.length:Int)-1->0<=d/\d<=v)/\(¬ i<(p.cO.length:Int)-1->d=left)) (aEY (λk=>tF _ (a4K hn hvR (h3.lq.at hx).1 ht.1) λr hr=>aEV ⟨λ_=>hr.1 hv.1,λh=>absurd k h⟩) λk=>aEV ⟨λh=>absurd h k,λ_=>rfl⟩) λd hd=>x_eq (a7S _ _) (aL2 (aEY (λk=>aGQ (aGQ (aEV k))) λk=>?_))))) λhk=>aGQ (XC ?_))
    · have hadd:=a7Y (Classical.not_not.1 k)
      have hlo:=h3.lo;have hhi:=h3.hi
      have hI:=hadd.2
      unfold InM at hI
      have hxl:=h3.lq.at hx
      have hdb:-9223372036854775808<=left-d/\left-d<=288230376151711744/\-((i+1)*288230376151711744)<=left-d:=by
        by_cases c:i<(p.cO.length:Int)-1
        · have:=hd.1 c;omega
        · have:=hd.2 c;omega
      refine aL2 (x_v (x_v (XC ⟨hk,rfl,?_⟩)))
      refine ⟨by simp only [List.length_set];exact hlen,h3.lq.set (x:=⟨_,_,_⟩) ⟨hxl.1,by simp only [hadd.1];unfold XE;omega,hxl.2.2⟩,?_,?_,?_,?_,hdb.2.2,hdb.2.1,?_⟩
      · have:=h3.q
        unfold lQ at this ⊢
        rw [aYI aB.aQ hx];simp only;omega
      · have:=h3.p
        unfold lP at this ⊢
        rw [aYI aB.bO hx];simp only;omega
      · have:=h3.a
        unfold lA at this ⊢
        rw [a6K aB.bO hx];simp only;omega
      · have:=h3.v
        unfold lV at this ⊢
        rw [aYI aB.Value hx];simp only [hadd.1];omega
      · intro h
        simp only at h
        have:=hd.2 (by omega)
        simp only;omega
    · have h4:=h3.v
      have h5:=h3.fin (by omega)
      exact ⟨h3.lq,h3.q,by omega,h3.p,h3.a⟩
  · cases r with
    | inr q=>exact ⟨_,rfl,λh=>absurd h hr⟩
    | inl l =>
      obtain ⟨k1,k2,k3,k4,k5⟩:=hr
      exact aK3 (tF _ (bFI hn (p:=⟨l,p.bF⟩) ⟨k1,hp.2⟩) λb hb=>aL2 (aEW (λ_=>aEV λh=>absurd h (show ¬ (2:Int)=0 by decide)) λhb'=>aEV λ_=>⟨hb hb',k2,k3,k4,k5,λe=>hne (by rw [e];rfl)⟩))
def fQ (p:aM):Int:=lQ p.cO
def fV (p:aM):Int:=lV p.cO
def fP (p:aM):Int:=lP p.cO
def fA (p:aM):Int:=lA p.cO
def eS (f:aM->Int) (x:aP):Int:=sI (x.dD.map f)
def gS (f:aM->Int) (s:aA):Int:=sI (s.aW.map (eS f))
def rL (x:aP):Int:=match x.dI with | r :: _=>r.iV | []=>0
def gL (s:aA):Int:=sI (s.aW.map rL)
def gX (x:aP):List Int×Nat:=(x.Down,x.dD.length)
theorem a99 {α β:Type} (f:α->β):∀ {l:List α} {i:Nat} {x y:α},l[i]?=some y->f x=f y->(l.set i x).map f=l.map f
  | [],_,_,_,h,_=>by simp at h
  | a :: l,0,x,y,h,e=>by
    simp only [List.getElem?_cons_zero,Option.some.injEq] at h
    subst h;simp only [List.set,List.map_cons,e]
  | a :: l,i+1,x,y,h,e=>by
    simp only [List.getElem?_cons_succ] at h
    simp only [List.set,List.map_cons,a99 f h e]
def LBs (s:aA):Prop:=∀ x∈s.aW,∀ p∈x.dD,LB p.cO
structure Mv (s t:aA) (q v p a d:Int):Prop where
  k:SK s t
  q:gS fQ t=gS fQ s+q
  v:gS fV t=gS fV s+v
  p:gS fP t=gS fP s+p
  a:gS fA t<=gS fA s+a
  l:gL t=gL s+d
  b:LBs t
  g:t.aW.map gX=s.aW.map gX
theorem Mv.trans {s t u:aA} {q v p a d q' v' p' a' d':Int} (h:Mv s t q v p a d) (k:Mv t u q' v' p' a' d'):Mv s u (q+q') (v+v') (p+p') (a+a') (d+d') :=
  ⟨h.k.trans k.k,by have:=h.q;have:=k.q;omega,by have:=h.v;have:=k.v;omega,by have:=h.p;have:=k.p;omega,by have:=h.a;have:=k.a;omega,by have:=h.l;have:=k.l;omega,k.b,k.g.trans h.g⟩
theorem Mv.to {s t:aA} {q v p a d q' v' p' a' d':Int} (h:Mv s t q v p a d) (h1:q=q') (h2:v=v') (h3:p=p') (h4:a<=a') (h5:d=d'):Mv s t q' v' p' a' d' :=
  ⟨h.k,by have:=h.q;omega,by have:=h.v;omega,by have:=h.p;omega,by have:=h.a;omega,by have:=h.l;omega,h.b,h.g⟩
theorem Mv.rf {s:aA} (h:SQ s) (hb:LBs s):Mv s s 0 0 0 0 0:=⟨h.rf,by omega,by omega,by omega,by omega,by omega,hb,rfl⟩
theorem Mv.set {s:aA} {i:Nat} {x y:aP} {q v p a d:Int} (hk:SK s ⟨s.bA,s.aW.set i x,s.bP,s.bU,s.bY,s.Done⟩) (hy:s.aW[i]?=some y) (hb:LBs s) (h1:eS fQ x=eS fQ y+q) (h2:eS fV x=eS fV y+v) (h3:eS fP x=eS fP y+p) (h4:eS fA x<=eS fA y+a) (h5:rL x=rL y+d) (h6:∀ p∈x.dD,LB p.cO) (h7:gX x=gX y:=by simp [gX]):Mv s ⟨s.bA,s.aW.set i x,s.bP,s.bU,s.bY,s.Done⟩ q v p a d:=by
  refine ⟨hk,?_,?_,?_,?_,?_,λz hz=>?_,a99 gX hy h7⟩
  · unfold gS;simp only;rw [aYI (eS fQ) hy];omega
  · unfold gS;simp only;rw [aYI (eS fV) hy];omega
  · unfold gS;simp only;rw [aYI (eS fP) hy];omega
  · unfold gS;simp only;rw [aYI (eS fA) hy];omega
  · unfold gL;simp only;rw [aYI rL hy];omega
  · rcases List.mem_or_eq_of_mem_set hz with hz | rfl
    · exact hb z hz
    · exact h6
theorem aVO:∀ {l:List Int},(∀ x∈l,0<=x)->0<=sI l/\∀ x∈l,x<=sI l
  | [],_=>⟨by simp [sI],λ_ h=>by cases h⟩
  | x :: l,h=>by
    have h1:=aVO (l:=l) λy hy=>h y (List.mem_cons_of_mem _ hy)
    have h2:=h x (List.mem_cons_self ..)
    refine ⟨by simp only [sI];omega,λy hy=>?_⟩
    simp only [sI]
    rcases List.mem_cons.1 hy with rfl | hy
    · omega
    · have:=h1.2 y hy;omega
theorem aUB {α:Type} {l:List α} {f:α->Int} (h:∀ x∈l,0<=f x):∀ y∈l.map f,0<=y:=λy hy=>by
  obtain ⟨x,hx,rfl⟩:=List.mem_map.1 hy
  exact h x hx
theorem LBs.nn {s:aA} (h:LBs s):0<=gS fQ s/\0<=gS fV s/\0<=gS fA s :=
  ⟨(aVO (aUB λx hx=>(aVO (aUB λp hp=>(aX6 (h x hx p hp).ok).1)).1)).1,(aVO (aUB λx hx=>(aVO (aUB λp hp=>(aX6 (h x hx p hp).ok).2)).1)).1,(aVO (aUB λx hx=>(aVO (aUB λp hp=>a4U _)).1)).1⟩
def M3s (s:aA):Prop:=∀ mt∈s.bA.Methods,∀ m∈mt,M3 m
theorem M3s.sk {s t:aA} (h:M3s s) (k:SK s t):M3s t:=by unfold M3s;rw [k.ma];exact h
theorem aYX {f:aM->Int} {y:aP} {k:Nat} {p p':aM} (hq:y.dD[k]?=some p):eS f ⟨y.Now,y.Closed,y.dD.set k p',y.dU,y.dI,y.dO,y.Down,y.eT⟩=eS f y-f p+f p':=aYI f hq
theorem LBs.set {s:aA} (hb:LBs s) {i k:Nat} {y:aP} {p:aM} (hy:s.aW[i]?=some y) (hp:LB p.cO):∀ q∈y.dD.set k p,LB q.cO:=λq hq=>by
  rcases List.mem_or_eq_of_mem_set hq with hq | rfl
  · exact hb y (List.mem_of_getElem? hy) q hq
  · exact hp
theorem a6Z {n:Nat} {s:aA} {e i l:Int} {x:aB} (hn:250<=n) (h:SQ s) (hM:M3s s) (hb:LBs s) (hx:RL x):Ex (λr=>r.2.2.2=0->Mv s r.1 x.aQ x.Value x.bO x.bO.natAbs 0/\r.2.1=x.Value/\r.2.2.1=0/\1<=x.aQ/\0<=x.Value) (uU n s e i l x):=by
  unfold uU aEQ;simp only [WT.run,O9]
  refine tF _ (aM9 h) λp hp=>aL2 (aEY (λ_=>aEV λh=>absurd h (show ¬ (4:Int)=0 by decide)) λhpn=>?_)
  obtain ⟨hin,rfl,hl0,hl1⟩:=hp hpn
  have i1:=hin.i1
  refine ON hin.e0 hin.m1 λmt hmt=>ON hin.i0 (by have:=hin.m _ hmt;omega) λm hm=>ON hin.e0 hin.c1 λct hct=>ON hin.i0 (by have:=hin.c _ hct;omega) λc hc=>ON hin.e0 hin.e1 λy hy=>?_
  have hm3:=hM mt (List.mem_of_getElem? hmt) m (List.mem_of_getElem? hm)
  have hpl:=(hin.x y hy).1
  have hyq:=h.at hy
  refine ON (by omega) (by omega) λq hq=>tF _ (aUT (aPP hn (hyq.at hq) hx) (bBE hn hm3 (hyq.at hq) hx)) λr hr=>aL2 (aEY (λk=>aEV λh=>absurd h k) λk=>?_)
  obtain ⟨hr,hrc⟩:=hr
  obtain ⟨hI,hPd,hab⟩:=hrc (Classical.not_not.1 k)
  have hel:=h.el
  have hyl:=hyq.pl
  refine tF (λt=>t=(y.Now,y.Closed,y.dU,y.dI,y.dO,y.Down,y.eT,y.dD.set (i*2+l).toNat r.1)) (tF (λ_=>True) (x_a (ON hin.e0 hin.e1 λ_ _=>aEV trivial)) λ_ _=>aQZ hin.e0 hy (x_a (aQZ (by omega) hq (aL2 (aEV rfl))))) λt ht=>?_
  subst ht
  simp only [p2]
  have hE:EQ' ⟨y.Now,y.Closed,y.dD.set (i*2+l).toNat r.1,y.dU,y.dI,y.dO,y.Down,y.eT⟩:=⟨by simp;exact hyl,hyq.aSA hr.1,hyq.bl,hyq.rl,hyq.pr,hyq.dn,hyq.ah⟩
  have hS:=h.set (i:=e.toNat) hE
  have hK:=h.aSC hE hy (by simp) rfl
  refine ON hin.e0 hin.e1 λ_ _=>tF _ (aPI hn hS) λ_ _=>tF (λ_=>True) (aL2 (aFQ (λ_=>aEV trivial) λ_=>tF _ (aPH hn hS) λ_ _=>aL2 (aEV trivial))) λ_ _=>aFQ (λ_=>aEV λh=>absurd h (show ¬ (2:Int)=0 by decide)) λ_=>aL2 (aEV λ_=>⟨?_,?_,hab,hI.x1,hI.x2⟩)
  · have i1:=hI.q;have i2:=hI.v;have i3:=hI.p;have i4:=hI.a
    refine Mv.set hK hy hb ?_ ?_ ?_ ?_ (by simp [rL]) (hb.set hy hI.b)
    · rw [aYX hq];unfold fQ;omega
    · rw [aYX hq];unfold fV;omega
    · rw [aYX hq];unfold fP;omega
    · rw [aYX hq];unfold fA;omega
  · have h2:=hx.2.1
    unfold XE at h2
    simp only [hab,Int.sub_zero]
    exact wrap64 h2
theorem bAO {n:Nat} {s:aA} {e i l q:Int} (hn:250<=n) (h:SQ s) (hM:M3s s) (hb:LBs s) (hq:XE q):Ex (λr=>r.2.2.2=0->Mv s r.1 (-q) (-r.2.1.Value) (-r.2.1.bO) (-(r.2.1.bO.natAbs:Int)) 0/\r.2.1.aQ=q/\1<=q/\0<=r.2.1.Value/\r.2.1.Value<=288230376151711744/\(r.2.1.bO.natAbs:Int)<=288230376151711744) (rR n s e i l 3 q):=by
  unfold rR aNC;simp only [WT.run,O9]
  refine tF _ (aM9 h) λp hp=>aL2 (aEY (λ_=>aEV λh=>absurd h (show ¬ (4:Int)=0 by decide)) λhpn=>?_)
  obtain ⟨hin,rfl,hl0,hl1⟩:=hp hpn
  have i1:=hin.i1
  refine ON hin.e0 hin.m1 λmt hmt=>ON hin.i0 (by have:=hin.m _ hmt;omega) λm hm=>ON hin.e0 hin.c1 λct hct=>ON hin.i0 (by have:=hin.c _ hct;omega) λc hc=>ON hin.e0 hin.e1 λy hy=>?_
  have hm3:=hM mt (List.mem_of_getElem? hmt) m (List.mem_of_getElem? hm)
  have hpl:=(hin.x y hy).1
  have hyq:=h.at hy
  refine ON (by omega) (by omega) λo ho=>?_
  have hob:LB o.cO:=hb y (List.mem_of_getElem? hy) o (List.mem_of_getElem? ho)
  refine tF _ (aUT (aPN hn (hyq.at ho) hq) (bA4 hn hm3 (hyq.at ho) hob hq)) λr hr=>aL2 (aL2 (aEY (λk=>aEV λh=>absurd h k) λk=>?_))
  obtain ⟨hr,hrc⟩:=hr
  obtain ⟨hO,hPd⟩:=hrc (Classical.not_not.1 k)
  have hel:=h.el
  have hyl:=hyq.pl
  refine tF (λt=>t=(y.Now,y.Closed,y.dU,y.dI,y.dO,y.Down,y.eT,y.dD.set (i*2+l).toNat r.1)) (tF (λ_=>True) (x_a (ON hin.e0 hin.e1 λ_ _=>aEV trivial)) λ_ _=>aQZ hin.e0 hy (x_a (aQZ (by omega) ho (aL2 (aEV rfl))))) λt ht=>?_
  subst ht
  simp only [p2]
  have hE:EQ' ⟨y.Now,y.Closed,y.dD.set (i*2+l).toNat r.1,y.dU,y.dI,y.dO,y.Down,y.eT⟩:=⟨by simp;exact hyl,hyq.aSA hr.1,hyq.bl,hyq.rl,hyq.pr,hyq.dn,hyq.ah⟩
  have hK:=h.aSC hE hy (by simp) rfl
  have i1:=hO.q;have i2:=hO.v;have i3:=hO.p;have i4:=hO.a;have i5:=hO.xq
  have i6:=aX6 hO.b.ok;have i7:=a4U r.1.cO;have i8:=hob.v;have i9:=hob.a
  refine ON hin.e0 hin.e1 λ_ _=>aEV λ_=>⟨?_,hO.xq,hO.k1,hO.x2,by simp only;omega,by simp only;omega⟩
  refine Mv.set hK hy hb ?_ ?_ ?_ ?_ (by simp [rL]) (hb.set hy hO.b)
  · rw [aYX ho];unfold fQ;omega
  · rw [aYX ho];unfold fV;simp only;omega
  · rw [aYX ho];unfold fP;simp only;omega
  · rw [aYX ho];unfold fA;simp only;omega
theorem a5S {n:Nat} {s:aA} {e:Int} {l:List aH} (hn:250<=n) (h:SQ s) (hb:LBs s) (hl:l.length<20):Ex (λr=>Mv s r.1 0 0 0 0 0) (oN n s e l):=by
  have hel:=h.el
  have hR:=Mv.rf h hb
  unfold oN aJN;simp only [WT.run,O9]
  refine tF (λb=>b=false->0<=e/\e<(s.aW.length:Int)) (aL2 (aEY (λ_=>aEV λh=>by cases h) λh1=>aL2 (aEV λh2=>by have:=of_decide_eq_false h2;omega))) λb hb'=>aFQ (λ_=>aEV hR) λhb2=>?_
  obtain ⟨e0,e1⟩:=hb' hb2
  refine tF _ (aWQ hn hl) λp hp=>aL2 (aEY (λ_=>aEV hR) λ_=>ON e0 e1 λx hx=>?_)
  have hxq:=h.at hx
  refine tF _ (a1A hn hxq.bl hp.2) λg hg=>aL2 (aEY (λ_=>aEV hR) λ_=>tF (λ_=>True) (x_a (ON e0 e1 λ_ _=>aEV trivial)) λ_ _=>aQZ e0 hx (aL2 (aEV ?_)))
  exact Mv.set (h.aSC ⟨hxq.pl,hxq.pq,hg,hxq.rl,hxq.pr,hxq.dn,hxq.ah⟩ hx) hx hb (by simp [eS]) (by simp [eS]) (by simp [eS]) (by simp [eS]) (by simp [rL]) λq hq=>hb x (List.mem_of_getElem? hx) q hq
theorem a4A {s:aA} {e i:Int} {r:bM} (h:SQ s) (hb:LBs s) (hW:s.bA.cB.length=1):Ex (λu=>u.2=0->Mv s u.1 0 0 0 0 r.iV) (qD s e i r):=by
  unfold qD aIQ;simp only [WT.run,O9,Option.bind_some]
  refine tF _ (aO9 h) λb hb'=>aL2 (aEW (λ_=>aEV λh=>absurd h (show ¬ (4:Int)=0 by decide)) λhb2=>?_)
  have hin:=hb' hb2
  have hi1:=hin.i1
  have hi0:=hin.i0
  refine ON hin.e0 hin.e1 λx hx=>ON hin.i0 (by have:=(hin.x x hx).2;omega) λy hy=>?_
  have hxq:=h.at hx
  refine tF (λq=>match q with | .inl q=>q.iV=y.iV+r.iV | .inr q=>q.2≠0) ?_ λq hq=>?_
  · repeat' with_reducible first | refine aXZ rfl ?_ | refine x_eq (a7S _ _) ?_ | apply aL2 | refine aEY (λk=>aGQ (aEV k)) λ_=>?_
    exact XC (a7Y (Classical.not_not.1 (by assumption))).1
  · cases q with
    | inr q=>exact ⟨_,rfl,λh=>absurd h hq⟩
    | inl q =>
      refine aK3 ?_
      have:=h.el;have:=hxq.rl
      refine tF (λ_=>True) (x_a (ON hin.e0 hin.e1 λ_ _=>aEV trivial)) λ_ _=>aQZ hin.e0 hx (x_a ?_)
      refine aQZ hin.i0 hy (aL2 (aEV λ_=>?_))
      refine Mv.set (h.aSC ⟨hxq.pl,hxq.pq,hxq.bl,by simp;exact hxq.rl,hxq.pr,hxq.dn,hxq.ah⟩ hx) hx hb (by simp [eS]) (by simp [eS]) (by simp [eS]) (by simp [eS]) ?_ λq hq=>hb x (List.mem_of_getElem? hx) q hq
      have hi:i.toNat=0:=by omega
      rw [hi] at hy ⊢
      unfold rL
      simp only
      cases hr:x.dI with
      | nil=>rw [hr] at hy;simp at hy
      | cons a l =>
        rw [hr] at hy
        simp only [List.getElem?_cons_zero,Option.some.injEq] at hy
        subst hy
        simp only [List.set]
        exact hq
end Go.Pv
