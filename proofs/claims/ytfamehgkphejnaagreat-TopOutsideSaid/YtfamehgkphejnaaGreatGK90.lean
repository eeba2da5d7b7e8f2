import Derived.Test.YtfamehgkphejnaaGreatTR80
set_option linter.unusedVariables false
set_option linter.unusedSimpArgs false
namespace Go.Pv
open Go.Proofs
set_option maxRecDepth 100000
set_option maxHeartbeats 1000000
structure OQ (o:aS):Prop where
  q:XE o.aQ/\XE o.bD
  r:o.bT.length<20
theorem aZ5 {n:Nat} {s:aA} {o:aS} (hn:250<=n) (h:SQ s) (ho:OQ o):Ex (Kp s) (aTX n s o):=by
  unfold aTX aUK;simp only [WT.run,O9]
  have fin:∀ {D:Option (aA×Int)},(In' s o.E o.Item->Ex (Kp s) D)->Ex (Kp s) ((lH s o.E o.Item).bind λx=>bnd (decide (x≠0)) λx_1=>bif x_1 then some (s,x) else D.bind λx=>bnd (decide (x.snd≠0)) λx_2=>bif x_2 then some (s,x.snd) else some (x.fst,0)):=λ{D} hD =>
    tF _ (aGE h) λy hy=>aL2 (aEY (λ_=>aEV ⟨h,rfl⟩) λhy'=>tF _ (hD (hy (Classical.not_not.1 hy'))) λr hr=>aL2 (aEY (λ_=>aEV ⟨h,rfl⟩) λ_=>aEV hr))
  exact aL2 (aEY (λ_=>fin λ_=>a0X hn h ho.q.1) λk6=>aL2 (aEY (λ_=>fin λhi=>a0Q hn h hi) λk7=>aL2 (aEY (λ_=>fin λ_=>a2P hn h ho.q.1) λk8=>aL2 (aEY (λ_=>fin λhi=>aYQ hn h hi ho.q.2) λk9=>aL4 ⟨k6,k7,k8,k9⟩ (aEV ⟨h,rfl⟩)))))
structure Ap (s:aA) (r:aA×Int):Prop where
  q:SQ r.1
  no:r.2≠0->r.1=s
  ok:r.2=0->r.1.Done=if 288230376151711744<aI (s.Done+1) then 288230376151711744 else aI (s.Done+1)
theorem SQ.done {s:aA} (h:SQ s) {k:Int}:SQ ⟨s.bA,s.aW,s.bP,s.bU,s.bY,k⟩:=⟨h.el,h.eq,h.wl,h.ml,h.mq,h.cl,h.cq,h.rl,h.rq,h.sl,h.sq,h.tl,h.tq⟩
theorem aT0 {n:Nat} {s:aA} {o:aS} (hn:250<=n) (h:SQ s) (ho:OQ o):Ex (Ap s) (lF n s o):=by
  unfold lF aFD;simp only [WT.run,O9]
  have fin:∀ {D:Option (aA×Int)},Ex (Kp s) D->Ex (Ap s) (((nJ n o).bind λx=>bnd (!x) λx_1=>bif x_1 then some true else some false).bind λy=>bif y then some (s,1) else D.bind λx=>bnd (decide (x.snd≠0)) λx_1=>bif x_1 then some (s,x.snd) else bnd (aI (x.fst.Done+1)) λx_2=>bnd (if 288230376151711744<x_2 then 288230376151711744 else x_2) λx_3=>some (({ bA:=x.fst.bA,aW:=x.fst.aW,bP:=x.fst.bP,bU:=x.fst.bU,bY:=x.fst.bY,Done:=x_3 }:aA),0)):=λ{D} hD =>
    tF (λ_=>True) (tF _ (aVB hn ho.r) λ_ _=>aL2 (aFQ (λ_=>aEV trivial) λ_=>aEV trivial)) λb _=>aFQ (λ_=>aEV ⟨h,λ_=>rfl,λh=>absurd h (show ¬ (1:Int)=0 by decide)⟩) λ_=>tF _ hD λr hr=>aL2 (aEY (λk=>aEV ⟨h,λ_=>rfl,λh=>absurd h k⟩) λ_=>aL2 (aL2 (aEV ⟨hr.1.done,λh=>absurd rfl h,λ_=>by rw [hr.2]⟩)))
  refine tF (λ_=>True) ?_ λu _=>?_
  · repeat' with_reducible first | exact aEV trivial | refine x_v ?_ | refine aP8 ?_ | apply aL2 | refine ON (by omega) (by omega) λ_ _=>?_ | exact XC trivial | exact XC ⟨by omega,by (first | rfl | omega | (simp only;omega)),trivial⟩ | refine x_a ?_ | refine aP5 (λ_ _=>?_) λ_ _=>trivial | apply aI5 | apply aCE | apply aAR | apply Y4 | apply aOY | apply aIH | apply aKG | apply aMX | apply aDS | refine aEY (λ_=>?_) λ_=>?_ | refine aEW (λ_=>?_) λ_=>?_ | refine aFQ (λ_=>?_) λ_=>?_ | apply x_cT | apply x_cF | apply aK3 | apply aGQ | refine tF _ aPX λ_ _=>?_ | refine tF _ aLP λ_ _=>?_ | refine tF _ aGO λ_ _=>?_ | refine tF _ aPW λ_ _=>?_ | refine tF _ aOB λ_ _=>?_ | refine tF _ aPY λ_ _=>?_ | refine tF _ aPV λ_ _=>?_ | refine tF _ (aPX (by assumption)) λ_ _=>?_ | refine tF _ (aLP (by assumption)) λ_ _=>?_ | refine tF _ (aGO (by assumption)) λ_ _=>?_ | refine tF _ (aPW (by assumption)) λ_ _=>?_ | refine tF _ (aOB (by assumption)) λ_ _=>?_ | refine tF _ (aPY (by assumption)) λ_ _=>?_ | refine tF _ (aPV (by assumption)) λ_ _=>?_
  rcases u with u | u | u | u | u | u | u | u <;> simp only [Sum.elim,WT.run,O9]
  · exact fin (tF _ (aXU hn h ho.q) λr hr=>aEV hr)
  · exact fin (tF _ (a1G hn h ho.q) λr hr=>aEV hr)
  · have hA:=aZ5 hn h ho
    unfold aTX aUK at hA
    simp only [WT.run,O9] at hA
    exact fin (tF _ hA λr hr=>aEV hr)
  · exact fin (tF _ (a2C hn h ho.q) λr hr=>aEV hr)
  · exact fin (tF _ (aY8 hn h ho.r) λr hr=>aEV hr)
  · exact fin (tF _ (a0T hn h ho.q) λr hr=>aEV hr)
  · exact fin (tF _ (aYB h) λr hr=>aEV hr)
  · exact tF (λ_=>True) (tF _ (aVB hn ho.r) λ_ _=>aL2 (aFQ (λ_=>aEV trivial) λ_=>aEV trivial)) λ_ _=>aEV ⟨h,λ_=>rfl,λh=>absurd h (show ¬ (1:Int)=0 by decide)⟩
inductive Rn (n:Nat) (s:aA):List aS->aA->List Int->Prop
  | nil:Rn n s [] s []
  | snoc {l:List aS} {a:aA} {e:List Int} {o:aS} {t:aA} {x:Int}:Rn n s l a e->lF n a o=some (t,x)->Rn n s (l++[o]) t (e++[x])
theorem Rn.len {n:Nat} {s a:aA} {l:List aS} {e:List Int} (h:Rn n s l a e):e.length=l.length:=by
  induction h with
  | nil=>rfl
  | snoc _ _ ih=>simp [ih]
theorem Rn.sq {n:Nat} {s a:aA} {l:List aS} {e:List Int} (hn:250<=n) (hs:SQ s) (h:Rn n s l a e):(∀ o∈l,OQ o)->SQ a:=by
  induction h with
  | nil=>intro _;exact hs
  | snoc h1 h2 ih =>
    intro ho
    exact (aW4 (aT0 hn (ih λo h=>ho o (by simp [h])) (ho _ (by simp))) h2).q
structure OT (o:aS) (A:Int):Prop where
  q:XE o.aQ
  a0:0<=o.bD
  a1:o.bD+20<=A
  i:o.Item=0
  k:o.Kind=1\/o.Kind=8\/o.Kind=11\/o.Kind=12\/o.Kind=13
  r:o.Kind=11->∃ k,o.bT=[k]
  rl:o.bT.length<20
theorem OT.oq {o:aS} {A:Int} (h:OT o A) (hA:A<=100000):OQ o:=⟨⟨h.q,by have:=h.a0;have:=h.a1;unfold XE;omega⟩,h.rl⟩
def Wh (s:aA) (o:aS) (A:Int) (r:aA×Int):Prop:=r.2=0->∃ dq dw dl,Gm s r.1 dq dw A dl/\(o.Kind=1->dq=o.aQ/\dw=o.bD)/\(o.Kind=11->dq=0/\dw=dl)/\(o.Kind≠1->o.Kind≠11->dq=0/\dw=0)
theorem a5B {p q:Prop} {_:Decidable p} {_:Decidable q}:Ex (λb=>b=true↔p\/q) (bnd (decide p) λx=>cond x (some true) (bnd (decide q) λx=>some x)) :=
  aL2 (aEY (λh=>aEV ⟨λ_=>.inl h,λ_=>rfl⟩) λh=>aL2 (aEV ⟨λk=>.inr (of_decide_eq_true k),λk=>decide_eq_true (k.resolve_left h)⟩))
theorem bEK {p q r t:Prop} {_:Decidable p} {_:Decidable q} {_:Decidable r} {_:Decidable t}:Ex (λb=>b=true↔p\/q\/r\/t) (bnd (decide p) λx=>cond x (some true) (bnd (decide q) λx=>cond x (some true) (bnd (decide r) λx=>cond x (some true) (bnd (decide t) λx=>some x)))) :=
  aL2 (aEY (λh=>aEV ⟨λ_=>.inl h,λ_=>rfl⟩) λh=>aL2 (aEY (λh=>aEV ⟨λ_=>.inr (.inl h),λ_=>rfl⟩) λh2=>aL2 (aEY (λh=>aEV ⟨λ_=>.inr (.inr (.inl h)),λ_=>rfl⟩) λh3=>aL2 (aEV ⟨λk=>.inr (.inr (.inr (of_decide_eq_true k))),λk=>decide_eq_true (((k.resolve_left h).resolve_left h2).resolve_left h3)⟩))))
theorem Gm.done {s t:aA} {q w A d k:Int} (h:Gm s t q w A d):Gm s ⟨t.bA,t.aW,t.bP,t.bU,t.bY,k⟩ q w A d :=
  ⟨h.q,h.w,h.v,h.a,h.l,h.b,h.tr,h.el,h.ma,h.g,λi=>let r:=h.iN i;⟨r.e0,r.e1,r.i0,r.i1,r.x,r.m1,r.m,r.c1,r.c⟩⟩
theorem bC4 {n:Nat} {s:aA} {o:aS} {A:Int} (hn:250<=n) (h:SQ s) (hM:M3s s) (hb:LBs s) (ht:TRs s) (hW:s.bA.cB.length=1) (ho:OT o A) (hA:A<=100000):Ex (Wh s o A) (lF n s o):=by
  have hq:=ho.oq hA
  have a0:=ho.a0;have a1:=ho.a1;have hk:=ho.k
  unfold lF aFD;simp only [WT.run,O9]
  have fin:∀ {D:Option (aA×Int)},Ex (Wh s o A) D->Ex (Wh s o A) (((nJ n o).bind λx=>bnd (!x) λx_1=>bif x_1 then some true else some false).bind λy=>bif y then some (s,1) else D.bind λx=>bnd (decide (x.snd≠0)) λx_1=>bif x_1 then some (s,x.snd) else bnd (aI (x.fst.Done+1)) λx_2=>bnd (if 288230376151711744<x_2 then 288230376151711744 else x_2) λx_3=>some (({ bA:=x.fst.bA,aW:=x.fst.aW,bP:=x.fst.bP,bU:=x.fst.bU,bY:=x.fst.bY,Done:=x_3 }:aA),0)):=λ{D} hD =>
    tF (λ_=>True) (tF _ (aVB hn hq.r) λ_ _=>aL2 (aFQ (λ_=>aEV trivial) λ_=>aEV trivial)) λb _=>aFQ (λ_=>aEV λh=>absurd h (show ¬ (1:Int)=0 by decide)) λ_=>tF _ hD λr hr=>aL2 (aEY (λk=>aEV λh=>absurd h k) λk=>aL2 (aL2 (aEV λ_=>by
      obtain ⟨dq,dw,dl,g,e⟩:=hr (Classical.not_not.1 k)
      exact ⟨dq,dw,dl,g.done,e⟩)))
  refine tF (λu=>match u with | .inl _=>o.Kind=1 | .inr (.inl _)=>False | .inr (.inr (.inl _))=>o.Kind=8 | .inr (.inr (.inr (.inl _)))=>False | .inr (.inr (.inr (.inr (.inl _))))=>o.Kind=11 | .inr (.inr (.inr (.inr (.inr (.inl _)))))=>o.Kind=12\/o.Kind=13 | _=>False) ?_ λu hu=>?_
  · refine aL2 (aEY (λk=>aEV k) λk1=>?_)
    refine tF _ a5B λb hb=>aFQ (λk=>?_) λk2=>?_
    · have:=hb.1 k;omega
    refine tF _ bEK λb hb=>aFQ (λk=>aEV ?_) λk3=>?_
    · have:=hb.1 k;show o.Kind=8;omega
    have k3:¬ (o.Kind=6\/o.Kind=7\/o.Kind=8\/o.Kind=9):=λh=>by rw [hb.2 h] at k3;cases k3
    refine tF _ a5B λb hb=>aFQ (λk=>?_) λk4=>?_
    · have:=hb.1 k;omega
    refine aL2 (aEY (λk=>aEV k) λk5=>?_)
    refine tF _ a5B λb hb=>aFQ (λk=>aEV (hb.1 k)) λk6=>?_
    have k6:¬ (o.Kind=12\/o.Kind=13):=λh=>by rw [hb.2 h] at k6;cases k6
    omega
  rcases u with u | u | u | u | u | u | u | u <;> simp only [Sum.elim,WT.run,O9]
  · have hu:o.Kind=1:=hu
    exact fin (tF _ (bA0 (A:=A) hn h hM hb ht hW hq.q (by omega) (by omega)) λr hr=>aEV λk=>⟨_,_,_,hr k,λ_=>⟨rfl,rfl⟩,λh=>absurd (hu.symm.trans h) (by decide),λh=>absurd hu h⟩)
  · exact absurd hu id
  · have hu:o.Kind=8:=hu
    have hX:=bCF (A:=A) hn h hM hb ht hW hq.q.1 (by omega) hu
    unfold aTX aUK at hX
    simp only [WT.run,O9] at hX
    exact fin (tF _ hX λr hr=>aEV λk=>⟨_,_,_,hr k,λh=>absurd (hu.symm.trans h) (by decide),λh=>absurd (hu.symm.trans h) (by decide),λ_ _=>⟨rfl,rfl⟩⟩)
  · exact absurd hu id
  · have hu:o.Kind=11:=hu
    obtain ⟨k,hr⟩:=ho.r hu
    exact fin (tF _ (bB4 (A:=A) hn h hb ht hW hr (by omega) hA (by omega)) λr hr=>aEV λk=>by
      obtain ⟨c,g⟩:=hr k
      exact ⟨_,_,_,g,λh=>absurd (hu.symm.trans h) (by decide),λ_=>⟨rfl,rfl⟩,λ_ h=>absurd hu h⟩)
  · have hu:o.Kind=12\/o.Kind=13:=hu
    exact fin (tF _ (bFO (A:=A) hn h hM hb ht hW hq.q (by omega) hA ho.i) λr hr=>aEV λk=>⟨_,_,_,hr k,λh=>by omega,λh=>by omega,λ_ _=>⟨rfl,rfl⟩⟩)
  · exact absurd hu id
  · exact absurd hu id
theorem bEC {n:Nat} {s:aA} {o:aS} {A:Int} (hn:250<=n) (h:SQ s) (hM:M3s s) (hb:LBs s) (ht:TRs s) (hW:s.bA.cB.length=1) (ho:OT o A) (hA:A<=100000):Ex (λr=>SQ r.1/\(r.2≠0->r.1=s)/\Wh s o A r) (a4Q n s o):=by
  have hk:=ho.k
  unfold a4Q a9I;simp only [WT.run,O9]
  refine tF _ (aVB hn ho.rl) λb _=>aL2 (aFQ (λ_=>aEV ⟨h,λ_=>rfl,λh=>absurd h (show ¬ (1:Int)=0 by decide)⟩) λ_=>?_)
  refine tF (λr=>match r with | .inl _=>False | .inr q=>SQ q.1/\(q.2≠0->q.1=s)/\Wh s o A q) ?_ λr hr=>aP5 (λa e=>by subst e;exact absurd hr id) λq e=>by subst e;exact hr
  refine aL2 (aEY (λk=>by omega) λ_=>aL2 (aEY (λk=>by omega) λ_=>aL2 (aEY (λk=>by omega) λ_=>?_)))
  exact tF _ (aUT (aT0 hn h (ho.oq hA)) (bC4 hn h hM hb ht hW ho hA)) λr hr=>aGQ (aEV ⟨hr.1.q,hr.1.no,hr.2⟩)
structure TI (s:aA):Prop where
  sq:SQ s
  m3:M3s s
  lb:LBs s
  tr:TRs s
  w1:s.bA.cB.length=1
  iN:∀ e:Int,0<=e->e<3->In' s e 0
  g:s.aW.map gX=[([0],2),([0],2),([0],2)]
theorem TI.el {s:aA} (h:TI s):s.aW.length=3:=by
  have:=congrArg List.length h.g
  simpa using this
theorem TI.at {s:aA} (h:TI s) {i:Nat} {x:aP} (hx:s.aW[i]?=some x):x.Down=[0]/\x.dD.length=2:=by
  have h1:=congrArg (λl:List (List Int×Nat)=>l[i]?) h.g
  simp only [List.getElem?_map,hx,Option.map_some] at h1
  have hi:i<3:=by have:=h.el;have:=(List.getElem?_eq_some_iff.1 hx).1;omega
  have h2:gX x=([0],2):=by
    match i,hi with
    | 0,_=>simpa using h1
    | 1,_=>simpa using h1
    | 2,_=>simpa using h1
  exact ⟨congrArg Prod.fst h2,congrArg Prod.snd h2⟩
theorem TI.step {s t:aA} {q w A d:Int} (h:TI s) (k:Gm s t q w A d) (hq:SQ t):TI t :=
  ⟨hq,by unfold M3s;rw [k.ma];exact h.m3,k.b,k.tr,by rw [k.ma];exact h.w1,λe h0 h1=>k.iN (h.iN e h0 h1),k.g.trans h.g⟩
theorem a5U {s:aA} (h:TRs s):0<=aUZ s/\0<=aT2 s/\0<=aYA s/\((aXP s).natAbs:Int)<=aYA s :=
  ⟨(aVO (aUB λx hx=>(h x hx).1)).1,(aVO (aUB λx hx=>(h x hx).2.1)).1,a5Q _,a7O _⟩
theorem a6X (s:aA):((gS fP s).natAbs:Int)<=gS fA s:=by
  have h1:∀ l:List aM,((sI (l.map fP)).natAbs:Int)<=sI (l.map fA):=by
    intro l
    induction l with
    | nil=>simp [sI]
    | cons p l ih=>have:=a7V p;simp only [List.map_cons,sI];omega
  have h2:∀ l:List aP,((sI (l.map (eS fP))).natAbs:Int)<=sI (l.map (eS fA)):=by
    intro l
    induction l with
    | nil=>simp [sI]
    | cons x l ih=>have:=h1 x.dD;simp only [List.map_cons,sI];unfold eS;unfold eS at ih;omega
  exact h2 s.aW
theorem LBs.le {s:aA} (h:LBs s) {x:aP} (hx:x∈s.aW):eS fQ x<=gS fQ s/\eS fV x<=gS fV s/\eS fA x<=gS fA s :=
  ⟨(aVO (aUB λx hx=>(aVO (aUB λp hp=>(aX6 (h x hx p hp).ok).1)).1)).2 _ (List.mem_map_of_mem hx),(aVO (aUB λx hx=>(aVO (aUB λp hp=>(aX6 (h x hx p hp).ok).2)).1)).2 _ (List.mem_map_of_mem hx),(aVO (aUB λx hx=>(aVO (aUB λp hp=>a4U _)).1)).2 _ (List.mem_map_of_mem hx)⟩
theorem a9P:∀ {l:List Int},(∀ x∈l,x=0)->sAb l=0
  | [],_=>rfl
  | x :: l,h=>by
    have h1:=a9P (l:=l) λy hy=>h y (List.mem_cons_of_mem _ hy)
    have h2:=h x (List.mem_cons_self ..)
    simp only [sAb,h1,h2];rfl
theorem bCT (s:aA):sAb (s.aW.map (eS fP))<=gS fA s:=by
  have h1:∀ l:List aM,((sI (l.map fP)).natAbs:Int)<=sI (l.map fA):=by
    intro l
    induction l with
    | nil=>simp [sI]
    | cons p l ih=>have:=a7V p;simp only [List.map_cons,sI];omega
  have h2:∀ l:List aP,sAb (l.map (eS fP))<=sI (l.map (eS fA)):=by
    intro l
    induction l with
    | nil=>simp [sI,sAb]
    | cons x l ih=>have:=h1 x.dD;simp only [List.map_cons,sI,sAb];unfold eS;unfold eS at ih;omega
  exact h2 s.aW
theorem bA1 {n:Nat} {s:aA} (hn:250<=n) (h:TI s) (b1:gS fQ s+aUZ s<=100000000) (b2:gS fV s+aT2 s<=100000000) (b3:gS fA s+aYA s<=100000000):Ex (λr=>r.aQ=gS fQ s+aUZ s/\r.Value=gS fV s+aT2 s/\r.bO=gS fP s+aXP s) (a5F n s 0):=by
  have hw:=h.w1;have hel:=h.el
  have nn:=h.lb.nn;have wn:=a5U h.tr
  have htl:=h.sq.tl
  unfold a5F a9Q a6S bAX;simp only [WT.run,O9]
  refine tF (λb=>b=false) (aL2 (aEY (λk=>absurd k (by decide)) λ_=>aL2 (aEV (decide_eq_false (by omega))))) λb hb=>aFQ (λk=>by rw [hb] at k;cases k) λ_=>?_
  refine tF (λr=>r.2=0/\r.1.aQ=gS fQ s+aUZ s/\r.1.Value=gS fV s+aT2 s/\r.1.bO=gS fP s+aXP s) ?_ λr hr=>aL2 (aEY (λk=>absurd hr.1 k) λ_=>aEV hr.2)
  refine tF (λa=>a=(s.aW.map (eS fQ),s.aW.map (eS fV),s.aW.map (eS fP))) (aQB (m:=s.aW.length) (λv=>v.1) (λv=>v.2.1=(s.aW.take v.1.toNat).map (eS fQ)/\v.2.2.1=(s.aW.take v.1.toNat).map (eS fV)/\v.2.2.2=(s.aW.take v.1.toNat).map (eS fP)) ⟨by simp,by simp,by simp⟩ (by omega) λv h1 h2 h3=>?_) λa ha=>?_
  · obtain ⟨i,p,q,w⟩:=v
    simp only at h1 h2 h3
    obtain ⟨rfl,rfl,rfl⟩:=h3
    simp only [p2]
    refine aL2 (aEY (λhk=>?_) λ_=>aGQ (aEV ?_))
    · have hy:=List.getElem?_eq_getElem (l:=s.aW) (i:=i.toNat) (by omega)
      generalize s.aW[i.toNat]'(by omega)=y at hy
      have hL:(s.aW.take i.toNat).length<=3:=by simp only [List.length_take];omega
      have hle:=h.lb.le (List.mem_of_getElem? hy)
      refine x_eq (bCN hn h.sq (h.iN i h1 (by omega)) h.lb hy (h.at hy).2 (by omega) (by omega) (by omega)) ?_
      exact aL2 (aL4 (by simp only [List.length_append,List.length_map,List.length_singleton];omega) (aL2 (aL4 (by simp only [List.length_append,List.length_map,List.length_singleton];omega) (aL2 (aL4 (by simp only [List.length_append,List.length_map,List.length_singleton];omega) (x_v (XC ⟨hk,rfl,(a1Q _ h1 hy).symm,(a1Q _ h1 hy).symm,(a1Q _ h1 hy).symm⟩)))))))
    · rw [List.take_of_length_le (by omega)]
  subst ha
  simp only [p2]
  refine tF (λa=>a=(s.aW.map (eS fQ)++s.bY.map dB.aQ,s.aW.map (eS fV)++s.bY.map dB.Value,s.aW.map (eS fP)++s.bY.map dB.bO)) (aQB (m:=s.bY.length) (λv=>v.1) (λv=>v.2.1=s.aW.map (eS fQ)++(s.bY.take v.1.toNat).map dB.aQ/\v.2.2.1=s.aW.map (eS fV)++(s.bY.take v.1.toNat).map dB.Value/\v.2.2.2=s.aW.map (eS fP)++(s.bY.take v.1.toNat).map dB.bO) ⟨by simp,by simp,by simp⟩ (by omega) λv h1 h2 h3=>?_) λa ha=>?_
  · obtain ⟨i,p,q,w⟩:=v
    simp only at h1 h2 h3
    obtain ⟨rfl,rfl,rfl⟩:=h3
    simp only
    refine aL2 (aEY (λhk=>tF (λr=>r=(s.aW.map (eS fQ)++(s.bY.take (i+1).toNat).map dB.aQ,s.aW.map (eS fV)++(s.bY.take (i+1).toNat).map dB.Value,s.aW.map (eS fP)++(s.bY.take (i+1).toNat).map dB.bO)) (ON h1 hk λx hx=>?_) λr hr=>by subst hr;exact x_v (XC ⟨hk,rfl,rfl,rfl,rfl⟩)) λ_=>aGQ (aEV ?_))
    · have hx2:=h.tr x (List.mem_of_getElem? hx)
      have hL:(s.bY.take i.toNat).length<=40:=by simp only [List.length_take];omega
      refine aL2 (aEY (λ_=>?_) λk=>absurd hx2.2.2 k)
      refine aL2 (aL4 (by simp only [List.length_append,List.length_map,List.length_singleton];omega) (aL2 (aL4 (by simp only [List.length_append,List.length_map,List.length_singleton];omega) (aL2 (aL4 (by simp only [List.length_append,List.length_map,List.length_singleton];omega) (aEV ?_))))))
      rw [a1Q dB.aQ h1 hx,a1Q dB.Value h1 hx,a1Q dB.bO h1 hx]
      simp only [List.append_assoc]
    · rw [List.take_of_length_le (by omega)]
  subst ha
  simp only
  refine tF (λr=>r.2=0) (tF (λl=>l.length<=3/\∀ z∈l,z=(0:Int)) (aQB (m:=s.aW.length) (λv=>v.1) (λv=>(v.2.length:Int)=v.1/\∀ z∈v.2,z=0) ⟨by simp,by simp,by simp,λ_ h=>(by cases h)⟩ (by omega) λv h1 h2 h3=>?_) λl hl=>?_) λr hr=>?_
  · obtain ⟨i,l⟩:=v
    obtain ⟨h3,h4⟩:=h3
    simp only at h1 h2 h3 h4
    simp only
    refine aL2 (aEY (λhk=>ON h1 hk λx hx=>tF (λr=>r=0) ?_ λr hr=>aL2 (aL4 (by simp only [List.length_append,List.length_singleton];omega) (x_v (XC ⟨hk,rfl,?_,λz hz=>?_⟩)))) λ_=>aGQ (aEV ⟨by omega,h4⟩))
    · rw [(h.at hx).1]
      exact aL2 (aEY (λk=>aEV rfl) λ_=>aXZ rfl (aEV rfl))
    · simp only [List.length_append,List.length_singleton];omega
    · rcases List.mem_append.1 hz with hz | hz
      · exact h4 z hz
      · rw [List.mem_singleton.1 hz];exact hr
  · refine x_eq (aZ4 ⟨by omega,hn⟩) (aEV ?_)
    rw [a2B (by rw [a9P hl.2];decide)]
  · have q1:=a3Y (l:=s.aW.map (eS fQ)++s.bY.map dB.aQ) λz hz=>by
      rcases List.mem_append.1 hz with hz | hz
      · exact aUB (λx hx=>(aVO (aUB λp hp=>(aX6 (h.lb x hx p hp).ok).1)).1) z hz
      · exact aUB (λx hx=>(h.tr x hx).1) z hz
    have q2:=a3Y (l:=s.aW.map (eS fV)++s.bY.map dB.Value) λz hz=>by
      rcases List.mem_append.1 hz with hz | hz
      · exact aUB (λx hx=>(aVO (aUB λp hp=>(aX6 (h.lb x hx p hp).ok).2)).1) z hz
      · exact aUB (λx hx=>(h.tr x hx).2.1) z hz
    have q3:sAb (s.aW.map (eS fP)++s.bY.map dB.bO)<=gS fA s+aYA s:=by rw [a7D];have:=bCT s;unfold aYA;omega
    have e1:=aZ4 (n:=n) (l:=s.aW.map (eS fQ)++s.bY.map dB.aQ) ⟨by simp only [List.length_append,List.length_map];omega,hn⟩
    have e2:=aZ4 (n:=n) (l:=s.aW.map (eS fV)++s.bY.map dB.Value) ⟨by simp only [List.length_append,List.length_map];omega,hn⟩
    have e3:=aZ4 (n:=n) (l:=s.aW.map (eS fP)++s.bY.map dB.bO) ⟨by simp only [List.length_append,List.length_map];omega,hn⟩
    have t1:sI (s.aW.map (eS fQ)++s.bY.map dB.aQ)=gS fQ s+aUZ s:=aV8 _ _
    have t2:sI (s.aW.map (eS fV)++s.bY.map dB.Value)=gS fV s+aT2 s:=aV8 _ _
    have t3:sI (s.aW.map (eS fP)++s.bY.map dB.bO)=gS fP s+aXP s:=aV8 _ _
    rw [a2B (by omega),t1] at e1
    rw [a2B (by omega),t2] at e2
    rw [a2B (by omega),t3] at e3
    obtain ⟨d,e⟩:=r
    simp only at hr
    subst hr
    refine tF (λr=>r.1=0/\r.2.aQ=gS fQ s+aUZ s/\r.2.Value=gS fV s+aT2 s/\r.2.bO=gS fP s+aXP s) (x_eq e1 (aL2 (x_eq e2 (aL2 (x_eq e3 (aL2 (aEV ⟨by simp,rfl,rfl,rfl⟩))))))) λr hr=>aEV hr
end Go.Pv
