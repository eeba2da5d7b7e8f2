import Derived.Test.YtfamehgkphejnaaGreatGH90
import Derived.Test.YtfamehgkphejnaaGreatGB90
set_option linter.unusedVariables false
set_option linter.unusedSimpArgs false
namespace Go.Pv
open Go.Proofs
set_option maxRecDepth 100000
set_option maxHeartbeats 1000000
theorem bF5 {α:Type} {P:α->Prop} {a b:Option α} (h:Ex P b):Ex P (cond (!true) a b):=h
theorem bFD {s:aA} {e i:Int} (h:SQ s) (hi:In' s e i):zC s e i=some true:=by
  have hw:=h.wl;have h1:=hi.e0;have h2:=hi.e1;have h3:=hi.i0;have h4:=hi.i1
  refine aQX ?_
  unfold zC XU;simp only [WT.run,O9]
  refine tF (λb=>b=false) ?_ λb hb=>aFQ (λk=>by rw [hb] at k;cases k) λ_=>?_
  · exact aL2 (aEY (λk=>absurd k (by omega)) λ_=>aL2 (aEY (λk=>absurd k (by omega)) λ_=>aL2 (aEY (λk=>absurd k (by omega)) λ_=>aL2 (aEV (decide_eq_false (by omega))))))
  · refine ON h1 h2 λx hx=>?_
    have hx2:=hi.x x hx
    exact tF (λb=>b=true) (x_v (aL2 (aEY (λ_=>aL2 (aEY (λ_=>aL2 (aEY (λ_=>aL2 (aEY (λ_=>ON h1 hi.m1 λm hm=>aL2 (aEY (λ_=>ON h1 hi.c1 λc hc=>aL2 (aEV (decide_eq_true (hi.c c hc)))) λk=>absurd (hi.m m hm) k)) λk=>absurd hi.c1 k)) λk=>absurd hi.m1 k)) λk=>absurd hx2.2 k)) λk=>absurd hx2.1 k))) λb hb=>aEV hb
theorem bCP {a b c:Int} (h:b<=a/\a<=c):UX a b c=some true:=by
  refine aQX ?_
  unfold UX aIS;simp only [WT.run,O9]
  exact tF (λr=>r=true) (aL2 (aEY (λ_=>aL2 (aEV (decide_eq_true h.2))) λk=>absurd h.1 k)) λr hr=>aEV hr
theorem bC3 {s:aA} {e i l:Int} (h:SQ s) (hi:In' s e i) (hl:0<=l/\l<=1):zN s e i l=some (i*2+l):=by
  have hw:=h.wl;have h3:=hi.i0;have h4:=hi.i1
  refine aQX ?_
  unfold zN aLD;simp only [WT.run,O9]
  refine tF (λb=>b=false) ?_ λb hb=>aFQ (λk=>by rw [hb] at k;cases k) λ_=>x_v (x_v (aEV rfl))
  exact x_eq (bFD h hi) (aL2 (bF5 (x_eq (bCP hl) (aL2 (aEV rfl)))))
theorem bE9 {s:aA} {e i l:Int} {y:aP} {p:aM} (h:SQ s) (hi:In' s e i) (hl:0<=l/\l<=1) (hy:s.aW[e.toNat]?=some y) (hp:y.dD[(i*2+l).toNat]?=some p):yG s e i l=some p:=by
  have h3:=hi.i0
  have hq:=((h.at hy).at hp).1.1
  refine aQX ?_
  unfold yG aJC;simp only [WT.run,O9]
  exact x_eq (bC3 h hi hl) (aL2 (aEY (λk=>absurd k (by omega)) λ_=>aQZ hi.e0 hy (aQZ (by omega) hp (x_a (aEV rfl)))))
theorem a3Y:∀ {l:List Int},(∀ x∈l,0<=x)->sAb l=sI l
  | [],_=>rfl
  | x :: l,h=>by
    have h1:=a3Y (l:=l) λy hy=>h y (List.mem_cons_of_mem _ hy)
    have h2:=h x (List.mem_cons_self ..)
    simp only [sAb,sI,h1];omega
theorem bFP {n:Nat} {l:List aB} (hn:250<=n) (hb:LB l):y8 n l=some (tot l,0):=by
  have hl:=hb.len
  obtain ⟨⟨t,e⟩,h1,h2,h3⟩:=a6M (n:=n) (l:=l) ⟨by omega,hn⟩
  simp only at h2 h3
  have z1:(aSF (l.map aB.aQ)).2=0:=by
    rw [a2B (by rw [a3Y (a4I λx hx=>by have:=hb.ok x hx;omega)];exact hb.q)]
  have z2:(aSF (l.map aB.Value)).2=0:=by
    rw [a2B (by rw [a3Y (a4I λx hx=>(hb.ok x hx).2)];exact hb.v)]
  have z3:(aSF (l.map aB.bO)).2=0:=by
    rw [a2B hb.a]
  have he:=h3 ⟨z1,z2,z3⟩
  rw [h1,he,(h2 he).1]
theorem a1Q {α β:Type} (f:α->β) {l:List α} {i:Int} {x:α} (h0:0<=i) (hx:l[i.toNat]?=some x):(l.take (i+1).toNat).map f=(l.take i.toNat).map f++[f x]:=by
  rw [show (i+1).toNat=i.toNat+1 by omega,List.take_add_one,hx]
  simp
theorem a7V (p:aM):((fP p).natAbs:Int)<=fA p:=a7C _
theorem bB0 {n:Nat} {s:aA} {e:Int} {y:aP} (hn:250<=n) (h:SQ s) (hi:In' s e 0) (hb:LBs s) (hy:s.aW[e.toNat]?=some y) (h2:y.dD.length=2) (b1:eS fQ y<=288230376151711744) (b2:eS fV y<=288230376151711744) (b3:eS fA y<=288230376151711744):SB n s e 0=some (⟨eS fQ y,eS fV y,eS fP y⟩,true):=by
  have hbp:=hb y (List.mem_of_getElem? hy)
  refine aQX ?_
  unfold SB aBY;simp only [WT.run,O9]
  refine tF (λa=>a=(y.dD.map fQ,y.dD.map fV,y.dD.map fP)) (aQB (m:=2) (λv=>v.1) (λv=>v.2.1=(y.dD.take v.1.toNat).map fQ/\v.2.2.1=(y.dD.take v.1.toNat).map fV/\v.2.2.2=(y.dD.take v.1.toNat).map fP) ⟨by simp,by simp,by simp⟩ (by omega) λv h1 h2' h3=>?_) λa ha=>?_
  · obtain ⟨k,p,q,w⟩:=v
    simp only at h1 h2' h3
    obtain ⟨rfl,rfl,rfl⟩:=h3
    simp only [p2]
    refine aL2 (aEY (λhk=>?_) λ_=>aGQ (aEV ?_))
    · have hp:=List.getElem?_eq_getElem (l:=y.dD) (i:=k.toNat) (by omega)
      generalize y.dD[k.toNat]'(by omega)=p at hp
      have hL:(y.dD.take k.toNat).length<=2:=by simp only [List.length_take];omega
      have hpb:=hbp p (List.mem_of_getElem? hp)
      refine x_eq (bE9 h hi (by omega) hy (p:=p) (by rw [show (0*2+k).toNat=k.toNat by omega];exact hp)) (x_eq (bFP hn hpb) ?_)
      refine aL2 (aL4 (by simp only [List.length_append,List.length_map,List.length_singleton];omega) (aL2 (aL4 (by simp only [List.length_append,List.length_map,List.length_singleton];omega) (aL2 (aL4 (by simp only [List.length_append,List.length_map,List.length_singleton];omega) (x_v (XC ⟨by omega,rfl,(a1Q _ h1 hp).symm,(a1Q _ h1 hp).symm,(a1Q _ h1 hp).symm⟩)))))))
    · rw [List.take_of_length_le (by omega)]
  · subst ha
    simp only [p2]
    have nq:∀ x∈y.dD.map fQ,0<=x:=aUB λp hp=>(aX6 (hbp p hp).ok).1
    have nv:∀ x∈y.dD.map fV,0<=x:=aUB λp hp=>(aX6 (hbp p hp).ok).2
    have hA:∀ l:List aM,sAb (l.map fP)<=sI (l.map fA):=by
      intro l
      induction l with
      | nil=>simp [sAb,sI]
      | cons p l ih=>have:=a7V p;simp only [List.map_cons,sAb,sI];omega
    have hA2:=hA y.dD
    have e1:=aZ4 (n:=n) (l:=y.dD.map fQ) ⟨by simp;omega,hn⟩
    have e2:=aZ4 (n:=n) (l:=y.dD.map fV) ⟨by simp;omega,hn⟩
    have e3:=aZ4 (n:=n) (l:=y.dD.map fP) ⟨by simp;omega,hn⟩
    rw [a2B (by rw [a3Y nq];exact b1)] at e1
    rw [a2B (by rw [a3Y nv];exact b2)] at e2
    rw [a2B (by unfold eS at b3;omega)] at e3
    exact x_eq e1 (x_eq e2 (x_eq e3 (aL2 (aL2 (aEV rfl)))))
theorem bCN {n:Nat} {s:aA} {e:Int} {y:aP} (hn:250<=n) (h:SQ s) (hi:In' s e 0) (hb:LBs s) (hy:s.aW[e.toNat]?=some y) (h2:y.dD.length=2) (b1:eS fQ y<=288230376151711744) (b2:eS fV y<=288230376151711744) (b3:eS fA y<=288230376151711744):a3S n s e 0=some ⟨eS fQ y,eS fV y,eS fP y⟩:=by
  refine aQX ?_
  unfold a3S bAC;simp only [WT.run,O9]
  exact x_eq (bB0 hn h hi hb hy h2 b1 b2 b3) (aEV rfl)
theorem a0W:Tot MG:=by
  unfold MG aAN;simp only [WT.run,O9]
  exact aEV trivial
theorem aZX {l:List UInt8} {c:Int}:Tot (qL l c):=by
  unfold qL aF3;simp only [WT.run,O9]
  refine tF (λ_=>True) ?_ λ_ _=>aEV trivial
  unfold UK WK;simp only [WT.run,O9]
  exact aL2 (aEV trivial)
theorem a2E {k c:Int}:Tot (oV k c):=by
  unfold oV
  repeat' with_reducible first | exact aEV trivial | refine x_v ?_ | refine aP8 ?_ | apply aL2 | refine ON (by omega) (by omega) λ_ _=>?_ | exact XC trivial | exact XC ⟨by omega,by (first | rfl | omega | (simp only;omega)),trivial⟩ | refine x_a ?_ | refine aP5 (λ_ _=>?_) λ_ _=>trivial | apply aI5 | apply aCE | apply aAR | apply Y4 | apply aOY | apply aIH | apply aKG | apply aMX | apply aDS | refine aEY (λ_=>?_) λ_=>?_ | refine aEW (λ_=>?_) λ_=>?_ | refine aFQ (λ_=>?_) λ_=>?_ | apply x_cT | apply x_cF | apply aK3 | apply aGQ | refine tF _ aPX λ_ _=>?_ | refine tF _ aLP λ_ _=>?_ | refine tF _ aGO λ_ _=>?_ | refine tF _ aPW λ_ _=>?_ | refine tF _ aOB λ_ _=>?_ | refine tF _ aPY λ_ _=>?_ | refine tF _ aPV λ_ _=>?_ | refine tF _ (aPX (by assumption)) λ_ _=>?_ | refine tF _ (aLP (by assumption)) λ_ _=>?_ | refine tF _ (aGO (by assumption)) λ_ _=>?_ | refine tF _ (aPW (by assumption)) λ_ _=>?_ | refine tF _ (aOB (by assumption)) λ_ _=>?_ | refine tF _ (aPY (by assumption)) λ_ _=>?_ | refine tF _ (aPV (by assumption)) λ_ _=>?_
theorem a2F {n:Nat} {l:List Int} (hn:250<=n) (hl:l.length<20):Tot (J3 n l):=by
  unfold J3 aK6;simp only [WT.run,O9]
  refine tF (λ_=>True) (aQB (m:=l.length) (λv=>v.1) (λv=>v.2.length=40) ⟨by simp,by simp,by simp⟩ (by omega) λv h1 h2 h3=>?_) λr _=>aP5 (λ_ _=>aL2 (aEV trivial)) λ_ _=>trivial
  obtain ⟨i,s⟩:=v
  simp only at h1 h2 h3
  simp only [p2]
  refine aL2 (aEY (λhk=>ON h1 hk λx hx=>tF (λb=>b=false->0<=x/\x<40) (aL2 (aEY (λ_=>aEV λh=>by cases h) λk1=>aL2 (aEY (λ_=>aEV λh=>by cases h) λk2=>aL4 ⟨by omega,by omega⟩ (ON (by omega) (by omega) λ_ _=>aEV λ_=>⟨by omega,by omega⟩)))) λb hb=>aFQ (λ_=>aGQ (aGQ (aEV trivial))) λhb'=>?_) λ_=>aGQ (XC trivial))
  have hx2:=hb hb'
  exact aL4 hx2 (ON hx2.1 (by omega) λ_ _=>aL2 (x_v (XC ⟨hk,rfl,by simp;exact h3⟩)))
theorem aRN {x:List UInt8} {k c v:Int} {R:Option Bool} (hR:Tot R):Tot (((((qL x c).bind λ(x11:Int)=>some x11).bind λy=>bnd (decide (y>=0)) λb=>some b).bind λb=>(cond b ((oV k c).bind λp=>some (p.1,p.2)) (some (0,0))).bind (p2 λlo hi=>(some ()).bind λ(_:Unit)=>(bnd (decide (v<lo)) λx17=>cond x17 (some true) (bnd (decide (v>hi)) λx18=>some x18)).bind λb=>cond b (some false) R))):=by
  refine tF (λ_=>True) (tF (λ_=>True) (tF (λ_=>True) aZX λ_ _=>aEV trivial) λ_ _=>aL2 (aEV trivial)) λ_ _=>tF (λ_=>True) (aFQ (λ_=>tF _ a2E λ_ _=>aEV trivial) λ_=>aEV trivial) λr _=>?_
  show Ex _ (Option.bind (bnd (decide (v<r.1)) λx17=>cond x17 (some true) (bnd (decide (v>r.2)) λx18=>some x18)) _)
  exact tF (λ_=>True) (aL2 (aEY (λ_=>aEV trivial) λ_=>aL2 (aEV trivial))) λ_ _=>aFQ (λ_=>aEV trivial) λ_=>hR
theorem aVB {n:Nat} {o:aS} (hn:250<=n) (hr:o.bT.length<20):Tot (nJ n o):=by
  unfold nJ
  refine tF (λb=>b=false->1<=o.Kind/\o.Kind<=16) (aL2 (aEY (λ_=>aEV λh=>by cases h) λh1=>aL2 (aEV λh2=>by have:=of_decide_eq_false h2;omega))) λb hb=>aFQ (λ_=>aEV trivial) λhb'=>tF _ a0W λf _=>ON (by have:=hb hb';omega) (by have:=hb hb';simp;omega) λx hx=>?_
  refine aRN (aRN (aRN (aRN (aRN (aRN (aRN ?_))))))
  refine aL2 (aEY (λ_=>tF _ (a2F hn hr) λ_ _=>aEV trivial) λ_=>tF (λ_=>True) ?_ λ_ _=>aEV trivial)
  repeat' with_reducible first | exact aEV trivial | refine x_v ?_ | refine aP8 ?_ | apply aL2 | refine ON (by omega) (by omega) λ_ _=>?_ | exact XC trivial | exact XC ⟨by omega,by (first | rfl | omega | (simp only;omega)),trivial⟩ | refine x_a ?_ | refine aP5 (λ_ _=>?_) λ_ _=>trivial | apply aI5 | apply aCE | apply aAR | apply Y4 | apply aOY | apply aIH | apply aKG | apply aMX | apply aDS | refine aEY (λ_=>?_) λ_=>?_ | refine aEW (λ_=>?_) λ_=>?_ | refine aFQ (λ_=>?_) λ_=>?_ | apply x_cT | apply x_cF | apply aK3 | apply aGQ | refine tF _ aPX λ_ _=>?_ | refine tF _ aLP λ_ _=>?_ | refine tF _ aGO λ_ _=>?_ | refine tF _ aPW λ_ _=>?_ | refine tF _ aOB λ_ _=>?_ | refine tF _ aPY λ_ _=>?_ | refine tF _ aPV λ_ _=>?_ | refine tF _ (aPX (by assumption)) λ_ _=>?_ | refine tF _ (aLP (by assumption)) λ_ _=>?_ | refine tF _ (aGO (by assumption)) λ_ _=>?_ | refine tF _ (aPW (by assumption)) λ_ _=>?_ | refine tF _ (aOB (by assumption)) λ_ _=>?_ | refine tF _ (aPY (by assumption)) λ_ _=>?_ | refine tF _ (aPV (by assumption)) λ_ _=>?_
structure OQ (o:aS):Prop where
  q:XE o.aQ/\XE o.bD
  r:o.bT.length<20
theorem aZ5 {n:Nat} {s:aA} {o:aS} (hn:250<=n) (h:SQ s) (ho:OQ o):Ex (Kp s) (aTX n s o):=by
  unfold aTX aUK;simp only [WT.run,O9]
  have fin:∀ {D:Option (aA×Int)},(In' s o.E o.Item->Ex (Kp s) D)->Ex (Kp s) ((lH s o.E o.Item).bind λx=>bnd (decide (x≠0)) λx_1=>bif x_1 then some (s,x) else D.bind λx=>bnd (decide (x.snd≠0)) λx_2=>bif x_2 then some (s,x.snd) else some (x.fst,0)):=λ{D} hD =>
    tF _ (aGE h) λy hy=>aL2 (aEY (λ_=>aEV ⟨h,rfl⟩) λhy'=>tF _ (hD (hy (Classical.not_not.1 hy'))) λr hr=>aL2 (aEY (λ_=>aEV ⟨h,rfl⟩) λ_=>aEV hr))
  exact aL2 (aEY (λ_=>fin λ_=>a0X hn h ho.q.1) λk6=>aL2 (aEY (λ_=>fin λhi=>a0Q hn h hi) λk7=>aL2 (aEY (λ_=>fin λ_=>a2P hn h ho.q.1) λk8=>aL2 (aEY (λ_=>fin λhi=>aYQ hn h hi ho.q.2) λk9=>aL4 ⟨k6,k7,k8,k9⟩ (aEV ⟨h,rfl⟩)))))
structure Ap (s:aA) (r:aA×Int):Prop where
  q:SQ r.1
  no:r.2≠0->r.1=s
  ok:r.2=0->r.1.Done=if 288230376151711744<aI (s.Done+1) then 288230376151711744 else aI (s.Done+1)
theorem SQ.done {s:aA} (h:SQ s) {k:Int}:SQ ⟨s.bA,s.aW,s.bP,s.bU,s.bY,k⟩:=⟨h.el,h.eq,h.wl,h.ml,h.mq,h.cl,h.cq,h.rl,h.rq,h.sl,h.sq,h.tl,h.tq⟩
theorem aT0 {n:Nat} {s:aA} {o:aS} (hn:250<=n) (h:SQ s) (ho:OQ o):Ex (Ap s) (lF n s o):=by
  unfold lF aFD;simp only [WT.run,O9]
  have fin:∀ {D:Option (aA×Int)},Ex (Kp s) D->Ex (Ap s) (((nJ n o).bind λx=>bnd (!x) λx_1=>bif x_1 then some true else some false).bind λy=>bif y then some (s,1) else D.bind λx=>bnd (decide (x.snd≠0)) λx_1=>bif x_1 then some (s,x.snd) else bnd (aI (x.fst.Done+1)) λx_2=>bnd (if 288230376151711744<x_2 then 288230376151711744 else x_2) λx_3=>some (({ bA:=x.fst.bA,aW:=x.fst.aW,bP:=x.fst.bP,bU:=x.fst.bU,bY:=x.fst.bY,Done:=x_3 }:aA),0)):=λ{D} hD =>
    tF (λ_=>True) (tF _ (aVB hn ho.r) λ_ _=>aL2 (aFQ (λ_=>aEV trivial) λ_=>aEV trivial)) λb _=>aFQ (λ_=>aEV ⟨h,λ_=>rfl,λh=>absurd h (show ¬ (1:Int)=0 by decide)⟩) λ_=>tF _ hD λr hr=>aL2 (aEY (λk=>aEV ⟨h,λ_=>rfl,λh=>absurd h k⟩) λ_=>aL2 (aL2 (aEV ⟨hr.1.done,λh=>absurd rfl h,λ_=>by rw [hr.2]⟩)))
  refine tF (λ_=>True) ?_ λu _=>?_
  · repeat' with_reducible first | exact aEV trivial | refine x_v ?_ | refine aP8 ?_ | apply aL2 | refine ON (by omega) (by omega) λ_ _=>?_ | exact XC trivial | exact XC ⟨by omega,by (first | rfl | omega | (simp only;omega)),trivial⟩ | refine x_a ?_ | refine aP5 (λ_ _=>?_) λ_ _=>trivial | apply aI5 | apply aCE | apply aAR | apply Y4 | apply aOY | apply aIH | apply aKG | apply aMX | apply aDS | refine aEY (λ_=>?_) λ_=>?_ | refine aEW (λ_=>?_) λ_=>?_ | refine aFQ (λ_=>?_) λ_=>?_ | apply x_cT | apply x_cF | apply aK3 | apply aGQ | refine tF _ aPX λ_ _=>?_ | refine tF _ aLP λ_ _=>?_ | refine tF _ aGO λ_ _=>?_ | refine tF _ aPW λ_ _=>?_ | refine tF _ aOB λ_ _=>?_ | refine tF _ aPY λ_ _=>?_ | refine tF _ aPV λ_ _=>?_ | refine tF _ (aPX (by assumption)) λ_ _=>?_ | refine tF _ (aLP (by assumption)) λ_ _=>?_ | refine tF _ (aGO (by assumption)) λ_ _=>?_ | refine tF _ (aPW (by assumption)) λ_ _=>?_ | refine tF _ (aOB (by assumption)) λ_ _=>?_ | refine tF _ (aPY (by assumption)) λ_ _=>?_ | refine tF _ (aPV (by assumption)) λ_ _=>?_
  rcases u with u | u | u | u | u | u | u | u <;> simp only [Sum.elim,WT.run,O9]
  · exact fin (tF _ (aXU hn h ho.q) λr hr=>aEV hr)
  · exact fin (tF _ (a1G hn h ho.q) λr hr=>aEV hr)
  · have hA:=aZ5 hn h ho
    unfold aTX aUK at hA
    simp only [WT.run,O9] at hA
    exact fin (tF _ hA λr hr=>aEV hr)
  · exact fin (tF _ (a2C hn h ho.q) λr hr=>aEV hr)
  · exact fin (tF _ (aY8 hn h ho.r) λr hr=>aEV hr)
  · exact fin (tF _ (a0T hn h ho.q) λr hr=>aEV hr)
  · exact fin (tF _ (aYB h) λr hr=>aEV hr)
  · exact tF (λ_=>True) (tF _ (aVB hn ho.r) λ_ _=>aL2 (aFQ (λ_=>aEV trivial) λ_=>aEV trivial)) λ_ _=>aEV ⟨h,λ_=>rfl,λh=>absurd h (show ¬ (1:Int)=0 by decide)⟩
inductive Rn (n:Nat) (s:aA):List aS->aA->List Int->Prop
  | nil:Rn n s [] s []
  | snoc {l:List aS} {a:aA} {e:List Int} {o:aS} {t:aA} {x:Int}:Rn n s l a e->lF n a o=some (t,x)->Rn n s (l++[o]) t (e++[x])
theorem Rn.len {n:Nat} {s a:aA} {l:List aS} {e:List Int} (h:Rn n s l a e):e.length=l.length:=by
  induction h with
  | nil=>rfl
  | snoc _ _ ih=>simp [ih]
theorem Rn.sq {n:Nat} {s a:aA} {l:List aS} {e:List Int} (hn:250<=n) (hs:SQ s) (h:Rn n s l a e):(∀ o∈l,OQ o)->SQ a:=by
  induction h with
  | nil=>intro _;exact hs
  | snoc h1 h2 ih =>
    intro ho
    exact (aW4 (aT0 hn (ih λo h=>ho o (by simp [h])) (ho _ (by simp))) h2).q
structure OT (o:aS) (A:Int):Prop where
  q:XE o.aQ
  a0:0<=o.bD
  a1:o.bD+20<=A
  i:o.Item=0
  k:o.Kind=1\/o.Kind=8\/o.Kind=11\/o.Kind=12\/o.Kind=13
  r:o.Kind=11->∃ k,o.bT=[k]
  rl:o.bT.length<20
theorem a5B {p q:Prop} {_:Decidable p} {_:Decidable q}:Ex (λb=>b=true↔p\/q) (bnd (decide p) λx=>cond x (some true) (bnd (decide q) λx=>some x)) :=
  aL2 (aEY (λh=>aEV ⟨λ_=>.inl h,λ_=>rfl⟩) λh=>aL2 (aEV ⟨λk=>.inr (of_decide_eq_true k),λk=>decide_eq_true (k.resolve_left h)⟩))
theorem bEK {p q r t:Prop} {_:Decidable p} {_:Decidable q} {_:Decidable r} {_:Decidable t}:Ex (λb=>b=true↔p\/q\/r\/t) (bnd (decide p) λx=>cond x (some true) (bnd (decide q) λx=>cond x (some true) (bnd (decide r) λx=>cond x (some true) (bnd (decide t) λx=>some x)))) :=
  aL2 (aEY (λh=>aEV ⟨λ_=>.inl h,λ_=>rfl⟩) λh=>aL2 (aEY (λh=>aEV ⟨λ_=>.inr (.inl h),λ_=>rfl⟩) λh2=>aL2 (aEY (λh=>aEV ⟨λ_=>.inr (.inr (.inl h)),λ_=>rfl⟩) λh3=>aL2 (aEV ⟨λk=>.inr (.inr (.inr (of_decide_eq_true k))),λk=>decide_eq_true (((k.resolve_left h).resolve_left h2).resolve_left h3)⟩))))
theorem Gm.done {s t:aA} {q w A d k:Int} (h:Gm s t q w A d):Gm s ⟨t.bA,t.aW,t.bP,t.bU,t.bY,k⟩ q w A d :=
  ⟨h.q,h.w,h.v,h.a,h.l,h.b,h.tr,h.el,h.ma,h.g,λi=>let r:=h.iN i;⟨r.e0,r.e1,r.i0,r.i1,r.x,r.m1,r.m,r.c1,r.c⟩⟩
def gA (p:Int->Bool) (x:aH):Int:=if p x.fM then x.bD else 0
def pS (p:Int->Bool) (l:List aH):Int:=sI (l.map (gA p))
def lB (l:List aH):Int:=sAb (l.map aH.bD)
theorem bG1 (p:Int->Bool) (a b:List aH):pS p (a++b)=pS p a+pS p b:=by unfold pS;rw [List.map_append,aV8]
theorem bF8 (a b:List aH):lB (a++b)=lB a+lB b:=by unfold lB;rw [List.map_append,a7D]
theorem bG7 (p:Int->Bool) (x:aH):pS p [x]=gA p x:=by simp [pS,sI]
theorem bGN (x:aH):lB [x]=x.bD.natAbs:=by simp [lB,sAb]
theorem a7K (l:List aH):0<=lB l:=a5Q _
theorem bCO {l:List aH} {x:aH} (h:x∈l):(x.bD.natAbs:Int)<=lB l:=by
  induction l with
  | nil=>cases h
  | cons y l ih =>
    have h1:=a7K l
    have e:lB (y :: l)=y.bD.natAbs+lB l:=rfl
    rw [e]
    rcases List.mem_cons.1 h with rfl | h
    · omega
    · have:=ih h;omega
structure PL (l0 l:List aH):Prop where
  v:VLs l
  s:∀ p,pS p l=pS p l0
  b:lB l<=lB l0
  n:l.length=l0.length
theorem PL.swap {l0 l:List aH} (h:PL l0 l) {i j:Nat} {a c:aH} (hij:i≠j) (ha:l[i]?=some a) (hc:l[j]?=some c):PL l0 ((l.set j a).set i c):=by
  have hi:(l.set j a)[i]?=some a:=by rw [List.getElem?_set_ne (by omega)];exact ha
  refine ⟨(h.v.set (h.v.at ha)).set (h.v.at hc),λp=>?_,?_,by simp;exact h.n⟩
  · have:=h.s p
    unfold pS at this ⊢
    rw [aYI (gA p) hi,aYI (gA p) hc];omega
  · have:=h.b
    unfold lB at this ⊢
    rw [a6K aH.bD hi,a6K aH.bD hc];omega
theorem bGT {a:Int} (h:0<=a/\a<17):DW a=some true:=by
  refine aQX ?_
  unfold DW aNX;simp only [WT.run,O9]
  exact tF (λb=>b=true) (aL2 (aEY (λ_=>aL2 (aEV (decide_eq_true h.2))) λk=>absurd h.1 k)) λb hb=>aEV hb
theorem bGW {a:Int} (h:(a.natAbs:Int)<=288230376151711744):JQ a=some true:=by
  refine aQX ?_
  unfold JQ aFB;simp only [WT.run,O9]
  exact tF (λb=>b=true) (aL2 (aEY (λ_=>aL2 (aEV (decide_eq_true (by omega)))) λk=>absurd (by omega) k)) λb hb=>aEV hb
theorem bIY {x:aH} (h:VA x) (hb:(x.bD.natAbs:Int)<=288230376151711744):U2 x=some false:=by
  refine aQX ?_
  unfold U2 aIL;simp only [WT.run,O9]
  exact tF (λb=>b=false) (x_eq (bGT h) (aL2 (bF5 (x_eq (bGW hb) (aL2 (aEV rfl)))))) λb hb=>aEV hb
theorem bGR {x:aH}:Ex (λb=>b=true↔x.bD=0) (D5 x):=by
  unfold D5 Z9;simp only [WT.run,O9]
  exact aL2 (aEV ⟨λh=>of_decide_eq_true h,λh=>decide_eq_true h⟩)
theorem bGI {a b:Int} (h:(a.natAbs:Int)+b.natAbs<=288230376151711744):aZD a b=(a+b,0):=by
  unfold aZD
  rw [if_pos (by unfold InM;omega)]
theorem a7I (p:Int->Bool) {l:List aH} {i:Int} {x:aH} (h0:0<=i) (hx:l[i.toNat]?=some x):pS p (l.take (i+1).toNat)=pS p (l.take i.toNat)+gA p x/\lB (l.take (i+1).toNat)=lB (l.take i.toNat)+x.bD.natAbs:=by
  unfold pS lB
  rw [a1Q (gA p) h0 hx,a1Q aH.bD h0 hx,aV8,a7D]
  simp [sI,sAb]
theorem bG6 (l:List aH) (i:Nat):lB (l.take i)<=lB l:=by
  have h:lB l=lB (l.take i)+lB (l.drop i):=by rw [<- bF8,List.take_append_drop]
  have:=a7K (l.drop i);omega
theorem bFV {α:Type}:∀ {l:List α} {i:Nat} {x:α},i<l.length->(l.set i x).take (i+1)=l.take i++[x]
  | [],_,_,h=>by simp at h
  | a :: l,0,x,_=>by simp
  | a :: l,i+1,x,h=>by
    simp only [List.length_cons] at h
    have:=bFV (l:=l) (i:=i) (x:=x) (by omega)
    simp only [List.set,List.take_succ_cons,List.cons_append,this]
structure DI (q q':List aH) (a b:Int):Prop where
  a0:0<=a
  ab:a<b
  n:q'.length=q.length
  v:VLs q'
  s:∀ p,pS p (q'.take a.toNat)=pS p (q.take b.toNat)
  l:lB (q'.take a.toNat)<=lB (q.take b.toNat)
  z:∀ x∈q'.take a.toNat,x.bD≠0
  r:∀ i:Nat,b<=i->q'[i]?=q[i]?
theorem bGV {n:Nat} {l:List aH} (hn:250<=n) (hl:l.length<20) (hV:VLs l) (hB:lB l<=288230376151711744):Ex (λr=>r.2=0/\VLs r.1/\r.1.length<=l.length/\(∀ p,pS p r.1=pS p l)/\lB r.1<=lB l/\∀ x∈r.1,x.bD≠0) (GN n l):=by
  unfold GN aHW;simp only [WT.run,O9]
  refine tF (λb=>b=false) (tF (λj=>j<0) (tF (λr=>match r with | .inl _=>True | .inr j=>False) (aQB (m:=l.length) (λv=>v) (λv=>True) ⟨by simp,by simp,trivial⟩ (by omega) λv h1 h2 h3=>?_) λr hr=>?_) λj hj=>aL2 (aEV (decide_eq_false (Int.not_le.2 hj)))) λb hb=>aFQ (λk=>by rw [hb] at k;cases k) λhb'=>?_
  · refine aL2 (aEY (λhv=>ON h1 hv λx hx=>x_eq (bIY (hV.at hx) (by have:=bCO (List.mem_of_getElem? hx);omega)) ?_) λhv=>aGQ (XC trivial))
    exact aFQ (λk=>nomatch k) λ_=>x_v (XC ⟨hv,rfl,trivial⟩)
  · cases r with
    | inl u=>exact aEV (by decide)
    | inr j=>exact hr.elim
  have once:∀ {p:Prop} [Decidable p],¬ p->Ex (λ_=>True) (iter (λ_:Unit=>bnd (decide p) λx=>fG (x=false) (esc (some ()):Option (Unit⊕Unit))) n ()):=λ{p} _ hp=>aQJ (λ_=>True) (λ_=>0) (λ_ _=>aL2 (aL4 (decide_eq_false hp) (aGQ (aEV trivial)))) trivial (by omega)
  have hid:∀ {β:Type} {P:β->Prop} {D:Option β},Ex P D->Ex P (D.bind λy=>some y):=λ{β P D} h=>tF P h λa ha=>aEV ha
  refine x_a (tF (λr=>PL l r) (hid (hid (tF _ (once (by omega)) λ_ _=>tF (λr=>PL l r) (hid ?_) λy hy=>aL4 hy.n (tF _ (once (by omega)) λ_ _=>aEV hy)))) λy hy=>aL4 hy.n ?_)
  · refine aQJ (λv=>1<=v.1/\PL l v.2) (λv=>((l.length:Int)-v.1).toNat) (λv hv=>?_) ⟨by simp,hV,λ_=>rfl,Int.le_refl _,rfl⟩ (by simp only;omega)
    obtain ⟨k,q⟩:=v
    obtain ⟨h1,h2⟩:=hv
    simp only at h1 h2
    simp only [p2]
    refine aL2 (aEY (λhk=>tF (λr=>PL l r) (hid ?_) λr hr=>x_v (XC ⟨⟨by omega,hr⟩,by omega⟩)) λ_=>aGQ (aEV h2))
    refine aQJ (λw=>0<=w.1/\w.1<(l.length:Int)/\PL l w.2) (λw=>w.1.toNat) (λw hw=>?_) ⟨by simp only;omega,hk,h2⟩ (by simp only;omega)
    obtain ⟨j,q⟩:=w
    obtain ⟨g1,g2,g3⟩:=hw
    simp only at g1 g2 g3
    have g4:=g3.n
    simp only [p2]
    refine tF (λb=>b=true->0<j) (aL2 (aEY (λhj=>ON g1 (by omega) λa ha=>x_v (ON (by omega) (by omega) λb hb=>tF (λ_=>True) (tF _ aVU λ_ _=>tF _ aVU λ_ _=>tF _ aWT λ_ _=>aEV trivial) λ_ _=>aL2 (aEV λ_=>hj))) λ_=>aEV λh=>by cases h)) λb hb=>aFQ (λhb'=>?_) λ_=>aGQ (aEV g3)
    have hj:=hb hb'
    refine x_v (x_v (ON (by omega) (by omega) λa ha=>ON g1 (by omega) λc hc=>aL2 (ON (by omega) (by simp;omega) λ_ _=>aL2 (x_v (XC ⟨⟨by omega,by omega,?_⟩,by simp only;omega⟩)))))
    exact g3.swap (by omega) ha hc
  · have hyl:=hy.n
    refine tF (λr=>match r with | .inl q=>VLs q/\q.length<=l.length/\(∀ p,pS p q=pS p l)/\lB q<=lB l | .inr r=>False) (aQB (m:=l.length) (λv=>v.1) (λv=>VLs v.2/\(v.2.length:Int)<=v.1/\(∀ p,pS p v.2=pS p (y.take v.1.toNat))/\lB v.2<=lB (y.take v.1.toNat)) ⟨by simp,by simp,(λx h=>by cases h),by simp,λp=>by simp [pS],by simp⟩ (by omega) λv h1 h2 h3=>?_) λr hr=>?_
    · obtain ⟨k,q⟩:=v
      obtain ⟨h3,h4,h5,h6⟩:=h3
      simp only at h1 h2 h3 h4 h5 h6
      simp only [p2]
      refine aL2 (aEY (λhk=>tF (λr=>match r with | .inl q=>VLs q/\(q.length:Int)<=k+1/\(∀ p,pS p q=pS p (y.take (k+1).toNat))/\lB q<=lB (y.take (k+1).toNat) | .inr t=>False) (ON h1 (by omega) λa ha=>x_v (tF (λb=>b=true->(0:Int)<=q.length-1/\∀ z,q[((q.length:Int)-1).toNat]?=some z->z.fM=a.fM) (aL2 (aEY (λhp=>ON hp (by omega) λb hb=>aL2 (aEV λhe=>⟨hp,λz hz=>by rw [hb] at hz;cases hz;exact of_decide_eq_true he⟩)) λ_=>aEV λh=>by cases h)) λb hb=>aFQ (λhb'=>?_) λ_=>aL2 (aL4 (by rw [List.length_append];simp;omega) (XC ⟨h3.app (hy.v.at ha),by rw [List.length_append];simp;omega,λp=>?_,?_⟩)))) λr hr=>?_) λ_=>aGQ (XC ⟨h3,by omega,λp=>?_,?_⟩))
      · have hT:=λp=>a7I p h1 ha
        have hBt:=bG6 y (k+1).toNat
        have hb0:=hy.b
        refine ON (hb hb').1 (by omega) λb2 hb2=>x_eq (a7S _ _) ?_
        have hac:=(hb hb').2 b2 hb2
        have hbb:=bCO (List.mem_of_getElem? hb2)
        have hT1:=(hT λ_=>true).2
        rw [bGI (by omega)]
        refine aL2 (aEY (λk=>absurd rfl k) λ_=>aL2 (XC ⟨h3.set (show VA (⟨b2.fM,_⟩:aH) from (h3.at hb2:VA b2)),by simp;omega,λp=>?_,?_⟩))
        · have h7:=h5 p
          rw [(hT p).1,<- h7]
          unfold pS
          rw [aYI (gA p) hb2]
          unfold gA
          simp only [hac]
          split <;> omega
        · rw [hT1]
          unfold lB at h6 ⊢
          rw [a6K aH.bD hb2]
          simp only
          omega
      · cases r with
        | inl r=>exact aK3 (x_v (XC ⟨hk,rfl,hr⟩))
        | inr r=>exact hr.elim
      · rw [h5,List.take_of_length_le (by omega)];exact hy.s p
      · have hb0:=hy.b
        rw [List.take_of_length_le (by omega)] at h6;omega
      · rw [bG1,bG7,(a7I p h1 ha).1,h5]
      · rw [bF8,bGN,(a7I (λ_=>true) h1 ha).2];omega
    · cases r with
      | inr r=>exact hr.elim
      | inl q =>
        obtain ⟨hq1,hq2,hq3,hq4⟩:=hr
        refine aK3 (tF (λr=>r.1=0/\r.2.1<=r.2.2.length/\r.2.2.length<=l.length/\VLs r.2.2/\(∀ p,pS p (r.2.2.take r.2.1)=pS p l)/\lB (r.2.2.take r.2.1)<=lB l/\∀ x∈r.2.2.take r.2.1,x.bD≠0) (tF (λj=>(j=-1/\∀ x∈q,x.bD≠0)\/(0<=j/\j<(q.length:Int)/\(∀ x∈q.take j.toNat,x.bD≠0)/\∃ z,q[j.toNat]?=some z/\z.bD=0)) (tF (λr=>match r with | .inl _=>∀ x∈q,x.bD≠0 | .inr j=>0<=j/\j<(q.length:Int)/\(∀ x∈q.take j.toNat,x.bD≠0)/\∃ z,q[j.toNat]?=some z/\z.bD=0) (aQB (m:=q.length) (λv=>v) (λv=>∀ x∈q.take v.toNat,x.bD≠0) ⟨by simp,by simp,λx h=>by simp at h⟩ (by omega) λv h1 h2 h3=>?_) λr hr=>?_) λj hj=>?_) λr hr=>?_)
        · refine aL2 (aEY (λhv=>ON h1 hv λx hx=>tF _ bGR λb hb=>aFQ (λk=>aGQ (aGQ (aEV ⟨h1,hv,h3,x,hx,hb.1 k⟩))) λk=>x_v (XC ⟨hv,rfl,λy hy=>?_⟩)) λhv=>aGQ (XC ?_))
          · rw [show (v+1).toNat=v.toNat+1 by omega,List.take_add_one,hx] at hy
            rcases List.mem_append.1 hy with hy | hy
            · exact h3 y hy
            · rw [Option.toList_some,List.mem_singleton] at hy
              rw [hy];intro h;rw [hb.2 h] at k;cases k
          · rw [List.take_of_length_le (by omega)] at h3;exact h3
        · cases r with
          | inl _=>exact aK3 (aEV (.inl ⟨rfl,hr⟩))
          | inr j=>exact ⟨_,rfl,.inr hr⟩
        · refine aL2 (aEY (λk=>aEV ⟨rfl,Nat.le_refl _,hq2,hq1,λp=>?_,?_,?_⟩) λhne=>?_)
          · simp only [List.take_length];exact hq3 p
          · simp only [List.take_length];exact hq4
          · simp only [List.take_length]
            rcases hj with hj | hj
            · exact hj.2
            · omega
          obtain ⟨j0,j1,j2,z,hz,hz0⟩:=hj.resolve_left λh=>hne h.1
          refine x_v (tF (λw=>w.1<(q.length:Int)/\DI q w.2 w.1 (q.length:Int)) (aQJ (λw=>w.2.1<=(q.length:Int)/\DI q w.2.2 w.1 w.2.1) (λw=>((q.length:Int)-w.2.1).toNat) (λw hw=>?_) ⟨by simp only;omega,⟨j0,by simp only;omega,rfl,hq1,λp=>?_,?_,j2,λ_ _=>rfl⟩⟩ (by simp only;omega)) λw hw=>?_)
          · obtain ⟨a,b,q'⟩:=w
            obtain ⟨g1,g2⟩:=hw
            simp only at g1 g2
            simp only [p2]
            have gn:=g2.n;have ga:=g2.a0;have gab:=g2.ab
            refine aL2 (aEY (λhb=>tF (λt=>DI q t.2 t.1 (b+1)) (ON (by omega) hb λx hx=>?_) λt ht=>x_v (XC ⟨⟨by simp only;omega,ht⟩,by simp only;omega⟩)) λhb=>aGQ (aEV ⟨by simp only;omega,?_⟩))
            · have hxq:q[b.toNat]?=some x:=by rw [<- g2.r b.toNat (by omega)];exact hx
              have hT:=λp=>a7I p (show 0<=b by omega) hxq
              refine tF _ bGR λc hc=>aL2 (aEW (λk=>?_) (λk=>?_))
              · have k:x.bD≠0:=λh=>by rw [hc.2 h] at k;cases k
                refine ON ga (by omega) λ_ _=>aL2 (x_v (aEV ?_))
                have e:(a+1).toNat=a.toNat+1:=by omega
                refine ⟨by omega,by omega,by simp;exact gn,g2.v.set (g2.v.at hx),λp=>?_,?_,?_,λi hi=>?_⟩
                · rw [e,bFV (by omega),bG1,bG7,(hT p).1,g2.s]
                · rw [e,bFV (by omega),bF8,bGN,(hT λ_=>true).2];have:=g2.l;omega
                · rw [e,bFV (by omega)]
                  intro y hy
                  rcases List.mem_append.1 hy with hy | hy
                  · exact g2.z y hy
                  · rw [List.mem_singleton.1 hy];exact k
                · rw [List.getElem?_set_ne (by omega)];exact g2.r i (by omega)
              · have k:x.bD=0:=hc.1 k
                refine aEV ⟨ga,by simp only;omega,gn,g2.v,λp=>?_,?_,g2.z,λi hi=>g2.r i (by omega)⟩
                · have:gA p x=0:=by unfold gA;rw [k];split <;> rfl
                  rw [(hT p).1,g2.s,this,Int.add_zero]
                · rw [(hT λ_=>true).2,k];have:=g2.l;simp;exact this
            · have:b=(q.length:Int):=by omega
              subst this;exact g2
          · have:=a7I p j0 hz
            have h0:gA p z=0:=by unfold gA;rw [hz0];split <;> rfl
            rw [this.1,h0,Int.add_zero]
          · have:=a7I (λ_=>true) j0 hz
            rw [this.2,hz0];simp
          · obtain ⟨a,q'⟩:=w
            obtain ⟨g1,g2⟩:=hw
            simp only at g1 g2
            simp only [p2]
            have gn:=g2.n;have ga:=g2.a0
            have hs:=g2.s;have hlb:=g2.l
            simp only [Int.toNat_natCast,List.take_length] at hs hlb
            have hT:(List.take (0+a.toNat) q').take (a.toNat-0)=q'.take a.toNat:=by rw [Nat.zero_add,Nat.sub_zero,List.take_take,Nat.min_self]
            refine x_a (aL2 (x_a (aEV ⟨rfl,by simp only [List.length_take];omega,by simp only [List.length_take];omega,λx hx=>g2.v x (List.mem_of_mem_take hx),λp=>?_,?_,?_⟩)))
            · simp only [hT];rw [hs p];exact hq3 p
            · simp only [hT];omega
            · simp only [hT];exact g2.z
        · obtain ⟨a,b,q'⟩:=r
          obtain ⟨g1,g2,g3,g4,g5,g6,g7⟩:=hr
          simp only at g1 g2 g3 g4 g5 g6 g7
          subst g1
          simp only [p2,List.drop_zero]
          exact x_a (aEV ⟨rfl,λx hx=>g4 x (List.mem_of_mem_take hx),by simp only [List.length_take];omega,g5,g6,g7⟩)
end Go.Pv
