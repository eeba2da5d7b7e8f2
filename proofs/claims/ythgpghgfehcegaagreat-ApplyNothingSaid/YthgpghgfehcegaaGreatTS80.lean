import Derived.Test.YthgpghgfehcegaaGreatTP80
set_option linter.unusedVariables false
set_option linter.unusedSimpArgs false
namespace Go.Pv
open Go.Proofs
set_option maxRecDepth 100000
set_option maxHeartbeats 1000000
theorem aSM {A R:Type} {P:R->Prop} {f:A->Option R} {r:A⊕R} (h1:∀ a,r=.inl a->Ex P (f a)) (h2:∀ b,r=.inr b->P b):Ex P (aR4 f r):=by
  cases r with
  | inl a=>exact h1 a rfl
  | inr b=>exact ⟨b,rfl,h2 b rfl⟩
theorem aU2 {s:aA} (h:SQ s) (k:Int):RcQ (kT s k):=by
  unfold kT
  cases e:ix s.bP k with
  | none=>exact ⟨aP0,aP0,aP0,aP0,aP0,by decide,by decide⟩
  | some r=>exact h.rq r (by
      unfold ix at e
      split at e
      · cases e
      · exact List.mem_of_getElem? e)
theorem aX5 {s:aA} {k:Int} (hi:¬ (kT s k).Item<0):0<=k/\k<s.bP.length:=by
  by_cases h:0<=k/\k<(s.bP.length:Int)
  · exact h
  · exfalso
    apply hi
    unfold kT ix
    split
    · decide
    · rename_i h0
      have:s.bP[k.toNat]?=none:=List.getElem?_eq_none (by omega)
      rw [this];decide
theorem aUE {a b:Int}:Tot (aR9 a b):=by
  unfold aR9 aXD;simp only [WT.run,O9]
  exact aEV trivial
theorem aXH {n:Nat} {s:aA} {r:bH} {v:Int} (hn:250<=n) (h:SQ s) (hr:RcQ r) (hv:R64 v):Ex (λx=>SK s x.1) (aSS n s r v):=by
  have hel:=h.el;have hwl:=h.wl
  unfold aSS aVQ;simp only [WT.run,O9]
  refine tF _ (aGE h) λy hy=>aL2 (aEY (λ_=>aEV h.rf) λhy'=>?_)
  have hi:=hy (Classical.not_not.1 hy')
  have i0:=hi.i0;have i1:=hi.i1
  refine u7 hi.e0 hi.m1 λmt hmt=>u7 hi.i0 (by have:=hi.m _ hmt;omega) λm hm=>tF _ (aIU h) λp hp=>aL2 (aEY (λ_=>?_) λ_=>tF _ (aQ4 h) λt ht=>aEV ht)
  refine aL2 (tF _ (aIR hn hp) λt ht=>aL2 (tF _ (aF5 hn hv (by split;exact ht.1;exact aG1 _) hr.1) λc hc=>aL2 (aEY (λ_=>?_) λ_=>tF _ (aQ4 h) λt ht=>aEV ht)))
  refine tF _ (aPK hn hp hc) λq hq=>aL2 (aEY (λ_=>aEV h.rf) λ_=>x_a (u7 hi.e0 hi.e1 λz hz=>?_))
  have hzq:=h.at hz
  have hzl:=hzq.pl
  have hpl:=(hi.x z hz).1
  have hl0:=hr.2.2.2.2.2
  refine x_a (x_v (x_v (u7 (by omega) (by omega) λ_ _=>aL2 ?_)))
  have hk:=h.aSC (i:=r.dG.toNat) (x:=⟨z.dS,z.Closed,z.dD.set (r.Item*2+r.Loc).toNat q.1,z.dU,z.dI,z.dO,z.Down,z.eT⟩) ⟨by simp;exact hzl,hzq.aSA hq,hzq.bl,hzq.rl,hzq.pr,hzq.dn,hzq.ah⟩ hz
  exact tF _ (aQ4 hk.q) λt ht=>aEV (hk.trans ht)
theorem aVL {s:aA} {b:Int} (h:SQ s):∀ (refs:List Int) (i:Nat) (l:List Int),i+refs.length=l.length->l.length<=20->(∀ x∈l,R64 x)->Ex (λw=>w.length=l.length/\∀ x∈w,R64 x) (aRW s b refs i l)
  | [],_,_,_,_,h3=>aEV ⟨rfl,h3⟩
  | k :: ks,i,l,h1,h2,h3=>by
    simp only [List.length_cons] at h1
    have hr:=aU2 h k
    have hset:∀ {x:Int},R64 x->∀ y∈l.set (i:Int).toNat x,R64 y:=λ{x} hx y hy=>by
      rcases List.mem_or_eq_of_mem_set hy with hy | rfl
      · exact h3 y hy
      · exact hx
    rw [aRW]
    refine tF (λr=>match r with | .inl l'=>l'.length=l.length/\∀ x∈l',R64 x | .inr _=>False) ?_ λr hr=>?_
    · unfold tW;simp only [WT.run,O9]
      refine aL2 (aEY (λ_=>u7 (by omega) (by omega) λ_ _=>aL2 (XC ⟨by simp,hset hr.1⟩)) λ_=>aL2 (aEY (λ_=>u7 (by omega) (by omega) λ_ _=>aL2 (XC ⟨by simp,hset hr.2.1⟩)) λ_=>tF (λb=>b=true->0<=(kT s k).Item/\(kT s k).Item<s.bA.cB.length) (aL2 (aEY (λ_=>aL2 (aEY (λh1=>aL2 (aEV λh2=>⟨h1,of_decide_eq_true h2⟩)) λ_=>aEV λh=>by cases h)) λ_=>aEV λh=>by cases h)) λc hc=>aFQ (λhc'=>?_) λ_=>XC ⟨rfl,h3⟩))
      exact u7 (hc hc').1 (hc hc').2 λ_ _=>aL2 (u7 (by omega) (by omega) λ_ _=>aL2 (XC ⟨by simp,hset (aG1 _)⟩))
    · cases r with
      | inr u=>exact absurd hr id
      | inl l'=>exact aS9 (aVL h ks (i+1) l' (by rw [hr.1];omega) (by rw [hr.1];exact h2) hr.2) λw hw=>⟨hw.1.trans hr.1,hw.2⟩
theorem a1F {s:aA} {b:Int} {refs:List Int} (h:SQ s) (hl:refs.length<20):Ex (λw=>w.length=refs.length/\∀ x∈w,R64 x) (aSB s refs b):=by
  unfold aSB
  exact x_a (aS9 (aVL h refs 0 _ (by simp) (by simp;omega) λx hx=>by rw [List.eq_of_mem_replicate hx];exact aP0) λw hw=>⟨by rw [hw.1];simp,hw.2⟩)
theorem aV4 {n:Nat} {s:aA} {sh:List Int} (hn:250<=n) (h:SQ s) (hs:∀ x∈sh,R64 x):∀ (refs:List Int) (i:Nat) (t:aA) (a:Int),i+refs.length=sh.length->SK s t->Ex (λz=>match z with | .inl p=>SK s p.1 | .inr r=>r.1=s) (aRX n s sh refs i t a)
  | [],_,_,_,_,h2=>aEV h2
  | k :: ks,i,t,a,h1,h2=>by
    simp only [List.length_cons] at h1
    rw [aRX]
    refine tF (λz=>match z with | .inl p=>SK s p.1 | .inr r=>r.1=s) ?_ λz hz=>?_
    · unfold t3;simp only [WT.run,O9]
      refine u7 (by omega) (by omega) λq hq=>tF _ (aXH hn h2.q (aU2 h k) (hs q (List.mem_of_getElem? hq))) λx hx=>aL2 (aEY (λ_=>aGQ (aEV rfl)) λ_=>aL2 (XC (h2.trans hx)))
    · cases z with
      | inl p=>exact aV4 hn h hs ks (i+1) p.1 p.2.1 (by omega) hz
      | inr r=>exact aEV hz
theorem aY8 {n:Nat} {s:aA} {o:aS} (hn:250<=n) (h:SQ s) (hr:o.bT.length<20):Ex (Kp s) (JP n s o):=by
  unfold JP
  refine tF (λz=>match z with | .inl _=>o.bT.length≠0 | .inr r=>Kp s r) ?_ λz hz=>aSM (λu e=>?_) λr e=>by subst e;exact hz
  · unfold tB';simp only [WT.run,O9]
    exact tF (λb=>b=false->o.bT.length≠0) (aL2 (aEY (λ_=>aEV λh=>by cases h) λ_=>aL2 (aEV λh=>by have:=of_decide_eq_false h;omega))) λb hb=>aFQ (λ_=>aGQ (aEV ⟨h,rfl⟩)) λhb'=>XC (hb hb')
  subst e
  have hz:o.bT.length≠0:=hz
  refine x_a (aFQ (λhV=>?_) λ_=>aEV ⟨h,rfl⟩)
  refine u7 (by omega) (by omega) λk hk=>?_
  have hin:=aX5 (s:=s) (k:=k) (by have:=List.all_eq_true.1 hV k (List.mem_of_getElem? hk);simpa using this)
  refine u7 hin.1 hin.2 λf hf=>aFQ (λhE=>?_) λ_=>aEV ⟨h,rfl⟩
  refine tF (λz=>match z with | .inl _=>True | .inr r=>Kp s r) ?_ λz hz=>aSM (λu e=>?_) λr e=>by subst e;exact hz
  · unfold tF';simp only [WT.run,O9]
    exact tF _ (aGE h) λy hy=>aL2 (aEY (λ_=>aGQ (aEV ⟨h,rfl⟩)) λ_=>XC trivial)
  refine tF _ (a1F h hr) λw hw=>tF _ (aXQ hn (by rw [hw.1];exact hr)) λsh hsh=>?_
  refine tF (λz=>match z with | .inl _=>sh.2=0 | .inr r=>Kp s r) ?_ λz hz=>aSM (λu e=>?_) λr e=>by subst e;exact hz
  · unfold tH;simp only [WT.run,O9]
    exact aL2 (aEY (λ_=>aGQ (aEV ⟨h,rfl⟩)) λhe=>XC (Classical.not_not.1 he))
  subst e
  have hs:=hsh hz
  refine tF _ (aV4 hn h hs.2 o.bT 0 s 0 (by rw [hs.1,hw.1];omega) h.rf) λz hz=>aSM (λp e=>?_) λr e=>by subst e;have hz:r.1=s:=hz;exact ⟨by rw [hz];exact h,by rw [hz]⟩
  subst e
  have hp:SK s p.1:=hz
  refine tF (λz=>match z with | .inl _=>False | .inr r=>Kp s r) ?_ λz hz=>aSM (λu e=>by subst e;exact absurd hz id) λr e=>by subst e;exact hz
  unfold tL;simp only [WT.run,O9]
  exact tF _ aUE λ_ _=>aL2 (tF _ aUE λ_ _=>aL2 (tF _ aUE λ_ _=>tF _ (aQ9 hn hp.q (by simp)) λu hu=>aL2 (aEY (λ_=>aGQ (aEV ⟨h,rfl⟩)) λ_=>aGQ (aEV ⟨hu.q,(hp.trans hu).dn⟩))))
theorem a0W:Tot MG:=by
  unfold MG aAN;simp only [WT.run,O9]
  exact aEV trivial
theorem aZX {l:List UInt8} {c:Int}:Tot (qL l c):=by
  unfold qL aF3;simp only [WT.run,O9]
  refine tF (λ_=>True) ?_ λ_ _=>aEV trivial
  unfold UK WK;simp only [WT.run,O9]
  exact aL2 (aEV trivial)
theorem a2E {k c:Int}:Tot (oV k c):=by
  unfold oV
  repeat' with_reducible first | exact aEV trivial | refine x_v ?_ | refine aP8 ?_ | apply aL2 | refine u7 (by omega) (by omega) λ_ _=>?_ | exact XC trivial | exact XC ⟨by omega,by (first | rfl | omega | (simp only;omega)),trivial⟩ | refine x_a ?_ | refine aP5 (λ_ _=>?_) λ_ _=>trivial | apply aI5 | apply aCE | apply aAR | apply Y4 | apply aOY | apply aIH | apply aKG | apply aMX | apply aDS | refine aEY (λ_=>?_) λ_=>?_ | refine aEW (λ_=>?_) λ_=>?_ | refine aFQ (λ_=>?_) λ_=>?_ | apply aP6 | apply aP3 | apply aK3 | apply aGQ | refine tF _ aPX λ_ _=>?_ | refine tF _ aLP λ_ _=>?_ | refine tF _ aGO λ_ _=>?_ | refine tF _ tt_money_Wide λ_ _=>?_ | refine tF _ aJK λ_ _=>?_ | refine tF _ aF5 λ_ _=>?_ | refine tF _ aPW λ_ _=>?_ | refine tF _ aOB λ_ _=>?_ | refine tF _ aPY λ_ _=>?_ | refine tF _ aPV λ_ _=>?_ | refine tF _ aPC λ_ _=>?_ | refine tF _ aPD λ_ _=>?_ | refine tF _ aPA λ_ _=>?_ | refine tF _ aO3 λ_ _=>?_ | refine tF _ aPB λ_ _=>?_ | refine tF _ aPF λ_ _=>?_ | refine tF _ aH7 λ_ _=>?_ | refine tF _ aPO λ_ _=>?_ | refine tF _ aO8 λ_ _=>?_ | refine tF _ aPL λ_ _=>?_ | refine tF _ aPJ λ_ _=>?_ | refine tF _ aPS λ_ _=>?_ | refine tF _ tt_stdcost_rate_of λ_ _=>?_ | refine tF _ tt_stdcost_rate_fits λ_ _=>?_ | refine tF _ aPQ λ_ _=>?_ | refine tF _ aPR λ_ _=>?_ | refine tF _ aPM λ_ _=>?_ | refine tF _ aHZ λ_ _=>?_ | refine tF _ aPE λ_ _=>?_ | refine tF _ aPP λ_ _=>?_ | refine tF _ aPN λ_ _=>?_ | refine tF _ aIR λ_ _=>?_ | refine tF _ aPG λ_ _=>?_ | refine tF _ aPT λ_ _=>?_ | refine tF _ aPK λ_ _=>?_ | refine tF _ aO9 λ_ _=>?_ | refine tF _ aGE λ_ _=>?_ | refine tF _ aPU λ_ _=>?_ | refine tF _ aM9 λ_ _=>?_ | refine tF _ aIU λ_ _=>?_ | refine tF _ aPI λ_ _=>?_ | refine tF _ aPH λ_ _=>?_ | refine tF _ (aPX (by assumption)) λ_ _=>?_ | refine tF _ (aLP (by assumption)) λ_ _=>?_ | refine tF _ (aGO (by assumption)) λ_ _=>?_ | refine tF _ (tt_money_Wide (by assumption)) λ_ _=>?_ | refine tF _ (aJK (by assumption)) λ_ _=>?_ | refine tF _ (aF5 (by assumption)) λ_ _=>?_ | refine tF _ (aPW (by assumption)) λ_ _=>?_ | refine tF _ (aOB (by assumption)) λ_ _=>?_ | refine tF _ (aPY (by assumption)) λ_ _=>?_ | refine tF _ (aPV (by assumption)) λ_ _=>?_ | refine tF _ (aPC (by assumption)) λ_ _=>?_ | refine tF _ (aPD (by assumption)) λ_ _=>?_ | refine tF _ (aPA (by assumption)) λ_ _=>?_ | refine tF _ (aO3 (by assumption)) λ_ _=>?_ | refine tF _ (aPB (by assumption)) λ_ _=>?_ | refine tF _ (aPF (by assumption)) λ_ _=>?_ | refine tF _ (aH7 (by assumption)) λ_ _=>?_ | refine tF _ (aPO (by assumption)) λ_ _=>?_ | refine tF _ (aO8 (by assumption)) λ_ _=>?_ | refine tF _ (aPL (by assumption)) λ_ _=>?_ | refine tF _ (aPJ (by assumption)) λ_ _=>?_ | refine tF _ (aPS (by assumption)) λ_ _=>?_ | refine tF _ (tt_stdcost_rate_of (by assumption)) λ_ _=>?_ | refine tF _ (tt_stdcost_rate_fits (by assumption)) λ_ _=>?_ | refine tF _ (aPQ (by assumption)) λ_ _=>?_ | refine tF _ (aPR (by assumption)) λ_ _=>?_ | refine tF _ (aPM (by assumption)) λ_ _=>?_ | refine tF _ (aHZ (by assumption)) λ_ _=>?_ | refine tF _ (aPE (by assumption)) λ_ _=>?_ | refine tF _ (aPP (by assumption)) λ_ _=>?_ | refine tF _ (aPN (by assumption)) λ_ _=>?_ | refine tF _ (aIR (by assumption)) λ_ _=>?_ | refine tF _ (aPG (by assumption)) λ_ _=>?_ | refine tF _ (aPT (by assumption)) λ_ _=>?_ | refine tF _ (aPK (by assumption)) λ_ _=>?_ | refine tF _ (aO9 (by assumption)) λ_ _=>?_ | refine tF _ (aGE (by assumption)) λ_ _=>?_ | refine tF _ (aPU (by assumption)) λ_ _=>?_ | refine tF _ (aM9 (by assumption)) λ_ _=>?_ | refine tF _ (aIU (by assumption)) λ_ _=>?_ | refine tF _ (aPI (by assumption)) λ_ _=>?_ | refine tF _ (aPH (by assumption)) λ_ _=>?_
theorem a2F {n:Nat} {l:List Int} (hn:250<=n) (hl:l.length<20):Tot (J3 n l):=by
  unfold J3 aK6;simp only [WT.run,O9]
  refine tF (λ_=>True) (aQB (m:=l.length) (λv=>v.1) (λv=>v.2.length=40) ⟨by simp,by simp,by simp⟩ (by omega) λv h1 h2 h3=>?_) λr _=>aP5 (λ_ _=>aL2 (aEV trivial)) λ_ _=>trivial
  obtain ⟨i,s⟩:=v
  simp only at h1 h2 h3
  simp only [p2]
  refine aL2 (aEY (λhk=>u7 h1 hk λx hx=>tF (λb=>b=false->0<=x/\x<40) (aL2 (aEY (λ_=>aEV λh=>by cases h) λk1=>aL2 (aEY (λ_=>aEV λh=>by cases h) λk2=>aL4 ⟨by omega,by omega⟩ (u7 (by omega) (by omega) λ_ _=>aEV λ_=>⟨by omega,by omega⟩)))) λb hb=>aFQ (λ_=>aGQ (aGQ (aEV trivial))) λhb'=>?_) λ_=>aGQ (XC trivial))
  have hx2:=hb hb'
  exact aL4 hx2 (u7 hx2.1 (by omega) λ_ _=>aL2 (x_v (XC ⟨hk,rfl,by simp;exact h3⟩)))
theorem aRN {x:List UInt8} {k c v:Int} {R:Option Bool} (hR:Tot R):Tot (((((qL x c).bind λ(x11:Int)=>some x11).bind λy=>bnd (decide (y>=0)) λb=>some b).bind λb=>(cond b ((oV k c).bind λp=>some (p.1,p.2)) (some (0,0))).bind (p2 λlo hi=>(some ()).bind λ(_:Unit)=>(bnd (decide (v<lo)) λx17=>cond x17 (some true) (bnd (decide (v>hi)) λx18=>some x18)).bind λb=>cond b (some false) R))):=by
  refine tF (λ_=>True) (tF (λ_=>True) (tF (λ_=>True) aZX λ_ _=>aEV trivial) λ_ _=>aL2 (aEV trivial)) λ_ _=>tF (λ_=>True) (aFQ (λ_=>tF _ a2E λ_ _=>aEV trivial) λ_=>aEV trivial) λr _=>?_
  show Ex _ (Option.bind (bnd (decide (v<r.1)) λx17=>cond x17 (some true) (bnd (decide (v>r.2)) λx18=>some x18)) _)
  exact tF (λ_=>True) (aL2 (aEY (λ_=>aEV trivial) λ_=>aL2 (aEV trivial))) λ_ _=>aFQ (λ_=>aEV trivial) λ_=>hR
theorem aVB {n:Nat} {o:aS} (hn:250<=n) (hr:o.bT.length<20):Tot (nJ n o):=by
  unfold nJ
  refine tF (λb=>b=false->1<=o.Kind/\o.Kind<=16) (aL2 (aEY (λ_=>aEV λh=>by cases h) λh1=>aL2 (aEV λh2=>by have:=of_decide_eq_false h2;omega))) λb hb=>aFQ (λ_=>aEV trivial) λhb'=>tF _ a0W λf _=>u7 (by have:=hb hb';omega) (by have:=hb hb';simp;omega) λx hx=>?_
  refine aRN (aRN (aRN (aRN (aRN (aRN (aRN ?_))))))
  refine aL2 (aEY (λ_=>tF _ (a2F hn hr) λ_ _=>aEV trivial) λ_=>tF (λ_=>True) ?_ λ_ _=>aEV trivial)
  repeat' with_reducible first | exact aEV trivial | refine x_v ?_ | refine aP8 ?_ | apply aL2 | refine u7 (by omega) (by omega) λ_ _=>?_ | exact XC trivial | exact XC ⟨by omega,by (first | rfl | omega | (simp only;omega)),trivial⟩ | refine x_a ?_ | refine aP5 (λ_ _=>?_) λ_ _=>trivial | apply aI5 | apply aCE | apply aAR | apply Y4 | apply aOY | apply aIH | apply aKG | apply aMX | apply aDS | refine aEY (λ_=>?_) λ_=>?_ | refine aEW (λ_=>?_) λ_=>?_ | refine aFQ (λ_=>?_) λ_=>?_ | apply aP6 | apply aP3 | apply aK3 | apply aGQ | refine tF _ aPX λ_ _=>?_ | refine tF _ aLP λ_ _=>?_ | refine tF _ aGO λ_ _=>?_ | refine tF _ tt_money_Wide λ_ _=>?_ | refine tF _ aJK λ_ _=>?_ | refine tF _ aF5 λ_ _=>?_ | refine tF _ aPW λ_ _=>?_ | refine tF _ aOB λ_ _=>?_ | refine tF _ aPY λ_ _=>?_ | refine tF _ aPV λ_ _=>?_ | refine tF _ aPC λ_ _=>?_ | refine tF _ aPD λ_ _=>?_ | refine tF _ aPA λ_ _=>?_ | refine tF _ aO3 λ_ _=>?_ | refine tF _ aPB λ_ _=>?_ | refine tF _ aPF λ_ _=>?_ | refine tF _ aH7 λ_ _=>?_ | refine tF _ aPO λ_ _=>?_ | refine tF _ aO8 λ_ _=>?_ | refine tF _ aPL λ_ _=>?_ | refine tF _ aPJ λ_ _=>?_ | refine tF _ aPS λ_ _=>?_ | refine tF _ tt_stdcost_rate_of λ_ _=>?_ | refine tF _ tt_stdcost_rate_fits λ_ _=>?_ | refine tF _ aPQ λ_ _=>?_ | refine tF _ aPR λ_ _=>?_ | refine tF _ aPM λ_ _=>?_ | refine tF _ aHZ λ_ _=>?_ | refine tF _ aPE λ_ _=>?_ | refine tF _ aPP λ_ _=>?_ | refine tF _ aPN λ_ _=>?_ | refine tF _ aIR λ_ _=>?_ | refine tF _ aPG λ_ _=>?_ | refine tF _ aPT λ_ _=>?_ | refine tF _ aPK λ_ _=>?_ | refine tF _ aO9 λ_ _=>?_ | refine tF _ aGE λ_ _=>?_ | refine tF _ aPU λ_ _=>?_ | refine tF _ aM9 λ_ _=>?_ | refine tF _ aIU λ_ _=>?_ | refine tF _ aPI λ_ _=>?_ | refine tF _ aPH λ_ _=>?_ | refine tF _ (aPX (by assumption)) λ_ _=>?_ | refine tF _ (aLP (by assumption)) λ_ _=>?_ | refine tF _ (aGO (by assumption)) λ_ _=>?_ | refine tF _ (tt_money_Wide (by assumption)) λ_ _=>?_ | refine tF _ (aJK (by assumption)) λ_ _=>?_ | refine tF _ (aF5 (by assumption)) λ_ _=>?_ | refine tF _ (aPW (by assumption)) λ_ _=>?_ | refine tF _ (aOB (by assumption)) λ_ _=>?_ | refine tF _ (aPY (by assumption)) λ_ _=>?_ | refine tF _ (aPV (by assumption)) λ_ _=>?_ | refine tF _ (aPC (by assumption)) λ_ _=>?_ | refine tF _ (aPD (by assumption)) λ_ _=>?_ | refine tF _ (aPA (by assumption)) λ_ _=>?_ | refine tF _ (aO3 (by assumption)) λ_ _=>?_ | refine tF _ (aPB (by assumption)) λ_ _=>?_ | refine tF _ (aPF (by assumption)) λ_ _=>?_ | refine tF _ (aH7 (by assumption)) λ_ _=>?_ | refine tF _ (aPO (by assumption)) λ_ _=>?_ | refine tF _ (aO8 (by assumption)) λ_ _=>?_ | refine tF _ (aPL (by assumption)) λ_ _=>?_ | refine tF _ (aPJ (by assumption)) λ_ _=>?_ | refine tF _ (aPS (by assumption)) λ_ _=>?_ | refine tF _ (tt_stdcost_rate_of (by assumption)) λ_ _=>?_ | refine tF _ (tt_stdcost_rate_fits (by assumption)) λ_ _=>?_ | refine tF _ (aPQ (by assumption)) λ_ _=>?_ | refine tF _ (aPR (by assumption)) λ_ _=>?_ | refine tF _ (aPM (by assumption)) λ_ _=>?_ | refine tF _ (aHZ (by assumption)) λ_ _=>?_ | refine tF _ (aPE (by assumption)) λ_ _=>?_ | refine tF _ (aPP (by assumption)) λ_ _=>?_ | refine tF _ (aPN (by assumption)) λ_ _=>?_ | refine tF _ (aIR (by assumption)) λ_ _=>?_ | refine tF _ (aPG (by assumption)) λ_ _=>?_ | refine tF _ (aPT (by assumption)) λ_ _=>?_ | refine tF _ (aPK (by assumption)) λ_ _=>?_ | refine tF _ (aO9 (by assumption)) λ_ _=>?_ | refine tF _ (aGE (by assumption)) λ_ _=>?_ | refine tF _ (aPU (by assumption)) λ_ _=>?_ | refine tF _ (aM9 (by assumption)) λ_ _=>?_ | refine tF _ (aIU (by assumption)) λ_ _=>?_ | refine tF _ (aPI (by assumption)) λ_ _=>?_ | refine tF _ (aPH (by assumption)) λ_ _=>?_
structure OQ (o:aS):Prop where
  q:R64 o.aQ/\R64 o.bD
  r:o.bT.length<20
theorem aZ5 {n:Nat} {s:aA} {o:aS} (hn:250<=n) (h:SQ s) (ho:OQ o):Ex (Kp s) (aTX n s o):=by
  unfold aTX aUK;simp only [WT.run,O9]
  have fin:∀ {D:Option (aA×Int)},(In' s o.E o.Item->Ex (Kp s) D)->Ex (Kp s) ((lH s o.E o.Item).bind λx=>bnd (decide (x≠0)) λx_1=>bif x_1 then some (s,x) else D.bind λx=>bnd (decide (x.snd≠0)) λx_2=>bif x_2 then some (s,x.snd) else some (x.fst,0)):=λ{D} hD =>
    tF _ (aGE h) λy hy=>aL2 (aEY (λ_=>aEV ⟨h,rfl⟩) λhy'=>tF _ (hD (hy (Classical.not_not.1 hy'))) λr hr=>aL2 (aEY (λ_=>aEV ⟨h,rfl⟩) λ_=>aEV hr))
  exact aL2 (aEY (λ_=>fin λ_=>a0X hn h ho.q.1) λk6=>aL2 (aEY (λ_=>fin λhi=>a0Q hn h hi) λk7=>aL2 (aEY (λ_=>fin λ_=>a2P hn h ho.q.1) λk8=>aL2 (aEY (λ_=>fin λhi=>aYQ hn h hi ho.q.2) λk9=>aL4 ⟨k6,k7,k8,k9⟩ (aEV ⟨h,rfl⟩)))))
structure Ap (s:aA) (r:aA×Int):Prop where
  q:SQ r.1
  no:r.2≠0->r.1=s
  ok:r.2=0->r.1.Done=if 288230376151711744<aI (s.Done+1) then 288230376151711744 else aI (s.Done+1)
theorem SQ.done {s:aA} (h:SQ s) {k:Int}:SQ ⟨s.bA,s.aW,s.bP,s.bU,s.bY,k⟩:=⟨h.el,h.eq,h.wl,h.ml,h.mq,h.cl,h.cq,h.rl,h.rq,h.sl,h.sq,h.tl,h.tq⟩
theorem aT0 {n:Nat} {s:aA} {o:aS} (hn:250<=n) (h:SQ s) (ho:OQ o):Ex (Ap s) (lF n s o):=by
  unfold lF aFD;simp only [WT.run,O9]
  have fin:∀ {D:Option (aA×Int)},Ex (Kp s) D->Ex (Ap s) (((nJ n o).bind λx=>bnd (!x) λx_1=>bif x_1 then some true else some false).bind λy=>bif y then some (s,1) else D.bind λx=>bnd (decide (x.snd≠0)) λx_1=>bif x_1 then some (s,x.snd) else bnd (aI (x.fst.Done+1)) λx_2=>bnd (if 288230376151711744<x_2 then 288230376151711744 else x_2) λx_3=>some (({ bA:=x.fst.bA,aW:=x.fst.aW,bP:=x.fst.bP,bU:=x.fst.bU,bY:=x.fst.bY,Done:=x_3 }:aA),0)):=λ{D} hD =>
    tF (λ_=>True) (tF _ (aVB hn ho.r) λ_ _=>aL2 (aFQ (λ_=>aEV trivial) λ_=>aEV trivial)) λb _=>aFQ (λ_=>aEV ⟨h,λ_=>rfl,λh=>absurd h (show ¬ (1:Int)=0 by decide)⟩) λ_=>tF _ hD λr hr=>aL2 (aEY (λk=>aEV ⟨h,λ_=>rfl,λh=>absurd h k⟩) λ_=>aL2 (aL2 (aEV ⟨hr.1.done,λh=>absurd rfl h,λ_=>by rw [hr.2]⟩)))
  refine tF (λ_=>True) ?_ λu _=>?_
  · repeat' with_reducible first | exact aEV trivial | refine x_v ?_ | refine aP8 ?_ | apply aL2 | refine u7 (by omega) (by omega) λ_ _=>?_ | exact XC trivial | exact XC ⟨by omega,by (first | rfl | omega | (simp only;omega)),trivial⟩ | refine x_a ?_ | refine aP5 (λ_ _=>?_) λ_ _=>trivial | apply aI5 | apply aCE | apply aAR | apply Y4 | apply aOY | apply aIH | apply aKG | apply aMX | apply aDS | refine aEY (λ_=>?_) λ_=>?_ | refine aEW (λ_=>?_) λ_=>?_ | refine aFQ (λ_=>?_) λ_=>?_ | apply aP6 | apply aP3 | apply aK3 | apply aGQ | refine tF _ aPX λ_ _=>?_ | refine tF _ aLP λ_ _=>?_ | refine tF _ aGO λ_ _=>?_ | refine tF _ tt_money_Wide λ_ _=>?_ | refine tF _ aJK λ_ _=>?_ | refine tF _ aF5 λ_ _=>?_ | refine tF _ aPW λ_ _=>?_ | refine tF _ aOB λ_ _=>?_ | refine tF _ aPY λ_ _=>?_ | refine tF _ aPV λ_ _=>?_ | refine tF _ aPC λ_ _=>?_ | refine tF _ aPD λ_ _=>?_ | refine tF _ aPA λ_ _=>?_ | refine tF _ aO3 λ_ _=>?_ | refine tF _ aPB λ_ _=>?_ | refine tF _ aPF λ_ _=>?_ | refine tF _ aH7 λ_ _=>?_ | refine tF _ aPO λ_ _=>?_ | refine tF _ aO8 λ_ _=>?_ | refine tF _ aPL λ_ _=>?_ | refine tF _ aPJ λ_ _=>?_ | refine tF _ aPS λ_ _=>?_ | refine tF _ tt_stdcost_rate_of λ_ _=>?_ | refine tF _ tt_stdcost_rate_fits λ_ _=>?_ | refine tF _ aPQ λ_ _=>?_ | refine tF _ aPR λ_ _=>?_ | refine tF _ aPM λ_ _=>?_ | refine tF _ aHZ λ_ _=>?_ | refine tF _ aPE λ_ _=>?_ | refine tF _ aPP λ_ _=>?_ | refine tF _ aPN λ_ _=>?_ | refine tF _ aIR λ_ _=>?_ | refine tF _ aPG λ_ _=>?_ | refine tF _ aPT λ_ _=>?_ | refine tF _ aPK λ_ _=>?_ | refine tF _ aO9 λ_ _=>?_ | refine tF _ aGE λ_ _=>?_ | refine tF _ aPU λ_ _=>?_ | refine tF _ aM9 λ_ _=>?_ | refine tF _ aIU λ_ _=>?_ | refine tF _ aPI λ_ _=>?_ | refine tF _ aPH λ_ _=>?_ | refine tF _ (aPX (by assumption)) λ_ _=>?_ | refine tF _ (aLP (by assumption)) λ_ _=>?_ | refine tF _ (aGO (by assumption)) λ_ _=>?_ | refine tF _ (tt_money_Wide (by assumption)) λ_ _=>?_ | refine tF _ (aJK (by assumption)) λ_ _=>?_ | refine tF _ (aF5 (by assumption)) λ_ _=>?_ | refine tF _ (aPW (by assumption)) λ_ _=>?_ | refine tF _ (aOB (by assumption)) λ_ _=>?_ | refine tF _ (aPY (by assumption)) λ_ _=>?_ | refine tF _ (aPV (by assumption)) λ_ _=>?_ | refine tF _ (aPC (by assumption)) λ_ _=>?_ | refine tF _ (aPD (by assumption)) λ_ _=>?_ | refine tF _ (aPA (by assumption)) λ_ _=>?_ | refine tF _ (aO3 (by assumption)) λ_ _=>?_ | refine tF _ (aPB (by assumption)) λ_ _=>?_ | refine tF _ (aPF (by assumption)) λ_ _=>?_ | refine tF _ (aH7 (by assumption)) λ_ _=>?_ | refine tF _ (aPO (by assumption)) λ_ _=>?_ | refine tF _ (aO8 (by assumption)) λ_ _=>?_ | refine tF _ (aPL (by assumption)) λ_ _=>?_ | refine tF _ (aPJ (by assumption)) λ_ _=>?_ | refine tF _ (aPS (by assumption)) λ_ _=>?_ | refine tF _ (tt_stdcost_rate_of (by assumption)) λ_ _=>?_ | refine tF _ (tt_stdcost_rate_fits (by assumption)) λ_ _=>?_ | refine tF _ (aPQ (by assumption)) λ_ _=>?_ | refine tF _ (aPR (by assumption)) λ_ _=>?_ | refine tF _ (aPM (by assumption)) λ_ _=>?_ | refine tF _ (aHZ (by assumption)) λ_ _=>?_ | refine tF _ (aPE (by assumption)) λ_ _=>?_ | refine tF _ (aPP (by assumption)) λ_ _=>?_ | refine tF _ (aPN (by assumption)) λ_ _=>?_ | refine tF _ (aIR (by assumption)) λ_ _=>?_ | refine tF _ (aPG (by assumption)) λ_ _=>?_ | refine tF _ (aPT (by assumption)) λ_ _=>?_ | refine tF _ (aPK (by assumption)) λ_ _=>?_ | refine tF _ (aO9 (by assumption)) λ_ _=>?_ | refine tF _ (aGE (by assumption)) λ_ _=>?_ | refine tF _ (aPU (by assumption)) λ_ _=>?_ | refine tF _ (aM9 (by assumption)) λ_ _=>?_ | refine tF _ (aIU (by assumption)) λ_ _=>?_ | refine tF _ (aPI (by assumption)) λ_ _=>?_ | refine tF _ (aPH (by assumption)) λ_ _=>?_
  rcases u with u | u | u | u | u | u | u | u <;> simp only [Sum.elim,WT.run,O9]
  · exact fin (tF _ (aXU hn h ho.q) λr hr=>aEV hr)
  · exact fin (tF _ (a1G hn h ho.q) λr hr=>aEV hr)
  · have hA:=aZ5 hn h ho
    unfold aTX aUK at hA
    simp only [WT.run,O9] at hA
    exact fin (tF _ hA λr hr=>aEV hr)
  · exact fin (tF _ (a2C hn h ho.q) λr hr=>aEV hr)
  · exact fin (tF _ (aY8 hn h ho.r) λr hr=>aEV hr)
  · exact fin (tF _ (a0T hn h ho.q) λr hr=>aEV hr)
  · exact fin (tF _ (aYB h) λr hr=>aEV hr)
  · exact tF (λ_=>True) (tF _ (aVB hn ho.r) λ_ _=>aL2 (aFQ (λ_=>aEV trivial) λ_=>aEV trivial)) λ_ _=>aEV ⟨h,λ_=>rfl,λh=>absurd h (show ¬ (1:Int)=0 by decide)⟩
inductive Rn (n:Nat) (s:aA):List aS->aA->List Int->Prop
  | nil:Rn n s [] s []
  | snoc {l:List aS} {a:aA} {e:List Int} {o:aS} {t:aA} {x:Int}:Rn n s l a e->lF n a o=some (t,x)->Rn n s (l++[o]) t (e++[x])
theorem Rn.len {n:Nat} {s a:aA} {l:List aS} {e:List Int} (h:Rn n s l a e):e.length=l.length:=by
  induction h with
  | nil=>rfl
  | snoc _ _ ih=>simp [ih]
theorem Rn.det {n:Nat} {s a:aA} {l:List aS} {e:List Int} (h:Rn n s l a e):∀ {b:aA} {f:List Int},Rn n s l b f->a=b/\e=f:=by
  induction h with
  | nil =>
    intro b f k
    generalize hl:([]:List aS)=l at k
    cases k with
    | nil=>exact ⟨rfl,rfl⟩
    | snoc _ _=>simp at hl
  | snoc h1 h2 ih =>
    intro b f k
    rename_i l a e o t x
    generalize hl:l++[o]=m at k
    cases k with
    | nil=>simp at hl
    | snoc k1 k2 =>
      obtain ⟨rfl,ho⟩:=List.append_inj' hl rfl
      cases ho
      obtain ⟨rfl,rfl⟩:=ih k1
      rw [h2] at k2
      cases k2
      exact ⟨rfl,rfl⟩
def gd (l:List aS) (e:List Int):List aS:=((l.zip e).filter λp=>decide (p.2=0)).map Prod.fst
theorem aWM {l:List aS} {e:List Int} {o:aS} {x:Int} (h:e.length=l.length):gd (l++[o]) (e++[x])=gd l e++(if x=0 then [o] else []):=by
  unfold gd
  rw [List.zip_append h.symm,List.filter_append,List.map_append]
  congr 1
  by_cases hx:x=0
  · simp [hx]
  · simp [hx]
theorem a0L {l:List aS} {e:List Int}:∀ o∈gd l e,o∈l:=λo ho=>by
  unfold gd at ho
  obtain ⟨p,hp,rfl⟩:=List.mem_map.1 ho
  exact (List.of_mem_zip (List.mem_filter.1 hp).1).1
theorem aUI {l:List aS} {e:List Int}:(gd l e).length<=l.length:=by
  unfold gd
  rw [List.length_map]
  refine Nat.le_trans (List.length_filter_le _ _) ?_
  rw [List.length_zip];omega
theorem Rn.sq {n:Nat} {s a:aA} {l:List aS} {e:List Int} (hn:250<=n) (hs:SQ s) (h:Rn n s l a e):(∀ o∈l,OQ o)->SQ a:=by
  induction h with
  | nil=>intro _;exact hs
  | snoc h1 h2 ih =>
    intro ho
    exact (aW4 (aT0 hn (ih λo h=>ho o (by simp [h])) (ho _ (by simp))) h2).q
theorem Rn.good {n:Nat} {s a:aA} {l:List aS} {e:List Int} (hn:250<=n) (hs:SQ s) (h0:s.Done=0) (h:Rn n s l a e):(∀ o∈l,OQ o)->l.length<=120->Rn n s (gd l e) a (List.replicate (gd l e).length 0)/\a.Done=(gd l e).length:=by
  induction h with
  | nil=>intro _ _;exact ⟨.nil,h0⟩
  | snoc h1 h2 ih =>
    rename_i l a e o t x
    intro ho hl
    simp only [List.length_append,List.length_cons,List.length_nil] at hl
    obtain ⟨i1,i2⟩:=ih (λo h=>ho o (by simp [h])) (by omega)
    have hq:=h1.sq hn hs λo h=>ho o (by simp [h])
    have hA:=aW4 (aT0 hn hq (ho o (by simp))) h2
    rw [aWM h1.len]
    have hg:=aUI (l:=l) (e:=e)
    by_cases hx:x=0
    · subst hx
      rw [if_pos rfl,List.length_append,List.length_singleton,List.replicate_succ']
      refine ⟨.snoc i1 h2,?_⟩
      have hw:aI (((gd l e).length:Int)+1)=((gd l e).length:Int)+1:=wrap64 (by omega)
      rw [hA.ok rfl,i2,hw,if_neg (by omega)]
      push_cast;rfl
    · rw [if_neg hx,List.append_nil]
      have:=hA.no hx
      simp only at this
      subst this
      exact ⟨i1,i2⟩
theorem aVE {n:Nat} {s:aA} {l:List aS} (hn:250<=n) (h:SQ s) (ho:∀ o∈l,OQ o) (hl:l.length<=120):Ex (λr=>Rn n s l r.1 r.2) (TN n s l):=by
  unfold TN aJY;simp only [WT.run,O9]
  refine tF (λr=>Rn n s l r.1 r.2) (aQB (m:=l.length) (λv=>v.1) (λv=>Rn n s (l.take v.1.toNat) v.2.1 v.2.2) ⟨by simp,by simp,.nil⟩ (by omega) λv h1 h2 h3=>?_) λr hr=>aEV hr
  obtain ⟨i,t,e⟩:=v
  simp only at h1 h2 h3
  simp only [p2]
  refine aL2 (aEY (λhk=>u7 h1 hk λo hx=>?_) λhk=>aGQ (aEV ?_))
  · have hq:=h3.sq hn h λo h=>ho o (List.mem_of_mem_take h)
    obtain ⟨y,e1,e2⟩:=aT0 hn hq (ho o (List.mem_of_getElem? hx))
    have hlen:=h3.len
    simp only [List.length_take] at hlen
    refine x_eq e1 (aL2 (x_a (x_v (XC ⟨hk,rfl,?_⟩))))
    simp only
    rw [show (i+1).toNat=i.toNat+1 by omega,List.take_add_one,hx]
    exact .snoc h3 e1
  · rw [List.take_of_length_le (by omega)] at h3;exact h3
end Go.Pv
