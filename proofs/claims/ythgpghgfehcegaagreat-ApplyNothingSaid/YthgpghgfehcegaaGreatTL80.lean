import Derived.Test.YthgpghgfehcegaaGreatTI80
set_option linter.unusedVariables false
set_option linter.unusedSimpArgs false
namespace Go.Pv
open Go.Proofs
set_option maxRecDepth 100000
set_option maxHeartbeats 1000000
theorem a0H {n:Nat} {l:List aH} (hn:250<=n) (hl:l.length<20):Tot (aTD n l):=by
  unfold aTD YR;simp only [WT.run,O9]
  refine tF (λa=>a.length<250) (aQB (m:=l.length) (λv=>v.1) (λv=>(v.2.length:Int)=v.1) ⟨by simp,by simp,by simp⟩ (by omega) λv h1 h2 h3=>?_) λa ha=>?_
  · obtain ⟨i,p⟩:=v
    simp only at h1 h2 h3
    repeat' with_reducible first | exact aEV trivial | refine x_v ?_ | refine aP8 ?_ | apply aL2 | refine u7 (by omega) (by omega) λ_ _=>?_ | exact XC trivial | exact XC ⟨by omega,by (first | rfl | omega | (simp only;omega)),trivial⟩ | refine x_a ?_ | refine aP5 (λ_ _=>?_) λ_ _=>trivial | apply aI5 | apply aCE | apply aAR | apply Y4 | apply aOY | apply aIH | apply aKG | apply aMX | apply aDS | refine aEY (λ_=>?_) λ_=>?_ | refine aEW (λ_=>?_) λ_=>?_ | refine aFQ (λ_=>?_) λ_=>?_ | apply aP6 | apply aP3 | apply aK3 | apply aGQ | refine tF _ aPX λ_ _=>?_ | refine tF _ aLP λ_ _=>?_ | refine tF _ aGO λ_ _=>?_ | refine tF _ tt_money_Wide λ_ _=>?_ | refine tF _ aJK λ_ _=>?_ | refine tF _ aF5 λ_ _=>?_ | refine tF _ aPW λ_ _=>?_ | refine tF _ aOB λ_ _=>?_ | refine tF _ aPY λ_ _=>?_ | refine tF _ aPV λ_ _=>?_ | refine tF _ aPC λ_ _=>?_ | refine tF _ aPD λ_ _=>?_ | refine tF _ aPA λ_ _=>?_ | refine tF _ aO3 λ_ _=>?_ | refine tF _ aPB λ_ _=>?_ | refine tF _ aPF λ_ _=>?_ | refine tF _ aH7 λ_ _=>?_ | refine tF _ aPO λ_ _=>?_ | refine tF _ aO8 λ_ _=>?_ | refine tF _ aPL λ_ _=>?_ | refine tF _ aPJ λ_ _=>?_ | refine tF _ aPS λ_ _=>?_ | refine tF _ tt_stdcost_rate_of λ_ _=>?_ | refine tF _ tt_stdcost_rate_fits λ_ _=>?_ | refine tF _ aPQ λ_ _=>?_ | refine tF _ aPR λ_ _=>?_ | refine tF _ aPM λ_ _=>?_ | refine tF _ aHZ λ_ _=>?_ | refine tF _ aPE λ_ _=>?_ | refine tF _ aPP λ_ _=>?_ | refine tF _ aPN λ_ _=>?_ | refine tF _ aIR λ_ _=>?_ | refine tF _ aPG λ_ _=>?_ | refine tF _ aPT λ_ _=>?_ | refine tF _ aPK λ_ _=>?_ | refine tF _ aO9 λ_ _=>?_ | refine tF _ aGE λ_ _=>?_ | refine tF _ aPU λ_ _=>?_ | refine tF _ aM9 λ_ _=>?_ | refine tF _ aIU λ_ _=>?_ | refine tF _ aPI λ_ _=>?_ | refine tF _ aPH λ_ _=>?_ | refine tF _ (aPX (by assumption)) λ_ _=>?_ | refine tF _ (aLP (by assumption)) λ_ _=>?_ | refine tF _ (aGO (by assumption)) λ_ _=>?_ | refine tF _ (tt_money_Wide (by assumption)) λ_ _=>?_ | refine tF _ (aJK (by assumption)) λ_ _=>?_ | refine tF _ (aF5 (by assumption)) λ_ _=>?_ | refine tF _ (aPW (by assumption)) λ_ _=>?_ | refine tF _ (aOB (by assumption)) λ_ _=>?_ | refine tF _ (aPY (by assumption)) λ_ _=>?_ | refine tF _ (aPV (by assumption)) λ_ _=>?_ | refine tF _ (aPC (by assumption)) λ_ _=>?_ | refine tF _ (aPD (by assumption)) λ_ _=>?_ | refine tF _ (aPA (by assumption)) λ_ _=>?_ | refine tF _ (aO3 (by assumption)) λ_ _=>?_ | refine tF _ (aPB (by assumption)) λ_ _=>?_ | refine tF _ (aPF (by assumption)) λ_ _=>?_ | refine tF _ (aH7 (by assumption)) λ_ _=>?_ | refine tF _ (aPO (by assumption)) λ_ _=>?_ | refine tF _ (aO8 (by assumption)) λ_ _=>?_ | refine tF _ (aPL (by assumption)) λ_ _=>?_ | refine tF _ (aPJ (by assumption)) λ_ _=>?_ | refine tF _ (aPS (by assumption)) λ_ _=>?_ | refine tF _ (tt_stdcost_rate_of (by assumption)) λ_ _=>?_ | refine tF _ (tt_stdcost_rate_fits (by assumption)) λ_ _=>?_ | refine tF _ (aPQ (by assumption)) λ_ _=>?_ | refine tF _ (aPR (by assumption)) λ_ _=>?_ | refine tF _ (aPM (by assumption)) λ_ _=>?_ | refine tF _ (aHZ (by assumption)) λ_ _=>?_ | refine tF _ (aPE (by assumption)) λ_ _=>?_ | refine tF _ (aPP (by assumption)) λ_ _=>?_ | refine tF _ (aPN (by assumption)) λ_ _=>?_ | refine tF _ (aIR (by assumption)) λ_ _=>?_ | refine tF _ (aPG (by assumption)) λ_ _=>?_ | refine tF _ (aPT (by assumption)) λ_ _=>?_ | refine tF _ (aPK (by assumption)) λ_ _=>?_ | refine tF _ (aO9 (by assumption)) λ_ _=>?_ | refine tF _ (aGE (by assumption)) λ_ _=>?_ | refine tF _ (aPU (by assumption)) λ_ _=>?_ | refine tF _ (aM9 (by assumption)) λ_ _=>?_ | refine tF _ (aIU (by assumption)) λ_ _=>?_ | refine tF _ (aPI (by assumption)) λ_ _=>?_ | refine tF _ (aPH (by assumption)) λ_ _=>?_
    all_goals (first | refine XC ?_ | refine aEV ?_) <;> (try simp only [List.length_append,List.length_cons,List.length_nil,List.length_set] at *) <;> (repeat' apply And.intro) <;> (first | trivial | omega)
  · exact tF _ (aGO ⟨ha,hn⟩) λ_ _=>aEV trivial
theorem a3E {x:aH}:Tot (J9 x):=by
  unfold J9 aAE;simp only [WT.run,O9]
  exact tF (λ_=>True) (tF _ aUS λ_ _=>aL2 (aFQ (λ_=>aEV trivial) λ_=>aL2 (aFQ (λ_=>aEV trivial) λ_=>tF _ aW5 λ_ _=>aL2 (aEV trivial)))) λ_ _=>aEV trivial
theorem a07 {n:Nat} {l:List aH} (hn:250<=n) (hl:l.length<20):Tot (RS n l):=by
  unfold RS YU;simp only [WT.run,O9]
  refine tF (λ_=>True) (aL2 (aFQ (λ_=>aEV trivial) λ_=>aL2 (aEV trivial))) λ_ _=>aFQ (λ_=>aEV trivial) λ_=>tF _ (a0H hn hl) λ_ _=>tF (λ_=>True) (tF (λ_=>True) (tF (λ_=>True) (tF (λ_=>True) (aQB (m:=l.length) (λv=>v) (λ_=>True) ⟨by simp,by simp,trivial⟩ (by omega) λv h1 h2 _=>?_) λr _=>?_) λ_ _=>aL2 (aEV trivial)) λ_ _=>aL2 (aFQ (λ_=>aL2 (aFQ (λ_=>aL2 (aEV trivial)) λ_=>aEV trivial)) λ_=>aEV trivial)) λ_ _=>aEV trivial
  · exact aL2 (aEY (λhv=>u7 h1 hv λx hx=>tF _ a3E λb _=>aFQ (λ_=>aGQ (aGQ (aEV trivial))) λ_=>x_v (XC ⟨hv,rfl,trivial⟩)) λ_=>aGQ (XC trivial))
  · exact aP5 (λ_ _=>aEV trivial) λ_ _=>trivial
theorem a1A {n:Nat} {b:List Int} {l:List aH} (hn:250<=n) (hb:b.length<=40) (hl:l.length<20):Ex (λr=>r.1.length<=40) (ML n b l):=by
  unfold ML aFF;simp only [WT.run,O9]
  refine aL2 (aEY (λ_=>aEV (by simp)) λh17=>?_)
  have hb17:b.length=17:=by omega
  refine tF (λr=>match r with | .inl _=>True | .inr q=>q.length<=40) (x_a (tF (λr=>r.2.length=b.length) (tF _ (aWQ hn hl) λp hp=>tF (λ_=>True) (aL2 (aFQ (λ_=>aEV trivial) λ_=>aL2 (aFQ (λ_=>tF _ (a07 hn hp.2) λ_ _=>aL2 (aEV trivial)) λ_=>aEV trivial))) λ_ _=>aFQ (λ_=>aEV rfl) λ_=>tF (λr=>match r with | .inl q=>q.length=b.length | .inr t=>t.2.length=b.length) (aQB (m:=p.1.length) (λv=>v.1) (λv=>v.2.length=b.length) ⟨by simp,by simp,rfl⟩ (by have:=hp.2;omega) λv h1 h2 h3=>?_) λr hr=>?_) λr hr=>?_)) λy hy=>?_
  · obtain ⟨k,q⟩:=v
    simp only at h1 h2 h3
    simp only [p2]
    refine aL2 (aEY (λhk=>u7 h1 hk λx hx=>?_) λ_=>aGQ (XC h3))
    have hv:=hp.1.at hx
    exact u7 hv.1 (by have:=hv.2;omega) λz hz=>tF _ aLP λc hc=>aL2 (aL2 (aEY (λ_=>aGQ (aGQ (aEV (by simp;exact h3)))) λ_=>x_v (XC ⟨hk,rfl,by simp;exact h3⟩)))
  · cases r with
    | inl q=>exact aK3 (aEV hr)
    | inr t=>exact ⟨_,rfl,hr⟩
  · obtain ⟨a,c⟩:=r
    simp only at hr
    simp only [p2]
    exact aL2 (aEY (λ_=>x_a (aEV trivial)) λ_=>aL4 hr (aEV (by simp only;omega)))
  · cases y with
    | inl a=>exact aEV hb
    | inr q=>exact aEV hy
theorem aQ9 {n:Nat} {s:aA} {e:Int} {l:List aH} (hn:250<=n) (h:SQ s) (hl:l.length<20):Ex (λr=>SK s r.1) (oN n s e l):=by
  have hel:=h.el
  unfold oN aJN;simp only [WT.run,O9]
  refine tF (λb=>b=false->0<=e/\e<(s.aW.length:Int)) (aL2 (aEY (λ_=>aEV λh=>by cases h) λh1=>aL2 (aEV λh2=>by have:=of_decide_eq_false h2;omega))) λb hb=>aFQ (λ_=>aEV h.rf) λhb'=>?_
  obtain ⟨e0,e1⟩:=hb hb'
  refine tF _ (aWQ hn hl) λp hp=>aL2 (aEY (λ_=>aEV h.rf) λ_=>u7 e0 e1 λx hx=>?_)
  have hxq:=h.at hx
  refine tF _ (a1A hn hxq.bl hp.2) λg hg=>aL2 (aEY (λ_=>aEV h.rf) λ_=>tF (λ_=>True) (x_a (u7 e0 e1 λ_ _=>aEV trivial)) λ_ _=>aQZ e0 hx (aL2 (aEV (h.aSC ⟨hxq.pl,hxq.pq,hg,hxq.rl,hxq.pr,hxq.dn,hxq.ah⟩ hx))))
theorem SQ.aXS {t:aA} (h:SQ t) {r:bH} (hl:t.bP.length<40) (hr:RcQ r):SQ ⟨t.bA,t.aW,t.bP++[r],t.bU,t.bY,t.Done⟩:=⟨h.el,h.eq,h.wl,h.ml,h.mq,h.cl,h.cq,by simp;omega,λx hx=>by
  rcases List.mem_append.1 hx with hx | hx
  · exact h.rq x hx
  · rw [List.mem_singleton.1 hx];exact hr,h.sl,h.sq,h.tl,h.tq⟩
theorem SQ.a05 {t:aA} (h:SQ t) {r:bS} (hl:t.bU.length<40) (hr:SlQ r):SQ ⟨t.bA,t.aW,t.bP,t.bU++[r],t.bY,t.Done⟩:=⟨h.el,h.eq,h.wl,h.ml,h.mq,h.cl,h.cq,h.rl,h.rq,by simp;omega,λx hx=>by
  rcases List.mem_append.1 hx with hx | hx
  · exact h.sq x hx
  · rw [List.mem_singleton.1 hx];exact hr,h.tl,h.tq⟩
abbrev Kp (s:aA) (r:aA×Int):Prop:=SQ r.1/\r.1.Done=s.Done
theorem aXU {n:Nat} {s:aA} {o:aS} (hn:250<=n) (h:SQ s) (hq:R64 o.aQ/\R64 o.bD):Ex (Kp s) (VK n s o):=by
  unfold VK aFN;simp only [WT.run,O9]
  refine aL2 (aEY (λ_=>aEV ⟨h,rfl⟩) λ_=>tF (λr=>SK s r.1/\(¬ r.2≠0->s.bP.length<40/\0<=o.Loc/\o.Loc<=1)) ?_ λr hr=>?_)
  · refine tF (λ_=>True) (tF _ (aGE h) λ_ _=>aEV trivial) λy _=>aL2 (aEY (λhy=>aEV ⟨h.rf,λk=>absurd hy k⟩) λhy=>tF (λz=>¬ z≠0->s.bP.length<40) (aL2 (aEY (λ_=>aEV λk=>absurd (by decide) k) λh40=>aEV λ_=>by omega)) λz hz=>aL2 (aEY (λhz'=>aEV ⟨h.rf,λk=>absurd hz' k⟩) λhz'=>?_))
    have hlt:=hz hz'
    refine tF (λt=>SK s t.1/\(t.2.2.2=0->0<=o.Loc/\o.Loc<=1)) (tF _ (aSG hn h (x:=⟨_,_,_⟩) ⟨hq.1,hq.2,aP0⟩) λb hb=>aEV ⟨hb.1,hb.2.2.2⟩) λb hb=>?_
    obtain ⟨t,c,d,e⟩:=b
    obtain ⟨hb,hloc⟩:=hb
    simp only at hb hloc
    simp only [p2]
    refine aL2 (aEY (λhe=>aEV ⟨hb,λk=>absurd he k⟩) λhne=>tF (λt=>SK s t.1) (aL2 (tF _ (aQ9 hn hb.q (by simp)) λr hr=>aEV (hb.trans hr))) λr hr=>?_)
    refine aL2 (aEY (λhe=>aEV ⟨hr,λk=>absurd he k⟩) λ_=>tF (λt=>SK s t.1) (tF _ (aQ4 hr.q) λu hu=>aEV (hr.trans hu)) λu hu=>?_)
    exact aL2 (aEY (λhe=>aEV ⟨hu,λ_=>⟨hlt,hloc (Classical.not_not.1 hne)⟩⟩) λ_=>aEV ⟨hu,λ_=>⟨hlt,hloc (Classical.not_not.1 hne)⟩⟩)
  · obtain ⟨t,e⟩:=r
    obtain ⟨h1,h2⟩:=hr
    simp only at h1 h2
    simp only [p2]
    refine aL2 (aEY (λ_=>aEV ⟨h,rfl⟩) λhe=>?_)
    have hlt:t.bP.length<40:=by rw [h1.rc];exact (h2 he).1
    exact x_a (aL2 (x_a (aEV ⟨h1.q.aXS hlt ⟨hq.1,hq.2,hq.1,hq.2,aP0,(h2 he).2⟩,h1.dn⟩)))
theorem aQ0 {a b:Int}:Tot (lU a b):=by
  unfold lU aGP;simp only [WT.run,O9]
  exact aEV trivial
theorem aZA {n:Nat} {s:aA} {o:aS} (hn:250<=n) (h:SQ s) (hq:R64 o.aQ/\R64 o.bD) (hi:In' s o.E o.Item):Ex (Kp s) (OX n s o):=by
  unfold OX aFY;simp only [WT.run,O9]
  refine aL2 (aEY (λ_=>aEV ⟨h,rfl⟩) λh40=>tF _ (aR6 hn h hq.1) λf hf=>aL2 (aEY (λ_=>aEV ⟨h,rfl⟩) λhne=>tF _ aQ0 λ_ _=>aL2 (tF _ aQ0 λ_ _=>tF _ aQ0 λ_ _=>aL2 (tF _ aQ0 λ_ _=>tF _ (aQ9 hn hf.1.q (by simp)) λp hp=>aL2 (aEY (λ_=>aEV ⟨h,rfl⟩) λ_=>tF _ (aQ4 hp.q) λu hu=>aL2 (aEY (λ_=>aEV ⟨h,rfl⟩) λ_=>u7 hi.e0 hi.e1 λx hx=>?_))))))
  have hk:=(hf.1.trans hp).trans hu
  have hlt:u.1.bU.length<40:=by rw [hk.sl];omega
  exact aL2 (x_a (aL2 (x_a (aEV ⟨hk.q.a05 hlt ⟨hq.1,aP0,hf.2.1.2.1,hf.2.1.2.2,hf.2.2 (Classical.not_not.1 hne)⟩,hk.dn⟩))))
theorem aYB {s:aA} {o:aS} (h:SQ s):Ex (Kp s) (LU s o):=by
  unfold LU aOR;simp only [WT.run,O9]
  refine aL2 (aEY (λ_=>aEV ⟨h,rfl⟩) λ_=>tF _ (aGE h) λy hy=>aL2 (aEY (λ_=>aEV ⟨h,rfl⟩) λhy'=>?_))
  have hi:=hy (Classical.not_not.1 hy')
  refine u7 hi.e0 hi.e1 λx hx=>aL2 (aEY (λ_=>aEV ⟨h,rfl⟩) λhp=>?_)
  have hxq:=h.at hx
  have:=h.el;have:=hxq.pr;have:=hi.i0
  exact x_a (aQZ hi.e0 hx (x_a (u7 hi.i0 (by omega) λ_ _=>aL2 (aEV ⟨h.set ⟨hxq.pl,hxq.pq,hxq.bl,hxq.rl,by simp;omega,hxq.dn,hxq.ah⟩,rfl⟩))))
theorem SQ.a3J {t:aA} (h:SQ t) {i:Nat} {r:bH} (hr:RcQ r):SQ ⟨t.bA,t.aW,t.bP.set i r,t.bU,t.bY,t.Done⟩:=⟨h.el,h.eq,h.wl,h.ml,h.mq,h.cl,h.cq,by simp;exact h.rl,λx hx=>by
  rcases List.mem_or_eq_of_mem_set hx with hx | rfl
  · exact h.rq x hx
  · exact hr,h.sl,h.sq,h.tl,h.tq⟩
theorem SQ.aTB {t:aA} (h:SQ t) {j:Nat} {a b c q k d e f:Int} {g:Bool} (h1:R64 q) (h2:R64 k) (h3:R64 d) (h4:R64 e) (hl:0<=c/\c<=1):SQ ⟨t.bA,t.aW,t.bP,t.bU.set j ⟨a,b,c,q,k,d,e,f,g⟩,t.bY,t.Done⟩:=⟨h.el,h.eq,h.wl,h.ml,h.mq,h.cl,h.cq,h.rl,h.rq,by simp;exact h.sl,λx hx=>by
  rcases List.mem_or_eq_of_mem_set hx with hx | rfl
  · exact h.sq x hx
  · exact ⟨h1,h2,h3,h4,hl⟩,h.tl,h.tq⟩
theorem SQ.atS {s:aA} (h:SQ s) {i:Nat} {x:bS} (hx:s.bU[i]?=some x):SlQ x:=h.sq x (List.mem_of_getElem? hx)
theorem SQ.atR {s:aA} (h:SQ s) {i:Nat} {x:bH} (hx:s.bP[i]?=some x):RcQ x:=h.rq x (List.mem_of_getElem? hx)
theorem SQ.atT {s:aA} (h:SQ s) {i:Nat} {x:dB} (hx:s.bY[i]?=some x):TrQ x:=h.tq x (List.mem_of_getElem? hx)
theorem aZG {n:Nat} {s:aA} {o:aS} (hn:250<=n) (h:SQ s) (hi:In' s o.E o.Item) (hl:0<=o.Loc/\o.Loc<=1) (hr:0<=o.Ref/\o.Ref<s.bU.length):Ex (Kp s) (RI n s o):=by
  unfold RI aAL;simp only [WT.run,O9]
  refine tF _ (aIU h) λp hp=>tF _ (aPJ hp) λb hb=>aL2 (aEY (λ_=>aEV ⟨h,rfl⟩) λ_=>tF _ aQ0 λ_ _=>aL2 (tF _ aQ0 λ_ _=>tF _ (aQ9 hn h (by simp)) λu hu=>aL2 (aEY (λ_=>aEV ⟨h,rfl⟩) λ_=>?_)))
  have hl3:0<=o.Ref/\o.Ref<(u.1.bU.length:Int):=by rw [hu.sl];exact hr
  have hi2:=hu.iN hi
  have hel:=hu.q.el;have hsl:=hu.q.sl;have:=hi2.i0;have:=hi2.i1;have:=hu.q.wl
  refine x_a (u7 hi2.e0 hi2.e1 λy hy=>?_)
  have hyq:=hu.q.at hy
  have hyl:=hyq.pl
  have hpl:=(hi2.x y hy).1
  refine x_a (x_v (x_v (u7 (by omega) (by omega) λ_ _=>aL2 (tF (λ_=>True) (x_a (u7 hl3.1 hl3.2 λ_ _=>aEV trivial)) λ_ _=>u7 hl3.1 hl3.2 λz hz=>?_))))
  have hzq:=hu.q.atS hz
  exact aL2 (aL2 (aEV ⟨(hu.q.set (x:=⟨_,_,_,_,_,_,_,_⟩) ⟨by simp;exact hyl,hyq.aSA hb,hyq.bl,hyq.rl,hyq.pr,hyq.dn,hyq.ah⟩).aTB hzq.1 (aG1 _) hzq.2.2.1 hzq.2.2.2.1 hzq.2.2.2.2,hu.dn⟩))
theorem a01 {n:Nat} {s:aA} {o:aS} {q:bS} (hn:250<=n) (h:SQ s) (hq:R64 o.aQ/\R64 o.bD) (hs:SlQ q) (hr:0<=o.Ref/\o.Ref<s.bU.length):Ex (Kp s) (NA n s o q):=by
  unfold NA aGM;simp only [WT.run,O9]
  refine aL2 (tF _ (aF5 hn hs.2.2.1 hq.1 (aG1 _)) λc hc=>aL2 (tF _ (aF5 hn hs.2.2.2.1 hq.1 (aG1 _)) λp hp=>tF _ (aSG hn h (x:=⟨_,_,_⟩) ⟨hq.1,hc,hp⟩) λb hb=>aL2 (aEY (λ_=>aEV ⟨h,rfl⟩) λ_=>tF _ aQ0 λ_ _=>tF _ aQ0 λ_ _=>aL2 (tF _ aQ0 λ_ _=>tF _ aQ0 λ_ _=>aL2 (tF _ aQ0 λ_ _=>tF _ (aQ9 hn hb.1.q (by simp)) λu hu=>aL2 (aEY (λ_=>aEV ⟨h,rfl⟩) λ_=>tF _ (aQ4 hu.q) λt ht=>aL2 (aEY (λ_=>aEV ⟨h,rfl⟩) λ_=>?_)))))))
  have hk:=(hb.1.trans hu).trans ht
  have hlt:=hk.q.sl
  have hlr:o.Ref<t.1.bU.length:=by rw [hk.sl];exact hr.2
  refine tF (λ_=>True) (x_a (u7 hr.1 hlr λ_ _=>aEV trivial)) λ_ _=>u7 hr.1 hlr λy hy=>?_
  have hyq:=hk.q.atS hy
  exact aL2 (aL2 (aL2 (aL2 (aL2 (aL2 (aEV ⟨((hk.q.aTB hyq.1 hyq.2.1 (aG1 _) hyq.2.2.2.1 hyq.2.2.2.2).aTB hyq.1 hyq.2.1 (aG1 _) (aG1 _) hyq.2.2.2.2).aTB hyq.1 (aG1 _) (aG1 _) (aG1 _) hyq.2.2.2.2,hk.dn⟩))))))
theorem a1G {n:Nat} {s:aA} {o:aS} (hn:250<=n) (h:SQ s) (hq:R64 o.aQ/\R64 o.bD):Ex (Kp s) (N7 n s o):=by
  unfold N7 WU;simp only [WT.run,O9]
  refine tF (λr=>match r with | .inl q=>(R64 q.1.aQ/\R64 q.1.bD)/\(q.1.Kind≠4->SlQ q.2/\(0<=q.1.Loc/\q.1.Loc<=1)/\0<=q.1.Ref/\q.1.Ref<s.bU.length) | .inr t=>Kp s t) (aL2 (aEY (λhk=>tF (λb=>b=false->0<=o.Ref/\o.Ref<s.bU.length) (aL2 (aEY (λ_=>aEV λh=>by cases h) λh1=>aL2 (aEV λh2=>by have:=of_decide_eq_false h2;omega))) λb hb=>aFQ (λ_=>aGQ (aEV ⟨h,rfl⟩)) λhb'=>u7 (hb hb').1 (hb hb').2 λq hq'=>XC ⟨hq,λ_=>⟨h.atS hq',(h.atS hq').2.2.2.2,hb hb'⟩⟩) λ_=>aL2 (aEY (λhk=>XC ⟨hq,λh=>absurd hk h⟩) λ_=>aGQ (aEV ⟨h,rfl⟩)))) λr hr=>?_
  cases r with
  | inr t=>exact ⟨_,rfl,hr⟩
  | inl q =>
    refine aK3 ?_
    obtain ⟨o',q⟩:=q
    obtain ⟨hq',hr⟩:=hr
    simp only at hq' hr
    simp only [p2]
    refine tF _ (aGE h) λy hy=>aL2 (aEY (λ_=>aEV ⟨h,rfl⟩) λhy'=>?_)
    have hi:=hy (Classical.not_not.1 hy')
    refine tF (λt=>Kp s (t.2,t.1)) (aL2 (aEY (λ_=>tF _ (aZA hn h hq' hi) λt ht=>aEV ht) λhk=>?_)) λt ht=>?_
    · obtain ⟨h1,h2,h3⟩:=hr hk
      refine aL2 (aL2 (aEY (λ_=>aEV ⟨h,rfl⟩) λ_=>tF (λ_=>True) (aL2 (aFQ (λ_=>u7 hi.e0 hi.e1 λ_ _=>aL2 (aEV trivial)) λ_=>aEV trivial)) λ_ _=>aFQ (λ_=>tF _ (aZG hn h hi h2 h3) λt ht=>aEV ht) λ_=>tF _ (a01 hn h hq' h1 h3) λt ht=>aEV ht))
    · obtain ⟨e,t⟩:=t
      simp only [p2]
      exact aL2 (aEY (λ_=>aEV ⟨h,rfl⟩) λ_=>aEV ht)
theorem aW1 {n:Nat} {x:bH} {q:Int} (hn:250<=n) (hx:RcQ x) (hq:R64 q):Ex R64 (GA n x q):=by
  unfold GA aKF;simp only [WT.run,O9]
  refine tF R64 ?_ λy hy=>aEV hy
  unfold PW aI4;simp only [WT.run,O9]
  exact aL2 (aEY (λ_=>aEV hx.2.2.2.1) λ_=>tF _ (aF5 hn hx.2.2.2.1 hq hx.2.2.1) λy hy=>aEV hy)
theorem a2A {n:Nat} {x:bH} {q:Int} (hn:250<=n) (hx:RcQ x) (hq:R64 q):Ex R64 (OV n x q):=by
  unfold OV aNK;simp only [WT.run,O9]
  exact tF _ (aF5 hn hx.2.1 hq hx.1) λy hy=>aEV hy
theorem aR3 {a b:Int}:Tot (rU a b):=by
  unfold rU aCV;simp only [WT.run,O9]
  exact aEV trivial
theorem a2C {n:Nat} {s:aA} {o:aS} (hn:250<=n) (h:SQ s) (hq:R64 o.aQ/\R64 o.bD):Ex (Kp s) (SA n s o):=by
  unfold SA aI0;simp only [WT.run,O9]
  refine tF (λ_=>True) (aL2 (aEY (λ_=>aL2 (aEV trivial)) λ_=>aEV trivial)) λ_ _=>aFQ (λ_=>aEV ⟨h,rfl⟩) λ_=>tF (λb=>b=false->0<=o.Ref/\o.Ref<s.bP.length) (aL2 (aEY (λ_=>aEV λh=>by cases h) λh1=>aL2 (aEV λh2=>by have:=of_decide_eq_false h2;omega))) λb hb=>aFQ (λ_=>aEV ⟨h,rfl⟩) λhb'=>u7 (hb hb').1 (hb hb').2 λx hx=>tF _ (aGE h) λy hy=>aL2 (aEY (λ_=>aEV ⟨h,rfl⟩) λhy'=>?_)
  have hxq:=h.atR hx
  have hE:∀ r:aA×Int×bH,SK s r.1/\RcQ r.2.2->Ex (Kp s) (p2 (λa b=>p2 (λa_1 b=>bnd (decide (a_1≠0)) λx=>bif x then some (s,a_1) else fG (a.bP.length<=68719476736) ((ix a.bP o.Ref).bind λx=>bnd (a.bP.set o.Ref.toNat b) λx=>some ((⟨a.bA,a.aW,x,a.bU,a.bY,a.Done⟩:aA),0))) b) r):=by
    rintro ⟨a,e,b⟩ ⟨h1,h2⟩
    simp only at h1 h2
    simp only [p2]
    have hl:=h1.q.rl
    exact aL2 (aEY (λ_=>aEV ⟨h,rfl⟩) λ_=>x_a (u7 (hb hb').1 (by rw [h1.rc];exact (hb hb').2) λ_ _=>aL2 (aEV ⟨h1.q.a3J h2,h1.dn⟩)))
  refine aL2 (aEY (λ_=>?_) λ_=>?_)
  · refine tF _ (aL2 (aL2 (aEY (λ_=>aEV ⟨h.rf,hxq⟩) λ_=>tF (λ_=>True) (aL2 (aEY (λ_=>aL2 (aEV trivial)) λ_=>aEV trivial)) λ_ _=>aFQ (λ_=>aEV ⟨h.rf,hxq⟩) λ_=>tF _ (aR6 hn h hq.1) λf hf=>aL2 (aL2 (aEY (λ_=>aEV ⟨hf.1,hxq⟩) λ_=>tF _ (a2A hn hxq hq.1) λd hd=>aL2 (tF (λt=>RcQ t.2.2) (aEY (λ_=>tF _ (aW1 hn hxq hq.1) λc hc=>aL2 (aL2 (aEV ⟨hxq.1,hxq.2.1,aG1 _,aG1 _,hxq.2.2.2.2⟩))) λ_=>aEV hxq) λt ht=>?_)))))) hE
    obtain ⟨c,a,r⟩:=t
    simp only at ht
    simp only [p2]
    refine aL2 (tF _ aR3 λ_ _=>aL2 (tF _ aR3 λ_ _=>aL2 (tF _ aR3 λ_ _=>tF _ (aQ9 hn hf.1.q (by simp)) λu hu=>aL2 (aEY (λ_=>aEV ⟨hf.1.trans hu,ht.1,ht.2.1,ht.2.2.1,ht.2.2.2.1,aG1 _,ht.2.2.2.2.2⟩) λ_=>tF _ (aQ4 hu.q) λv hv=>aEV ⟨(hf.1.trans hu).trans hv,ht.1,ht.2.1,ht.2.2.1,ht.2.2.2.1,aG1 _,ht.2.2.2.2.2⟩))))
  · exact tF _ (aL2 (aEY (λ_=>aEV ⟨h.rf,hxq⟩) λ_=>tF _ (aW1 hn hxq hq.1) λc hc=>tF _ aR3 λ_ _=>aL2 (tF _ aR3 λ_ _=>aL2 (tF _ aR3 λ_ _=>tF _ (aQ9 hn h (by simp)) λu hu=>aL2 (aL2 (aEV ⟨hu,hxq.1,hxq.2.1,aG1 _,aG1 _,hxq.2.2.2.2⟩)))))) hE
end Go.Pv
