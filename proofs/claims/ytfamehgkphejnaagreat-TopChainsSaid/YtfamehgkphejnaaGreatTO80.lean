import Derived.Test.YtfamehgkphejnaaGreatTK80
set_option linter.unusedVariables false
set_option linter.unusedSimpArgs false
namespace Go.Pv
open Go.Proofs
set_option maxRecDepth 100000
set_option maxHeartbeats 1000000
theorem SQ.a3J {t:aA} (h:SQ t) {i:Nat} {r:bH} (hr:RcQ r):SQ ⟨t.bA,t.aW,t.bP.set i r,t.bU,t.bY,t.Done⟩:=⟨h.el,h.eq,h.wl,h.ml,h.mq,h.cl,h.cq,by simp;exact h.rl,λx hx=>by
  rcases List.mem_or_eq_of_mem_set hx with hx | rfl
  · exact h.rq x hx
  · exact hr,h.sl,h.sq,h.tl,h.tq⟩
theorem SQ.aTB {t:aA} (h:SQ t) {j:Nat} {a b c q k d e f:Int} {g:Bool} (h1:XE q) (h2:XE k) (h3:XE d) (h4:XE e) (hl:0<=c/\c<=1):SQ ⟨t.bA,t.aW,t.bP,t.bU.set j ⟨a,b,c,q,k,d,e,f,g⟩,t.bY,t.Done⟩:=⟨h.el,h.eq,h.wl,h.ml,h.mq,h.cl,h.cq,h.rl,h.rq,by simp;exact h.sl,λx hx=>by
  rcases List.mem_or_eq_of_mem_set hx with hx | rfl
  · exact h.sq x hx
  · exact ⟨h1,h2,h3,h4,hl⟩,h.tl,h.tq⟩
theorem SQ.atS {s:aA} (h:SQ s) {i:Nat} {x:bS} (hx:s.bU[i]?=some x):SlQ x:=h.sq x (List.mem_of_getElem? hx)
theorem SQ.atR {s:aA} (h:SQ s) {i:Nat} {x:bH} (hx:s.bP[i]?=some x):RcQ x:=h.rq x (List.mem_of_getElem? hx)
theorem SQ.atT {s:aA} (h:SQ s) {i:Nat} {x:dB} (hx:s.bY[i]?=some x):TrQ x:=h.tq x (List.mem_of_getElem? hx)
theorem aZG {n:Nat} {s:aA} {o:aS} (hn:250<=n) (h:SQ s) (hi:In' s o.E o.Item) (hl:0<=o.Loc/\o.Loc<=1) (hr:0<=o.Ref/\o.Ref<s.bU.length):Ex (Kp s) (a5M n s o):=by
  unfold a5M aAL;simp only [WT.run,O9]
  refine tF _ (aIU h) λp hp=>tF _ (aPJ hp) λb hb=>aL2 (aEY (λ_=>aEV ⟨h,rfl⟩) λ_=>tF _ aQ0 λ_ _=>aL2 (tF _ aQ0 λ_ _=>tF _ (aQ9 hn h (by simp)) λu hu=>aL2 (aEY (λ_=>aEV ⟨h,rfl⟩) λ_=>?_)))
  have hl3:0<=o.Ref/\o.Ref<(u.1.bU.length:Int):=by rw [hu.sl];exact hr
  have hi2:=hu.iN hi
  have hel:=hu.q.el;have hsl:=hu.q.sl;have:=hi2.i0;have:=hi2.i1;have:=hu.q.wl
  refine x_a (ON hi2.e0 hi2.e1 λy hy=>?_)
  have hyq:=hu.q.at hy
  have hyl:=hyq.pl
  have hpl:=(hi2.x y hy).1
  refine x_a (x_v (x_v (ON (by omega) (by omega) λ_ _=>aL2 (tF (λ_=>True) (x_a (ON hl3.1 hl3.2 λ_ _=>aEV trivial)) λ_ _=>ON hl3.1 hl3.2 λz hz=>?_))))
  have hzq:=hu.q.atS hz
  exact aL2 (aL2 (aEV ⟨(hu.q.set (x:=⟨_,_,_,_,_,_,_,_⟩) ⟨by simp;exact hyl,hyq.aSA hb,hyq.bl,hyq.rl,hyq.pr,hyq.dn,hyq.ah⟩).aTB hzq.1 (aG1 _) hzq.2.2.1 hzq.2.2.2.1 hzq.2.2.2.2,hu.dn⟩))
theorem a01 {n:Nat} {s:aA} {o:aS} {q:bS} (hn:250<=n) (h:SQ s) (hq:XE o.aQ/\XE o.bD) (hs:SlQ q) (hr:0<=o.Ref/\o.Ref<s.bU.length):Ex (Kp s) (NA n s o q):=by
  unfold NA aGM;simp only [WT.run,O9]
  refine aL2 (tF _ (aF5 hn hs.2.2.1 hq.1 (aG1 _)) λc hc=>aL2 (tF _ (aF5 hn hs.2.2.2.1 hq.1 (aG1 _)) λp hp=>tF _ (aSG hn h (x:=⟨_,_,_⟩) ⟨hq.1,hc,hp⟩) λb hb=>aL2 (aEY (λ_=>aEV ⟨h,rfl⟩) λ_=>tF _ aQ0 λ_ _=>tF _ aQ0 λ_ _=>aL2 (tF _ aQ0 λ_ _=>tF _ aQ0 λ_ _=>aL2 (tF _ aQ0 λ_ _=>tF _ (aQ9 hn hb.1.q (by simp)) λu hu=>aL2 (aEY (λ_=>aEV ⟨h,rfl⟩) λ_=>tF _ (aQ4 hu.q) λt ht=>aL2 (aEY (λ_=>aEV ⟨h,rfl⟩) λ_=>?_)))))))
  have hk:=(hb.1.trans hu).trans ht
  have hlt:=hk.q.sl
  have hlr:o.Ref<t.1.bU.length:=by rw [hk.sl];exact hr.2
  refine tF (λ_=>True) (x_a (ON hr.1 hlr λ_ _=>aEV trivial)) λ_ _=>ON hr.1 hlr λy hy=>?_
  have hyq:=hk.q.atS hy
  exact aL2 (aL2 (aL2 (aL2 (aL2 (aL2 (aEV ⟨((hk.q.aTB hyq.1 hyq.2.1 (aG1 _) hyq.2.2.2.1 hyq.2.2.2.2).aTB hyq.1 hyq.2.1 (aG1 _) (aG1 _) hyq.2.2.2.2).aTB hyq.1 (aG1 _) (aG1 _) (aG1 _) hyq.2.2.2.2,hk.dn⟩))))))
theorem a1G {n:Nat} {s:aA} {o:aS} (hn:250<=n) (h:SQ s) (hq:XE o.aQ/\XE o.bD):Ex (Kp s) (N7 n s o):=by
  unfold N7 WU;simp only [WT.run,O9]
  refine tF (λr=>match r with | .inl q=>(XE q.1.aQ/\XE q.1.bD)/\(q.1.Kind≠4->SlQ q.2/\(0<=q.1.Loc/\q.1.Loc<=1)/\0<=q.1.Ref/\q.1.Ref<s.bU.length) | .inr t=>Kp s t) (aL2 (aEY (λhk=>tF (λb=>b=false->0<=o.Ref/\o.Ref<s.bU.length) (aL2 (aEY (λ_=>aEV λh=>by cases h) λh1=>aL2 (aEV λh2=>by have:=of_decide_eq_false h2;omega))) λb hb=>aFQ (λ_=>aGQ (aEV ⟨h,rfl⟩)) λhb'=>ON (hb hb').1 (hb hb').2 λq hq'=>XC ⟨hq,λ_=>⟨h.atS hq',(h.atS hq').2.2.2.2,hb hb'⟩⟩) λ_=>aL2 (aEY (λhk=>XC ⟨hq,λh=>absurd hk h⟩) λ_=>aGQ (aEV ⟨h,rfl⟩)))) λr hr=>?_
  cases r with
  | inr t=>exact ⟨_,rfl,hr⟩
  | inl q =>
    refine aK3 ?_
    obtain ⟨o',q⟩:=q
    obtain ⟨hq',hr⟩:=hr
    simp only at hq' hr
    simp only [p2]
    refine tF _ (aGE h) λy hy=>aL2 (aEY (λ_=>aEV ⟨h,rfl⟩) λhy'=>?_)
    have hi:=hy (Classical.not_not.1 hy')
    refine tF (λt=>Kp s (t.2,t.1)) (aL2 (aEY (λ_=>tF _ (aZA hn h hq' hi) λt ht=>aEV ht) λhk=>?_)) λt ht=>?_
    · obtain ⟨h1,h2,h3⟩:=hr hk
      refine aL2 (aL2 (aEY (λ_=>aEV ⟨h,rfl⟩) λ_=>tF (λ_=>True) (aL2 (aFQ (λ_=>ON hi.e0 hi.e1 λ_ _=>aL2 (aEV trivial)) λ_=>aEV trivial)) λ_ _=>aFQ (λ_=>tF _ (aZG hn h hi h2 h3) λt ht=>aEV ht) λ_=>tF _ (a01 hn h hq' h1 h3) λt ht=>aEV ht))
    · obtain ⟨e,t⟩:=t
      simp only [p2]
      exact aL2 (aEY (λ_=>aEV ⟨h,rfl⟩) λ_=>aEV ht)
theorem aW1 {n:Nat} {x:bH} {q:Int} (hn:250<=n) (hx:RcQ x) (hq:XE q):Ex XE (GA n x q):=by
  unfold GA aKF;simp only [WT.run,O9]
  refine tF XE ?_ λy hy=>aEV hy
  unfold PW aI4;simp only [WT.run,O9]
  exact aL2 (aEY (λ_=>aEV hx.2.2.2.1) λ_=>tF _ (aF5 hn hx.2.2.2.1 hq hx.2.2.1) λy hy=>aEV hy)
theorem a2A {n:Nat} {x:bH} {q:Int} (hn:250<=n) (hx:RcQ x) (hq:XE q):Ex XE (OV n x q):=by
  unfold OV aNK;simp only [WT.run,O9]
  exact tF _ (aF5 hn hx.2.1 hq hx.1) λy hy=>aEV hy
theorem aR3 {a b:Int}:Tot (rU a b):=by
  unfold rU aCV;simp only [WT.run,O9]
  exact aEV trivial
theorem a2C {n:Nat} {s:aA} {o:aS} (hn:250<=n) (h:SQ s) (hq:XE o.aQ/\XE o.bD):Ex (Kp s) (SA n s o):=by
  unfold SA aI0;simp only [WT.run,O9]
  refine tF (λ_=>True) (aL2 (aEY (λ_=>aL2 (aEV trivial)) λ_=>aEV trivial)) λ_ _=>aFQ (λ_=>aEV ⟨h,rfl⟩) λ_=>tF (λb=>b=false->0<=o.Ref/\o.Ref<s.bP.length) (aL2 (aEY (λ_=>aEV λh=>by cases h) λh1=>aL2 (aEV λh2=>by have:=of_decide_eq_false h2;omega))) λb hb=>aFQ (λ_=>aEV ⟨h,rfl⟩) λhb'=>ON (hb hb').1 (hb hb').2 λx hx=>tF _ (aGE h) λy hy=>aL2 (aEY (λ_=>aEV ⟨h,rfl⟩) λhy'=>?_)
  have hxq:=h.atR hx
  have hE:∀ r:aA×Int×bH,SK s r.1/\RcQ r.2.2->Ex (Kp s) (p2 (λa b=>p2 (λa_1 b=>bnd (decide (a_1≠0)) λx=>bif x then some (s,a_1) else fG (a.bP.length<=68719476736) ((ix a.bP o.Ref).bind λx=>bnd (a.bP.set o.Ref.toNat b) λx=>some ((⟨a.bA,a.aW,x,a.bU,a.bY,a.Done⟩:aA),0))) b) r):=by
    rintro ⟨a,e,b⟩ ⟨h1,h2⟩
    simp only at h1 h2
    simp only [p2]
    have hl:=h1.q.rl
    exact aL2 (aEY (λ_=>aEV ⟨h,rfl⟩) λ_=>x_a (ON (hb hb').1 (by rw [h1.rc];exact (hb hb').2) λ_ _=>aL2 (aEV ⟨h1.q.a3J h2,h1.dn⟩)))
  refine aL2 (aEY (λ_=>?_) λ_=>?_)
  · refine tF _ (aL2 (aL2 (aEY (λ_=>aEV ⟨h.rf,hxq⟩) λ_=>tF (λ_=>True) (aL2 (aEY (λ_=>aL2 (aEV trivial)) λ_=>aEV trivial)) λ_ _=>aFQ (λ_=>aEV ⟨h.rf,hxq⟩) λ_=>tF _ (aR6 hn h hq.1) λf hf=>aL2 (aL2 (aEY (λ_=>aEV ⟨hf.1,hxq⟩) λ_=>tF _ (a2A hn hxq hq.1) λd hd=>aL2 (tF (λt=>RcQ t.2.2) (aEY (λ_=>tF _ (aW1 hn hxq hq.1) λc hc=>aL2 (aL2 (aEV ⟨hxq.1,hxq.2.1,aG1 _,aG1 _,hxq.2.2.2.2⟩))) λ_=>aEV hxq) λt ht=>?_)))))) hE
    obtain ⟨c,a,r⟩:=t
    simp only at ht
    simp only [p2]
    refine aL2 (tF _ aR3 λ_ _=>aL2 (tF _ aR3 λ_ _=>aL2 (tF _ aR3 λ_ _=>tF _ (aQ9 hn hf.1.q (by simp)) λu hu=>aL2 (aEY (λ_=>aEV ⟨hf.1.trans hu,ht.1,ht.2.1,ht.2.2.1,ht.2.2.2.1,aG1 _,ht.2.2.2.2.2⟩) λ_=>tF _ (aQ4 hu.q) λv hv=>aEV ⟨(hf.1.trans hu).trans hv,ht.1,ht.2.1,ht.2.2.1,ht.2.2.2.1,aG1 _,ht.2.2.2.2.2⟩))))
  · exact tF _ (aL2 (aEY (λ_=>aEV ⟨h.rf,hxq⟩) λ_=>tF _ (aW1 hn hxq hq.1) λc hc=>tF _ aR3 λ_ _=>aL2 (tF _ aR3 λ_ _=>aL2 (tF _ aR3 λ_ _=>tF _ (aQ9 hn h (by simp)) λu hu=>aL2 (aL2 (aEV ⟨hu,hxq.1,hxq.2.1,aG1 _,aG1 _,hxq.2.2.2.2⟩)))))) hE
theorem SQ.aTW {t:aA} (h:SQ t) {j:Nat} {a b c d e f:Int} (h1:XE d) (h2:XE e) (h3:XE f):SQ ⟨t.bA,t.aW,t.bP,t.bU,t.bY.set j ⟨a,b,c,d,e,f⟩,t.Done⟩:=⟨h.el,h.eq,h.wl,h.ml,h.mq,h.cl,h.cq,h.rl,h.rq,h.sl,h.sq,by simp;exact h.tl,λx hx=>by
  rcases List.mem_or_eq_of_mem_set hx with hx | rfl
  · exact h.tq x hx
  · exact ⟨h1,h2,h3⟩⟩
theorem SQ.a1T {t:aA} (h:SQ t) {r:dB} (hl:t.bY.length<40) (hr:TrQ r):SQ ⟨t.bA,t.aW,t.bP,t.bU,t.bY++[r],t.Done⟩:=⟨h.el,h.eq,h.wl,h.ml,h.mq,h.cl,h.cq,h.rl,h.rq,h.sl,h.sq,by simp;omega,λx hx=>by
  rcases List.mem_append.1 hx with hx | hx
  · exact h.tq x hx
  · rw [List.mem_singleton.1 hx];exact hr⟩
theorem aQ7 {a b:Int}:Tot (nR a b):=by
  unfold nR Z8;simp only [WT.run,O9]
  exact aEV trivial
theorem aUO {n:Nat} {s:aA} {l:List gG} (hn:250<=n) (h:SQ s) (hl:l.length<20) (hx:∀ x∈l,x.lines.length<20):Ex (λr=>SK s r.1) (a5X n s l):=by
  unfold a5X XB;simp only [WT.run,O9]
  refine tF (λr=>match r with | .inl a=>SK s a | .inr b=>SK s b.1) (aQB (m:=l.length) (λv=>v.1) (λv=>SK s v.2) ⟨by simp,by simp,h.rf⟩ (by omega) λv h1 h2 h3=>?_) λr hr=>?_
  · simp only [p2]
    refine aL2 (aEY (λhk=>ON (by omega) (by omega) λx hx'=>tF _ (aQ9 hn h3.q (hx x (List.mem_of_getElem? hx'))) λy hy=>aL2 (aEY (λ_=>aGQ (aGQ (aEV (h3.trans hy)))) λ_=>x_v (XC ⟨hk,rfl,h3.trans hy⟩))) λ_=>aGQ (XC h3))
  · cases r with
    | inl a=>exact aEV hr
    | inr b=>exact ⟨_,rfl,hr⟩
theorem a2W {n:Nat} {s:aA} {o:aS} (hn:250<=n) (h:SQ s) (hq:XE o.aQ/\XE o.bD):Ex (Kp s) (KJ n s o):=by
  unfold KJ aIW;simp only [WT.run,O9]
  refine tF (λr=>match r with | .inl a=>True | .inr b=>Kp s b) (aQB (m:=2) (λv=>v) (λ_=>True) ⟨by simp,by simp,trivial⟩ (by omega) λv h1 h2 h3=>?_) λr hr=>?_
  · exact aL2 (aEY (λhk=>ON h1 (by simp;omega) λx hx=>tF _ (aGE h) λy hy=>aL2 (aEY (λ_=>aGQ (aGQ (aEV ⟨h,rfl⟩))) λ_=>x_v (XC ⟨by omega,rfl,trivial⟩))) λ_=>aGQ (XC trivial))
  cases r with
  | inr t=>exact ⟨_,rfl,hr⟩
  | inl q =>
    refine aK3 (aL2 (aEY (λ_=>aEV ⟨h,rfl⟩) λh40=>tF _ (aR6 hn h hq.1) λf hf=>aL2 (aEY (λ_=>aEV ⟨hf.1.q,hf.1.dn⟩) λ_=>tF _ aQ7 λ_ _=>aL2 (tF _ aQ7 λ_ _=>tF _ aQ7 λ_ _=>aL2 (tF _ aQ7 λ_ _=>tF _ aQ7 λ_ _=>aL2 (tF _ aQ7 λ_ _=>tF _ (aUO hn hf.1.q (by simp) (by simp)) λu hu=>aL2 (aEY (λ_=>aEV ⟨hu.q,(hf.1.trans hu).dn⟩) λ_=>tF _ (aQ4 hu.q) λv hv=>?_)))))))
    have hk:=(hf.1.trans hu).trans hv
    have hlt:v.1.bY.length<40:=by rw [hk.tr];omega
    exact aL2 (aEY (λ_=>aEV ⟨hk.q,hk.dn⟩) λ_=>aL2 (aL2 (tF (λ_=>True) (aL2 (aEY (λ_=>aEV trivial) λ_=>aL2 (aEV trivial))) λ_ _=>aFQ (λ_=>aEV ⟨hk.q,hk.dn⟩) λ_=>x_a (aL2 (x_a (aEV ⟨hk.q.a1T hlt ⟨hq.1,hq.2,aG1 _⟩,hk.dn⟩))))))
theorem a2T {n:Nat} {s:aA} {o:aS} (hn:250<=n) (h:SQ s) (hq:XE o.aQ/\XE o.bD):Ex (Kp s) (T9 n s o):=by
  unfold T9 aLH;simp only [WT.run,O9]
  refine tF (λb=>b=false->0<=o.Ref/\o.Ref<s.bY.length) (aL2 (aEY (λ_=>aEV λh=>by cases h) λh1=>aL2 (aEV λh2=>by have:=of_decide_eq_false h2;omega))) λb hb=>aFQ (λ_=>aEV ⟨h,rfl⟩) λhb'=>ON (hb hb').1 (hb hb').2 λx hx=>tF _ (aGE h) λy hy=>aL2 (aEY (λ_=>aEV ⟨h,rfl⟩) λhy'=>aL2 (aEY (λ_=>aEV ⟨h,rfl⟩) λ_=>?_))
  have hxq:=h.atT hx
  refine tF _ (aF5 hn hxq.2.1 hq.1 hxq.1) λv hv=>tF _ (aF5 hn hxq.2.2 hq.1 hxq.1) λp hp=>tF _ (aSG hn h (x:=⟨_,_,_⟩) ⟨hq.1,hv,hp⟩) λc hc=>aL2 (aEY (λ_=>aEV ⟨hc.1.q,hc.1.dn⟩) λ_=>tF _ aQ7 λ_ _=>tF _ aQ7 λ_ _=>aL2 (tF _ aQ7 λ_ _=>tF _ (aUO hn hc.1.q (by simp) (by simp)) λu hu=>aL2 (aEY (λ_=>aEV ⟨hu.q,(hc.1.trans hu).dn⟩) λ_=>tF _ (aQ4 hu.q) λt ht=>?_)))
  have hk:=(hc.1.trans hu).trans ht
  have hl:=hk.q.tl
  have hlt:o.Ref<(t.1.bY.length:Int):=by rw [hk.tr];exact (hb hb').2
  refine aL2 (aEY (λ_=>aEV ⟨hk.q,hk.dn⟩) λ_=>x_a (aL2 (aL2 (aL2 (ON (hb hb').1 hlt λz hz=>?_)))))
  have hzq:=hk.q.atT hz
  exact aL2 (aL2 (aL2 (aEV ⟨((hk.q.aTW (aG1 _) hzq.2.1 hzq.2.2).aTW (aG1 _) (aG1 _) hzq.2.2).aTW (aG1 _) (aG1 _) (aG1 _),hk.dn⟩)))
theorem a0T {n:Nat} {s:aA} {o:aS} (hn:250<=n) (h:SQ s) (hq:XE o.aQ/\XE o.bD):Ex (Kp s) (L9 n s o):=by
  unfold L9 aEK;simp only [WT.run,O9]
  refine tF (λt=>Kp s (t.2,t.1)) (aL2 (aEY (λ_=>tF _ (a2W hn h hq) λt ht=>aEV ht) λ_=>aL2 (aEY (λ_=>tF _ (a2T hn h hq) λt ht=>aEV ht) λ_=>aEV ⟨h,rfl⟩))) λt ht=>?_
  obtain ⟨e,t⟩:=t
  simp only [p2]
  exact aL2 (aEY (λ_=>aEV ⟨h,rfl⟩) λ_=>aEV ht)
theorem aQV {a b:Int}:Tot (lM a b):=by
  unfold lM W9;simp only [WT.run,O9]
  exact aEV trivial
theorem aSR {n:Nat} {s:aA} {o:aS} {r:bM} {l:List aH} (hn:250<=n) (h:SQ s) (hl:l.length<20):Ex (Kp s) (wE n s o r l):=by
  unfold wE aOU;simp only [WT.run,O9]
  exact tF _ (aQ9 hn h hl) λu hu=>aL2 (aEY (λ_=>aEV ⟨hu.q,hu.dn⟩) λ_=>tF _ (aQ4 hu.q) λt ht=>aEV ⟨ht.q,(hu.trans ht).dn⟩)
theorem Kp.of {s t:aA} (k:SK s t) {r:aA×Int} (h:Kp t r):Kp s (r.1,r.2):=⟨h.1,h.2.trans k.dn⟩
theorem a0X {n:Nat} {s:aA} {o:aS} (hn:250<=n) (h:SQ s) (hq:XE o.aQ):Ex (Kp s) (a5A n s o):=by
  unfold a5A aLN;simp only [WT.run,O9]
  exact tF _ (aR6 hn h hq) λf hf=>aL2 (aEY (λ_=>aEV ⟨hf.1.q,hf.1.dn⟩) λ_=>tF _ aQV λ_ _=>aL2 (tF _ aQV λ_ _=>tF _ (aSR hn hf.1.q (by simp)) λw hw=>aEV (.of hf.1 hw)))
theorem a2P {n:Nat} {s:aA} {o:aS} (hn:250<=n) (h:SQ s) (hq:XE o.aQ):Ex (Kp s) (U9 n s o):=by
  unfold U9 aC5;simp only [WT.run,O9]
  exact tF _ (aR6 hn h hq) λf hf=>aL2 (aEY (λ_=>aEV ⟨hf.1.q,hf.1.dn⟩) λ_=>tF _ (aSG hn hf.1.q hf.2.1) λb hb=>aL2 (aEY (λ_=>aEV ⟨hb.1.q,(hf.1.trans hb.1).dn⟩) λ_=>aL2 (aL2 (tF _ aQV λ_ _=>tF _ aQV λ_ _=>tF _ (aSR hn hb.1.q (by simp)) λw hw=>aEV (.of (hf.1.trans hb.1) hw)))))
theorem a0Q {n:Nat} {s:aA} {o:aS} (hn:250<=n) (h:SQ s) (hi:In' s o.E o.Item):Ex (Kp s) (OB n s o):=by
  unfold OB aMT;simp only [WT.run,O9]
  refine ON hi.e0 hi.m1 λmt hmt=>ON hi.i0 (by have:=hi.m _ hmt;have:=hi.i1;omega) λm hm=>ON hi.e0 hi.c1 λct hct=>ON hi.i0 (by have:=hi.c _ hct;have:=hi.i1;omega) λc hc=>tF _ (aIU h) λp hp=>tF _ (aPG hn hp) λq hq=>aL2 (aL2 (aEY (λ_=>aEV ⟨h,rfl⟩) λ_=>aL2 (aEY (λ_=>?_) λ_=>?_)))
  · exact aL2 (tF _ (aR6 hn h (aG1 _)) λf hf=>aL2 (aEY (λ_=>aEV ⟨hf.1.q,hf.1.dn⟩) λ_=>tF _ aQV λ_ _=>aL2 (tF _ aQV λ_ _=>tF _ (aSR hn hf.1.q (by simp)) λw hw=>aEV (.of hf.1 hw))))
  · have hcr:XE c:=(h.cq ct (List.mem_of_getElem? hct)).2 c (List.mem_of_getElem? hc)
    refine tF _ (aIR hn hp) λt ht=>aL2 (tF (λy=>XE y.1) (aEY (λ_=>tF _ (aJK hn (aG1 _) hcr (by unfold XE;omega)) λr hr=>aEV hr.1) λ_=>aL2 (aEY (λ_=>tF _ (aJK hn ht.2.1 (aG1 _) ht.1) λr hr=>aEV hr.1) λ_=>aEV aP0)) λy hy=>?_)
    obtain ⟨a,b⟩:=y
    simp only at hy
    simp only [p2]
    exact aL2 (aEY (λ_=>aEV ⟨h,rfl⟩) λ_=>tF _ (aSG hn h (x:=⟨_,_,_⟩) ⟨aG1 _,hy,aP0⟩) λu hu=>aL2 (aEY (λ_=>aEV ⟨hu.1.q,hu.1.dn⟩) λ_=>aL2 (tF _ aQV λ_ _=>tF _ aQV λ_ _=>aL2 (tF _ aQV λ_ _=>tF _ (aSR hn hu.1.q (by simp)) λw hw=>aEV (.of hu.1 hw)))))
theorem SQ.cost {s:aA} (h:SQ s) {i:Nat} {l:List Int} (hl:l.length<=10) (hr:∀ c∈l,XE c):SQ ⟨⟨s.bA.eH,s.bA.aQA,s.bA.cB,s.bA.Methods,s.bA.dN.set i l⟩,s.aW,s.bP,s.bU,s.bY,s.Done⟩:=⟨h.el,h.eq,h.wl,h.ml,h.mq,by simp;exact h.cl,λx hx=>by
  rcases List.mem_or_eq_of_mem_set hx with hx | rfl
  · exact h.cq x hx
  · exact ⟨hl,hr⟩,h.rl,h.rq,h.sl,h.sq,h.tl,h.tq⟩
theorem aYQ {n:Nat} {s:aA} {o:aS} (hn:250<=n) (h:SQ s) (hi:In' s o.E o.Item) (ha:XE o.bD):Ex (Kp s) (O3 n s o):=by
  unfold O3 Y6;simp only [WT.run,O9]
  have hcl:=h.cl;have hel:=h.el;have hwl:=h.wl;have i0:=hi.i0;have i1:=hi.i1
  refine ON hi.e0 hi.m1 λmt hmt=>ON hi.i0 (by have:=hi.m _ hmt;omega) λm hm=>aL2 (aEY (λ_=>aEV ⟨h,rfl⟩) λ_=>x_a (ON hi.e0 hi.c1 λct hct=>?_))
  have hcc:=h.cq ct (List.mem_of_getElem? hct)
  have hc1:=hi.c _ hct
  have hc2:=hcc.1
  refine x_a (ON hi.i0 (by omega) λ_ _=>aL2 (x_a (ON hi.e0 hi.e1 λy hy=>?_)))
  have hyq:=h.at hy
  have hyl:=hyq.pl
  have hpl:=(hi.x y hy).1
  have hM:SQ ⟨⟨s.bA.eH,s.bA.aQA,s.bA.cB,s.bA.Methods,s.bA.dN.set o.E.toNat (ct.set o.Item.toNat o.bD)⟩,s.aW,s.bP,s.bU,s.bY,s.Done⟩:=h.cost (by simp;exact hc2) λc hc=>by
    rcases List.mem_or_eq_of_mem_set hc with hc | rfl
    · exact hcc.2 c hc
    · exact ha
  refine x_a (x_v (x_v (x_v (x_a (tF (λr=>match r with | .inl a=>EQ' ⟨y.Now,y.Closed,a.2,y.dU,y.dI,y.dO,y.Down,y.eT⟩ | .inr b=>Kp s b) (aQB (m:=2) (λv=>v.2.1) (λv=>v.2.2.length=y.dD.length/\EQ' ⟨y.Now,y.Closed,v.2.2,y.dU,y.dI,y.dO,y.Down,y.eT⟩) ⟨by simp,by simp,rfl,⟨hyq.pl,hyq.pq,hyq.bl,hyq.rl,hyq.pr,hyq.dn,hyq.ah⟩⟩ (by omega) λv h1 h2 h3=>?_) λr hr=>?_)))))
  · obtain ⟨a,k,b⟩:=v
    obtain ⟨h3,h4⟩:=h3
    simp only at h1 h2 h3 h4
    simp only [p2]
    refine aL2 (aEY (λhk=>x_a (ON (by omega) (by omega) λz hz=>?_)) λ_=>aGQ (XC h4))
    have hzq:=h4.at hz
    refine tF _ (aPM hn hzq.1) λw hw=>aL2 (aEY (λ_=>aGQ (aGQ (aEV ⟨hM.set h4,rfl⟩))) λ_=>x_a (aL2 (aL2 (x_v (XC ⟨by omega,rfl,by simp;exact h3,⟨by simp;omega,h4.aSA ⟨hw.1,hzq.2⟩,hyq.bl,hyq.rl,hyq.pr,hyq.dn,hyq.ah⟩⟩)))))
  · cases r with
    | inr t=>exact ⟨_,rfl,hr⟩
    | inl q =>
      obtain ⟨a,b⟩:=q
      simp only at hr
      refine aK3 ?_
      simp only [p2]
      exact tF _ aQV λ_ _=>aL2 (tF _ aQV λ_ _=>tF _ (aSR hn (hM.set hr) (by simp)) λw hw=>aEV ⟨hw.1,hw.2⟩)
theorem aPT {n:Nat} {m:Int} {p:aM} (hn:250<=n) (hp:PQ' p):Tot (aS4 n m p):=by
  unfold aS4 aWX;simp only [WT.run,O9]
  refine tF (λ_=>True) ?_ λy _=>?_
  · exact aL2 (aEY (λ_=>aEV trivial) λ_=>aL2 (aEY (λ_=>aEV trivial) λ_=>aL2 (aEY (λ_=>aEV trivial) λ_=>aL2 (aEY (λ_=>aEV trivial) λ_=>aEV trivial))))
  rcases y with u | u | u | u | u <;> simp only [Sum.elim,WT.run,O9]
  rotate_right
  · exact aEV trivial
  all_goals
    refine tF (λ_=>True) ?_ λb _=>aFQ (λ_=>aEV trivial) λ_=>tF _ (aIR hn hp) λt ht=>tF (λ_=>True) (aQB (m:=3) (λv=>v.2) (λ_=>True) ⟨by simp,by simp,trivial⟩ (by omega) λv h1 h2 h3=>?_) λr _=>aP5 (λ_ _=>aEV trivial) λ_ _=>trivial
    · repeat' with_reducible first | exact aEV trivial | refine x_v ?_ | refine aP8 ?_ | apply aL2 | refine ON (by omega) (by omega) λ_ _=>?_ | exact XC trivial | exact XC ⟨by omega,by (first | rfl | omega | (simp only;omega)),trivial⟩ | refine x_a ?_ | refine aP5 (λ_ _=>?_) λ_ _=>trivial | apply aI5 | apply aCE | apply aAR | apply Y4 | apply aOY | apply aIH | apply aKG | apply aMX | apply aDS | refine aEY (λ_=>?_) λ_=>?_ | refine aEW (λ_=>?_) λ_=>?_ | refine aFQ (λ_=>?_) λ_=>?_ | apply x_cT | apply x_cF | apply aK3 | apply aGQ | refine tF _ aPX λ_ _=>?_ | refine tF _ aLP λ_ _=>?_ | refine tF _ aGO λ_ _=>?_ | refine tF _ aPW λ_ _=>?_ | refine tF _ aOB λ_ _=>?_ | refine tF _ aPY λ_ _=>?_ | refine tF _ aPV λ_ _=>?_ | refine tF _ (aPX (by assumption)) λ_ _=>?_ | refine tF _ (aLP (by assumption)) λ_ _=>?_ | refine tF _ (aGO (by assumption)) λ_ _=>?_ | refine tF _ (aPW (by assumption)) λ_ _=>?_ | refine tF _ (aOB (by assumption)) λ_ _=>?_ | refine tF _ (aPY (by assumption)) λ_ _=>?_ | refine tF _ (aPV (by assumption)) λ_ _=>?_
    · simp only [p2,Option.bind_some]
      refine aL2 (aEY (λhk=>ON h1 (by simp;omega) λx hx=>?_) λ_=>aGQ (XC trivial))
      refine tF (λ_=>True) (aL2 (aEY (λ_=>aEV trivial) λ_=>aL2 (aEY (λ_=>aEV trivial) λ_=>aL2 (aEY (λ_=>aEV trivial) λ_=>aEV trivial)))) λb _=>aFQ (λ_=>aGQ (aGQ (aEV trivial))) λ_=>aL2 (x_v (XC ⟨by omega,rfl,trivial⟩))
theorem aPK {n:Nat} {m v:Int} {p:aM} (hn:250<=n) (hp:PQ' p) (hv:XE v):Ex (λr=>PQ' r.1) (aSZ n m p v):=by
  have hl:=hp.1.1
  unfold aSZ aVY;simp only [WT.run,O9]
  refine tF (λ_=>True) (x_a (tF (λ_=>True) (aEV trivial) λ_ _=>aEV trivial)) λ_ _=>tF (λ_=>True) (aL2 (aEY (λ_=>aEV trivial) λ_=>aL2 (aEV trivial))) λ_ _=>aFQ (λ_=>aEV hp) λ_=>aL2 (aEY (λ_=>aEV hp) λhne=>?_)
  refine tF (λ_=>True) (x_a (tF (λ_=>True) (aEV trivial) λ_ _=>aEV trivial)) λ_ _=>tF _ (aIR hn hp) λt ht=>?_
  refine tF (λr=>match r with | .inl l=>LQ l | .inr q=>PQ' q.1) (aQB (m:=p.cO.length) (λv=>v.2.1) (λv=>XE v.1/\v.2.2.length=p.cO.length/\LQ v.2.2) ⟨by simp,by simp,hv,rfl,hp.1⟩ (by omega) λu h1 h2 h3=>?_) λr hr=>?_
  · obtain ⟨a,i,l⟩:=u
    obtain ⟨h3,h4,h5⟩:=h3
    simp only at h1 h2 h3 h4 h5
    simp only [p2]
    refine aL2 (aEY (λhk=>ON h1 (by omega) λx hx=>x_v (aL2 (tF XE (aEY (λ_=>tF _ (aF5 hn hv (h5.at hx).1 ht.1) λr hr=>aEV hr) λ_=>aEV h3) λd hd=>tF _ aLP λy hy=>aL2 (aEY (λ_=>aGQ (aGQ (aEV hp))) λ_=>aL2 (aL2 (x_v (XC ⟨by omega,rfl,aG1 _,by simp;exact h4,h5.set (x:=⟨_,_,_⟩) ⟨(h5.at hx).1,hy,(h5.at hx).2.2⟩⟩))))))) λ_=>aGQ (XC h5))
  · cases r with
    | inr q=>exact ⟨_,rfl,hr⟩
    | inl l=>exact aK3 (tF _ (aPT hn (p:=⟨l,p.bF⟩) ⟨hr,hp.2⟩) λb hb=>aL2 (aEW (λ_=>aEV hp) λ_=>aEV ⟨hr,hp.2⟩))
end Go.Pv
