import Derived.Test.YtihfgehjjbnffaaGreatHA90
set_option linter.unusedVariables false
set_option linter.unusedSimpArgs false
namespace Go.Pv
open Go.Proofs
set_option maxRecDepth 100000
set_option maxHeartbeats 1000000
theorem aV1 {n:Nat} {l:List aQ} (hn:250<=n) (hl:l.length<20):BI n l=some (jC (l.map aQ.bO)):=by
  refine kG ?_
  unfold BI RP;simp only [WT.run,bU]
  refine aB (λa=>a=l.map aQ.bO) (gJ (m:=l.length) (λv=>v.1) (λv=>v.2=(l.take v.1.toNat).map aQ.bO) ⟨by simp,by simp,by simp⟩ (by omega) λv h1 h2 h3=>?_) λa ha=>?_
  · obtain ⟨i,p⟩:=v
    simp only at h1 h2 h3
    subst h3
    simp only [p2]
    have hL:(l.take i.toNat).length<=20:=by simp only [List.length_take];omega
    refine aD (aU (λhk=>bP h1 hk λx hx=>aD (gU (by simp only [List.length_append,List.length_map,List.length_singleton];omega) (cO (bM ⟨hk,rfl,(o6 _ h1 hx).symm⟩)))) λhk=>bZ (aF ?_))
    rw [List.take_of_length_le (by omega)]
  · subst ha
    exact x_eq (pI ⟨by simp;omega,hn⟩) (aF rfl)
theorem aW2 {x:aQ} (h:VA x) (hb:(x.bO.natAbs:Int)<=288230376151711744) (h0:x.bO≠0):C9 x=some false:=by
  refine kG ?_
  unfold C9 QI;simp only [WT.run,bU]
  exact aB (λb=>b=false) (x_eq (aB3 h) (aD (DN (aD (aU (λk=>absurd k h0) λ_=>x_eq (aEH hb) (aD (aF rfl))))))) λb hb=>aF hb
theorem aNJ {n:Nat} {l:List aQ} (hn:250<=n) (hl:1<=l.length/\l.length<=12) (hV:iA l) (hB:lB l<=288230376151711744) (hz:∀ x∈l,x.bO≠0) (h0:pS (λ_=>true) l=0):D5 n l=some true:=by
  refine kG ?_
  unfold D5 SG;simp only [WT.run,bU]
  refine aB (λb=>b=false) (aD (aU (λk=>absurd k (by omega)) λ_=>aD (aF (decide_eq_false (by omega))))) λb hb=>cZ (λk=>by rw [hb] at k;cases k) λ_=>?_
  have hs:jC (l.map aQ.bO)=(0,0):=by
    rw [pY hB]
    have:sI (l.map aQ.bO)=pS (λ_=>true) l:=rfl
    rw [this,h0]
  refine x_eq (aV1 hn (by omega)) ?_
  rw [hs]
  refine aB (λb=>b=true) (aB (λb=>b=false) (aB (λj=>j<0) (aB (λr=>match r with | .inl _=>True | .inr j=>False) (gJ (m:=l.length) (λv=>v) (λv=>True) ⟨by simp,by simp,trivial⟩ (by omega) λv h1 h2 h3=>?_) λr hr=>?_) λj hj=>aD (aF (decide_eq_false (Int.not_le.2 hj)))) λb hb=>by subst hb;exact aD (aD (aD (aF rfl)))) λb hb=>aF hb
  · refine aD (aU (λhv=>bP h1 hv λx hx=>x_eq (aW2 (hV.at hx) (by have:=GB (List.mem_of_getElem? hx);omega) (hz x (List.mem_of_getElem? hx))) ?_) λhv=>bZ (bM trivial))
    exact cZ (λk=>nomatch k) λ_=>cO (bM ⟨hv,rfl,trivial⟩)
  · cases r with
    | inl u=>exact fJ (aF (by decide))
    | inr j=>exact hr.elim
def BB (b:List Int) (B:Int):Prop:=b.length=17/\∀ v∈b,(v.natAbs:Int)<=B
def Pd (b g:List Int) (l:List aQ):Prop:=∀ (a:Int) v,0<=a->b[a.toNat]?=some v->g[a.toNat]?=some (v+pS (λk=>decide (k=a)) l)
theorem ZK {n:Nat} {b:List Int} {l:List aQ} {B:Int} (hn:250<=n) (hb:BB b B) (hl:l.length<=12) (hV:iA l) (hB:B+lB l<=288230376151711744) (hB0:0<=B) (h0:pS (λ_=>true) l=0):Ex (λr=>r.2=0/\BB r.1 (B+lB l)/\Pd b r.1 l) (AX n b l):=by
  have hbl:=hb.1
  unfold AX VD;simp only [WT.run,bU]
  refine aD (aU (λk=>absurd k (by omega)) λ_=>?_)
  refine aB (λr=>match r with | .inl _=>False | .inr q=>BB q (B+lB l)/\Pd b q l) (dI (aB (λr=>r.1=0/\BB r.2 (B+lB l)/\Pd b r.2 l) ?_ λr hr=>?_)) λy hy=>?_
  · refine aB _ (NG hn (by omega) hV (by omega)) λp hp=>?_
    obtain ⟨p0,p1,p2',p3,p4,p5⟩:=hp
    refine aB (λb=>b=false) (aD (aU (λk=>absurd p0 k) λ_=>aD (aU (λk=>x_eq (aNJ hn ⟨by omega,by omega⟩ p1 (by omega) p5 (by rw [p3];exact h0)) (aD (aF rfl))) λ_=>aF rfl))) λc hc=>cZ (λk=>by rw [hc] at k;cases k) λ_=>?_
    refine aB (λr=>match r with | .inl q=>BB q (B+lB l)/\Pd b q l | .inr t=>False) (gJ (m:=p.1.length) (λv=>v.1) (λv=>v.2.length=17/\(∀ z∈v.2,(z.natAbs:Int)<=B+lB (p.1.take v.1.toNat))/\Pd b v.2 (p.1.take v.1.toNat)) ⟨by simp,by simp,hbl,λz hz=>by have:=hb.2 z hz;have:=zA (p.1.take (0:Int).toNat);simp only;omega,λa v ha hv=>by simp [pS,sI];exact hv⟩ (by omega) λv h1 h2 h3=>?_) λr hr=>?_
    · obtain ⟨k,q⟩:=v
      obtain ⟨h3,h4,h5⟩:=h3
      simp only at h1 h2 h3 h4 h5
      simp only [p2]
      refine aD (aU (λhk=>bP h1 hk λx hx=>?_) λhk=>bZ (bM ⟨⟨h3,λz hz=>?_⟩,λa v ha hv=>?_⟩))
      · have hv:=p1.at hx
        have hx2:=GB (List.mem_of_getElem? hx)
        have hT:=λp'=>yM p' h1 hx
        have hT2:=(hT λ_=>true).2
        have hTl:=WI p.1 (k+1).toNat
        refine bP hv.1 (by have:=hv.2;omega) λz hz=>x_eq (GL _ _) ?_
        have hz2:=h4 z (List.mem_of_getElem? hz)
        rw [L3 (by omega)]
        refine aD (aD (aU (λk=>absurd rfl k) λ_=>cO (bM ⟨hk,rfl,by simp;exact h3,λy hy=>?_,λa v ha hv2=>?_⟩)))
        · simp only at hy ⊢
          rw [hT2]
          rcases List.mem_or_eq_of_mem_set hy with hy | rfl
          · have:=h4 y hy;omega
          · omega
        · simp only
          have h6:=h5 a v ha hv2
          rw [(hT λk=>decide (k=a)).1]
          by_cases e:x.jH=a
          · have ez:z=v+pS (λk=>decide (k=a)) (p.1.take k.toNat):=by
              rw [<- e] at h6 ⊢;rw [hz] at h6;exact Option.some.inj h6
            rw [<- e,List.getElem?_set_self (by have:=(List.getElem?_eq_some_iff.1 hz).1;exact this),e,ez]
            have:gA (λk=>decide (k=a)) x=x.bO:=by unfold gA;simp [e]
            rw [this];congr 1;omega
          · have hne:x.jH.toNat≠a.toNat:=by have:=hv.1;omega
            rw [List.getElem?_set_ne hne,h6]
            have:gA (λk=>decide (k=a)) x=0:=by unfold gA;simp [e]
            rw [this,Int.add_zero]
      · have:=h4 z hz
        rw [List.take_of_length_le (by omega)] at this;omega
      · have:=h5 a v ha hv
        rw [List.take_of_length_le (by omega)] at this;rw [this,p3]
    · cases r with
      | inl q=>exact fJ (aF ⟨rfl,hr⟩)
      | inr t=>exact hr.elim
  · obtain ⟨a,c⟩:=r
    obtain ⟨r0,r1,r2⟩:=hr
    simp only at r0 r1 r2
    simp only [p2]
    exact aD (aU (λk=>absurd r0 k) λ_=>gU (by rw [r1.1,hbl]) (aF ⟨r1,r2⟩))
  · cases y with
    | inl a=>exact hy.elim
    | inr q=>exact aF ⟨rfl,hy⟩
def eB (x:aP) (g:List Int):aP:=⟨x.fD,x.Closed,x.cK,g,x.d9,x.eH,x.Down,x.gK⟩
def eR (x:aP) (g:List dL):aP:=⟨x.fD,x.Closed,x.cK,x.dM,g,x.eH,x.Down,x.gK⟩
def sE (s:aA) (e:Int) (x:aP):aA:=⟨s.bF,s.aW.set e.toNat x,s.dG,s.dO,s.bL,s.Done⟩
theorem aCP {n:Nat} {s:aA} {e B:Int} {x:aP} {l:List aQ} (hn:250<=n) (h:SQ s) (he:0<=e/\e<(s.aW.length:Int)) (hx:s.aW[e.toNat]?=some x) (hb:BB x.dM B) (hl:l.length<=12) (hV:iA l) (hB:B+2*lB l<=288230376151711744) (hB0:0<=B) (h0:pS (λ_=>true) l=0):Ex (λr=>∃ g,r=(sE s e (eB x g),0)/\BB g (B+lB l)/\Pd x.dM g l) (nP n s e l):=by
  have hel:=h.el
  have hln:=zA l
  unfold nP KH;simp only [WT.run,bU]
  refine aB (λb=>b=false) (aD (aU (λk=>absurd k (by omega)) λ_=>aD (aF (decide_eq_false (by omega))))) λb hb'=>cZ (λk=>by rw [hb'] at k;cases k) λ_=>?_
  refine aB _ (NG hn (by omega) hV (by omega)) λp hp=>?_
  obtain ⟨p0,p1,p2',p3,p4,p5⟩:=hp
  refine aD (aU (λk=>absurd p0 k) λ_=>iL he.1 hx ?_)
  refine aB _ (ZK hn hb (by omega) p1 (by omega) hB0 (by rw [p3];exact h0)) λg hg=>?_
  obtain ⟨g0,g1,g2⟩:=hg
  refine aD (aU (λk=>absurd g0 k) λ_=>aB (λ_=>True) (dI (bP he.1 he.2 λ_ _=>aF trivial)) λ_ _=>iL he.1 hx (aD (aF ⟨g.1,rfl,⟨g1.1,λv hv=>by have:=g1.2 v hv;omega⟩,λa v ha hv=>by rw [g2 a v ha hv,p3]⟩)))
def RB (r:dL) (B:Int):Prop:=(r.Open.natAbs:Int)<=B/\(r.lS.natAbs:Int)<=B/\(r.lJ.natAbs:Int)<=B/\(r.lM.natAbs:Int)<=B/\(r.lY.natAbs:Int)<=B/\(r.l9.natAbs:Int)<=B/\(r.lN.natAbs:Int)<=B/\(r.lW.natAbs:Int)<=B/\(r.l5.natAbs:Int)<=B/\(r.mD.natAbs:Int)<=B/\(r.lZ.natAbs:Int)<=B
theorem aTW {a b:Int} (h:(a.natAbs:Int)+b.natAbs<=288230376151711744):mG a b=some (a+b,0):=by rw [GL,L3 h]
theorem aVE {l:List aM} {x:aM} (h:LB l) (hx:x∈l):x.aS<=288230376151711744/\x.Value<=288230376151711744/\(x.bE.natAbs:Int)<=288230376151711744:=by
  have h1:=(lG (sO (l:=l) (f:=aM.aS) λy hy=>by have:=h.ok y hy;omega)).2 _ (List.mem_map_of_mem hx)
  have h2:=(lG (sO (l:=l) (f:=aM.Value) λy hy=>(h.ok y hy).2)).2 _ (List.mem_map_of_mem hx)
  have h3:(x.bE.natAbs:Int)<=lA l:=by
    have:=(lG (sO (l:=l) (f:=λy=>(y.bE.natAbs:Int)) λy _=>by omega)).2 _ (List.mem_map_of_mem hx)
    have e:sI (l.map λy=>(y.bE.natAbs:Int))=lA l:=by unfold lA;rw [<- QO,List.map_map];rfl
    rw [e] at this;exact this
  have k1:=h.q;have k2:=h.v;have k3:=h.a
  unfold lQ at k1;unfold lV at k2
  omega
theorem LB.lq {l:List aM} (h:LB l):LQ l:=⟨h.len,λx hx=>by
  have h1:=h.ok x hx;have h2:=aVE h hx
  exact ⟨by unfold dB;omega,by unfold dB;omega,by unfold dB;omega⟩⟩
theorem aF9 {α:Type} {P:α->Prop} {D:Option α} (h:Ex P D):Ex (λr=>P r/\D=some r) D:=by
  obtain ⟨r,e,p⟩:=h
  exact ⟨r,e,p,e⟩
def M2 (m:Int):Prop:=m=1\/m=2
def vU:aT:=⟨[],⟨0,0,0⟩⟩
structure EC (x:aP) (p:aT) (B:Int):Prop where
  cl:x.Closed=false
  bb:BB x.dM B
  ro:∃ r,x.d9=[r]/\RB r B
  dn:x.Down=[0]
  po:x.cK=[p,vU]
  pr:x.eH=[-1]
  nw:x.fD=1
def EN (s:aA) (f:Int->aT) (B:Int):Prop:=s.aW.length=3/\∀ e:Int,0<=e->e<3->∃ x,s.aW[e.toNat]?=some x/\EC x (f e) B
def up (f:Int->aT) (e:Int) (p:aT):Int->aT:=λk=>if k=e then p else f k
theorem ZP (f:Int->aT) (e:Int):up f e (f e)=f:=by
  funext k;unfold up;split
  · rename_i h;rw [h]
  · rfl
theorem BB.mono {b:List Int} {B C:Int} (h:BB b B) (hc:B<=C):BB b C:=⟨h.1,λv hv=>by have:=h.2 v hv;omega⟩
theorem RB.mono {r:dL} {B C:Int} (h:RB r B) (hc:B<=C):RB r C:=by
  obtain ⟨a1,a2,a3,a4,a5,a6,a7,a8,a9,pQ,oL⟩:=h
  exact ⟨Int.le_trans a1 hc,Int.le_trans a2 hc,Int.le_trans a3 hc,Int.le_trans a4 hc,Int.le_trans a5 hc,Int.le_trans a6 hc,Int.le_trans a7 hc,Int.le_trans a8 hc,Int.le_trans a9 hc,Int.le_trans pQ hc,Int.le_trans oL hc⟩
theorem uJ {a b B c:Int} (h:(a.natAbs:Int)<=B) (k:(b.natAbs:Int)<=c):((a+b).natAbs:Int)<=B+c:=by omega
theorem tK {a b B c:Int} (h:(a.natAbs:Int)<=B) (k:(b.natAbs:Int)<=c) (hB:B+c<=288230376151711744):mG a b=some (a+b,0):=aTW (by omega)
theorem EC.mono {x:aP} {p:aT} {B C:Int} (h:EC x p B) (hc:B<=C):EC x p C:=⟨h.cl,h.bb.mono hc,by obtain ⟨r,h1,h2⟩:=h.ro;exact ⟨r,h1,h2.mono hc⟩,h.dn,h.po,h.pr,h.nw⟩
theorem EN.set {s:aA} {f:Int->aT} {B C:Int} {e:Int} {x:aP} {p:aT} (h:EN s f B) (hc:B<=C) (he:0<=e/\e<3) (hx:EC x p C):EN (sE s e x) (up f e p) C:=by
  refine ⟨by unfold sE;simp;exact h.1,λk h0 h1=>?_⟩
  by_cases hk:k=e
  · subst hk
    refine ⟨x,?_,by unfold up;rw [if_pos rfl];exact hx⟩
    unfold sE;simp only
    rw [List.getElem?_set_self (by have:=h.1;omega)]
  · obtain ⟨y,hy,hE⟩:=h.2 k h0 h1
    refine ⟨y,?_,by unfold up;rw [if_neg hk];exact hE.mono hc⟩
    unfold sE;simp only
    rw [List.getElem?_set_ne (by omega)];exact hy
theorem EN.lbs {s:aA} {f:Int->aT} {B:Int} (h:EN s f B) (hf:∀ e,LB (f e).bJ):rE s:=λx hx p hp=>by
  obtain ⟨i,hi⟩:=List.getElem?_of_mem hx
  have hl:=(List.getElem?_eq_some_iff.1 hi).1
  obtain ⟨y,hy,hE⟩:=h.2 (i:Int) (by omega) (by have:=h.1;omega)
  rw [Int.toNat_natCast,hi] at hy
  cases hy
  rw [hE.po] at hp
  rcases List.mem_cons.1 hp with rfl | hp
  · exact hf _
  · rw [List.mem_singleton.1 hp];exact LB.nil
theorem E6 {s:aA} {f:Int->aT} {B e:Int} (h:SQ s) (hE:EN s f B) (hi:mM s e 0) (he:0<=e/\e<3):nW s e 0=some 0:=by
  obtain ⟨x,hx,hc⟩:=hE.2 e he.1 he.2
  refine kG ?_
  unfold nW aBR;simp only [WT.run,bU]
  refine x_eq (R7 h hi) (aD (DN (iL he.1 hx ?_)))
  rw [hc.cl]
  exact aF rfl
theorem aPV {n:Nat} {s:aA} {f:Int->aT} {B e:Int} {l:List aQ} (hn:250<=n) (h:SQ s) (hE:EN s f B) (he:0<=e/\e<3) (hl:l.length<=12) (hV:iA l) (hB:B+2*lB l<=288230376151711744) (hB0:0<=B) (h0:pS (λ_=>true) l=0):Ex (λr=>r.2=0/\SK s r.1/\EN r.1 f (B+lB l)) (nP n s e l):=by
  obtain ⟨x,hx,hc⟩:=hE.2 e he.1 he.2
  have hln:=zA l
  refine nR (pR (aKA hn h (by omega)) (aCP hn h ⟨he.1,by have:=hE.1;omega⟩ hx hc.bb hl hV hB hB0 h0)) λr hr=>?_
  obtain ⟨hk,g,rfl,g1,g2⟩:=hr
  refine ⟨rfl,hk,?_⟩
  have:=hE.set (e:=e) (x:=eB x g) (p:=f e) (C:=B+lB l) (by omega) he ⟨hc.cl,g1,(hc.mono (C:=B+lB l) (by omega)).ro,hc.dn,hc.po,hc.pr,hc.nw⟩
  rw [ZP] at this
  exact this
theorem FI {s:aA} {f:Int->aT} {B c e:Int} {r:dL} (h:SQ s) (hE:EN s f B) (hi:mM s e 0) (he:0<=e/\e<3) (hr:RB r c) (hB:B+c<=288230376151711744) (hc0:0<=c):Ex (λu=>u.2=0/\SK s u.1/\EN u.1 f (B+c)) (nZ s e 0 r):=by
  obtain ⟨x,hx,hc⟩:=hE.2 e he.1 he.2
  obtain ⟨y,hy,hyb⟩:=hc.ro
  have hel:=hE.1
  refine nR (pR (aXH (r:=r) h) (Q:=λu=>∃ q,u=(sE s e (eR x [q]),0)/\RB q (B+c)) ?_) λu hu=>?_
  · unfold nZ JE;simp only [WT.run,bU,Option.bind_some]
    refine x_eq (R7 h hi) (aD (DN (iL he.1 hx (iL (i:=0) (by decide) (a:=y) (by rw [hy];rfl) ?_))))
    obtain ⟨a1,a2,a3,a4,a5,a6,a7,a8,a9,pQ,oL⟩:=hyb
    obtain ⟨b1,b2,b3,b4,b5,b6,b7,b8,b9,b10,b11⟩:=hr
    refine aB (λq=>match q with | .inl q=>RB q (B+c) | .inr q=>False) ?_ λq hq=>?_
    · refine pK rfl (x_eq (tK a1 b1 hB) (aD (aU (λk=>absurd rfl k) λ_=>?_)))
      refine pK rfl (x_eq (tK a2 b2 hB) (aD (aU (λk=>absurd rfl k) λ_=>?_)))
      refine pK rfl (x_eq (tK a3 b3 hB) (aD (aU (λk=>absurd rfl k) λ_=>?_)))
      refine pK rfl (x_eq (tK a4 b4 hB) (aD (aU (λk=>absurd rfl k) λ_=>?_)))
      refine pK rfl (x_eq (tK a5 b5 hB) (aD (aU (λk=>absurd rfl k) λ_=>?_)))
      refine pK rfl (x_eq (tK a6 b6 hB) (aD (aU (λk=>absurd rfl k) λ_=>?_)))
      refine pK rfl (x_eq (tK a7 b7 hB) (aD (aU (λk=>absurd rfl k) λ_=>?_)))
      refine pK rfl (x_eq (tK a8 b8 hB) (aD (aU (λk=>absurd rfl k) λ_=>?_)))
      refine pK rfl (x_eq (tK a9 b9 hB) (aD (aU (λk=>absurd rfl k) λ_=>?_)))
      refine pK rfl (x_eq (tK pQ b10 hB) (aD (aU (λk=>absurd rfl k) λ_=>?_)))
      refine pK rfl (x_eq (tK oL b11 hB) (aD (aU (λk=>absurd rfl k) λ_=>?_)))
      exact bM ⟨uJ a1 b1,uJ a2 b2,uJ a3 b3,uJ a4 b4,uJ a5 b5,uJ a6 b6,uJ a7 b7,uJ a8 b8,uJ a9 b9,uJ pQ b10,uJ oL b11⟩
    · cases q with
      | inr q=>exact hq.elim
      | inl q =>
        refine fJ ?_
        refine aB (λ_=>True) (dI (bP he.1 (by omega) λ_ _=>aF trivial)) λ_ _=>iL he.1 hx (gU (by rw [hy];simp) ?_)
        refine iL (i:=0) (by decide) (a:=y) (by rw [hy];rfl) (aD (aF ⟨q,?_,hq⟩))
        unfold sE eR
        rw [hy];rfl
  · obtain ⟨hk,q,rfl,hq⟩:=hu
    refine ⟨rfl,hk,?_⟩
    have:=hE.set (e:=e) (x:=eR x [q]) (p:=f e) (C:=B+c) (by omega) he ⟨hc.cl,hc.bb.mono (by omega),⟨q,rfl,hq⟩,hc.dn,hc.po,hc.pr,hc.nw⟩
    rw [ZP] at this
    exact this
def JY (s:aA):Prop:=∀ mt∈s.bF.Methods,∀ m∈mt,M2 m
def FR (x:aP) (g:List aT):aP:=⟨x.fD,x.Closed,g,x.dM,x.d9,x.eH,x.Down,x.gK⟩
structure CS (s:aA) (f:Int->aT) (B:Int):Prop where
  sq:SQ s
  m2:JY s
  en:EN s f B
  lb:∀ e,LB (f e).bJ
  w1:s.bF.bN.length=1
  iN:∀ e:Int,0<=e->e<3->mM s e 0
  tr:C7 s
theorem CS.of {s t:aA} {f g:Int->aT} {B C:Int} (h:CS s f B) (k:SK s t) (en:EN t g C) (lb:∀ e,LB (g e).bJ):CS t g C :=
  ⟨k.q,by unfold JY;rw [k.ma];exact h.m2,en,lb,by rw [k.ma];exact h.w1,λe h0 h1=>k.iN (h.iN e h0 h1),by unfold C7;rw [k.tr];exact h.tr⟩
theorem EN.mono {s:aA} {f:Int->aT} {B C:Int} (h:EN s f B) (hc:B<=C):EN s f C:=⟨h.1,λe h0 h1=>by obtain ⟨x,h2,h3⟩:=h.2 e h0 h1;exact ⟨x,h2,h3.mono hc⟩⟩
theorem GC {f:Int->aT} (h:∀ e,LB (f e).bJ) {e:Int} {p:aT} (hp:LB p.bJ):∀ k,LB (up f e p k).bJ:=λk=>by
  unfold up;split
  · exact hp
  · exact h k
theorem NK {B:Int} (h:0<=B) {a b c:Int} (ha:(a.natAbs:Int)<=B) (hb:(b.natAbs:Int)<=B) (hc:(c.natAbs:Int)<=B):RB ⟨0,a,0,b,0,c,0,0,0,0,0⟩ B:=by
  have z:((0:Int).natAbs:Int)<=B:=by simpa using h
  exact ⟨z,ha,z,hb,z,hc,z,z,z,z,z⟩
theorem yU {l:List aQ} (h:∀ x∈l,0<=x.jH/\x.jH<17):iA l:=h
theorem LD {a b:Int}:qA a b=some ⟨a,b⟩:=by
  refine kG ?_
  unfold qA aD9;simp only [WT.run,bU]
  exact aF rfl
theorem wI {a b:Int}:rG a b=some ⟨a,b⟩:=by
  refine kG ?_
  unfold rG ZG;simp only [WT.run,bU]
  exact aF rfl
theorem rZ {a:Int} (h:(a.natAbs:Int)<=288230376151711744):bA (0-a)=-a:=by rw [Int.zero_sub];exact wrap64 (by omega)
theorem mM.cp {s t:aA} {e i:Int} (r:mM s e i) (h1:t.aW=s.aW) (h2:t.bF=s.bF):mM t e i:=by
  refine ⟨r.e0,by rw [h1];exact r.e1,r.i0,by rw [h2];exact r.i1,by rw [h1,h2];exact r.x,by rw [h2];exact r.m1,by rw [h2];exact r.m,by rw [h2];exact r.c1,by rw [h2];exact r.c⟩
theorem RB1 {B:Int} (h:0<=B) {a:Int} (ha:(a.natAbs:Int)<=B):RB ⟨0,0,0,0,0,0,a,0,0,0,0⟩ B:=by
  have z:((0:Int).natAbs:Int)<=B:=by simpa using h
  exact ⟨z,z,z,z,z,z,ha,z,z,z,z⟩
structure TI (s:aA):Prop where
  sq:SQ s
  m3:BC s
  lb:rE s
  tr:C7 s
  w1:s.bF.bN.length=1
  iN:∀ e:Int,0<=e->e<3->mM s e 0
  g:s.aW.map gX=[([0],2),([0],2),([0],2)]
theorem TI.el {s:aA} (h:TI s):s.aW.length=3:=by
  have:=congrArg List.length h.g
  simpa using this
theorem TI.at {s:aA} (h:TI s) {i:Nat} {x:aP} (hx:s.aW[i]?=some x):x.Down=[0]/\x.cK.length=2:=by
  have h1:=congrArg (λl:List (List Int×Nat)=>l[i]?) h.g
  simp only [List.getElem?_map,hx,Option.map_some] at h1
  have hi:i<3:=by have:=h.el;have:=(List.getElem?_eq_some_iff.1 hx).1;omega
  have h2:gX x=([0],2):=by
    match i,hi with
    | 0,_=>simpa using h1
    | 1,_=>simpa using h1
    | 2,_=>simpa using h1
  exact ⟨congrArg Prod.fst h2,congrArg Prod.snd h2⟩
theorem TI.step {s t:aA} {q w A d:Int} (h:TI s) (k:Gm s t q w A d) (hq:SQ t):TI t :=
  ⟨hq,by unfold BC;rw [k.ma];exact h.m3,k.b,k.tr,by rw [k.ma];exact h.w1,λe h0 h1=>k.iN (h.iN e h0 h1),k.g.trans h.g⟩
theorem xW {s:aA} (h:C7 s):0<=nI s/\0<=jI s/\0<=qU s/\((iM s).natAbs:Int)<=qU s :=
  ⟨(lG (jY λx hx=>(h x hx).1)).1,(lG (jY λx hx=>(h x hx).2.1)).1,GM _,NE _⟩
theorem aI1 (s:aA):((gS fP s).natAbs:Int)<=gS fA s:=by
  have h1:∀ l:List aT,((sI (l.map fP)).natAbs:Int)<=sI (l.map fA):=by
    intro l
    induction l with
    | nil=>simp [sI]
    | cons p l ih=>have:=TZ p;simp only [List.map_cons,sI];omega
  have h2:∀ l:List aP,((sI (l.map (eS fP))).natAbs:Int)<=sI (l.map (eS fA)):=by
    intro l
    induction l with
    | nil=>simp [sI]
    | cons x l ih=>have:=h1 x.cK;simp only [List.map_cons,sI];unfold eS;unfold eS at ih;omega
  exact h2 s.aW
theorem rE.le {s:aA} (h:rE s) {x:aP} (hx:x∈s.aW):eS fQ x<=gS fQ s/\eS fV x<=gS fV s/\eS fA x<=gS fA s :=
  ⟨(lG (jY λx hx=>(lG (jY λp hp=>(nJ (h x hx p hp).ok).1)).1)).2 _ (List.mem_map_of_mem hx),(lG (jY λx hx=>(lG (jY λp hp=>(nJ (h x hx p hp).ok).2)).1)).2 _ (List.mem_map_of_mem hx),(lG (jY λx hx=>(lG (jY λp hp=>BA _)).1)).2 _ (List.mem_map_of_mem hx)⟩
theorem aAQ:∀ {l:List Int},(∀ x∈l,x=0)->eT l=0
  | [],_=>rfl
  | x :: l,h=>by
    have h1:=aAQ (l:=l) λy hy=>h y (List.mem_cons_of_mem _ hy)
    have h2:=h x (List.mem_cons_self ..)
    simp only [eT,h1,h2];rfl
theorem aA6 (s:aA):eT (s.aW.map (eS fP))<=gS fA s:=by
  have h1:∀ l:List aT,((sI (l.map fP)).natAbs:Int)<=sI (l.map fA):=by
    intro l
    induction l with
    | nil=>simp [sI]
    | cons p l ih=>have:=TZ p;simp only [List.map_cons,sI];omega
  have h2:∀ l:List aP,eT (l.map (eS fP))<=sI (l.map (eS fA)):=by
    intro l
    induction l with
    | nil=>simp [sI,eT]
    | cons x l ih=>have:=h1 x.cK;simp only [List.map_cons,sI,eT];unfold eS;unfold eS at ih;omega
  exact h2 s.aW
end Go.Pv
