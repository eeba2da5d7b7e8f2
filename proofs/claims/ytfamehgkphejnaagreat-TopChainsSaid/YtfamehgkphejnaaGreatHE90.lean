import Derived.Test.YtfamehgkphejnaaGreatHA90
set_option linter.unusedVariables false
set_option linter.unusedSimpArgs false
namespace Go.Pv
open Go.Proofs
set_option maxRecDepth 100000
set_option maxHeartbeats 1000000
theorem bHL {n:Nat} {l:List aH} (hn:250<=n) (hl:l.length<20):aTD n l=some (aSF (l.map aH.bD)):=by
  refine aQX ?_
  unfold aTD YR;simp only [WT.run,O9]
  refine tF (λa=>a=l.map aH.bD) (aQB (m:=l.length) (λv=>v.1) (λv=>v.2=(l.take v.1.toNat).map aH.bD) ⟨by simp,by simp,by simp⟩ (by omega) λv h1 h2 h3=>?_) λa ha=>?_
  · obtain ⟨i,p⟩:=v
    simp only at h1 h2 h3
    subst h3
    simp only [p2]
    have hL:(l.take i.toNat).length<=20:=by simp only [List.length_take];omega
    refine aL2 (aEY (λhk=>ON h1 hk λx hx=>aL2 (aL4 (by simp only [List.length_append,List.length_map,List.length_singleton];omega) (x_v (XC ⟨hk,rfl,(a1Q _ h1 hx).symm⟩)))) λhk=>aGQ (aEV ?_))
    rw [List.take_of_length_le (by omega)]
  · subst ha
    exact x_eq (aZ4 ⟨by simp;omega,hn⟩) (aEV rfl)
theorem bHW {x:aH} (h:VA x) (hb:(x.bD.natAbs:Int)<=288230376151711744) (h0:x.bD≠0):J9 x=some false:=by
  refine aQX ?_
  unfold J9 aAE;simp only [WT.run,O9]
  exact tF (λb=>b=false) (x_eq (bGT h) (aL2 (bF5 (aL2 (aEY (λk=>absurd k h0) λ_=>x_eq (bGW hb) (aL2 (aEV rfl))))))) λb hb=>aEV hb
theorem bIE {n:Nat} {l:List aH} (hn:250<=n) (hl:1<=l.length/\l.length<=12) (hV:VLs l) (hB:lB l<=288230376151711744) (hz:∀ x∈l,x.bD≠0) (h0:pS (λ_=>true) l=0):RS n l=some true:=by
  refine aQX ?_
  unfold RS YU;simp only [WT.run,O9]
  refine tF (λb=>b=false) (aL2 (aEY (λk=>absurd k (by omega)) λ_=>aL2 (aEV (decide_eq_false (by omega))))) λb hb=>aFQ (λk=>by rw [hb] at k;cases k) λ_=>?_
  have hs:aSF (l.map aH.bD)=(0,0):=by
    rw [a2B hB]
    have:sI (l.map aH.bD)=pS (λ_=>true) l:=rfl
    rw [this,h0]
  refine x_eq (bHL hn (by omega)) ?_
  rw [hs]
  refine tF (λb=>b=true) (tF (λb=>b=false) (tF (λj=>j<0) (tF (λr=>match r with | .inl _=>True | .inr j=>False) (aQB (m:=l.length) (λv=>v) (λv=>True) ⟨by simp,by simp,trivial⟩ (by omega) λv h1 h2 h3=>?_) λr hr=>?_) λj hj=>aL2 (aEV (decide_eq_false (Int.not_le.2 hj)))) λb hb=>by subst hb;exact aL2 (aL2 (aL2 (aEV rfl)))) λb hb=>aEV hb
  · refine aL2 (aEY (λhv=>ON h1 hv λx hx=>x_eq (bHW (hV.at hx) (by have:=bCO (List.mem_of_getElem? hx);omega) (hz x (List.mem_of_getElem? hx))) ?_) λhv=>aGQ (XC trivial))
    exact aFQ (λk=>nomatch k) λ_=>x_v (XC ⟨hv,rfl,trivial⟩)
  · cases r with
    | inl u=>exact aK3 (aEV (by decide))
    | inr j=>exact hr.elim
def BB (b:List Int) (B:Int):Prop:=b.length=17/\∀ v∈b,(v.natAbs:Int)<=B
def Pd (b g:List Int) (l:List aH):Prop:=∀ (a:Int) v,0<=a->b[a.toNat]?=some v->g[a.toNat]?=some (v+pS (λk=>decide (k=a)) l)
theorem bIP {n:Nat} {b:List Int} {l:List aH} {B:Int} (hn:250<=n) (hb:BB b B) (hl:l.length<=12) (hV:VLs l) (hB:B+lB l<=288230376151711744) (hB0:0<=B) (h0:pS (λ_=>true) l=0):Ex (λr=>r.2=0/\BB r.1 (B+lB l)/\Pd b r.1 l) (ML n b l):=by
  have hbl:=hb.1
  unfold ML aFF;simp only [WT.run,O9]
  refine aL2 (aEY (λk=>absurd k (by omega)) λ_=>?_)
  refine tF (λr=>match r with | .inl _=>False | .inr q=>BB q (B+lB l)/\Pd b q l) (x_a (tF (λr=>r.1=0/\BB r.2 (B+lB l)/\Pd b r.2 l) ?_ λr hr=>?_)) λy hy=>?_
  · refine tF _ (bGV hn (by omega) hV (by omega)) λp hp=>?_
    obtain ⟨p0,p1,p2',p3,p4,p5⟩:=hp
    refine tF (λb=>b=false) (aL2 (aEY (λk=>absurd p0 k) λ_=>aL2 (aEY (λk=>x_eq (bIE hn ⟨by omega,by omega⟩ p1 (by omega) p5 (by rw [p3];exact h0)) (aL2 (aEV rfl))) λ_=>aEV rfl))) λc hc=>aFQ (λk=>by rw [hc] at k;cases k) λ_=>?_
    refine tF (λr=>match r with | .inl q=>BB q (B+lB l)/\Pd b q l | .inr t=>False) (aQB (m:=p.1.length) (λv=>v.1) (λv=>v.2.length=17/\(∀ z∈v.2,(z.natAbs:Int)<=B+lB (p.1.take v.1.toNat))/\Pd b v.2 (p.1.take v.1.toNat)) ⟨by simp,by simp,hbl,λz hz=>by have:=hb.2 z hz;have:=a7K (p.1.take (0:Int).toNat);simp only;omega,λa v ha hv=>by simp [pS,sI];exact hv⟩ (by omega) λv h1 h2 h3=>?_) λr hr=>?_
    · obtain ⟨k,q⟩:=v
      obtain ⟨h3,h4,h5⟩:=h3
      simp only at h1 h2 h3 h4 h5
      simp only [p2]
      refine aL2 (aEY (λhk=>ON h1 hk λx hx=>?_) λhk=>aGQ (XC ⟨⟨h3,λz hz=>?_⟩,λa v ha hv=>?_⟩))
      · have hv:=p1.at hx
        have hx2:=bCO (List.mem_of_getElem? hx)
        have hT:=λp'=>a7I p' h1 hx
        have hT2:=(hT λ_=>true).2
        have hTl:=bG6 p.1 (k+1).toNat
        refine ON hv.1 (by have:=hv.2;omega) λz hz=>x_eq (a7S _ _) ?_
        have hz2:=h4 z (List.mem_of_getElem? hz)
        rw [bGI (by omega)]
        refine aL2 (aL2 (aEY (λk=>absurd rfl k) λ_=>x_v (XC ⟨hk,rfl,by simp;exact h3,λy hy=>?_,λa v ha hv2=>?_⟩)))
        · simp only at hy ⊢
          rw [hT2]
          rcases List.mem_or_eq_of_mem_set hy with hy | rfl
          · have:=h4 y hy;omega
          · omega
        · simp only
          have h6:=h5 a v ha hv2
          rw [(hT λk=>decide (k=a)).1]
          by_cases e:x.fM=a
          · have ez:z=v+pS (λk=>decide (k=a)) (p.1.take k.toNat):=by
              rw [<- e] at h6 ⊢;rw [hz] at h6;exact Option.some.inj h6
            rw [<- e,List.getElem?_set_self (by have:=(List.getElem?_eq_some_iff.1 hz).1;exact this),e,ez]
            have:gA (λk=>decide (k=a)) x=x.bD:=by unfold gA;simp [e]
            rw [this];congr 1;omega
          · have hne:x.fM.toNat≠a.toNat:=by have:=hv.1;omega
            rw [List.getElem?_set_ne hne,h6]
            have:gA (λk=>decide (k=a)) x=0:=by unfold gA;simp [e]
            rw [this,Int.add_zero]
      · have:=h4 z hz
        rw [List.take_of_length_le (by omega)] at this;omega
      · have:=h5 a v ha hv
        rw [List.take_of_length_le (by omega)] at this;rw [this,p3]
    · cases r with
      | inl q=>exact aK3 (aEV ⟨rfl,hr⟩)
      | inr t=>exact hr.elim
  · obtain ⟨a,c⟩:=r
    obtain ⟨r0,r1,r2⟩:=hr
    simp only at r0 r1 r2
    simp only [p2]
    exact aL2 (aEY (λk=>absurd r0 k) λ_=>aL4 (by rw [r1.1,hbl]) (aEV ⟨r1,r2⟩))
  · cases y with
    | inl a=>exact hy.elim
    | inr q=>exact aEV ⟨rfl,hy⟩
def eB (x:aP) (g:List Int):aP:=⟨x.Now,x.Closed,x.dD,g,x.dI,x.dO,x.Down,x.eT⟩
def eR (x:aP) (g:List bM):aP:=⟨x.Now,x.Closed,x.dD,x.dU,g,x.dO,x.Down,x.eT⟩
def sE (s:aA) (e:Int) (x:aP):aA:=⟨s.bA,s.aW.set e.toNat x,s.bP,s.bU,s.bY,s.Done⟩
theorem bIT {n:Nat} {s:aA} {e B:Int} {x:aP} {l:List aH} (hn:250<=n) (h:SQ s) (he:0<=e/\e<(s.aW.length:Int)) (hx:s.aW[e.toNat]?=some x) (hb:BB x.dU B) (hl:l.length<=12) (hV:VLs l) (hB:B+2*lB l<=288230376151711744) (hB0:0<=B) (h0:pS (λ_=>true) l=0):Ex (λr=>∃ g,r=(sE s e (eB x g),0)/\BB g (B+lB l)/\Pd x.dU g l) (oN n s e l):=by
  have hel:=h.el
  have hln:=a7K l
  unfold oN aJN;simp only [WT.run,O9]
  refine tF (λb=>b=false) (aL2 (aEY (λk=>absurd k (by omega)) λ_=>aL2 (aEV (decide_eq_false (by omega))))) λb hb'=>aFQ (λk=>by rw [hb'] at k;cases k) λ_=>?_
  refine tF _ (bGV hn (by omega) hV (by omega)) λp hp=>?_
  obtain ⟨p0,p1,p2',p3,p4,p5⟩:=hp
  refine aL2 (aEY (λk=>absurd p0 k) λ_=>aQZ he.1 hx ?_)
  refine tF _ (bIP hn hb (by omega) p1 (by omega) hB0 (by rw [p3];exact h0)) λg hg=>?_
  obtain ⟨g0,g1,g2⟩:=hg
  refine aL2 (aEY (λk=>absurd g0 k) λ_=>tF (λ_=>True) (x_a (ON he.1 he.2 λ_ _=>aEV trivial)) λ_ _=>aQZ he.1 hx (aL2 (aEV ⟨g.1,rfl,⟨g1.1,λv hv=>by have:=g1.2 v hv;omega⟩,λa v ha hv=>by rw [g2 a v ha hv,p3]⟩)))
def RB (r:bM) (B:Int):Prop:=(r.Open.natAbs:Int)<=B/\(r.jC.natAbs:Int)<=B/\(r.iV.natAbs:Int)<=B/\(r.iW.natAbs:Int)<=B/\(r.iQ.natAbs:Int)<=B/\(r.jA.natAbs:Int)<=B/\(r.iY.natAbs:Int)<=B/\(r.iU.natAbs:Int)<=B/\(r.iT.natAbs:Int)<=B/\(r.iZ.natAbs:Int)<=B/\(r.jD.natAbs:Int)<=B
theorem bHX {a b:Int} (h:(a.natAbs:Int)+b.natAbs<=288230376151711744):kG a b=some (a+b,0):=by rw [a7S,bGI h]
theorem bBQ {l:List aB} {x:aB} (h:LB l) (hx:x∈l):x.aQ<=288230376151711744/\x.Value<=288230376151711744/\(x.bO.natAbs:Int)<=288230376151711744:=by
  have h1:=(aVO (a4I (l:=l) (f:=aB.aQ) λy hy=>by have:=h.ok y hy;omega)).2 _ (List.mem_map_of_mem hx)
  have h2:=(aVO (a4I (l:=l) (f:=aB.Value) λy hy=>(h.ok y hy).2)).2 _ (List.mem_map_of_mem hx)
  have h3:(x.bO.natAbs:Int)<=lA l:=by
    have:=(aVO (a4I (l:=l) (f:=λy=>(y.bO.natAbs:Int)) λy _=>by omega)).2 _ (List.mem_map_of_mem hx)
    have e:sI (l.map λy=>(y.bO.natAbs:Int))=lA l:=by unfold lA;rw [<- a9M,List.map_map];rfl
    rw [e] at this;exact this
  have k1:=h.q;have k2:=h.v;have k3:=h.a
  unfold lQ at k1;unfold lV at k2
  omega
theorem bHE {x:aB} (h:1<=x.aQ/\0<=x.Value) (k:x.aQ<=288230376151711744/\x.Value<=288230376151711744/\(x.bO.natAbs:Int)<=288230376151711744):TU x=some false:=by
  refine aQX ?_
  unfold TU aJB;simp only [WT.run,O9]
  refine tF (λb=>b=false) ?_ λb hb=>aEV hb
  exact aL2 (aEY (λk=>absurd k (by omega)) λ_=>aL2 (aEY (λk=>absurd k (by omega)) λ_=>aL2 (aEY (λk=>absurd k (by omega)) λ_=>aL2 (aEY (λk=>absurd k (by omega)) λ_=>aL2 (aEY (λk=>absurd k (by omega)) λ_=>aL2 (aEV (decide_eq_false (by omega))))))))
theorem bIQ {n:Nat} {l:List aB} (hn:250<=n) (h:LB l):UH n l=some true:=by
  have hl:=h.len
  refine aQX ?_
  unfold UH aAP;simp only [WT.run,O9]
  refine tF (λa=>a=l.map λx=>(x.bO.natAbs:Int)) (aQB (m:=l.length) (λv=>v.1) (λv=>v.2=(l.take v.1.toNat).map λx=>(x.bO.natAbs:Int)) ⟨by simp,by simp,by simp⟩ (by omega) λv h1 h2 h3=>?_) λa ha=>?_
  · obtain ⟨i,p⟩:=v
    simp only at h1 h2 h3
    subst h3
    simp only [p2]
    have hL:(l.take i.toNat).length<=250:=by simp only [List.length_take];omega
    refine aL2 (aEY (λhk=>ON h1 hk λx hx=>aL2 (aL2 (aL2 (aL4 (by simp only [List.length_append,List.length_map,List.length_singleton];omega) (x_v (XC ⟨hk,rfl,?_⟩)))))) λhk=>aGQ (aEV ?_))
    · have hx2:=(bBQ h (List.mem_of_getElem? hx)).2.2
      rw [a1Q (λx:aB=>(x.bO.natAbs:Int)) h1 hx]
      have e:aI (0-x.bO)=- x.bO:=by rw [Int.zero_sub];exact wrap64 (by omega)
      simp only [e]
      congr 2
      split <;> omega
    · rw [List.take_of_length_le (by omega)]
  · subst ha
    have e:sI (l.map λy=>(y.bO.natAbs:Int))=lA l:=by unfold lA;rw [<- a9M,List.map_map];rfl
    have ha:=h.a
    refine x_eq (aZ4 ⟨by simp;omega,hn⟩) (aL2 (aEV (decide_eq_true ?_)))
    rw [a2B (by rw [a3Y (a4I λx _=>by omega),e];exact ha)]
theorem bG9 {n:Nat} {l:List aB} (hn:250<=n) (h:LB l):L5 n l=some true:=by
  have hl:=h.len
  refine aQX ?_
  unfold L5 aJ8;simp only [WT.run,O9]
  refine tF (λb=>b=false) ?_ λb hb=>aFQ (λk=>by rw [hb] at k;cases k) λhb'=>?_
  · refine aL2 (aEY (λk=>absurd k (by omega)) λhk=>?_)
    refine tF (λb=>b=false) (tF (λb=>b<0) (tF (λr=>match r with | .inl _=>True | .inr v=>False) (aQB (m:=l.length) (λv=>v) (λv=>True) ⟨by simp,by simp,trivial⟩ (by omega) λv h1 h2 h3=>?_) λr hr=>?_) λc hc=>aL2 (aEV (decide_eq_false (Int.not_le.2 hc)))) λb hb=>aEV hb
    · exact aL2 (aEY (λhk=>ON h1 hk λx hx=>x_eq (bHE (h.ok x (List.mem_of_getElem? hx)) (bBQ h (List.mem_of_getElem? hx))) (aFQ (λk=>nomatch k) λ_=>x_v (XC ⟨hk,rfl,trivial⟩))) λhk=>aGQ (XC trivial))
    · cases r with
      | inl u=>exact aK3 (aEV (by decide))
      | inr v=>exact hr.elim
  · exact x_eq (bFP hn h) (tF (λb=>b=true) (aL2 (aEY (λ_=>x_eq (bIQ hn h) (aEV rfl)) λk=>absurd rfl k)) λb hb=>aEV hb)
theorem bG0 {n:Nat} {l:List aB} {x:aB} (hn:250<=n) (h:LB (l++[x])):JM n l x=some (l++[x],0):=by
  have hl:=h.len
  have hx:=h.last
  simp only [List.length_append,List.length_singleton] at hl
  refine aQX ?_
  unfold JM WO;simp only [WT.run,O9]
  exact x_a (tF (λb=>b=false) (aL2 (aEY (λk=>absurd k (by omega)) λ_=>aL2 (aEV (decide_eq_false (by omega))))) λb hb=>aFQ (λk=>by rw [hb] at k;cases k) λ_=>aL2 (aEY (λk=>absurd k (by omega)) λ_=>x_a (aL2 (x_a (x_eq (bG9 hn h) (aL2 (bF5 (aEV rfl))))))))
theorem bIB {n:Nat} {l:List aB} {x:aB} (hn:250<=n) (h:LB (l++[x])):DT n l x=some ([tot (l++[x])],0):=by
  refine aQX ?_
  unfold DT aAB;simp only [WT.run,O9,Option.bind_some]
  exact x_eq (bG0 hn h) (aL2 (aEY (λk=>absurd rfl k) λ_=>x_eq (bFP hn h) (aL2 (aEY (λk=>absurd rfl k) λ_=>aEV rfl))))
theorem bGL {n:Nat} {l:List aB} {q:Int} (hn:250<=n) (h:LB l) (hq:1<=q/\q<=lQ l):GX n l q=some true:=by
  have hl:=h.len;have hQ:=h.q
  refine aQX ?_
  unfold GX aA4;simp only [WT.run,O9]
  refine tF (λr=>match r with | .inl _=>False | .inr b=>b=true) (aQB (m:=l.length) (λv=>v.2) (λv=>1<=v.1/\v.1+sI ((l.take v.2.toNat).map aB.aQ)=q) ⟨by simp,by simp,hq.1,by simp [sI]⟩ (by omega) λv h1 h2 h3=>?_) λr hr=>?_
  · obtain ⟨a,i⟩:=v
    simp only at h1 h2 h3
    simp only [p2]
    have hnn:=(aVO (a4I (l:=l.take i.toNat) (f:=aB.aQ) λy hy=>by have:=h.ok y (List.mem_of_mem_take hy);omega)).1
    refine aL2 (aEY (λhk=>ON h1 hk λx hx=>aL2 (aL2 (aL2 (aL2 (aEY (λk0=>aGQ (aGQ (aEV rfl))) λk0=>x_v (XC ⟨hk,rfl,?_⟩)))))) λhk=>?_)
    · have hx2:=(h.ok x (List.mem_of_getElem? hx)).1
      have e:aI (a-(if a<(if 0>x.aQ then 0 else x.aQ) then a else (if 0>x.aQ then 0 else x.aQ)))=a-(if a<x.aQ then a else x.aQ):=by
        rw [if_neg (show ¬ 0>x.aQ by omega)]
        exact wrap64 (by split <;> omega)
      simp only [e] at k0 ⊢
      rw [a1Q aB.aQ h1 hx,aV8]
      simp only [sI]
      split at k0 <;> (rename_i k1;simp only [k1,if_true,if_false];omega)
    · exfalso
      rw [List.take_of_length_le (by omega)] at h3
      unfold lQ at hq;omega
  · cases r with
    | inl u=>exact hr.elim
    | inr b=>exact ⟨_,rfl,hr⟩
theorem bIO {n:Nat} {l:List aB} {q:Int} (hn:250<=n) (h:LQ l) (hq:XE q) (hh:GX n l q=some true) (hq1:1<=q):Ex (λr=>r.2.2=0) (IU n l q):=by
  have h1:=h.1
  unfold IU aGD;simp only [WT.run,O9]
  refine x_a (aL2 (aEY (λk=>absurd k (by omega)) λ_=>x_eq hh (aL2 (bF5 ?_))))
  refine tF (λv=>v.1+v.2.1<=v.2.2.1.length/\LQ v.2.2.1/\RL v.2.2.2) (aQJ (λv=>v.1+v.2.1<=v.2.2.2.1.length/\XE v.2.2.1/\LQ v.2.2.2.1/\RL v.2.2.2.2) (λv=>if v.2.2.1>0 then v.2.1+1 else 0) ?_ ⟨by simp,hq,h,RL0⟩ (by simp only;split <;> omega)) λv hv=>?_
  · rintro ⟨a,c,q,l',acc⟩ ⟨hi,hqq,hl,hacc⟩
    simp only at hi hqq hl hacc
    simp only [p2]
    refine tF (λy=>y=true->0<c/\0<q) ?_ λy hy=>aFQ (λht=>?_) λ_=>aEV ⟨hi,hl,hacc⟩
    · refine aL2 (aEY (λh=>aL2 (aEV λh'=>⟨by omega,of_decide_eq_true h'⟩)) λ_=>aEV λh=>by cases h)
    obtain ⟨hc,hq0⟩:=hy ht
    refine x_a (ON (by omega) (by omega) λx hx=>?_)
    have hxl:=hl.at hx
    refine aL2 (tF (λy=>y.1+y.2.1<=y.2.2.1.length/\LQ y.2.2.1/\RL y.2.2.2/\(y.2.1+1=c\/y.2.1=c/\y.2.2.2.aQ=q)) (aEY (λhb=>?_) λhb=>?_) λy hy=>?_)
    · refine tF _ (aF5 hn hxl.2.1 hqq hxl.1) λv1 h1=>tF _ (aF5 hn hxl.2.2 hqq hxl.1) λv2 h2=>x_a (aL2 (x_a (aL2 (x_a (aL2 (x_a (aL2 (x_a (aL2 (x_a (aL2 (aEV ?_))))))))))))
      exact ⟨by simp;exact hi,((hl.set (x:=⟨_,_,_⟩) ⟨aG1 _,hxl.2⟩).set (x:=⟨_,_,_⟩) ⟨aG1 _,aG1 _,hxl.2.2⟩).set (x:=⟨_,_,_⟩) ⟨aG1 _,aG1 _,aG1 _⟩,⟨hqq,h1,h2⟩,.inr ⟨rfl,rfl⟩⟩
    · refine x_a (aL2 (aEV ⟨?_,hl,hxl,.inl ?_⟩))
      · simp only;split <;> omega
      · simp only;omega
    · obtain ⟨a',c',l2,x2⟩:=y
      obtain ⟨k1,k2,k3,k4⟩:=hy
      simp only at k1 k2 k3 k4
      refine aL2 (aL2 (aL2 (aL2 (XC ⟨⟨k1,aG1 _,k2,aG1 _,aG1 _,aG1 _⟩,?_⟩))))
      simp only
      rw [if_pos hq0]
      rcases k4 with k4 | ⟨k4,k5⟩
      · split <;> omega
      · rw [k5,if_neg (by rw [Int.sub_self];decide)];omega
  · obtain ⟨a,c,l',acc⟩:=v
    obtain ⟨k1,k2,k3⟩:=hv
    simp only [p2] at k1 k2 k3 ⊢
    exact aL4 k1 (aEV rfl)
theorem LB.lq {l:List aB} (h:LB l):LQ l:=⟨h.len,λx hx=>by
  have h1:=h.ok x hx;have h2:=bBQ h hx
  exact ⟨by unfold XE;omega,by unfold XE;omega,by unfold XE;omega⟩⟩
theorem bIN {α:Type} {P:α->Prop} {D:Option α} (h:Ex P D):Ex (λr=>P r/\D=some r) D:=by
  obtain ⟨r,e,p⟩:=h
  exact ⟨r,e,p,e⟩
theorem bGU {n:Nat} {l:List aB} {q:Int} (hn:250<=n) (h:LB l) (hq:1<=q/\q<=lQ l):Ex (λr=>r.2.2=0/\a1R l q r.1 r.2.1/\IU n l q=some (r.1,r.2.1,0)) (IU n l q):=by
  have hQ:=h.q
  have hr:XE q:=by unfold XE;omega
  exact aS9 (bIN (aUT (bIO hn h.lq hr (bGL hn h hq) hq.1) (a9G hn h hr))) λr hr=>⟨hr.1.1,hr.1.2 hr.1.1,by rw [<- hr.1.1];exact hr.2⟩
def M2 (m:Int):Prop:=m=1\/m=2
def pE0:aM:=⟨[],⟨0,0,0⟩⟩
theorem bH4 {n:Nat} {m c:Int} {p:aM} {x:aB} (hn:250<=n) (hm:M2 m) (h:LB (p.cO++[x])):Ex (λr=>r.2=(0,0)/\InR p.cO x r.1.cO/\r.1.bF=p.bF) (UO n m c p x):=by
  have hl:=h.len
  simp only [List.length_append,List.length_singleton] at hl
  have hx:=h.last
  have I1:InR p.cO x (p.cO++[x]):=⟨h,by rw [a7Q,(l1 x).1],by rw [a9N,(l1 x).2.1],by rw [a8I,(l1 x).2.2.1],by rw [a8T,(l1 x).2.2.2];omega,hx.1,hx.2,λh=>by rw [h];rfl⟩
  have I2:InR p.cO x [tot (p.cO++[x])]:=by
    have k:=l1 (tot (p.cO++[x]))
    refine ⟨h.tot,?_,?_,?_,?_,hx.1,hx.2,λh=>by rw [h];exact congrArg (λz=>[z]) (bHM x)⟩
    · rw [k.1];exact I1.q
    · rw [k.2.1];exact I1.v
    · rw [k.2.2.1];exact I1.p
    · rw [k.2.2.2];have:=a7C (p.cO++[x]);have:=I1.a;exact Int.le_trans (a7C (p.cO++[x])) this
  unfold UO aJE;simp only [WT.run,O9]
  refine tF (λy=>match y with | .inl _=>True | .inr (.inl _)=>True | _=>False) ?_ λy hy=>?_
  · exact aL2 (aEY (λ_=>aEV trivial) λk1=>aL2 (aEY (λ_=>aEV trivial) λk2=>(by unfold M2 at hm;omega)))
  rcases y with u | u | u | u | u <;> simp only [Sum.elim,WT.run,O9]
  · exact tF (λr=>r.2=0/\InR p.cO x r.1.cO/\r.1.bF=p.bF) (x_eq (bG0 hn h) (x_eq a5E (aEV ⟨rfl,I1,rfl⟩))) λr hr=>aL2 (aEY (λk=>absurd hr.1 k) λk=>aEV ⟨rfl,hr.2⟩)
  · exact tF (λr=>r.2=0/\InR p.cO x r.1.cO/\r.1.bF=p.bF) (x_eq (bIB hn h) (x_eq a5E (aEV ⟨rfl,I2,rfl⟩))) λr hr=>aL2 (aEY (λk=>absurd hr.1 k) λk=>aEV ⟨rfl,hr.2⟩)
  · exact hy.elim
  · exact hy.elim
  · exact hy.elim
theorem bIH {n:Nat} {m c k q:Int} {p:aM} (hn:250<=n) (hm:M2 m) (h:LB p.cO) (hk:0<=k/\k<=3) (hq:1<=q/\q<=lQ p.cO):Ex (λr=>r.2.2=(false,0)/\a1R p.cO q r.1.cO r.2.1/\IU n p.cO q=some (r.1.cO,r.2.1,0)) (KL n m c p k q):=by
  unfold KL aE0;simp only [WT.run,O9]
  refine tF (λy=>match y with | .inl _=>True | .inr (.inl _)=>True | _=>False) ?_ λy hy=>?_
  · exact aL2 (aEY (λ_=>aEV trivial) λk1=>aL2 (aEY (λ_=>aEV trivial) λk2=>(by unfold M2 at hm;omega)))
  rcases y with u | u | u | u | u <;> simp only [Sum.elim,WT.run,O9]
  · refine tF (λb=>b=false) (aL2 (aEY (λk=>absurd k (by omega)) λ_=>aL2 (aEV (decide_eq_false (by omega))))) λb hb=>aFQ (λk=>by rw [hb] at k;cases k) λ_=>?_
    simp only [Option.bind_some]
    exact tF (λr=>r.2.2=0/\a1R p.cO q r.1.cO r.2.1/\IU n p.cO q=some (r.1.cO,r.2.1,0)) (tF _ (bGU hn h hq) λr hr=>x_eq a5E (aEV ⟨hr.1,hr.2⟩)) λr hr=>aL2 (aEY (λk=>absurd hr.1 k) λk=>aEV ⟨rfl,hr.2⟩)
  · refine tF (λb=>b=false) (aL2 (aEY (λk=>absurd k (by omega)) λ_=>aL2 (aEV (decide_eq_false (by omega))))) λb hb=>aFQ (λk=>by rw [hb] at k;cases k) λ_=>?_
    simp only [Option.bind_some]
    refine tF (λr=>r.2.2=0/\a1R p.cO q r.1.cO r.2.1/\IU n p.cO q=some (r.1.cO,r.2.1,0)) (tF (λr=>r.2.2=0/\a1R p.cO q r.1 r.2.1/\IU n p.cO q=some (r.1,r.2.1,0)) ?_ λr hr=>x_eq a5E (aEV ⟨hr.1,hr.2⟩)) λr hr=>aL2 (aEY (λk=>absurd hr.1 k) λk=>aEV ⟨rfl,hr.2⟩)
    unfold a4Y aEG;simp only [WT.run,O9,Option.bind_some]
    exact tF _ (bGU hn h hq) λr hr=>aEV hr
  · exact hy.elim
  · exact hy.elim
  · exact hy.elim
structure EC (x:aP) (p:aM) (B:Int):Prop where
  cl:x.Closed=false
  bb:BB x.dU B
  ro:∃ r,x.dI=[r]/\RB r B
  dn:x.Down=[0]
  po:x.dD=[p,pE0]
def EN (s:aA) (f:Int->aM) (B:Int):Prop:=s.aW.length=3/\∀ e:Int,0<=e->e<3->∃ x,s.aW[e.toNat]?=some x/\EC x (f e) B
def up (f:Int->aM) (e:Int) (p:aM):Int->aM:=λk=>if k=e then p else f k
theorem bGQ (f:Int->aM) (e:Int):up f e (f e)=f:=by
  funext k;unfold up;split
  · rename_i h;rw [h]
  · rfl
theorem BB.mono {b:List Int} {B C:Int} (h:BB b B) (hc:B<=C):BB b C:=⟨h.1,λv hv=>by have:=h.2 v hv;omega⟩
theorem RB.mono {r:bM} {B C:Int} (h:RB r B) (hc:B<=C):RB r C:=by
  obtain ⟨a1,a2,a3,a4,a5,a6,a7,a8,a9,kK,oM⟩:=h
  exact ⟨Int.le_trans a1 hc,Int.le_trans a2 hc,Int.le_trans a3 hc,Int.le_trans a4 hc,Int.le_trans a5 hc,Int.le_trans a6 hc,Int.le_trans a7 hc,Int.le_trans a8 hc,Int.le_trans a9 hc,Int.le_trans kK hc,Int.le_trans oM hc⟩
theorem a4D {a b B c:Int} (h:(a.natAbs:Int)<=B) (k:(b.natAbs:Int)<=c):((a+b).natAbs:Int)<=B+c:=by omega
theorem a4J {a b B c:Int} (h:(a.natAbs:Int)<=B) (k:(b.natAbs:Int)<=c) (hB:B+c<=288230376151711744):kG a b=some (a+b,0):=bHX (by omega)
theorem EC.mono {x:aP} {p:aM} {B C:Int} (h:EC x p B) (hc:B<=C):EC x p C:=⟨h.cl,h.bb.mono hc,by obtain ⟨r,h1,h2⟩:=h.ro;exact ⟨r,h1,h2.mono hc⟩,h.dn,h.po⟩
theorem EN.set {s:aA} {f:Int->aM} {B C:Int} {e:Int} {x:aP} {p:aM} (h:EN s f B) (hc:B<=C) (he:0<=e/\e<3) (hx:EC x p C):EN (sE s e x) (up f e p) C:=by
  refine ⟨by unfold sE;simp;exact h.1,λk h0 h1=>?_⟩
  by_cases hk:k=e
  · subst hk
    refine ⟨x,?_,by unfold up;rw [if_pos rfl];exact hx⟩
    unfold sE;simp only
    rw [List.getElem?_set_self (by have:=h.1;omega)]
  · obtain ⟨y,hy,hE⟩:=h.2 k h0 h1
    refine ⟨y,?_,by unfold up;rw [if_neg hk];exact hE.mono hc⟩
    unfold sE;simp only
    rw [List.getElem?_set_ne (by omega)];exact hy
theorem EN.lbs {s:aA} {f:Int->aM} {B:Int} (h:EN s f B) (hf:∀ e,LB (f e).cO):LBs s:=λx hx p hp=>by
  obtain ⟨i,hi⟩:=List.getElem?_of_mem hx
  have hl:=(List.getElem?_eq_some_iff.1 hi).1
  obtain ⟨y,hy,hE⟩:=h.2 (i:Int) (by omega) (by have:=h.1;omega)
  rw [Int.toNat_natCast,hi] at hy
  cases hy
  rw [hE.po] at hp
  rcases List.mem_cons.1 hp with rfl | hp
  · exact hf _
  · rw [List.mem_singleton.1 hp];exact LB.nil
theorem bEO {s:aA} {f:Int->aM} {B e:Int} (h:SQ s) (hE:EN s f B) (hi:In' s e 0) (he:0<=e/\e<3):lH s e 0=some 0:=by
  obtain ⟨x,hx,hc⟩:=hE.2 e he.1 he.2
  refine aQX ?_
  unfold lH aLX;simp only [WT.run,O9]
  refine x_eq (bFD h hi) (aL2 (bF5 (aQZ he.1 hx ?_)))
  rw [hc.cl]
  exact aEV rfl
theorem bD4 {n:Nat} {s:aA} {f:Int->aM} {B e:Int} {l:List aH} (hn:250<=n) (h:SQ s) (hE:EN s f B) (he:0<=e/\e<3) (hl:l.length<=12) (hV:VLs l) (hB:B+2*lB l<=288230376151711744) (hB0:0<=B) (h0:pS (λ_=>true) l=0):Ex (λr=>r.2=0/\SK s r.1/\EN r.1 f (B+lB l)) (oN n s e l):=by
  obtain ⟨x,hx,hc⟩:=hE.2 e he.1 he.2
  have hln:=a7K l
  refine aS9 (aUT (aQ9 hn h (by omega)) (bIT hn h ⟨he.1,by have:=hE.1;omega⟩ hx hc.bb hl hV hB hB0 h0)) λr hr=>?_
  obtain ⟨hk,g,rfl,g1,g2⟩:=hr
  refine ⟨rfl,hk,?_⟩
  have:=hE.set (e:=e) (x:=eB x g) (p:=f e) (C:=B+lB l) (by omega) he ⟨hc.cl,g1,(hc.mono (C:=B+lB l) (by omega)).ro,hc.dn,hc.po⟩
  rw [bGQ] at this
  exact this
theorem bEW {s:aA} {f:Int->aM} {B c e:Int} {r:bM} (h:SQ s) (hE:EN s f B) (hi:In' s e 0) (he:0<=e/\e<3) (hr:RB r c) (hB:B+c<=288230376151711744) (hc0:0<=c):Ex (λu=>u.2=0/\SK s u.1/\EN u.1 f (B+c)) (qD s e 0 r):=by
  obtain ⟨x,hx,hc⟩:=hE.2 e he.1 he.2
  obtain ⟨y,hy,hyb⟩:=hc.ro
  have hel:=hE.1
  refine aS9 (aUT (aQ4 (r:=r) h) (Q:=λu=>∃ q,u=(sE s e (eR x [q]),0)/\RB q (B+c)) ?_) λu hu=>?_
  · unfold qD aIQ;simp only [WT.run,O9,Option.bind_some]
    refine x_eq (bFD h hi) (aL2 (bF5 (aQZ he.1 hx (aQZ (i:=0) (by decide) (a:=y) (by rw [hy];rfl) ?_))))
    obtain ⟨a1,a2,a3,a4,a5,a6,a7,a8,a9,kK,oM⟩:=hyb
    obtain ⟨b1,b2,b3,b4,b5,b6,b7,b8,b9,b10,b11⟩:=hr
    refine tF (λq=>match q with | .inl q=>RB q (B+c) | .inr q=>False) ?_ λq hq=>?_
    · refine aXZ rfl (x_eq (a4J a1 b1 hB) (aL2 (aEY (λk=>absurd rfl k) λ_=>?_)))
      refine aXZ rfl (x_eq (a4J a2 b2 hB) (aL2 (aEY (λk=>absurd rfl k) λ_=>?_)))
      refine aXZ rfl (x_eq (a4J a3 b3 hB) (aL2 (aEY (λk=>absurd rfl k) λ_=>?_)))
      refine aXZ rfl (x_eq (a4J a4 b4 hB) (aL2 (aEY (λk=>absurd rfl k) λ_=>?_)))
      refine aXZ rfl (x_eq (a4J a5 b5 hB) (aL2 (aEY (λk=>absurd rfl k) λ_=>?_)))
      refine aXZ rfl (x_eq (a4J a6 b6 hB) (aL2 (aEY (λk=>absurd rfl k) λ_=>?_)))
      refine aXZ rfl (x_eq (a4J a7 b7 hB) (aL2 (aEY (λk=>absurd rfl k) λ_=>?_)))
      refine aXZ rfl (x_eq (a4J a8 b8 hB) (aL2 (aEY (λk=>absurd rfl k) λ_=>?_)))
      refine aXZ rfl (x_eq (a4J a9 b9 hB) (aL2 (aEY (λk=>absurd rfl k) λ_=>?_)))
      refine aXZ rfl (x_eq (a4J kK b10 hB) (aL2 (aEY (λk=>absurd rfl k) λ_=>?_)))
      refine aXZ rfl (x_eq (a4J oM b11 hB) (aL2 (aEY (λk=>absurd rfl k) λ_=>?_)))
      exact XC ⟨a4D a1 b1,a4D a2 b2,a4D a3 b3,a4D a4 b4,a4D a5 b5,a4D a6 b6,a4D a7 b7,a4D a8 b8,a4D a9 b9,a4D kK b10,a4D oM b11⟩
    · cases q with
      | inr q=>exact hq.elim
      | inl q =>
        refine aK3 ?_
        refine tF (λ_=>True) (x_a (ON he.1 (by omega) λ_ _=>aEV trivial)) λ_ _=>aQZ he.1 hx (aL4 (by rw [hy];simp) ?_)
        refine aQZ (i:=0) (by decide) (a:=y) (by rw [hy];rfl) (aL2 (aEV ⟨q,?_,hq⟩))
        unfold sE eR
        rw [hy];rfl
  · obtain ⟨hk,q,rfl,hq⟩:=hu
    refine ⟨rfl,hk,?_⟩
    have:=hE.set (e:=e) (x:=eR x [q]) (p:=f e) (C:=B+c) (by omega) he ⟨hc.cl,hc.bb.mono (by omega),⟨q,rfl,hq⟩,hc.dn,hc.po⟩
    rw [bGQ] at this
    exact this
def M2s (s:aA):Prop:=∀ mt∈s.bA.Methods,∀ m∈mt,M2 m
def sPo (x:aP) (g:List aM):aP:=⟨x.Now,x.Closed,g,x.dU,x.dI,x.dO,x.Down,x.eT⟩
theorem bG8 {n:Nat} {s:aA} {f:Int->aM} {B e k q:Int} (hn:250<=n) (h:SQ s) (hM:M2s s) (hE:EN s f B) (hi:In' s e 0) (he:0<=e/\e<3) (hf:LB (f e).cO) (hk:0<=k/\k<=3) (hq:1<=q/\q<=lQ (f e).cO):Ex (λr=>r.2.2=(false,0)/\SK s r.1/\∃ p',EN r.1 (up f e p') B/\a1R (f e).cO q p'.cO r.2.1/\IU n (f e).cO q=some (p'.cO,r.2.1,0)) (rR n s e 0 0 k q):=by
  obtain ⟨y,hy,hc⟩:=hE.2 e he.1 he.2
  have hel:=hE.1;have hQ:=hf.q
  have hp0:y.dD[(0:Int).toNat]?=some (f e):=by rw [hc.po];rfl
  refine aS9 (aUT (aR6 (l:=0) (k:=k) (i:=0) (e:=e) hn h (by unfold XE;omega:XE q)) (Q:=λr=>r.2.2=(false,0)/\∃ p',r.1=sE s e (sPo y [p',pE0])/\a1R (f e).cO q p'.cO r.2.1/\IU n (f e).cO q=some (p'.cO,r.2.1,0)) ?_) λr hr=>?_
  · unfold rR aNC;simp only [WT.run,O9]
    have hpl:=(hi.x y hy).1
    refine x_eq (bC3 h hi (by omega)) (aL2 (aEY (λk=>absurd k (by omega)) λ_=>?_))
    refine ON he.1 hi.m1 λmt hmt=>ON hi.i0 (by have:=hi.m _ hmt;have:=hi.i1;omega) λm hm=>ON he.1 hi.c1 λct hct=>ON hi.i0 (by have:=hi.c _ hct;have:=hi.i1;omega) λc hcc=>aQZ he.1 hy (aQZ (i:=0*2+0) (by decide) (a:=f e) (by rw [hc.po];rfl) ?_)
    have hm2:=hM mt (List.mem_of_getElem? hmt) m (List.mem_of_getElem? hm)
    refine tF _ (bIH hn hm2 hf hk hq) λr hr=>aL2 (aL2 (aEY (λk=>absurd (congrArg Prod.snd hr.1) k) λ_=>?_))
    refine tF (λt=>t=(y.Now,y.Closed,y.dU,y.dI,y.dO,y.Down,y.eT,[r.1,pE0])) (tF (λ_=>True) (x_a (ON he.1 (by omega) λ_ _=>aEV trivial)) λ_ _=>aQZ he.1 hy (aL4 (by rw [hc.po];simp) (aQZ (i:=0*2+0) (by decide) (a:=f e) (by rw [hc.po];rfl) (aL2 (aEV (by rw [hc.po];rfl)))))) λt ht=>?_
    subst ht
    simp only [p2]
    refine ON he.1 (by omega) λ_ _=>aEV ⟨?_,r.1,rfl,hr.2⟩
    have h1:=congrArg Prod.fst hr.1
    simp only at h1 ⊢
    rw [h1]
  · obtain ⟨hk,h1,p',h2,h3⟩:=hr
    refine ⟨h1,hk.1,p',?_,h3⟩
    rw [h2]
    exact hE.set (Int.le_refl B) he ⟨hc.cl,hc.bb,hc.ro,hc.dn,rfl⟩
theorem bHF {n:Nat} {s:aA} {e:Int} {y:aP} {p:aM} (hn:250<=n) (h:SQ s) (hi:In' s e 0) (hy:s.aW[e.toNat]?=some y) (hp:y.dD=[p,pE0]) (hb:LB p.cO):RY n s e 0=some true:=by
  have hl:=hb.len;have hA:=hb.a
  refine aQX ?_
  unfold RY ZG;simp only [WT.run,O9]
  refine tF (λa=>a.length<250/\sAb a<=288230376151711744) (aQB (m:=2) (λv=>v.1) (λv=>v.2.length<=30/\sAb v.2<=(if v.1=0 then 0 else lA p.cO)/\(v.1=0->v.2=[])) ⟨by simp,by simp,by simp,by simp [sAb],λ_=>rfl⟩ (by omega) λv h1 h2 h3=>?_) λa ha=>?_
  · obtain ⟨k,q⟩:=v
    obtain ⟨h3,h4,h5⟩:=h3
    simp only at h1 h2 h3 h4 h5
    simp only [p2]
    refine aL2 (aEY (λhk=>?_) λ_=>aGQ (aEV ⟨by omega,?_⟩))
    · have hkk:k=0\/k=1:=by omega
      rcases hkk with rfl | rfl
      · have hq:=h5 rfl
        subst hq
        refine tF (λa=>a.length<=30/\sAb a<=lA p.cO) (x_eq (bE9 h hi (by omega) hy (p:=p) (by rw [hp];rfl)) (tF (λa=>a.length<=30/\sAb a<=lA p.cO) (aQB (m:=p.cO.length) (λv=>v.1) (λv=>(v.2.length:Int)=v.1/\sAb v.2=lA (p.cO.take v.1.toNat)) ⟨by simp,by simp,by simp,by simp [sAb,lA]⟩ (by omega) λv j1 j2 j3=>?_) λa ha=>aEV ha)) λa ha=>x_v (XC ⟨by omega,by omega,ha.1,by rw [if_neg (by simp only;omega)];exact ha.2,λh=>by simp only at h;omega⟩)
        obtain ⟨j,w⟩:=v
        obtain ⟨j3,j4⟩:=j3
        simp only at j1 j2 j3 j4
        simp only
        refine aL2 (aEY (λhj=>ON j1 hj λx hx=>aL2 (aL2 (aL2 (aL4 (by simp only [List.length_append,List.length_singleton];omega) (x_v (XC ⟨hj,rfl,by simp only [List.length_append,List.length_singleton];omega,?_⟩)))))) λhj=>aGQ (aEV ⟨by omega,?_⟩))
        · have hx2:=(bBQ hb (List.mem_of_getElem? hx)).2.2
          have e:aI (0-x.bO)=- x.bO:=by rw [Int.zero_sub];exact wrap64 (by omega)
          simp only [e]
          unfold lA at j4 ⊢
          rw [a1Q aB.bO j1 hx,a7D,a7D,j4]
          simp only [sAb]
          split <;> omega
        · rw [List.take_of_length_le (by omega)] at j4;omega
      · refine tF (λa=>a=q) (x_eq (bE9 h hi (by omega) hy (p:=pE0) (by rw [hp];rfl)) (tF (λa=>a=q) (aQB (m:=0) (λv=>v.1) (λv=>v.2=q) ⟨by simp,by simp,rfl⟩ (by omega) λv j1 j2 j3=>?_) λa ha=>aEV ha)) λa ha=>by subst ha;exact x_v (XC ⟨by omega,by omega,h3,by rw [if_neg (by simp only;omega)];rw [if_neg (by omega)] at h4;exact h4,λh=>by simp only at h;omega⟩)
        obtain ⟨j,w⟩:=v
        simp only at j1 j2 j3
        simp only
        exact aL2 (aEY (λhj=>absurd hj (by simp [pE0];omega)) λ_=>aGQ (aEV j3))
    · rw [if_neg (by omega)] at h4;omega
  · refine x_eq (aZ4 ⟨ha.1,hn⟩) (aL2 (aEV (decide_eq_true ?_)))
    rw [a2B ha.2]
theorem bGP {n:Nat} {s:aA} {f:Int->aM} {B e:Int} {x:aB} (hn:250<=n) (h:SQ s) (hM:M2s s) (hE:EN s f B) (hi:In' s e 0) (he:0<=e/\e<3) (hf:∀ e,LB (f e).cO) (hx:LB ((f e).cO++[x])):Ex (λr=>r.2=(x.Value,0,0)/\SK s r.1/\∃ p',EN r.1 (up f e p') B/\InR (f e).cO x p'.cO) (uU n s e 0 0 x):=by
  obtain ⟨y,hy,hc⟩:=hE.2 e he.1 he.2
  have hel:=hE.1
  have hxb:=hx.lq.2 x (by simp)
  refine aS9 (aUT (aSG (l:=0) (i:=0) (e:=e) hn h hxb) (Q:=λr=>r.2=(x.Value,0,0)/\∃ p',r.1=sE s e (sPo y [p',pE0])/\InR (f e).cO x p'.cO) ?_) λr hr=>?_
  · unfold uU aEQ;simp only [WT.run,O9]
    have hyq:=h.at hy
    refine x_eq (bC3 h hi (by omega)) (aL2 (aEY (λk=>absurd k (by omega)) λ_=>?_))
    refine ON he.1 hi.m1 λmt hmt=>ON hi.i0 (by have:=hi.m _ hmt;have:=hi.i1;omega) λm hm=>ON he.1 hi.c1 λct hct=>ON hi.i0 (by have:=hi.c _ hct;have:=hi.i1;omega) λc hcc=>aQZ he.1 hy (aQZ (i:=0*2+0) (by decide) (a:=f e) (by rw [hc.po];rfl) ?_)
    have hm2:=hM mt (List.mem_of_getElem? hmt) m (List.mem_of_getElem? hm)
    have hfq:PQ' (f e):=hyq.pq _ (by rw [hc.po];simp)
    refine tF _ (aUT (aPP hn hfq hxb) (bH4 hn hm2 hx)) λr hr=>aL2 (aEY (λk=>absurd (congrArg Prod.snd hr.2.1) k) λ_=>?_)
    obtain ⟨hr1,hr2,hr3,hr4⟩:=hr
    refine tF (λt=>t=(y.Now,y.Closed,y.dU,y.dI,y.dO,y.Down,y.eT,[r.1,pE0])) (tF (λ_=>True) (x_a (ON he.1 (by omega) λ_ _=>aEV trivial)) λ_ _=>aQZ he.1 hy (aL4 (by rw [hc.po];simp) (aQZ (i:=0*2+0) (by decide) (a:=f e) (by rw [hc.po];rfl) (aL2 (aEV (by rw [hc.po];rfl)))))) λt ht=>?_
    subst ht
    simp only [p2]
    have hEq:EQ' (sPo y [r.1,pE0]):=⟨by simp [sPo],λp hp=>by
      simp only [sPo,List.mem_cons,List.not_mem_nil,or_false] at hp
      rcases hp with rfl | rfl
      · exact hr1.1
      · exact ⟨LQ0,aP0,aP0,aP0⟩,hyq.bl,hyq.rl,hyq.pr,hyq.dn,hyq.ah⟩
    have hK:=h.aSC hEq hy (by rw [hc.po];rfl) rfl
    have hE2:EN (sE s e (sPo y [r.1,pE0])) (up f e r.1) B:=hE.set (Int.le_refl B) he ⟨hc.cl,hc.bb,hc.ro,hc.dn,rfl⟩
    have hLB:LBs (sE s e (sPo y [r.1,pE0])):=hE2.lbs λk=>by
      unfold up;split
      · exact hr3.b
      · exact hf k
    have hy2:(sE s e (sPo y [r.1,pE0])).aW[e.toNat]?=some (sPo y [r.1,pE0]):=by
      unfold sE;simp only
      rw [List.getElem?_set_self (by omega)]
    have z1:∀ g:aM->Int,g pE0=0->eS g (sPo y [r.1,pE0])=g r.1:=λg hg=>by unfold eS sPo;simp only [List.map_cons,List.map_nil,sI,hg];omega
    have b:=hr3.b
    have b1:=b.q;have b2:=b.v;have b3:=b.a
    have hi2:=hK.iN hi
    refine ON he.1 (by omega) λ_ _=>x_eq (bB0 hn hK.q hi2 hLB hy2 rfl (by rw [z1 fQ rfl];exact b1) (by rw [z1 fV rfl];exact b2) (by rw [z1 fA rfl];exact b3)) ?_
    refine tF (λc=>c=false) (aL2 (bF5 (x_eq (bHF hn hK.q hi2 hy2 rfl b) (aL2 (aEV rfl))))) λc hc2=>aFQ (λk=>by rw [hc2] at k;cases k) λ_=>aL2 (aEV ⟨?_,r.1,rfl,hr3⟩)
    have h1:=congrArg Prod.fst hr2
    simp only at h1 ⊢
    have hv:=hxb.2.1
    unfold XE at hv
    rw [h1,Int.sub_zero,show aI x.Value=x.Value from wrap64 hv]
  · obtain ⟨hk,h1,p',h2,h3⟩:=hr
    refine ⟨h1,hk.1,p',?_,h3⟩
    rw [h2]
    exact hE.set (Int.le_refl B) he ⟨hc.cl,hc.bb,hc.ro,hc.dn,rfl⟩
def okv (x:List UInt8) (k c v:Int):Prop:=∃ i lo hi,qL x c=some i/\(cond (decide (i>=0)) ((oV k c).bind λp=>some (p.1,p.2)) (some ((0:Int),(0:Int))))=some (lo,hi)/\lo<=v/\v<=hi
theorem a5Z {x:List UInt8} {k c v:Int} {R:Option Bool} (h:okv x k c v) (hR:Ex (λb=>b=true) R):Ex (λb=>b=true) (((((qL x c).bind λ(x11:Int)=>some x11).bind λy=>bnd (decide (y>=0)) λb=>some b).bind λb=>(cond b ((oV k c).bind λp=>some (p.1,p.2)) (some (0,0))).bind (p2 λlo hi=>(some ()).bind λ(_:Unit)=>(bnd (decide (v<lo)) λx17=>cond x17 (some true) (bnd (decide (v>hi)) λx18=>some x18)).bind λb=>cond b (some false) R))):=by
  obtain ⟨i,lo,hi,h1,h2,h3,h4⟩:=h
  refine tF (λb=>b=decide (i>=0)) (tF (λy=>y=i) (x_eq h1 (aEV rfl)) λy hy=>by subst hy;exact aL2 (aEV rfl)) λb hb=>?_
  subst hb
  refine x_eq h2 ?_
  show Ex _ (Option.bind (bnd (decide (v<lo)) λx17=>cond x17 (some true) (bnd (decide (v>hi)) λx18=>some x18)) _)
  exact tF (λb=>b=false) (aL2 (aEY (λk=>absurd k (by omega)) λ_=>aL2 (aEV (decide_eq_false (by omega))))) λb hb=>aFQ (λk=>by rw [hb] at k;cases k) λ_=>hR
theorem bH8 {n:Nat} {o:aS} {x:List UInt8} (hk:1<=o.Kind/\o.Kind<=16) (hx:(MG.bind λF=>ix [F.a0,F.a1,F.a2,F.a3,F.a4,F.a5,F.a6,F.a7,F.a8,F.a9,F.kK,F.oM,F.a12,F.rZ,F.IR,F.JU,F.a16] o.Kind)=some x) (h1:okv x o.Kind 69 o.E) (h2:okv x o.Kind 73 o.Item) (h3:okv x o.Kind 76 o.Loc) (h4:okv x o.Kind 84 o.To) (h5:okv x o.Kind 81 o.aQ) (h6:okv x o.Kind 65 o.bD) (h7:okv x o.Kind 82 o.Ref) (h8:o.Kind≠11) (h9:o.Kind≠8) (h10:o.Kind=12->o.To≠o.E) (hr:o.bT=[]):nJ n o=some true:=by
  obtain ⟨F,e1,e2⟩:=Option.bind_eq_some_iff.1 hx
  refine aQX ?_
  unfold nJ
  refine tF (λb=>b=false) (aL2 (aEY (λk=>absurd k (by omega)) λ_=>aL2 (aEV (decide_eq_false (by omega))))) λb hb=>aFQ (λk=>by rw [hb] at k;cases k) λ_=>x_eq e1 (x_eq e2 ?_)
  refine a5Z h1 (a5Z h2 (a5Z h3 (a5Z h4 (a5Z h5 (a5Z h6 (a5Z h7 ?_))))))
  refine aL2 (aEY (λk=>absurd k h8) λ_=>tF (λb=>b=true) (aL2 (aEY (λ_=>aL2 (aEY (λk=>absurd k h9) λ_=>aL2 (aEY (λk=>aL2 (aL2 (aEV (by simp [h10 k])))) λ_=>aEV rfl))) λk=>absurd (by rw [hr];rfl) k)) λb hb=>aEV hb)
structure CS (s:aA) (f:Int->aM) (B:Int):Prop where
  sq:SQ s
  m2:M2s s
  en:EN s f B
  lb:∀ e,LB (f e).cO
  w1:s.bA.cB.length=1
  iN:∀ e:Int,0<=e->e<3->In' s e 0
  tr:TRs s
theorem CS.of {s t:aA} {f g:Int->aM} {B C:Int} (h:CS s f B) (k:SK s t) (en:EN t g C) (lb:∀ e,LB (g e).cO):CS t g C :=
  ⟨k.q,by unfold M2s;rw [k.ma];exact h.m2,en,lb,by rw [k.ma];exact h.w1,λe h0 h1=>k.iN (h.iN e h0 h1),by unfold TRs;rw [k.tr];exact h.tr⟩
theorem EN.mono {s:aA} {f:Int->aM} {B C:Int} (h:EN s f B) (hc:B<=C):EN s f C:=⟨h.1,λe h0 h1=>by obtain ⟨x,h2,h3⟩:=h.2 e h0 h1;exact ⟨x,h2,h3.mono hc⟩⟩
theorem bBH {f:Int->aM} (h:∀ e,LB (f e).cO) {e:Int} {p:aM} (hp:LB p.cO):∀ k,LB (up f e p k).cO:=λk=>by
  unfold up;split
  · exact hp
  · exact h k
theorem RB0 {B:Int} (h:0<=B) {a b c:Int} (ha:(a.natAbs:Int)<=B) (hb:(b.natAbs:Int)<=B) (hc:(c.natAbs:Int)<=B):RB ⟨0,a,0,b,0,c,0,0,0,0,0⟩ B:=by
  have z:((0:Int).natAbs:Int)<=B:=by simpa using h
  exact ⟨z,ha,z,hb,z,hc,z,z,z,z,z⟩
theorem a96 {l:List aH} (h:∀ x∈l,0<=x.fM/\x.fM<17):VLs l:=h
theorem bHA {n:Nat} {s:aA} {f:Int->aM} {B q a:Int} (hn:250<=n) (hC:CS s f B) (hB:0<=B/\B<=100000000000000) (hq:1<=q/\q<=1000000) (ha:0<=a/\a<=1000000) (hr:s.bP.length<40) (hx:LB ((f 0).cO++[⟨q,a,0⟩])):Ex (λr=>r.2=0/\(∃ p',CS r.1 (up f 0 p') (B+1000000000)/\InR (f 0).cO ⟨q,a,0⟩ p'.cO)/\r.1.bY=s.bY/\r.1.bU=s.bU/\r.1.bP.length=s.bP.length+1) (VK n s ⟨1,0,0,0,0,q,a,0,[]⟩):=by
  have e1:aI (0-a)=-a:=by rw [Int.zero_sub];exact wrap64 (by omega)
  have hi:=hC.iN 0 (by decide) (by decide)
  unfold VK aFN;simp only [WT.run,O9]
  refine aL2 (aEY (λk=>absurd rfl k) λ_=>tF (λr=>r.2=0/\SK s r.1/\∃ p',EN r.1 (up f 0 p') (B+1000000000)/\InR (f 0).cO ⟨q,a,0⟩ p'.cO) ?_ λr hr'=>?_)
  · refine tF (λy=>y=0) (x_eq (bEO hC.sq hC.en hi (by decide)) (aEV rfl)) λy hy=>aL2 (aEY (λk=>absurd hy k) λ_=>tF (λz=>z=0) (aL2 (aEY (λk=>absurd k (by omega)) λ_=>aEV hy)) λz hz=>aL2 (aEY (λk=>absurd hz k) λ_=>?_))
    refine tF (λt=>t.2=(a,0,0)/\SK s t.1/\∃ p',EN t.1 (up f 0 p') B/\InR (f 0).cO ⟨q,a,0⟩ p'.cO) (tF _ (bGP (e:=0) (x:=⟨q,a,0⟩) hn hC.sq hC.m2 hC.en hi (by decide) hC.lb hx) λb hb'=>aEV hb') λb hb'=>?_
    obtain ⟨t,c,d,e⟩:=b
    obtain ⟨ht,hk,p',hE,hI⟩:=hb'
    simp only at ht hk hE
    obtain ⟨rfl,rfl,rfl⟩:c=a/\d=0/\e=0:=by
      refine ⟨congrArg Prod.fst ht,congrArg (λz=>z.2.1) ht,congrArg (λz=>z.2.2) ht⟩
    simp only [p2]
    refine aL2 (aEY (λk=>absurd rfl k) λ_=>?_)
    rw [e1]
    refine tF (λt=>t.2=0/\SK s t.1/\EN t.1 (up f 0 p') (B+100000000)) (aL2 (tF _ (bD4 (e:=0) hn hk.q hE (by decide) (by simp) (a96 (by simp)) (by simp only [lB,List.map_cons,List.map_nil,sAb];omega) hB.1 (by simp only [pS,gA,List.map_cons,List.map_nil,sI,if_true];omega)) λr hr=>aEV ⟨hr.1,hk.trans hr.2.1,hr.2.2.mono (by simp only [lB,List.map_cons,List.map_nil,sAb];omega)⟩)) λr hr=>?_
    refine aL2 (aEY (λk=>absurd hr.1 k) λ_=>tF (λt=>t.2=0/\SK s t.1/\EN t.1 (up f 0 p') (B+1000000000)) (tF _ (bEW (e:=0) (c:=1000000) hr.2.1.q hr.2.2 (hr.2.1.iN hi) (by decide) (RB0 (by omega) (by omega) (by simp) (by simp)) (by omega) (by omega)) λu hu=>aEV ⟨hu.1,hr.2.1.trans hu.2.1,hu.2.2.mono (by omega)⟩) λu hu=>?_)
    exact aL2 (aEY (λk=>absurd hu.1 k) λ_=>aEV ⟨hu.1,hu.2.1,p',hu.2.2,hI⟩)
  · obtain ⟨t,e⟩:=r
    obtain ⟨rfl,hk,p',hE,hI⟩:=hr'
    simp only at hk hE
    simp only [p2]
    refine aL2 (aEY (λk=>absurd rfl k) λhe=>?_)
    have hlt:t.bP.length<40:=by rw [hk.rc];exact hr
    have hc:=hC.of hk hE (bBH hC.lb hI.b)
    have hq64:XE q:=by unfold XE;omega
    have ha64:XE a:=by unfold XE;omega
    refine x_a (aL2 (x_a (aEV ⟨rfl,⟨p',?_,hI⟩,hk.tr,hk.sl,by simp [hk.rc]⟩)))
    exact ⟨hk.q.aXS hlt ⟨hq64,ha64,hq64,ha64,aP0,Int.le_refl 0,(by decide:(0:Int)<=1)⟩,hc.m2,hc.en,hc.lb,hc.w1,λe h0 h1=>let r:=hc.iN e h0 h1;⟨r.e0,r.e1,r.i0,r.i1,r.x,r.m1,r.m,r.c1,r.c⟩,hc.tr⟩
end Go.Pv
