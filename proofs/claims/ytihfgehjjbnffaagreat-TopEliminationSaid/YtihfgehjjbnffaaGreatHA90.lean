import Derived.Test.YtihfgehjjbnffaaGreatGD90
import Derived.Test.YtihfgehjjbnffaaGreatGB90
set_option linter.unusedVariables false
set_option linter.unusedSimpArgs false
namespace Go.Pv
open Go.Proofs
set_option maxRecDepth 100000
set_option maxHeartbeats 1000000
theorem wW {α:Type} (f:α->Int):∀ {l:List α} {i:Nat} {x y:α},l[i]?=some x->sI ((l.set i y).map f)=sI (l.map f)-f x+f y
  | [],_,_,_,h=>by simp at h
  | a :: l,0,x,y,h=>by
    simp only [List.getElem?_cons_zero,Option.some.injEq] at h
    subst h;simp only [List.set,List.map_cons,sI];omega
  | a :: l,i+1,x,y,h=>by
    simp only [List.getElem?_cons_succ] at h
    have:=wW f (l:=l) (y:=y) h
    simp only [List.set,List.map_cons,sI,this];omega
theorem I4 {α:Type} (f:α->Int):∀ {l:List α} {i:Nat} {x y:α},l[i]?=some x->eT ((l.set i y).map f)=eT (l.map f)-(f x).natAbs+(f y).natAbs
  | [],_,_,_,h=>by simp at h
  | a :: l,0,x,y,h=>by
    simp only [List.getElem?_cons_zero,Option.some.injEq] at h
    subst h;simp only [List.set,List.map_cons,eT];omega
  | a :: l,i+1,x,y,h=>by
    simp only [List.getElem?_cons_succ] at h
    have:=I4 f (l:=l) (y:=y) h
    simp only [List.set,List.map_cons,eT,this];omega
structure RI (p0 l:List aM) (v0 left i:Int):Prop where
  len:l.length=p0.length
  lq:LQ l
  q:lQ l=lQ p0
  p:lP l=lP p0
  a:lA l=lA p0
  v:lV l+left=lV p0+v0
  lo:-(i*288230376151711744)<=left
  hi:left<=288230376151711744
  fin:i=p0.length->left=0
def fQ (p:aT):Int:=lQ p.bJ
def fV (p:aT):Int:=lV p.bJ
def fP (p:aT):Int:=lP p.bJ
def fA (p:aT):Int:=lA p.bJ
def eS (f:aT->Int) (x:aP):Int:=sI (x.cK.map f)
def gS (f:aT->Int) (s:aA):Int:=sI (s.aW.map (eS f))
def rL (x:aP):Int:=match x.d9 with | r :: _=>r.lJ | []=>0
def gL (s:aA):Int:=sI (s.aW.map rL)
def gX (x:aP):List Int×Nat:=(x.Down,x.cK.length)
theorem aHK {α β:Type} (f:α->β):∀ {l:List α} {i:Nat} {x y:α},l[i]?=some y->f x=f y->(l.set i x).map f=l.map f
  | [],_,_,_,h,_=>by simp at h
  | a :: l,0,x,y,h,e=>by
    simp only [List.getElem?_cons_zero,Option.some.injEq] at h
    subst h;simp only [List.set,List.map_cons,e]
  | a :: l,i+1,x,y,h,e=>by
    simp only [List.getElem?_cons_succ] at h
    simp only [List.set,List.map_cons,aHK f h e]
def rE (s:aA):Prop:=∀ x∈s.aW,∀ p∈x.cK,LB p.bJ
structure Mv (s t:aA) (q v p a d:Int):Prop where
  k:SK s t
  q:gS fQ t=gS fQ s+q
  v:gS fV t=gS fV s+v
  p:gS fP t=gS fP s+p
  a:gS fA t<=gS fA s+a
  l:gL t=gL s+d
  b:rE t
  g:t.aW.map gX=s.aW.map gX
theorem lG:∀ {l:List Int},(∀ x∈l,0<=x)->0<=sI l/\∀ x∈l,x<=sI l
  | [],_=>⟨by simp [sI],λ_ h=>by cases h⟩
  | x :: l,h=>by
    have h1:=lG (l:=l) λy hy=>h y (List.mem_cons_of_mem _ hy)
    have h2:=h x (List.mem_cons_self ..)
    refine ⟨by simp only [sI];omega,λy hy=>?_⟩
    simp only [sI]
    rcases List.mem_cons.1 hy with rfl | hy
    · omega
    · have:=h1.2 y hy;omega
theorem jY {α:Type} {l:List α} {f:α->Int} (h:∀ x∈l,0<=f x):∀ y∈l.map f,0<=y:=λy hy=>by
  obtain ⟨x,hx,rfl⟩:=List.mem_map.1 hy
  exact h x hx
theorem rE.nn {s:aA} (h:rE s):0<=gS fQ s/\0<=gS fV s/\0<=gS fA s :=
  ⟨(lG (jY λx hx=>(lG (jY λp hp=>(nJ (h x hx p hp).ok).1)).1)).1,(lG (jY λx hx=>(lG (jY λp hp=>(nJ (h x hx p hp).ok).2)).1)).1,(lG (jY λx hx=>(lG (jY λp hp=>BA _)).1)).1⟩
def BC (s:aA):Prop:=∀ mt∈s.bF.Methods,∀ m∈mt,M3 m
theorem BC.sk {s t:aA} (h:BC s) (k:SK s t):BC t:=by unfold BC;rw [k.ma];exact h
theorem rE.set {s:aA} (hb:rE s) {i k:Nat} {y:aP} {p:aT} (hy:s.aW[i]?=some y) (hp:LB p.bJ):∀ q∈y.cK.set k p,LB q.bJ:=λq hq=>by
  rcases List.mem_or_eq_of_mem_set hq with hq | rfl
  · exact hb y (List.mem_of_getElem? hy) q hq
  · exact hp
def nI (s:aA):Int:=sI (s.bL.map dD.aS)
def jI (s:aA):Int:=sI (s.bL.map dD.Value)
def iM (s:aA):Int:=sI (s.bL.map dD.bE)
def qU (s:aA):Int:=eT (s.bL.map dD.bE)
def C7 (s:aA):Prop:=∀ t∈s.bL,0<=t.aS/\0<=t.Value/\t.Item=0
structure Gm (s t:aA) (q w A d:Int):Prop where
  q:gS fQ t+nI t=gS fQ s+nI s+q
  w:gS fV t+jI t-gS fP t-iM t=gS fV s+jI s-gS fP s-iM s+w
  v:gS fV t+jI t<=gS fV s+jI s+A
  a:gS fA t+qU t<=gS fA s+qU s+A+gS fV s
  l:gL t=gL s+d
  b:rE t
  tr:C7 t
  el:t.aW.length=s.aW.length
  ma:t.bF=s.bF
  g:t.aW.map gX=s.aW.map gX
  iN:∀ {e i:Int},mM s e i->mM t e i
theorem aP7 (a:List dD) (x:dD):sI ((a++[x]).map dD.aS)=sI (a.map dD.aS)+x.aS/\sI ((a++[x]).map dD.Value)=sI (a.map dD.Value)+x.Value/\sI ((a++[x]).map dD.bE)=sI (a.map dD.bE)+x.bE/\eT ((a++[x]).map dD.bE)=eT (a.map dD.bE)+x.bE.natAbs:=by
  simp only [List.map_append,sD,E5,List.map_cons,List.map_nil,sI,eT]
  refine ⟨?_,?_,?_,?_⟩ <;> omega
theorem DN {α:Type} {P:α->Prop} {a b:Option α} (h:Ex P b):Ex P (cond (!true) a b):=h
theorem R7 {s:aA} {e i:Int} (h:SQ s) (hi:mM s e i):yJ s e i=some true:=by
  have hw:=h.wl;have h1:=hi.e0;have h2:=hi.e1;have h3:=hi.i0;have h4:=hi.i1
  refine kG ?_
  unfold yJ VE;simp only [WT.run,bU]
  refine aB (λb=>b=false) ?_ λb hb=>cZ (λk=>by rw [hb] at k;cases k) λ_=>?_
  · exact aD (aU (λk=>absurd k (by omega)) λ_=>aD (aU (λk=>absurd k (by omega)) λ_=>aD (aU (λk=>absurd k (by omega)) λ_=>aD (aF (decide_eq_false (by omega))))))
  · refine bP h1 h2 λx hx=>?_
    have hx2:=hi.x x hx
    exact aB (λb=>b=true) (cO (aD (aU (λ_=>aD (aU (λ_=>aD (aU (λ_=>aD (aU (λ_=>bP h1 hi.m1 λm hm=>aD (aU (λ_=>bP h1 hi.c1 λc hc=>aD (aF (decide_eq_true (hi.c c hc)))) λk=>absurd (hi.m m hm) k)) λk=>absurd hi.c1 k)) λk=>absurd hi.m1 k)) λk=>absurd hx2.2 k)) λk=>absurd hx2.1 k))) λb hb=>aF hb
theorem aMZ {a b c:Int} (h:b<=a/\a<=c):mE a b c=some true:=by
  refine kG ?_
  unfold mE SF;simp only [WT.run,bU]
  exact aB (λr=>r=true) (aD (aU (λ_=>aD (aF (decide_eq_true h.2))) λk=>absurd h.1 k)) λr hr=>aF hr
theorem P4 {s:aA} {e i l:Int} (h:SQ s) (hi:mM s e i) (hl:0<=l/\l<=1):xG s e i l=some (i*2+l):=by
  have hw:=h.wl;have h3:=hi.i0;have h4:=hi.i1
  refine kG ?_
  unfold xG VJ;simp only [WT.run,bU]
  refine aB (λb=>b=false) ?_ λb hb=>cZ (λk=>by rw [hb] at k;cases k) λ_=>cO (cO (aF rfl))
  exact x_eq (R7 h hi) (aD (DN (x_eq (aMZ hl) (aD (aF rfl)))))
theorem aL6 {s:aA} {e i l:Int} {y:aP} {p:aT} (h:SQ s) (hi:mM s e i) (hl:0<=l/\l<=1) (hy:s.aW[e.toNat]?=some y) (hp:y.cK[(i*2+l).toNat]?=some p):uQ s e i l=some p:=by
  have h3:=hi.i0
  have hq:=((h.at hy).at hp).1.1
  refine kG ?_
  unfold uQ PW;simp only [WT.run,bU]
  exact x_eq (P4 h hi hl) (aD (aU (λk=>absurd k (by omega)) λ_=>iL hi.e0 hy (iL (by omega) hp (dI (aF rfl)))))
theorem vW:∀ {l:List Int},(∀ x∈l,0<=x)->eT l=sI l
  | [],_=>rfl
  | x :: l,h=>by
    have h1:=vW (l:=l) λy hy=>h y (List.mem_cons_of_mem _ hy)
    have h2:=h x (List.mem_cons_self ..)
    simp only [eT,sI,h1];omega
theorem aV3 {n:Nat} {l:List aM} (hn:250<=n) (hb:LB l):uR n l=some (tot l,0):=by
  have hl:=hb.len
  obtain ⟨⟨t,e⟩,h1,h2,h3⟩:=VK (n:=n) (l:=l) ⟨by omega,hn⟩
  simp only at h2 h3
  have z1:(jC (l.map aM.aS)).2=0:=by
    rw [pY (by rw [vW (sO λx hx=>by have:=hb.ok x hx;omega)];exact hb.q)]
  have z2:(jC (l.map aM.Value)).2=0:=by
    rw [pY (by rw [vW (sO λx hx=>(hb.ok x hx).2)];exact hb.v)]
  have z3:(jC (l.map aM.bE)).2=0:=by
    rw [pY hb.a]
  have he:=h3 ⟨z1,z2,z3⟩
  rw [h1,he,(h2 he).1]
theorem o6 {α β:Type} (f:α->β) {l:List α} {i:Int} {x:α} (h0:0<=i) (hx:l[i.toNat]?=some x):(l.take (i+1).toNat).map f=(l.take i.toNat).map f++[f x]:=by
  rw [show (i+1).toNat=i.toNat+1 by omega,List.take_add_one,hx]
  simp
theorem TZ (p:aT):((fP p).natAbs:Int)<=fA p:=VT _
theorem aXC {n:Nat} {s:aA} {e:Int} {y:aP} (hn:250<=n) (h:SQ s) (hi:mM s e 0) (hb:rE s) (hy:s.aW[e.toNat]?=some y) (h2:y.cK.length=2) (b1:eS fQ y<=288230376151711744) (b2:eS fV y<=288230376151711744) (b3:eS fA y<=288230376151711744):AL n s e 0=some (⟨eS fQ y,eS fV y,eS fP y⟩,true):=by
  have hbp:=hb y (List.mem_of_getElem? hy)
  refine kG ?_
  unfold AL UL;simp only [WT.run,bU]
  refine aB (λa=>a=(y.cK.map fQ,y.cK.map fV,y.cK.map fP)) (gJ (m:=2) (λv=>v.1) (λv=>v.2.1=(y.cK.take v.1.toNat).map fQ/\v.2.2.1=(y.cK.take v.1.toNat).map fV/\v.2.2.2=(y.cK.take v.1.toNat).map fP) ⟨by simp,by simp,by simp⟩ (by omega) λv h1 h2' h3=>?_) λa ha=>?_
  · obtain ⟨k,p,q,w⟩:=v
    simp only at h1 h2' h3
    obtain ⟨rfl,rfl,rfl⟩:=h3
    simp only [p2]
    refine aD (aU (λhk=>?_) λ_=>bZ (aF ?_))
    · have hp:=List.getElem?_eq_getElem (l:=y.cK) (i:=k.toNat) (by omega)
      generalize y.cK[k.toNat]'(by omega)=p at hp
      have hL:(y.cK.take k.toNat).length<=2:=by simp only [List.length_take];omega
      have hpb:=hbp p (List.mem_of_getElem? hp)
      refine x_eq (aL6 h hi (by omega) hy (p:=p) (by rw [show (0*2+k).toNat=k.toNat by omega];exact hp)) (x_eq (aV3 hn hpb) ?_)
      refine aD (gU (by simp only [List.length_append,List.length_map,List.length_singleton];omega) (aD (gU (by simp only [List.length_append,List.length_map,List.length_singleton];omega) (aD (gU (by simp only [List.length_append,List.length_map,List.length_singleton];omega) (cO (bM ⟨by omega,rfl,(o6 _ h1 hp).symm,(o6 _ h1 hp).symm,(o6 _ h1 hp).symm⟩)))))))
    · rw [List.take_of_length_le (by omega)]
  · subst ha
    simp only [p2]
    have nq:∀ x∈y.cK.map fQ,0<=x:=jY λp hp=>(nJ (hbp p hp).ok).1
    have nv:∀ x∈y.cK.map fV,0<=x:=jY λp hp=>(nJ (hbp p hp).ok).2
    have hA:∀ l:List aT,eT (l.map fP)<=sI (l.map fA):=by
      intro l
      induction l with
      | nil=>simp [eT,sI]
      | cons p l ih=>have:=TZ p;simp only [List.map_cons,eT,sI];omega
    have hA2:=hA y.cK
    have e1:=pI (n:=n) (l:=y.cK.map fQ) ⟨by simp;omega,hn⟩
    have e2:=pI (n:=n) (l:=y.cK.map fV) ⟨by simp;omega,hn⟩
    have e3:=pI (n:=n) (l:=y.cK.map fP) ⟨by simp;omega,hn⟩
    rw [pY (by rw [vW nq];exact b1)] at e1
    rw [pY (by rw [vW nv];exact b2)] at e2
    rw [pY (by unfold eS at b3;omega)] at e3
    exact x_eq e1 (x_eq e2 (x_eq e3 (aD (aD (aF rfl)))))
theorem aEA {n:Nat} {s:aA} {e:Int} {y:aP} (hn:250<=n) (h:SQ s) (hi:mM s e 0) (hb:rE s) (hy:s.aW[e.toNat]?=some y) (h2:y.cK.length=2) (b1:eS fQ y<=288230376151711744) (b2:eS fV y<=288230376151711744) (b3:eS fA y<=288230376151711744):wM n s e 0=some ⟨eS fQ y,eS fV y,eS fP y⟩:=by
  refine kG ?_
  unfold wM aCI;simp only [WT.run,bU]
  exact x_eq (aXC hn h hi hb hy h2 b1 b2 b3) (aF rfl)
theorem aSO:mZ J7:=by
  unfold J7 WK;simp only [WT.run,bU]
  exact aF trivial
theorem aW4 {l:List UInt8} {c:Int}:mZ (sM l c):=by
  unfold sM Z9;simp only [WT.run,bU]
  refine aB (λ_=>True) ?_ λ_ _=>aF trivial
  unfold WA XX;simp only [WT.run,bU]
  exact aD (aF trivial)
theorem aRK {k c:Int}:mZ (qX k c):=by
  unfold qX
  repeat' with_reducible first | exact aF trivial | refine cO ?_ | refine jV ?_ | apply aD | refine bP (by omega) (by omega) λ_ _=>?_ | exact bM trivial | exact bM ⟨by omega,by (first | rfl | omega | (simp only;omega)),trivial⟩ | refine dI ?_ | refine jA (λ_ _=>?_) λ_ _=>trivial | apply jP | apply kL | apply jR | apply jS | apply kF | apply kH | apply jW | apply jZ | apply kC | refine aU (λ_=>?_) λ_=>?_ | refine iK (λ_=>?_) λ_=>?_ | refine cZ (λ_=>?_) λ_=>?_ | apply x_cT | apply x_cF | apply fJ | apply bZ | refine aB _ gF λ_ _=>?_ | refine aB _ fE λ_ _=>?_ | refine aB _ eZ λ_ _=>?_ | refine aB _ gG λ_ _=>?_ | refine aB _ fT λ_ _=>?_ | refine aB _ gH λ_ _=>?_ | refine aB _ gI λ_ _=>?_ | refine aB _ (gF (by assumption)) λ_ _=>?_ | refine aB _ (fE (by assumption)) λ_ _=>?_ | refine aB _ (eZ (by assumption)) λ_ _=>?_ | refine aB _ (gG (by assumption)) λ_ _=>?_ | refine aB _ (fT (by assumption)) λ_ _=>?_ | refine aB _ (gH (by assumption)) λ_ _=>?_ | refine aB _ (gI (by assumption)) λ_ _=>?_
theorem aW6 {n:Nat} {l:List Int} (hn:250<=n) (hl:l.length<20):mZ (I6 n l):=by
  unfold I6 ZZ;simp only [WT.run,bU]
  refine aB (λ_=>True) (gJ (m:=l.length) (λv=>v.1) (λv=>v.2.length=40) ⟨by simp,by simp,by simp⟩ (by omega) λv h1 h2 h3=>?_) λr _=>jA (λ_ _=>aD (aF trivial)) λ_ _=>trivial
  obtain ⟨i,s⟩:=v
  simp only at h1 h2 h3
  simp only [p2]
  refine aD (aU (λhk=>bP h1 hk λx hx=>aB (λb=>b=false->0<=x/\x<40) (aD (aU (λ_=>aF λh=>by cases h) λk1=>aD (aU (λ_=>aF λh=>by cases h) λk2=>gU ⟨by omega,by omega⟩ (bP (by omega) (by omega) λ_ _=>aF λ_=>⟨by omega,by omega⟩)))) λb hb=>cZ (λ_=>bZ (bZ (aF trivial))) λhb'=>?_) λ_=>bZ (bM trivial))
  have hx2:=hb hb'
  exact gU hx2 (bP hx2.1 (by omega) λ_ _=>aD (cO (bM ⟨hk,rfl,by simp;exact h3⟩)))
theorem yQ {x:List UInt8} {k c v:Int} {R:Option Bool} (hR:mZ R):mZ (((((sM x c).bind λ(x11:Int)=>some x11).bind λy=>bnd (decide (y>=0)) λb=>some b).bind λb=>(cond b ((qX k c).bind λp=>some (p.1,p.2)) (some (0,0))).bind (p2 λlo hi=>(some ()).bind λ(_:Unit)=>(bnd (decide (v<lo)) λx17=>cond x17 (some true) (bnd (decide (v>hi)) λx18=>some x18)).bind λb=>cond b (some false) R))):=by
  refine aB (λ_=>True) (aB (λ_=>True) (aB (λ_=>True) aW4 λ_ _=>aF trivial) λ_ _=>aD (aF trivial)) λ_ _=>aB (λ_=>True) (cZ (λ_=>aB _ aRK λ_ _=>aF trivial) λ_=>aF trivial) λr _=>?_
  show Ex _ (Option.bind (bnd (decide (v<r.1)) λx17=>cond x17 (some true) (bnd (decide (v>r.2)) λx18=>some x18)) _)
  exact aB (λ_=>True) (aD (aU (λ_=>aF trivial) λ_=>aD (aF trivial))) λ_ _=>cZ (λ_=>aF trivial) λ_=>hR
theorem aHG {n:Nat} {o:bQ} (hn:250<=n) (hr:o.dQ.length<20):mZ (qB n o):=by
  unfold qB
  refine aB (λb=>b=false->1<=o.Kind/\o.Kind<=16) (aD (aU (λ_=>aF λh=>by cases h) λh1=>aD (aF λh2=>by have:=of_decide_eq_false h2;omega))) λb hb=>cZ (λ_=>aF trivial) λhb'=>aB _ aSO λf _=>bP (by have:=hb hb';omega) (by have:=hb hb';simp;omega) λx hx=>?_
  refine yQ (yQ (yQ (yQ (yQ (yQ (yQ ?_))))))
  refine aD (aU (λ_=>aB _ (aW6 hn hr) λ_ _=>aF trivial) λ_=>aB (λ_=>True) ?_ λ_ _=>aF trivial)
  repeat' with_reducible first | exact aF trivial | refine cO ?_ | refine jV ?_ | apply aD | refine bP (by omega) (by omega) λ_ _=>?_ | exact bM trivial | exact bM ⟨by omega,by (first | rfl | omega | (simp only;omega)),trivial⟩ | refine dI ?_ | refine jA (λ_ _=>?_) λ_ _=>trivial | apply jP | apply kL | apply jR | apply jS | apply kF | apply kH | apply jW | apply jZ | apply kC | refine aU (λ_=>?_) λ_=>?_ | refine iK (λ_=>?_) λ_=>?_ | refine cZ (λ_=>?_) λ_=>?_ | apply x_cT | apply x_cF | apply fJ | apply bZ | refine aB _ gF λ_ _=>?_ | refine aB _ fE λ_ _=>?_ | refine aB _ eZ λ_ _=>?_ | refine aB _ gG λ_ _=>?_ | refine aB _ fT λ_ _=>?_ | refine aB _ gH λ_ _=>?_ | refine aB _ gI λ_ _=>?_ | refine aB _ (gF (by assumption)) λ_ _=>?_ | refine aB _ (fE (by assumption)) λ_ _=>?_ | refine aB _ (eZ (by assumption)) λ_ _=>?_ | refine aB _ (gG (by assumption)) λ_ _=>?_ | refine aB _ (fT (by assumption)) λ_ _=>?_ | refine aB _ (gH (by assumption)) λ_ _=>?_ | refine aB _ (gI (by assumption)) λ_ _=>?_
structure OQ (o:bQ):Prop where
  q:dB o.aS/\dB o.bO
  r:o.dQ.length<20
structure Ap (s:aA) (r:aA×Int):Prop where
  q:SQ r.1
  no:r.2≠0->r.1=s
  ok:r.2=0->r.1.Done=if 288230376151711744<bA (s.Done+1) then 288230376151711744 else bA (s.Done+1)
theorem SQ.done {s:aA} (h:SQ s) {k:Int}:SQ ⟨s.bF,s.aW,s.dG,s.dO,s.bL,k⟩:=⟨h.el,h.eq,h.wl,h.ml,h.mq,h.cl,h.cq,h.rl,h.rq,h.sl,h.sq,h.tl,h.tq⟩
inductive Rn (n:Nat) (s:aA):List bQ->aA->List Int->Prop
  | nil:Rn n s [] s []
  | snoc {l:List bQ} {a:aA} {e:List Int} {o:bQ} {t:aA} {x:Int}:Rn n s l a e->FL n a o=some (t,x)->Rn n s (l++[o]) t (e++[x])
structure OT (o:bQ) (A:Int):Prop where
  q:dB o.aS
  a0:0<=o.bO
  a1:o.bO+20<=A
  i:o.Item=0
  k:o.Kind=1\/o.Kind=8\/o.Kind=11\/o.Kind=12\/o.Kind=13
  r:o.Kind=11->∃ k,o.dQ=[k]
  rl:o.dQ.length<20
theorem F6 {p q:Prop} {_:Decidable p} {_:Decidable q}:Ex (λb=>b=true↔p\/q) (bnd (decide p) λx=>cond x (some true) (bnd (decide q) λx=>some x)) :=
  aD (aU (λh=>aF ⟨λ_=>.inl h,λ_=>rfl⟩) λh=>aD (aF ⟨λk=>.inr (of_decide_eq_true k),λk=>decide_eq_true (k.resolve_left h)⟩))
theorem aW8 {p q r t:Prop} {_:Decidable p} {_:Decidable q} {_:Decidable r} {_:Decidable t}:Ex (λb=>b=true↔p\/q\/r\/t) (bnd (decide p) λx=>cond x (some true) (bnd (decide q) λx=>cond x (some true) (bnd (decide r) λx=>cond x (some true) (bnd (decide t) λx=>some x)))) :=
  aD (aU (λh=>aF ⟨λ_=>.inl h,λ_=>rfl⟩) λh=>aD (aU (λh=>aF ⟨λ_=>.inr (.inl h),λ_=>rfl⟩) λh2=>aD (aU (λh=>aF ⟨λ_=>.inr (.inr (.inl h)),λ_=>rfl⟩) λh3=>aD (aF ⟨λk=>.inr (.inr (.inr (of_decide_eq_true k))),λk=>decide_eq_true (((k.resolve_left h).resolve_left h2).resolve_left h3)⟩))))
theorem Gm.done {s t:aA} {q w A d k:Int} (h:Gm s t q w A d):Gm s ⟨t.bF,t.aW,t.dG,t.dO,t.bL,k⟩ q w A d :=
  ⟨h.q,h.w,h.v,h.a,h.l,h.b,h.tr,h.el,h.ma,h.g,λi=>let r:=h.iN i;⟨r.e0,r.e1,r.i0,r.i1,r.x,r.m1,r.m,r.c1,r.c⟩⟩
def gA (p:Int->Bool) (x:aQ):Int:=if p x.jH then x.bO else 0
def pS (p:Int->Bool) (l:List aQ):Int:=sI (l.map (gA p))
def lB (l:List aQ):Int:=eT (l.map aQ.bO)
theorem aF2 (p:Int->Bool) (a b:List aQ):pS p (a++b)=pS p a+pS p b:=by unfold pS;rw [List.map_append,sD]
theorem VC (a b:List aQ):lB (a++b)=lB a+lB b:=by unfold lB;rw [List.map_append,E5]
theorem aCK (p:Int->Bool) (x:aQ):pS p [x]=gA p x:=by simp [pS,sI]
theorem XT (x:aQ):lB [x]=x.bO.natAbs:=by simp [lB,eT]
theorem zA (l:List aQ):0<=lB l:=GM _
theorem GB {l:List aQ} {x:aQ} (h:x∈l):(x.bO.natAbs:Int)<=lB l:=by
  induction l with
  | nil=>cases h
  | cons y l ih =>
    have h1:=zA l
    have e:lB (y :: l)=y.bO.natAbs+lB l:=rfl
    rw [e]
    rcases List.mem_cons.1 h with rfl | h
    · omega
    · have:=ih h;omega
theorem aH3 (p:Int->Bool) (l:List aQ):((pS p l).natAbs:Int)<=lB l:=by
  induction l with
  | nil=>simp [pS,lB,sI,eT]
  | cons y l ih =>
    have e:lB (y :: l)=y.bO.natAbs+lB l:=rfl
    have e2:pS p (y :: l)=gA p y+pS p l:=rfl
    rw [e,e2];unfold gA;split <;> omega
structure PL (l0 l:List aQ):Prop where
  v:iA l
  s:∀ p,pS p l=pS p l0
  b:lB l<=lB l0
  n:l.length=l0.length
theorem PL.swap {l0 l:List aQ} (h:PL l0 l) {i j:Nat} {a c:aQ} (hij:i≠j) (ha:l[i]?=some a) (hc:l[j]?=some c):PL l0 ((l.set j a).set i c):=by
  have hi:(l.set j a)[i]?=some a:=by rw [List.getElem?_set_ne (by omega)];exact ha
  refine ⟨(h.v.set (h.v.at ha)).set (h.v.at hc),λp=>?_,?_,by simp;exact h.n⟩
  · have:=h.s p
    unfold pS at this ⊢
    rw [wW (gA p) hi,wW (gA p) hc];omega
  · have:=h.b
    unfold lB at this ⊢
    rw [I4 aQ.bO hi,I4 aQ.bO hc];omega
theorem aB3 {a:Int} (h:0<=a/\a<17):zD a=some true:=by
  refine kG ?_
  unfold zD QJ;simp only [WT.run,bU]
  exact aB (λb=>b=true) (aD (aU (λ_=>aD (aF (decide_eq_true h.2))) λk=>absurd h.1 k)) λb hb=>aF hb
theorem aEH {a:Int} (h:(a.natAbs:Int)<=288230376151711744):zV a=some true:=by
  refine kG ?_
  unfold zV O1;simp only [WT.run,bU]
  exact aB (λb=>b=true) (aD (aU (λ_=>aD (aF (decide_eq_true (by omega)))) λk=>absurd (by omega) k)) λb hb=>aF hb
theorem aNA {x:aQ} (h:VA x) (hb:(x.bO.natAbs:Int)<=288230376151711744):CE x=some false:=by
  refine kG ?_
  unfold CE PD;simp only [WT.run,bU]
  exact aB (λb=>b=false) (x_eq (aB3 h) (aD (DN (x_eq (aEH hb) (aD (aF rfl)))))) λb hb=>aF hb
theorem aC4 {x:aQ}:Ex (λb=>b=true↔x.bO=0) (zC x):=by
  unfold zC O3;simp only [WT.run,bU]
  exact aD (aF ⟨λh=>of_decide_eq_true h,λh=>decide_eq_true h⟩)
theorem L3 {a b:Int} (h:(a.natAbs:Int)+b.natAbs<=288230376151711744):sN a b=(a+b,0):=by
  unfold sN
  rw [if_pos (by unfold gY;omega)]
theorem yM (p:Int->Bool) {l:List aQ} {i:Int} {x:aQ} (h0:0<=i) (hx:l[i.toNat]?=some x):pS p (l.take (i+1).toNat)=pS p (l.take i.toNat)+gA p x/\lB (l.take (i+1).toNat)=lB (l.take i.toNat)+x.bO.natAbs:=by
  unfold pS lB
  rw [o6 (gA p) h0 hx,o6 aQ.bO h0 hx,sD,E5]
  simp [sI,eT]
theorem WI (l:List aQ) (i:Nat):lB (l.take i)<=lB l:=by
  have h:lB l=lB (l.take i)+lB (l.drop i):=by rw [<- VC,List.take_append_drop]
  have:=zA (l.drop i);omega
theorem J2 {α:Type}:∀ {l:List α} {i:Nat} {x:α},i<l.length->(l.set i x).take (i+1)=l.take i++[x]
  | [],_,_,h=>by simp at h
  | a :: l,0,x,_=>by simp
  | a :: l,i+1,x,h=>by
    simp only [List.length_cons] at h
    have:=J2 (l:=l) (i:=i) (x:=x) (by omega)
    simp only [List.set,List.take_succ_cons,List.cons_append,this]
structure DI (q q':List aQ) (a b:Int):Prop where
  a0:0<=a
  ab:a<b
  n:q'.length=q.length
  v:iA q'
  s:∀ p,pS p (q'.take a.toNat)=pS p (q.take b.toNat)
  l:lB (q'.take a.toNat)<=lB (q.take b.toNat)
  z:∀ x∈q'.take a.toNat,x.bO≠0
  r:∀ i:Nat,b<=i->q'[i]?=q[i]?
theorem NG {n:Nat} {l:List aQ} (hn:250<=n) (hl:l.length<20) (hV:iA l) (hB:lB l<=288230376151711744):Ex (λr=>r.2=0/\iA r.1/\r.1.length<=l.length/\(∀ p,pS p r.1=pS p l)/\lB r.1<=lB l/\∀ x∈r.1,x.bO≠0) (xC n l):=by
  unfold xC PU;simp only [WT.run,bU]
  refine aB (λb=>b=false) (aB (λj=>j<0) (aB (λr=>match r with | .inl _=>True | .inr j=>False) (gJ (m:=l.length) (λv=>v) (λv=>True) ⟨by simp,by simp,trivial⟩ (by omega) λv h1 h2 h3=>?_) λr hr=>?_) λj hj=>aD (aF (decide_eq_false (Int.not_le.2 hj)))) λb hb=>cZ (λk=>by rw [hb] at k;cases k) λhb'=>?_
  · refine aD (aU (λhv=>bP h1 hv λx hx=>x_eq (aNA (hV.at hx) (by have:=GB (List.mem_of_getElem? hx);omega)) ?_) λhv=>bZ (bM trivial))
    exact cZ (λk=>nomatch k) λ_=>cO (bM ⟨hv,rfl,trivial⟩)
  · cases r with
    | inl u=>exact aF (by decide)
    | inr j=>exact hr.elim
  have once:∀ {p:Prop} [Decidable p],¬ p->Ex (λ_=>True) (iter (λ_:Unit=>bnd (decide p) λx=>gZ (x=false) (esc (some ()):Option (Unit⊕Unit))) n ()):=λ{p} _ hp=>qG (λ_=>True) (λ_=>0) (λ_ _=>aD (gU (decide_eq_false hp) (bZ (aF trivial)))) trivial (by omega)
  have hid:∀ {β:Type} {P:β->Prop} {D:Option β},Ex P D->Ex P (D.bind λy=>some y):=λ{β P D} h=>aB P h λa ha=>aF ha
  refine dI (aB (λr=>PL l r) (hid (hid (aB _ (once (by omega)) λ_ _=>aB (λr=>PL l r) (hid ?_) λy hy=>gU hy.n (aB _ (once (by omega)) λ_ _=>aF hy)))) λy hy=>gU hy.n ?_)
  · refine qG (λv=>1<=v.1/\PL l v.2) (λv=>((l.length:Int)-v.1).toNat) (λv hv=>?_) ⟨by simp,hV,λ_=>rfl,Int.le_refl _,rfl⟩ (by simp only;omega)
    obtain ⟨k,q⟩:=v
    obtain ⟨h1,h2⟩:=hv
    simp only at h1 h2
    simp only [p2]
    refine aD (aU (λhk=>aB (λr=>PL l r) (hid ?_) λr hr=>cO (bM ⟨⟨by omega,hr⟩,by omega⟩)) λ_=>bZ (aF h2))
    refine qG (λw=>0<=w.1/\w.1<(l.length:Int)/\PL l w.2) (λw=>w.1.toNat) (λw hw=>?_) ⟨by simp only;omega,hk,h2⟩ (by simp only;omega)
    obtain ⟨j,q⟩:=w
    obtain ⟨g1,g2,g3⟩:=hw
    simp only at g1 g2 g3
    have g4:=g3.n
    simp only [p2]
    refine aB (λb=>b=true->0<j) (aD (aU (λhj=>bP g1 (by omega) λa ha=>cO (bP (by omega) (by omega) λb hb=>aB (λ_=>True) (aB _ ME λ_ _=>aB _ ME λ_ _=>aB _ aFG λ_ _=>aF trivial) λ_ _=>aD (aF λ_=>hj))) λ_=>aF λh=>by cases h)) λb hb=>cZ (λhb'=>?_) λ_=>bZ (aF g3)
    have hj:=hb hb'
    refine cO (cO (bP (by omega) (by omega) λa ha=>bP g1 (by omega) λc hc=>aD (bP (by omega) (by simp;omega) λ_ _=>aD (cO (bM ⟨⟨by omega,by omega,?_⟩,by simp only;omega⟩)))))
    exact g3.swap (by omega) ha hc
  · have hyl:=hy.n
    refine aB (λr=>match r with | .inl q=>iA q/\q.length<=l.length/\(∀ p,pS p q=pS p l)/\lB q<=lB l | .inr r=>False) (gJ (m:=l.length) (λv=>v.1) (λv=>iA v.2/\(v.2.length:Int)<=v.1/\(∀ p,pS p v.2=pS p (y.take v.1.toNat))/\lB v.2<=lB (y.take v.1.toNat)) ⟨by simp,by simp,(λx h=>by cases h),by simp,λp=>by simp [pS],by simp⟩ (by omega) λv h1 h2 h3=>?_) λr hr=>?_
    · obtain ⟨k,q⟩:=v
      obtain ⟨h3,h4,h5,h6⟩:=h3
      simp only at h1 h2 h3 h4 h5 h6
      simp only [p2]
      refine aD (aU (λhk=>aB (λr=>match r with | .inl q=>iA q/\(q.length:Int)<=k+1/\(∀ p,pS p q=pS p (y.take (k+1).toNat))/\lB q<=lB (y.take (k+1).toNat) | .inr t=>False) (bP h1 (by omega) λa ha=>cO (aB (λb=>b=true->(0:Int)<=q.length-1/\∀ z,q[((q.length:Int)-1).toNat]?=some z->z.jH=a.jH) (aD (aU (λhp=>bP hp (by omega) λb hb=>aD (aF λhe=>⟨hp,λz hz=>by rw [hb] at hz;cases hz;exact of_decide_eq_true he⟩)) λ_=>aF λh=>by cases h)) λb hb=>cZ (λhb'=>?_) λ_=>aD (gU (by rw [List.length_append];simp;omega) (bM ⟨h3.app (hy.v.at ha),by rw [List.length_append];simp;omega,λp=>?_,?_⟩)))) λr hr=>?_) λ_=>bZ (bM ⟨h3,by omega,λp=>?_,?_⟩))
      · have hT:=λp=>yM p h1 ha
        have hBt:=WI y (k+1).toNat
        have hb0:=hy.b
        refine bP (hb hb').1 (by omega) λb2 hb2=>x_eq (GL _ _) ?_
        have hac:=(hb hb').2 b2 hb2
        have hbb:=GB (List.mem_of_getElem? hb2)
        have hT1:=(hT λ_=>true).2
        rw [L3 (by omega)]
        refine aD (aU (λk=>absurd rfl k) λ_=>aD (bM ⟨h3.set (show VA (⟨b2.jH,_⟩:aQ) from (h3.at hb2:VA b2)),by simp;omega,λp=>?_,?_⟩))
        · have h7:=h5 p
          rw [(hT p).1,<- h7]
          unfold pS
          rw [wW (gA p) hb2]
          unfold gA
          simp only [hac]
          split <;> omega
        · rw [hT1]
          unfold lB at h6 ⊢
          rw [I4 aQ.bO hb2]
          simp only
          omega
      · cases r with
        | inl r=>exact fJ (cO (bM ⟨hk,rfl,hr⟩))
        | inr r=>exact hr.elim
      · rw [h5,List.take_of_length_le (by omega)];exact hy.s p
      · have hb0:=hy.b
        rw [List.take_of_length_le (by omega)] at h6;omega
      · rw [aF2,aCK,(yM p h1 ha).1,h5]
      · rw [VC,XT,(yM (λ_=>true) h1 ha).2];omega
    · cases r with
      | inr r=>exact hr.elim
      | inl q =>
        obtain ⟨hq1,hq2,hq3,hq4⟩:=hr
        refine fJ (aB (λr=>r.1=0/\r.2.1<=r.2.2.length/\r.2.2.length<=l.length/\iA r.2.2/\(∀ p,pS p (r.2.2.take r.2.1)=pS p l)/\lB (r.2.2.take r.2.1)<=lB l/\∀ x∈r.2.2.take r.2.1,x.bO≠0) (aB (λj=>(j=-1/\∀ x∈q,x.bO≠0)\/(0<=j/\j<(q.length:Int)/\(∀ x∈q.take j.toNat,x.bO≠0)/\∃ z,q[j.toNat]?=some z/\z.bO=0)) (aB (λr=>match r with | .inl _=>∀ x∈q,x.bO≠0 | .inr j=>0<=j/\j<(q.length:Int)/\(∀ x∈q.take j.toNat,x.bO≠0)/\∃ z,q[j.toNat]?=some z/\z.bO=0) (gJ (m:=q.length) (λv=>v) (λv=>∀ x∈q.take v.toNat,x.bO≠0) ⟨by simp,by simp,λx h=>by simp at h⟩ (by omega) λv h1 h2 h3=>?_) λr hr=>?_) λj hj=>?_) λr hr=>?_)
        · refine aD (aU (λhv=>bP h1 hv λx hx=>aB _ aC4 λb hb=>cZ (λk=>bZ (bZ (aF ⟨h1,hv,h3,x,hx,hb.1 k⟩))) λk=>cO (bM ⟨hv,rfl,λy hy=>?_⟩)) λhv=>bZ (bM ?_))
          · rw [show (v+1).toNat=v.toNat+1 by omega,List.take_add_one,hx] at hy
            rcases List.mem_append.1 hy with hy | hy
            · exact h3 y hy
            · rw [Option.toList_some,List.mem_singleton] at hy
              rw [hy];intro h;rw [hb.2 h] at k;cases k
          · rw [List.take_of_length_le (by omega)] at h3;exact h3
        · cases r with
          | inl _=>exact fJ (aF (.inl ⟨rfl,hr⟩))
          | inr j=>exact ⟨_,rfl,.inr hr⟩
        · refine aD (aU (λk=>aF ⟨rfl,Nat.le_refl _,hq2,hq1,λp=>?_,?_,?_⟩) λhne=>?_)
          · simp only [List.take_length];exact hq3 p
          · simp only [List.take_length];exact hq4
          · simp only [List.take_length]
            rcases hj with hj | hj
            · exact hj.2
            · omega
          obtain ⟨j0,j1,j2,z,hz,hz0⟩:=hj.resolve_left λh=>hne h.1
          refine cO (aB (λw=>w.1<(q.length:Int)/\DI q w.2 w.1 (q.length:Int)) (qG (λw=>w.2.1<=(q.length:Int)/\DI q w.2.2 w.1 w.2.1) (λw=>((q.length:Int)-w.2.1).toNat) (λw hw=>?_) ⟨by simp only;omega,⟨j0,by simp only;omega,rfl,hq1,λp=>?_,?_,j2,λ_ _=>rfl⟩⟩ (by simp only;omega)) λw hw=>?_)
          · obtain ⟨a,b,q'⟩:=w
            obtain ⟨g1,g2⟩:=hw
            simp only at g1 g2
            simp only [p2]
            have gn:=g2.n;have ga:=g2.a0;have gab:=g2.ab
            refine aD (aU (λhb=>aB (λt=>DI q t.2 t.1 (b+1)) (bP (by omega) hb λx hx=>?_) λt ht=>cO (bM ⟨⟨by simp only;omega,ht⟩,by simp only;omega⟩)) λhb=>bZ (aF ⟨by simp only;omega,?_⟩))
            · have hxq:q[b.toNat]?=some x:=by rw [<- g2.r b.toNat (by omega)];exact hx
              have hT:=λp=>yM p (show 0<=b by omega) hxq
              refine aB _ aC4 λc hc=>aD (iK (λk=>?_) (λk=>?_))
              · have k:x.bO≠0:=λh=>by rw [hc.2 h] at k;cases k
                refine bP ga (by omega) λ_ _=>aD (cO (aF ?_))
                have e:(a+1).toNat=a.toNat+1:=by omega
                refine ⟨by omega,by omega,by simp;exact gn,g2.v.set (g2.v.at hx),λp=>?_,?_,?_,λi hi=>?_⟩
                · rw [e,J2 (by omega),aF2,aCK,(hT p).1,g2.s]
                · rw [e,J2 (by omega),VC,XT,(hT λ_=>true).2];have:=g2.l;omega
                · rw [e,J2 (by omega)]
                  intro y hy
                  rcases List.mem_append.1 hy with hy | hy
                  · exact g2.z y hy
                  · rw [List.mem_singleton.1 hy];exact k
                · rw [List.getElem?_set_ne (by omega)];exact g2.r i (by omega)
              · have k:x.bO=0:=hc.1 k
                refine aF ⟨ga,by simp only;omega,gn,g2.v,λp=>?_,?_,g2.z,λi hi=>g2.r i (by omega)⟩
                · have:gA p x=0:=by unfold gA;rw [k];split <;> rfl
                  rw [(hT p).1,g2.s,this,Int.add_zero]
                · rw [(hT λ_=>true).2,k];have:=g2.l;simp;exact this
            · have:b=(q.length:Int):=by omega
              subst this;exact g2
          · have:=yM p j0 hz
            have h0:gA p z=0:=by unfold gA;rw [hz0];split <;> rfl
            rw [this.1,h0,Int.add_zero]
          · have:=yM (λ_=>true) j0 hz
            rw [this.2,hz0];simp
          · obtain ⟨a,q'⟩:=w
            obtain ⟨g1,g2⟩:=hw
            simp only at g1 g2
            simp only [p2]
            have gn:=g2.n;have ga:=g2.a0
            have hs:=g2.s;have hlb:=g2.l
            simp only [Int.toNat_natCast,List.take_length] at hs hlb
            have hT:(List.take (0+a.toNat) q').take (a.toNat-0)=q'.take a.toNat:=by rw [Nat.zero_add,Nat.sub_zero,List.take_take,Nat.min_self]
            refine dI (aD (dI (aF ⟨rfl,by simp only [List.length_take];omega,by simp only [List.length_take];omega,λx hx=>g2.v x (List.mem_of_mem_take hx),λp=>?_,?_,?_⟩)))
            · simp only [hT];rw [hs p];exact hq3 p
            · simp only [hT];omega
            · simp only [hT];exact g2.z
        · obtain ⟨a,b,q'⟩:=r
          obtain ⟨g1,g2,g3,g4,g5,g6,g7⟩:=hr
          simp only at g1 g2 g3 g4 g5 g6 g7
          subst g1
          simp only [p2,List.drop_zero]
          exact dI (aF ⟨rfl,λx hx=>g4 x (List.mem_of_mem_take hx),by simp only [List.length_take];omega,g5,g6,g7⟩)
end Go.Pv
