import Derived.Test.YtihfgehjjbnffaaGreatTA80
set_option linter.unusedVariables false
set_option linter.unusedSimpArgs false
namespace Go.Pv
open Go.Proofs
set_option maxRecDepth 100000
set_option maxHeartbeats 1000000
theorem IW {n:Nat} {l:List aM} {x:aM} (hn:250<=n) (h:LQ l) (hx:RL x):Ex (λr=>LQ r.1) (xH n l x):=by
  unfold xH PI;simp only [WT.run,bU,Option.bind_some]
  refine aB _ (R3 hn h hx) λr hr=>aD (aU (λ_=>aF hr) λ_=>aB _ (fT (hr.fuel hn)) λt ht=>aD (aU (λ_=>?_) λ_=>aF ⟨by simp,λy hy=>by rw [List.mem_singleton.1 hy];exact ht⟩))
  have:=h.1
  exact dI (aF h)
theorem aEO {n:Nat} {l:List aM} {q:Int} (hn:250<=n) (h:LQ l) (hq:dB q):Ex (λr=>LQ r.1/\RL r.2.1) (uW n l q):=by
  unfold uW VY;simp only [WT.run,bU,Option.bind_some]
  exact aB _ (X9 hn h hq) λr hr=>aF hr
def RA (p:jE):Prop:=dB p.a0/\dB p.a1/\dB p.a2
def iJ (p:aT):Prop:=LQ p.bJ/\RA p.bR
theorem EF {p:aT} {l:List aM} (hp:iJ p) (h:LQ l):Ex iJ (rM p l):=by
  have:=h.1
  unfold rM VZ;simp only [WT.run,bU]
  exact dI (aF ⟨h,hp.2⟩)
theorem aRQ {n:Nat} {p:aT} {x:aM} (hn:250<=n) (hp:iJ p) (hx:RL x):Ex (λr=>iJ r.1) (BO n p x):=by
  unfold BO V6;simp only [WT.run,bU]
  exact aB _ (IW hn hp.1 hx) λr hr=>aB _ (EF hp hr) λq hq=>aF hq
theorem aQJ {k:Int}:Ex (λb=>b=true->0<=k/\k<3) (FF k):=by
  unfold FF YN;simp only [WT.run,bU]
  refine aB (λb=>b=true->0<=k/\k<3) (aD (aU (λh=>aD (aF λh'=>⟨h,of_decide_eq_true h'⟩)) λ_=>aF λh=>by cases h)) λb hb=>aF hb
theorem X7 {n:Nat} {p:aT} (hn:250<=n) (hp:iJ p):Ex dB (BY n p):=by
  have hl:=hp.1.1
  unfold BY aF3;simp only [WT.run,bU]
  refine aB dB (gJ (m:=p.bJ.length) (λv=>v.2) (λv=>dB v.1) ⟨by simp,by simp,iQ⟩ (by omega) λv h1 h2 h3=>?_) λa ha=>?_
  · simp only [p2]
    exact aD (aU (λ_=>bP (by omega) (by omega) λx hx=>aD (cO (bM ⟨by omega,rfl,iU _⟩))) λ_=>bZ (aF h3))
  · refine aB dB (gJ (m:=3) (λv=>v.2) (λv=>dB v.1) ⟨by simp,by simp,ha⟩ (by omega) λv h1 h2 h3=>?_) λb hb=>aF hb
    simp only [p2]
    exact aD (aU (λ_=>bP (by omega) (by simp;omega) λx hx=>aD (cO (bM ⟨by omega,rfl,iU _⟩))) λ_=>bZ (aF h3))
theorem aK7 {n:Nat} {p:aT} {k q:Int} (hn:250<=n) (hp:iJ p):Ex (λr=>iJ r.1) (L6 n p k q):=by
  unfold L6 ZO;simp only [WT.run,bU]
  refine aB _ (EF hp hp.1) λw hw=>aB (λb=>b=false->0<=k/\k<3) ?_ λb hb=>cZ (λ_=>aF hw) λhb'=>?_
  · exact aB _ aQJ λc hc=>aD (iK (λh=>aF λh'=>by cases h') λh=>aD (aF λ_=>hc h))
  · refine aB _ (X7 hn hw) λf hf=>aD (aU (λ_=>aF hw) λ_=>?_)
    have:=hb hb'
    refine aD (aU (λ_=>aD (aF ⟨hw.1,iU _,hw.2.2⟩)) λ_=>aD (aU (λ_=>aD (aF ⟨hw.1,hw.2.1,iU _,hw.2.2.2⟩)) λ_=>dI (aD (aF ⟨hw.1,hw.2.1,hw.2.2.1,iU _⟩))))
theorem aWJ {n:Nat} {p:aT} {q:Int} (hn:250<=n) (hp:iJ p) (hq:dB q):Ex (λr=>iJ r.1/\RL r.2.1) (NU n p q):=by
  unfold NU aF6;simp only [WT.run,bU]
  exact aD (aU (λ_=>aB _ (EF hp hp.1) λw hw=>aF ⟨hw,pN⟩) λ_=>aB _ (X7 hn hp) λf hf=>aD (aU (λ_=>aB _ (EF hp hp.1) λw hw=>aF ⟨hw,pN⟩) λ_=>aB _ (aEO hn hp.1 hq) λr hr=>aB _ (EF hp hr.1) λw hw=>aF ⟨hw,hr.2⟩))
theorem aHN {a:Int}:Ex (λb=>b=true->dB a) (C6 a):=by
  unfold C6 aG2;simp only [WT.run,bU]
  refine aB (λb=>b=true->dB a) (aD (aU (λh=>aD (aF λh'=>?_)) λ_=>aF λh=>by cases h)) λb hb=>aF hb
  have:=of_decide_eq_true h'
  unfold dB;omega
theorem aEY {n:Nat} {a b:Int} (hn:250<=n) (ha:dB a) (hb:dB b):Ex (λr=>dB r.1) (AU n a b):=by
  unfold AU aBH;simp only [WT.run,bU]
  refine aD (aB _ (SV hn ?_ ha (by unfold dB;omega)) λr hr=>aF hr.1)
  split
  · exact iQ
  · exact hb
theorem aR1 {n:Nat} {l:List aM} {x:aM} {c:Int} (hn:250<=n) (h:LQ l) (hx:RL x):Ex (λr=>LQ r.1/\dB r.2.1) (IC n l x c):=by
  have hl:=h.1
  unfold IC aE4;simp only [WT.run,bU]
  refine dI (aB (λb=>b=false->dB c) ?_ λb hb=>cZ (λ_=>aF ⟨h,iQ⟩) λhb'=>?_)
  · exact aB _ aHN λd hd=>aD (iK (λ_=>aF λh'=>by cases h') λh=>aD (aU (λ_=>aF λh'=>by cases h') λ_=>aD (aF λ_=>hd h)))
  · refine aB _ (aEY hn (hb hb') hx.1) λr hr=>aB (λ_=>True) ?_ λb _=>cZ (λ_=>aF ⟨h,iQ⟩) λ_=>aD (aB _ (IW hn h (x:=⟨_,_,_⟩) ⟨hx.1,hr,hx.2.2⟩) λt ht=>aD (aU (λ_=>aF ⟨h,iQ⟩) λ_=>aF ⟨ht,iU _⟩))
    exact aD (aU (λ_=>aF trivial) λ_=>aD (aF trivial))
theorem AY {p:aT} {l:List aM} (hp:iJ p) (h:LQ l):Ex iJ (sZ p l):=by
  unfold sZ VH;simp only [WT.run,bU]
  exact aF ⟨h,hp.2⟩
theorem aG6 {p:aT} (hp:iJ p):Ex iJ (mH p):=by
  have:=hp.1.1
  unfold mH OH;simp only [WT.run,bU]
  exact dI (aF hp)
theorem Y6 {n:Nat} {m c:Int} {p:aT} {x:aM} (hn:250<=n) (hp:iJ p) (hx:RL x):Ex (λr=>iJ r.1/\dB r.2.1) (z8 n m c p x):=by
  unfold z8 O4;simp only [WT.run,bU]
  refine aB (λ_=>True) ?_ λy _=>?_
  · exact aD (aU (λ_=>aF trivial) λ_=>aD (aU (λ_=>aF trivial) λ_=>aD (aU (λ_=>aF trivial) λ_=>aD (aU (λ_=>aF trivial) λ_=>aF trivial))))
  have own:∀ e:Int,Ex (λr:aT×Int×Int=>iJ r.1/\dB r.2.1) ((mH p).bind λx=>some (x,0,e)):=λe=>aB _ (aG6 hp) λr hr=>aF ⟨hr,iQ⟩
  rcases y with u | u | u | u | u <;> simp only [Sum.elim,WT.run,bU]
  · exact aB (λr=>iJ r.1) (aB _ (R3 hn hp.1 hx) λr hr=>aB _ (AY hp hr) λw hw=>aF hw) λr hr=>aD (aU (λ_=>own _) λ_=>aF ⟨hr,iQ⟩)
  · exact aB (λr=>iJ r.1) (aB _ (IW hn hp.1 hx) λr hr=>aB _ (AY hp hr) λw hw=>aF hw) λr hr=>aD (aU (λ_=>own _) λ_=>aF ⟨hr,iQ⟩)
  · exact aB (λr=>iJ r.1) (aB _ (aRQ hn hp hx) λr hr=>aF hr) λr hr=>aD (aU (λ_=>own _) λ_=>aF ⟨hr,iQ⟩)
  · exact aB (λr=>iJ r.1/\dB r.2.1) (aB _ (aR1 hn hp.1 hx) λr hr=>aB _ (AY hp hr.1) λw hw=>aF ⟨hw,hr.2⟩) λr hr=>aD (aU (λ_=>own _) λ_=>aF hr)
  · exact own _
theorem aWB {n:Nat} {l:List aM} {q c:Int} (hn:250<=n) (h:LQ l) (hq:dB q):Ex (λr=>LQ r.1/\RL r.2.1) (MJ n l q c):=by
  have hl:=h.1
  unfold MJ aFU;simp only [WT.run,bU]
  refine aB _ aHN λd hd=>aD (iK (λ_=>dI (aF ⟨h,pN⟩)) λhd'=>?_)
  simp only [Option.bind_some]
  refine aB (λr=>r.1+r.2.1<=r.2.2.2.2.length/\LQ r.2.2.2.2/\RL r.2.2.1) (aB (λr=>r.1+r.2.1<=r.2.2.2.2.length/\LQ r.2.2.2.2/\RL r.2.2.1) (dI (aD (aU (λ_=>aF ⟨by simp,h,pN⟩) λ_=>aB _ (aGO (h.fuel hn)) λ_ _=>aD (cZ (λ_=>aF ⟨by simp,h,pN⟩) λ_=>?_)))) λr hr=>aF hr) λr hr=>?_
  · refine aB (λv=>v.1+v.2.1<=v.2.2.1.length/\LQ v.2.2.1/\RL v.2.2.2) (qG (λv=>v.1+v.2.1<=v.2.2.2.1.length/\dB v.2.2.1/\LQ v.2.2.2.1/\RL v.2.2.2.2) (λv=>if v.2.2.1>0 then v.2.1+1 else 0) ?_ ⟨by simp,hq,h,pN⟩ (by simp only;split <;> omega)) λv hv=>aF hv
    · rintro ⟨a,c,q,l',acc⟩ ⟨hi,hqq,hl,hacc⟩
      simp only at hi hqq hl hacc
      simp only [p2]
      refine aB (λy=>y=true->0<c/\0<q) ?_ λy hy=>cZ (λht=>?_) λ_=>aF ⟨hi,hl,hacc⟩
      · refine aD (aU (λh=>aD (aF λh'=>⟨by omega,of_decide_eq_true h'⟩)) λ_=>aF λh=>by cases h)
      obtain ⟨hc,hq0⟩:=hy ht
      refine dI (bP (by omega) (by omega) λx hx=>?_)
      have hxl:=hl.at hx
      refine aD (aB (λy=>y.1+y.2.1<=y.2.2.1.length/\LQ y.2.2.1/\RL y.2.2.2/\(y.2.1+1=c\/y.2.1=c/\y.2.2.2.aS=q)) (aU (λhb=>?_) λhb=>?_) λy hy=>?_)
      · refine aB _ (BZ hn hxl.2.1 hqq hxl.1) λv1 h1=>aB _ (BZ hn hxl.2.2 hqq hxl.1) λv2 h2=>dI (aD (dI (aD (dI (aD (dI (aD (dI (aD (dI (aD (aF ?_))))))))))))
        exact ⟨by simp;exact hi,((hl.set (x:=⟨_,_,_⟩) ⟨iU _,hxl.2⟩).set (x:=⟨_,_,_⟩) ⟨iU _,iU _,hxl.2.2⟩).set (x:=⟨_,_,_⟩) ⟨iU _,iU _,iU _⟩,⟨hqq,h1,h2⟩,.inr ⟨rfl,rfl⟩⟩
      · refine dI (aD (aF ⟨?_,hl,hxl,.inl ?_⟩))
        · simp only;split <;> omega
        · simp only;omega
      · obtain ⟨a',c',l2,x2⟩:=y
        obtain ⟨k1,k2,k3,k4⟩:=hy
        simp only at k1 k2 k3 k4
        refine aD (aD (aD (aD (bM ⟨⟨k1,iU _,k2,iU _,iU _,iU _⟩,?_⟩))))
        simp only
        rw [if_pos hq0]
        rcases k4 with k4 | ⟨k4,k5⟩
        · split <;> omega
        · rw [k5,if_neg (by rw [Int.sub_self];decide)];omega
  · obtain ⟨a,k,y,e,l'⟩:=r
    obtain ⟨h1,h2,h3⟩:=hr
    simp only at h1 h2 h3
    simp only [p2]
    have cut:∀ l2:List aM,LQ l2->LQ ((l2.drop a).take k):=λl2 h=>⟨by have:=h.1;simp only [List.length_take,List.length_drop];omega,λx hx=>h.2 x (List.mem_of_mem_drop (List.mem_of_mem_take hx))⟩
    refine aB (λb=>b=false->0<k) (aD (aU (λ_=>aF λh=>by cases h) λ_=>aD (aF λh=>by have:=of_decide_eq_false h;omega))) λb hb=>cZ (λ_=>gU h1 (aF ⟨cut _ h2,h3⟩)) λhb'=>?_
    have hk:=hb hb'
    refine aB _ (aEY hn (hd hd') hq) λr hr=>dI (bP (by omega) (by omega) λx hx=>aD ?_)
    have hxl:=h2.at hx
    refine aB (λ_=>True) (aD (aU (λ_=>aF trivial) λ_=>aD (aF trivial))) λb _=>aB dB (cZ (λ_=>aF (iU _)) λ_=>aF hr) λz hz=>dI (aD (aD (dI (aD (gU (by simp;exact h1) (aF ⟨cut _ (h2.set (x:=⟨_,_,_⟩) ⟨hxl.1,iU _,hxl.2.2⟩),h3.1,hz,h3.2.2⟩))))))
theorem aWH {n:Nat} {m c k q:Int} {p:aT} (hn:250<=n) (hp:iJ p) (hq:dB q):Ex (λr=>iJ r.1/\RL r.2.1) (D4 n m c p k q):=by
  unfold D4 QG;simp only [WT.run,bU]
  refine aB (λ_=>True) ?_ λy _=>?_
  · exact aD (aU (λ_=>aF trivial) λ_=>aD (aU (λ_=>aF trivial) λ_=>aD (aU (λ_=>aF trivial) λ_=>aD (aU (λ_=>aF trivial) λ_=>aF trivial))))
  have own:∀ e:Int,Ex (λr:aT×aM×Bool×Int=>iJ r.1/\RL r.2.1) ((mH p).bind λx=>some (x,⟨0,0,0⟩,false,e)):=λe=>aB _ (aG6 hp) λr hr=>aF ⟨hr,pN⟩
  rcases y with u | u | u | u | u <;> simp only [Sum.elim,WT.run,bU]
  · refine aB (λ_=>True) (aD (aU (λ_=>aF trivial) λ_=>aD (aF trivial))) λb _=>cZ (λ_=>own _) λ_=>?_
    simp only [Option.bind_some]
    exact aB (λr=>iJ r.1/\RL r.2.1) (aB _ (X9 hn hp.1 hq) λr hr=>aB _ (AY hp hr.1) λw hw=>aF ⟨hw,hr.2⟩) λr hr=>aD (aU (λ_=>own _) λ_=>aF hr)
  · refine aB (λ_=>True) (aD (aU (λ_=>aF trivial) λ_=>aD (aF trivial))) λb _=>cZ (λ_=>own _) λ_=>?_
    simp only [Option.bind_some]
    exact aB (λr=>iJ r.1/\RL r.2.1) (aB _ (aEO hn hp.1 hq) λr hr=>aB _ (AY hp hr.1) λw hw=>aF ⟨hw,hr.2⟩) λr hr=>aD (aU (λ_=>own _) λ_=>aF hr)
  · refine aB (λ_=>True) (aD (aU (λ_=>aF trivial) λ_=>aD (aF trivial))) λb _=>cZ (λ_=>own _) λ_=>?_
    simp only [Option.bind_some]
    exact aD (aB (λr=>iJ r.2.2.2/\RL r.2.2.1) (cZ (λ_=>aB _ (aK7 hn hp) λr hr=>aF ⟨hr,pN⟩) λ_=>aB (λr=>iJ r.1/\RL r.2.1) (aB _ (aWJ hn hp hq) λr hr=>aF hr) λr hr=>aF hr) λr hr=>aD (aU (λ_=>own _) λ_=>aF hr))
  · refine aB (λ_=>True) (aD (aU (λ_=>aF trivial) λ_=>aD (aF trivial))) λb _=>cZ (λ_=>own _) λ_=>?_
    simp only [Option.bind_some]
    exact aB (λr=>iJ r.1/\RL r.2.1) (aB _ (aWB hn hp.1 hq) λr hr=>aB _ (AY hp hr.1) λw hw=>aF ⟨hw,hr.2⟩) λr hr=>aD (aU (λ_=>own _) λ_=>aF hr)
  · exact own _
structure rW (x:aP):Prop where
  pl:x.cK.length<=20
  pq:∀ p∈x.cK,iJ p
  bl:x.dM.length<=40
  rl:x.d9.length<=20
  pr:x.eH.length<=20
  dn:x.Down.length<=20
  ah:x.gK.length<=1
def V5 (r:dH):Prop:=dB r.aS/\dB r.Value/\dB r.Open/\dB r.pV/\dB r.jJ/\0<=r.Loc/\r.Loc<=1
def SlQ (r:dV):Prop:=dB r.aS/\dB r.jJ/\dB r.yD/\dB r.bE/\0<=r.Loc/\r.Loc<=1
def RE (r:dD):Prop:=dB r.aS/\dB r.Value/\dB r.bE
structure SQ (s:aA):Prop where
  el:s.aW.length<=20
  eq:∀ x∈s.aW,rW x
  wl:s.bF.bN.length<=10
  ml:s.bF.Methods.length<=10
  mq:∀ l∈s.bF.Methods,l.length<=20
  cl:s.bF.fM.length<=10
  cq:∀ l∈s.bF.fM,l.length<=10/\∀ c∈l,dB c
  rl:s.dG.length<=40
  rq:∀ r∈s.dG,V5 r
  sl:s.dO.length<=40
  sq:∀ r∈s.dO,SlQ r
  tl:s.bL.length<=40
  tq:∀ r∈s.bL,RE r
theorem SQ.at {s:aA} (h:SQ s) {i:Nat} {x:aP} (hx:s.aW[i]?=some x):rW x:=h.eq x (List.mem_of_getElem? hx)
theorem rW.at {x:aP} (h:rW x) {i:Nat} {p:aT} (hp:x.cK[i]?=some p):iJ p:=h.pq p (List.mem_of_getElem? hp)
theorem SQ.set {s:aA} (h:SQ s) {i:Nat} {x:aP} (hx:rW x):SQ ⟨s.bF,s.aW.set i x,s.dG,s.dO,s.bL,s.Done⟩:=⟨by simp;exact h.el,λy hy=>by
  rcases List.mem_or_eq_of_mem_set hy with hy | rfl
  · exact h.eq y hy
  · exact hx,h.wl,h.ml,h.mq,h.cl,h.cq,h.rl,h.rq,h.sl,h.sq,h.tl,h.tq⟩
structure mM (s:aA) (e i:Int):Prop where
  e0:0<=e
  e1:e<(s.aW.length:Int)
  i0:0<=i
  i1:i<(s.bF.bN.length:Int)
  x:∀ x,s.aW[e.toNat]?=some x->(x.cK.length:Int)>=s.bF.bN.length*2/\(x.d9.length:Int)>=s.bF.bN.length
  m1:e<(s.bF.Methods.length:Int)
  m:∀ x,s.bF.Methods[e.toNat]?=some x->(x.length:Int)>=s.bF.bN.length
  c1:e<(s.bF.fM.length:Int)
  c:∀ x,s.bF.fM[e.toNat]?=some x->(x.length:Int)>=s.bF.bN.length
structure SK (s t:aA):Prop where
  q:SQ t
  ma:t.bF=s.bF
  rc:t.dG=s.dG
  sl:t.dO=s.dO
  tr:t.bL=s.bL
  dn:t.Done=s.Done
  el:t.aW.length=s.aW.length
  iN:∀ {e i:Int},mM s e i->mM t e i
theorem SQ.rf {s:aA} (h:SQ s):SK s s:=⟨h,rfl,rfl,rfl,rfl,rfl,rfl,λh=>h⟩
theorem SQ.EW {s:aA} (h:SQ s) {i:Nat} {x y:aP} (hx:rW x) (hy:s.aW[i]?=some y) (hp:x.cK.length=y.cK.length:=by simp) (hr:x.d9.length=y.d9.length:=by simp):SK s ⟨s.bF,s.aW.set i x,s.dG,s.dO,s.bL,s.Done⟩:=⟨h.set hx,rfl,rfl,rfl,rfl,rfl,by simp,λ{e j} k=>⟨k.e0,by simp;exact k.e1,k.i0,k.i1,λz hz=>by
  simp only [List.getElem?_set] at hz
  split at hz
  · rename_i he
    split at hz
    · cases hz;rw [hp,hr];exact k.x y (he ▸ hy)
    · cases hz
  · exact k.x z hz,k.m1,k.m,k.c1,k.c⟩⟩
theorem SK.trans {s t u:aA} (h:SK s t) (k:SK t u):SK s u:=⟨k.q,k.ma.trans h.ma,k.rc.trans h.rc,k.sl.trans h.sl,k.tr.trans h.tr,k.dn.trans h.dn,k.el.trans h.el,λi=>k.iN (h.iN i)⟩
theorem rW.vG {x:aP} (h:rW x) {i:Nat} {p:aT} (hp:iJ p):∀ q∈x.cK.set i p,iJ q:=λq hq=>by
  rcases List.mem_or_eq_of_mem_set hq with hq | rfl
  · exact h.pq q hq
  · exact hp
theorem S7 {s:aA} {e i:Int} (h:SQ s):Ex (λb=>b=true->mM s e i) (yJ s e i):=by
  have hw:=h.wl
  unfold yJ VE;simp only [WT.run,bU]
  refine aB (λb=>b=false->0<=e/\e<(s.aW.length:Int)/\0<=i/\i<(s.bF.bN.length:Int)) ?_ λb hb=>cZ (λ_=>aF λh=>by cases h) λhb'=>?_
  · exact aD (aU (λ_=>aF λh=>by cases h) λ_=>aD (aU (λ_=>aF λh=>by cases h) λ_=>aD (aU (λ_=>aF λh=>by cases h) λ_=>aD (aF λh=>by have:=of_decide_eq_false h;omega))))
  · obtain ⟨h1,h2,h3,h4⟩:=hb hb'
    have hF:∀ {P:Prop},Ex (λb:Bool=>b=true->P) (some false):=λ{P}=>aF λh=>by cases h
    refine bP h1 h2 λx hx=>aB (λb=>b=true->mM s e i) (cO (aD (aU (λk1=>aD (aU (λk2=>aD (aU (λk3=>aD (aU (λk4=>bP h1 k3 λm hm=>aD (aU (λk5=>bP h1 k4 λc hc=>aD (aF λk6=>?_)) λ_=>hF)) λ_=>hF)) λ_=>hF)) λ_=>hF)) λ_=>hF))) λb hb=>aF hb
    have k6:=of_decide_eq_true k6
    exact ⟨h1,h2,h3,h4,λy hy=>by rw [hx] at hy;cases hy;exact ⟨k1,k2⟩,k3,λy hy=>by rw [hm] at hy;cases hy;exact k5,k4,λy hy=>by rw [hc] at hy;cases hy;exact k6⟩
theorem aLR {a b c:Int}:Ex (λr=>r=true->b<=a/\a<=c) (mE a b c):=by
  unfold mE SF;simp only [WT.run,bU]
  exact aB (λr=>r=true->b<=a/\a<=c) (aD (aU (λh=>aD (aF λh'=>⟨h,of_decide_eq_true h'⟩)) λ_=>aF λh=>by cases h)) λr hr=>aF hr
theorem OM {s:aA} {e i l:Int} (h:SQ s):Ex (λr=>¬ r<0->mM s e i/\r=i*2+l/\0<=l/\l<=1) (xG s e i l):=by
  have hw:=h.wl
  unfold xG VJ;simp only [WT.run,bU]
  refine aB (λb=>b=false->mM s e i/\0<=l/\l<=1) ?_ λb hb=>cZ (λ_=>aF λh=>absurd (by decide) h) λhb'=>?_
  · exact aB _ (S7 h) λb hb=>aD (iK (λ_=>aF λh=>by cases h) λhb'=>aB _ aLR λc hc=>aD (aF λh=>⟨hb hb',hc (by simpa using h)⟩))
  · obtain ⟨h1,h2⟩:=hb hb'
    have:=h1.i0;have:=h1.i1
    exact cO (cO (aF λ_=>⟨h1,rfl,h2⟩))
theorem aEW {s:aA} {e i l:Int} (h:SQ s):Ex iJ (uQ s e i l):=by
  unfold uQ PW;simp only [WT.run,bU]
  refine aB _ (OM h) λp hp=>aD (aU (λ_=>aF ⟨QC,iQ,iQ,iQ⟩) λhn=>?_)
  obtain ⟨h1,rfl,h2,h3⟩:=hp hn
  refine bP h1.e0 h1.e1 λx hx=>?_
  have hxl:=(h1.x x hx).1
  have:=h1.i1
  refine bP (by omega) (by omega) λq hq=>?_
  have hqq:=(h.at hx).at hq
  have:=hqq.1.1
  exact dI (aF hqq)
theorem aDE {n:Nat} {s:aA} {e i:Int} (hn:250<=n) (h:SQ s):Ex (λr=>RL r.1) (AL n s e i):=by
  unfold AL UL;simp only [WT.run,bU]
  refine aB (λa=>a.1.length<250/\a.2.1.length<250/\a.2.2.length<250) (gJ (m:=2) (λv=>v.1) (λv=>(v.2.1.length:Int)=v.1/\(v.2.2.1.length:Int)=v.1/\(v.2.2.2.length:Int)=v.1) ⟨by simp,by simp,by simp⟩ (by omega) λv h1 h2 h3=>?_) λa ha=>?_
  · obtain ⟨k,p,q,w⟩:=v
    simp only at h1 h2 h3
    simp only [p2]
    refine aD (aU (λ_=>aB _ (aEW h) λp hp=>aB _ (fT (hp.1.fuel hn)) λt ht=>?_) λ_=>bZ (aF ⟨by simp only;omega,by simp only;omega,by simp only;omega⟩))
    repeat' with_reducible first | exact aF trivial | refine cO ?_ | refine jV ?_ | apply aD | refine bP (by omega) (by omega) λ_ _=>?_ | exact bM trivial | exact bM ⟨by omega,by (first | rfl | omega | (simp only;omega)),trivial⟩ | refine dI ?_ | refine jA (λ_ _=>?_) λ_ _=>trivial | apply jP | apply kL | apply jR | apply jS | apply kF | apply kH | apply jW | apply jZ | apply kC | refine aU (λ_=>?_) λ_=>?_ | refine iK (λ_=>?_) λ_=>?_ | refine cZ (λ_=>?_) λ_=>?_ | apply x_cT | apply x_cF | apply fJ | apply bZ | refine aB _ gF λ_ _=>?_ | refine aB _ fE λ_ _=>?_ | refine aB _ eZ λ_ _=>?_ | refine aB _ gG λ_ _=>?_ | refine aB _ fT λ_ _=>?_ | refine aB _ gH λ_ _=>?_ | refine aB _ gI λ_ _=>?_ | refine aB _ (gF (by assumption)) λ_ _=>?_ | refine aB _ (fE (by assumption)) λ_ _=>?_ | refine aB _ (eZ (by assumption)) λ_ _=>?_ | refine aB _ (gG (by assumption)) λ_ _=>?_ | refine aB _ (fT (by assumption)) λ_ _=>?_ | refine aB _ (gH (by assumption)) λ_ _=>?_ | refine aB _ (gI (by assumption)) λ_ _=>?_
    all_goals (first | refine bM ?_ | refine aF ?_) <;> (try simp only [List.length_append,List.length_cons,List.length_nil,List.length_set] at *) <;> (repeat' apply And.intro) <;> (first | trivial | omega)
  · obtain ⟨p,q,w⟩:=a
    simp only at ha
    simp only [p2]
    exact aB _ (eZ ⟨ha.1,hn⟩) λa1 h1=>aB _ (eZ ⟨ha.2.1,hn⟩) λa2 h2=>aB _ (eZ ⟨ha.2.2,hn⟩) λa3 h3=>aD (aD (aF ⟨h1,h2,h3⟩))
theorem Y0 {n:Nat} {s:aA} {e i:Int} (hn:250<=n) (h:SQ s):mZ (J5 n s e i):=by
  unfold J5 aG7;simp only [WT.run,bU]
  refine aB (λa=>a.length<250) (gJ (m:=2) (λv=>v.1) (λv=>(v.2.length:Int)<=v.1*30) ⟨by simp,by simp,by simp⟩ (by omega) λv h1 h2 h3=>?_) λa ha=>?_
  · obtain ⟨k,p⟩:=v
    simp only at h1 h2 h3
    simp only [p2]
    refine aD (aU (λhk=>aB (λa=>(a.length:Int)<=(k+1)*30) (aB _ (aEW h) λo ho=>aB (λa=>(a.length:Int)<=(k+1)*30) ?_ λa ha=>aF ha) λa ha=>cO (bM ⟨by omega,rfl,ha⟩)) λ_=>bZ (aF (by omega)))
    have hl:=ho.1.1
    refine gJ (m:=o.bJ.length) (λv=>v.1) (λv=>(v.2.length:Int)=p.length+v.1) ⟨by simp,by simp,by simp⟩ (by omega) λv h1 h2 h3=>?_
    obtain ⟨j,q⟩:=v
    simp only at h1 h2 h3
    repeat' with_reducible first | exact aF trivial | refine cO ?_ | refine jV ?_ | apply aD | refine bP (by omega) (by omega) λ_ _=>?_ | exact bM trivial | exact bM ⟨by omega,by (first | rfl | omega | (simp only;omega)),trivial⟩ | refine dI ?_ | refine jA (λ_ _=>?_) λ_ _=>trivial | apply jP | apply kL | apply jR | apply jS | apply kF | apply kH | apply jW | apply jZ | apply kC | refine aU (λ_=>?_) λ_=>?_ | refine iK (λ_=>?_) λ_=>?_ | refine cZ (λ_=>?_) λ_=>?_ | apply x_cT | apply x_cF | apply fJ | apply bZ | refine aB _ gF λ_ _=>?_ | refine aB _ fE λ_ _=>?_ | refine aB _ eZ λ_ _=>?_ | refine aB _ gG λ_ _=>?_ | refine aB _ fT λ_ _=>?_ | refine aB _ gH λ_ _=>?_ | refine aB _ gI λ_ _=>?_ | refine aB _ (gF (by assumption)) λ_ _=>?_ | refine aB _ (fE (by assumption)) λ_ _=>?_ | refine aB _ (eZ (by assumption)) λ_ _=>?_ | refine aB _ (gG (by assumption)) λ_ _=>?_ | refine aB _ (fT (by assumption)) λ_ _=>?_ | refine aB _ (gH (by assumption)) λ_ _=>?_ | refine aB _ (gI (by assumption)) λ_ _=>?_
    all_goals (first | refine bM ?_ | refine aF ?_) <;> (try simp only [List.length_append,List.length_cons,List.length_nil,List.length_set] at *) <;> (repeat' apply And.intro) <;> (first | trivial | omega)
  · exact aB _ (eZ ⟨ha,hn⟩) λa1 h1=>aD (aF trivial)
theorem aQA {n:Nat} {s:aA} {e i l:Int} {x:aM} (hn:250<=n) (h:SQ s) (hx:RL x):Ex (λr=>SK s r.1/\dB r.2.1/\dB r.2.2.1/\(r.2.2.2=0->0<=l/\l<=1)) (uZ n s e i l x):=by
  unfold uZ RX;simp only [WT.run,bU]
  refine aB _ (OM h) λp hp=>aD (aU (λ_=>aF ⟨h.rf,iQ,iQ,λh=>absurd h (show ¬ (4:Int)=0 by decide)⟩) λhpn=>?_)
  obtain ⟨hin,rfl,hl0,hl1⟩:=hp hpn
  have i1:=hin.i1
  refine bP hin.e0 hin.m1 λmt hmt=>bP hin.i0 (by have:=hin.m _ hmt;omega) λm hm=>bP hin.e0 hin.c1 λct hct=>bP hin.i0 (by have:=hin.c _ hct;omega) λc hc=>bP hin.e0 hin.e1 λy hy=>?_
  have hpl:=(hin.x y hy).1
  have hyq:=h.at hy
  refine bP (by omega) (by omega) λq hq=>aB _ (Y6 hn (hyq.at hq) hx) λr hr=>aD (aU (λ_=>aF ⟨h.rf,iQ,iQ,λ_=>⟨hl0,hl1⟩⟩) λ_=>?_)
  have hel:=h.el
  have hyl:=hyq.pl
  refine aB (λt=>rW ⟨t.1,t.2.1,t.2.2.2.2.2.2.2,t.2.2.1,t.2.2.2.1,t.2.2.2.2.1,t.2.2.2.2.2.1,t.2.2.2.2.2.2.1⟩/\t.2.2.2.2.2.2.2.length=y.cK.length/\t.2.2.2.1.length=y.d9.length) (aB (λ_=>True) (dI (bP hin.e0 hin.e1 λ_ _=>aF trivial)) λ_ _=>iL hin.e0 hy (dI (iL (by omega) hq (aD (aF ⟨⟨by simp;exact hyl,hyq.vG hr.1,hyq.bl,hyq.rl,hyq.pr,hyq.dn,hyq.ah⟩,by simp,rfl⟩))))) λt ht=>?_
  obtain ⟨a,b,c,d,f,g,k,w⟩:=t
  obtain ⟨ht,hP,hR⟩:=ht
  have hS:=h.set (i:=e.toNat) ht
  simp only [p2]
  exact bP hin.e0 hin.e1 λ_ _=>aB _ (aDE hn hS) λ_ _=>aB (λ_=>True) (aD (cZ (λ_=>aF trivial) λ_=>aB _ (Y0 hn hS) λ_ _=>aD (aF trivial))) λ_ _=>cZ (λ_=>aF ⟨h.rf,iQ,iQ,λ_=>⟨hl0,hl1⟩⟩) λ_=>aD (aF ⟨h.EW ht hy hP hR,iU _,hr.2,λ_=>⟨hl0,hl1⟩⟩)
theorem aNU {n:Nat} {s:aA} {e i l k q:Int} (hn:250<=n) (h:SQ s) (hq:dB q):Ex (λr=>SK s r.1/\RL r.2.1/\(r.2.2.2=0->0<=l/\l<=1)) (o5 n s e i l k q):=by
  unfold o5 SN;simp only [WT.run,bU]
  refine aB _ (OM h) λp hp=>aD (aU (λ_=>aF ⟨h.rf,pN,λh=>absurd h (show ¬ (4:Int)=0 by decide)⟩) λhpn=>?_)
  obtain ⟨hin,rfl,hl0,hl1⟩:=hp hpn
  have i1:=hin.i1
  refine bP hin.e0 hin.m1 λmt hmt=>bP hin.i0 (by have:=hin.m _ hmt;omega) λm hm=>bP hin.e0 hin.c1 λct hct=>bP hin.i0 (by have:=hin.c _ hct;omega) λc hc=>bP hin.e0 hin.e1 λy hy=>?_
  have hpl:=(hin.x y hy).1
  have hyq:=h.at hy
  refine bP (by omega) (by omega) λo ho=>aB _ (aWH hn (hyq.at ho) hq) λr hr=>aD (aD (aU (λ_=>aF ⟨h.rf,pN,λ_=>⟨hl0,hl1⟩⟩) λ_=>?_))
  have hel:=h.el
  have hyl:=hyq.pl
  refine aB (λt=>rW ⟨t.1,t.2.1,t.2.2.2.2.2.2.2,t.2.2.1,t.2.2.2.1,t.2.2.2.2.1,t.2.2.2.2.2.1,t.2.2.2.2.2.2.1⟩/\t.2.2.2.2.2.2.2.length=y.cK.length/\t.2.2.2.1.length=y.d9.length) (aB (λ_=>True) (dI (bP hin.e0 hin.e1 λ_ _=>aF trivial)) λ_ _=>iL hin.e0 hy (dI (iL (by omega) ho (aD (aF ⟨⟨by simp;exact hyl,hyq.vG hr.1,hyq.bl,hyq.rl,hyq.pr,hyq.dn,hyq.ah⟩,by simp,rfl⟩))))) λt ht=>?_
  obtain ⟨a,b,c,d,f,g,k,w⟩:=t
  obtain ⟨ht,hP,hR⟩:=ht
  have hS:=h.set (i:=e.toNat) ht
  simp only [p2]
  exact bP hin.e0 hin.e1 λ_ _=>aF ⟨h.EW ht hy hP hR,hr.2,λ_=>⟨hl0,hl1⟩⟩
theorem pK {α β:Type} {P:β->Prop} {l:List α} {i:Int} {a:α} {f:α->Option β} (h:ix l i=some a) (k:Ex P (f a)):Ex P ((ix l i).bind f):=by rw [h];exact k
theorem aXH {s:aA} {e i:Int} {r:dL} (h:SQ s):Ex (λr=>SK s r.1) (nZ s e i r):=by
  unfold nZ JE;simp only [WT.run,bU,Option.bind_some]
  refine aB _ (S7 h) λb hb=>aD (iK (λ_=>aF h.rf) λhb'=>?_)
  have hin:=hb hb'
  have hi1:=hin.i1
  refine bP hin.e0 hin.e1 λx hx=>bP hin.i0 (by have:=(hin.x x hx).2;omega) λy hy=>?_
  have hxq:=h.at hx
  refine aB (λr=>match r with | .inl _=>True | .inr q=>SK s q.1) ?_ λq hq=>?_
  · repeat' with_reducible first | refine pK rfl ?_ | refine aB _ fE λ_ _=>?_ | apply aD | refine aU (λ_=>bZ (aF h.rf)) λ_=>?_ | exact bM trivial
  · cases q with
    | inr q=>exact ⟨_,rfl,hq⟩
    | inl q =>
      refine fJ ?_
      have:=h.el;have:=hxq.rl
      refine aB (λ_=>True) (dI (bP hin.e0 hin.e1 λ_ _=>aF trivial)) λ_ _=>iL hin.e0 hx (dI ?_)
      exact iL hin.i0 hy (aD (aF (h.EW ⟨hxq.pl,hxq.pq,hxq.bl,by simp;exact hxq.rl,hxq.pr,hxq.dn,hxq.ah⟩ hx)))
end Go.Pv
