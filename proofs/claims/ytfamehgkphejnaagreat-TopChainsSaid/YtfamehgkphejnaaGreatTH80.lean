import Derived.Test.YtfamehgkphejnaaGreatTA80
set_option linter.unusedVariables false
set_option linter.unusedSimpArgs false
namespace Go.Pv
open Go.Proofs
set_option maxRecDepth 100000
set_option maxHeartbeats 1000000
theorem aO3 {n:Nat} {l:List aB} {x:aB} (hn:250<=n) (h:LQ l) (hx:RL x):Ex (λr=>LQ r.1) (DT n l x):=by
  unfold DT aAB;simp only [WT.run,O9,Option.bind_some]
  refine tF _ (aPC hn h hx) λr hr=>aL2 (aEY (λ_=>aEV hr) λ_=>tF _ (aOB (hr.fuel hn)) λt ht=>aL2 (aEY (λ_=>?_) λ_=>aEV ⟨by simp,λy hy=>by rw [List.mem_singleton.1 hy];exact ht⟩))
  have:=h.1
  exact x_a (aEV h)
theorem aPB {n:Nat} {l:List aB} {q:Int} (hn:250<=n) (h:LQ l) (hq:XE q):Ex (λr=>LQ r.1/\RL r.2.1) (a4Y n l q):=by
  unfold a4Y aEG;simp only [WT.run,O9,Option.bind_some]
  exact tF _ (aPA hn h hq) λr hr=>aEV hr
def RA (p:gJ):Prop:=XE p.a0/\XE p.a1/\XE p.a2
def PQ' (p:aM):Prop:=LQ p.cO/\RA p.bF
theorem aH7 {p:aM} {l:List aB} (hp:PQ' p) (h:LQ l):Ex PQ' (rG p l):=by
  have:=h.1
  unfold rG aBV;simp only [WT.run,O9]
  exact x_a (aEV ⟨h,hp.2⟩)
theorem aPO {n:Nat} {p:aM} {x:aB} (hn:250<=n) (hp:PQ' p) (hx:RL x):Ex (λr=>PQ' r.1) (VJ n p x):=by
  unfold VJ X7;simp only [WT.run,O9]
  exact tF _ (aO3 hn hp.1 hx) λr hr=>tF _ (aH7 hp hr) λq hq=>aEV hq
theorem aPF {k:Int}:Ex (λb=>b=true->0<=k/\k<3) (EK k):=by
  unfold EK aE2;simp only [WT.run,O9]
  refine tF (λb=>b=true->0<=k/\k<3) (aL2 (aEY (λh=>aL2 (aEV λh'=>⟨h,of_decide_eq_true h'⟩)) λ_=>aEV λh=>by cases h)) λb hb=>aEV hb
theorem aO8 {n:Nat} {p:aM} (hn:250<=n) (hp:PQ' p):Ex XE (AN n p):=by
  have hl:=hp.1.1
  unfold AN aFO;simp only [WT.run,O9]
  refine tF XE (aQB (m:=p.cO.length) (λv=>v.2) (λv=>XE v.1) ⟨by simp,by simp,aP0⟩ (by omega) λv h1 h2 h3=>?_) λa ha=>?_
  · simp only [p2]
    exact aL2 (aEY (λ_=>ON (by omega) (by omega) λx hx=>aL2 (x_v (XC ⟨by omega,rfl,aG1 _⟩))) λ_=>aGQ (aEV h3))
  · refine tF XE (aQB (m:=3) (λv=>v.2) (λv=>XE v.1) ⟨by simp,by simp,ha⟩ (by omega) λv h1 h2 h3=>?_) λb hb=>aEV hb
    simp only [p2]
    exact aL2 (aEY (λ_=>ON (by omega) (by simp;omega) λx hx=>aL2 (x_v (XC ⟨by omega,rfl,aG1 _⟩))) λ_=>aGQ (aEV h3))
theorem aPL {n:Nat} {p:aM} {k q:Int} (hn:250<=n) (hp:PQ' p):Ex (λr=>PQ' r.1) (LK n p k q):=by
  unfold LK aH2;simp only [WT.run,O9]
  refine tF _ (aH7 hp hp.1) λw hw=>tF (λb=>b=false->0<=k/\k<3) ?_ λb hb=>aFQ (λ_=>aEV hw) λhb'=>?_
  · exact tF _ aPF λc hc=>aL2 (aEW (λh=>aEV λh'=>by cases h') λh=>aL2 (aEV λ_=>hc h))
  · refine tF _ (aO8 hn hw) λf hf=>aL2 (aEY (λ_=>aEV hw) λ_=>?_)
    have:=hb hb'
    refine aL2 (aEY (λ_=>aL2 (aEV ⟨hw.1,aG1 _,hw.2.2⟩)) λ_=>aL2 (aEY (λ_=>aL2 (aEV ⟨hw.1,hw.2.1,aG1 _,hw.2.2.2⟩)) λ_=>x_a (aL2 (aEV ⟨hw.1,hw.2.1,hw.2.2.1,aG1 _⟩))))
theorem aPJ {p:aM} {k q:Int} (hp:PQ' p):Ex (λr=>PQ' r.1) (K3 p k q):=by
  unfold K3 aCM;simp only [WT.run,O9]
  refine tF _ (aH7 hp hp.1) λw hw=>tF (λr=>match r with | .inl j=>0<=j/\j<3 | .inr r=>PQ' r.1) ?_ λr hr=>?_
  · refine tF (λb=>b=false->0<=k/\k<3) (tF _ aPF λc hc=>aL2 (aEW (λh=>aEV λh'=>by cases h') λh=>aL2 (aEV λ_=>hc h))) λb hb=>aFQ (λ_=>aGQ (aEV hw)) λhb'=>?_
    have:=hb hb'
    refine aL2 (aEY (λ_=>aL2 (aEY (λ_=>aGQ (aEV hw)) λ_=>XC ⟨by omega,by omega⟩)) λ_=>aL2 (aEY (λ_=>aL2 (aEY (λ_=>aGQ (aEV hw)) λ_=>XC ⟨by omega,by omega⟩)) λ_=>x_a (aL2 (aEY (λ_=>aGQ (aEV hw)) λ_=>XC ⟨by omega,by omega⟩))))
  · cases r with
    | inr r=>exact ⟨_,rfl,hr⟩
    | inl j=>exact aK3 (aL2 (aEY (λ_=>aL2 (aEV ⟨hw.1,aG1 _,hw.2.2⟩)) λ_=>aL2 (aEY (λ_=>aL2 (aEV ⟨hw.1,hw.2.1,aG1 _,hw.2.2.2⟩)) λ_=>x_a (aL2 (aEV ⟨hw.1,hw.2.1,hw.2.2.1,aG1 _⟩)))))
theorem aPS {n:Nat} {p:aM} {q:Int} (hn:250<=n) (hp:PQ' p) (hq:XE q):Ex (λr=>PQ' r.1/\RL r.2.1) (VF n p q):=by
  unfold VF aFK;simp only [WT.run,O9]
  exact aL2 (aEY (λ_=>tF _ (aH7 hp hp.1) λw hw=>aEV ⟨hw,RL0⟩) λ_=>tF _ (aO8 hn hp) λf hf=>aL2 (aEY (λ_=>tF _ (aH7 hp hp.1) λw hw=>aEV ⟨hw,RL0⟩) λ_=>tF _ (aPB hn hp.1 hq) λr hr=>tF _ (aH7 hp hr.1) λw hw=>aEV ⟨hw,hr.2⟩))
theorem aUF {a:Int}:Ex (λb=>b=true->XE a) (BX a):=by
  unfold BX aCL;simp only [WT.run,O9]
  refine tF (λb=>b=true->XE a) (aL2 (aEY (λh=>aL2 (aEV λh'=>?_)) λ_=>aEV λh=>by cases h)) λb hb=>aEV hb
  have:=of_decide_eq_true h'
  unfold XE;omega
theorem aT7 {n:Nat} {a b:Int} (hn:250<=n) (ha:XE a) (hb:XE b):Ex (λr=>XE r.1) (CB n a b):=by
  unfold CB aKS;simp only [WT.run,O9]
  refine aL2 (tF _ (aJK hn ?_ ha (by unfold XE;omega)) λr hr=>aEV hr.1)
  split
  · exact aP0
  · exact hb
theorem aPQ {n:Nat} {l:List aB} {x:aB} {c:Int} (hn:250<=n) (h:LQ l) (hx:RL x):Ex (λr=>LQ r.1/\XE r.2.1) (TC n l x c):=by
  have hl:=h.1
  unfold TC aIP;simp only [WT.run,O9]
  refine x_a (tF (λb=>b=false->XE c) ?_ λb hb=>aFQ (λ_=>aEV ⟨h,aP0⟩) λhb'=>?_)
  · exact tF _ aUF λd hd=>aL2 (aEW (λ_=>aEV λh'=>by cases h') λh=>aL2 (aEY (λ_=>aEV λh'=>by cases h') λ_=>aL2 (aEV λ_=>hd h)))
  · refine tF _ (aT7 hn (hb hb') hx.1) λr hr=>tF (λ_=>True) ?_ λb _=>aFQ (λ_=>aEV ⟨h,aP0⟩) λ_=>aL2 (tF _ (aO3 hn h (x:=⟨_,_,_⟩) ⟨hx.1,hr,hx.2.2⟩) λt ht=>aL2 (aEY (λ_=>aEV ⟨h,aP0⟩) λ_=>aEV ⟨ht,aG1 _⟩))
    exact aL2 (aEY (λ_=>aEV trivial) λ_=>aL2 (aEV trivial))
theorem aPM {n:Nat} {l:List aB} {c:Int} (hn:250<=n) (h:LQ l):Ex (λr=>LQ r.1/\XE r.2.1) (PT n l c):=by
  have hl:=h.1
  unfold PT Y3;simp only [WT.run,O9]
  refine x_a (tF _ aUF λd hd=>aL2 (aEW (λ_=>aEV ⟨h,aP0⟩) λhd'=>aL2 (aEY (λ_=>aEV ⟨h,aP0⟩) λhne=>ON (by omega) (by omega) λx hx=>?_)))
  have hxl:=h.at hx
  exact tF _ (aT7 hn (hd hd') hxl.1) λr hr=>aL2 (aEY (λ_=>aEV ⟨h,aP0⟩) λ_=>aL2 (aL2 (aEV ⟨h.set (x:=⟨_,_,_⟩) ⟨hxl.1,hr,hxl.2.2⟩,aG1 _⟩)))
theorem aHZ {p:aM} {l:List aB} (hp:PQ' p) (h:LQ l):Ex PQ' (rX p l):=by
  unfold rX aM7;simp only [WT.run,O9]
  exact aEV ⟨h,hp.2⟩
theorem aPE {p:aM} (hp:PQ' p):Ex PQ' (aTO p):=by
  have:=hp.1.1
  unfold aTO aG7;simp only [WT.run,O9]
  exact x_a (aEV hp)
theorem aIR {n:Nat} {p:aM} (hn:250<=n) (hp:PQ' p):Ex RL (IZ n p):=by
  unfold IZ aD8;simp only [WT.run,O9]
  exact tF _ (aOB (hp.1.fuel hn)) λr hr=>aEV hr
theorem aPG {n:Nat} {m:Int} {p:aM} (hn:250<=n) (hp:PQ' p):Ex XE (OF n m p):=by
  unfold OF aK8;simp only [WT.run,O9]
  exact aL2 (aEY (λ_=>tF _ (aO8 hn hp) λr hr=>aEV hr) λ_=>tF _ (aIR hn hp) λr hr=>aEV hr.1)
theorem aPP {n:Nat} {m c:Int} {p:aM} {x:aB} (hn:250<=n) (hp:PQ' p) (hx:RL x):Ex (λr=>PQ' r.1/\XE r.2.1) (UO n m c p x):=by
  unfold UO aJE;simp only [WT.run,O9]
  refine tF (λ_=>True) ?_ λy _=>?_
  · exact aL2 (aEY (λ_=>aEV trivial) λ_=>aL2 (aEY (λ_=>aEV trivial) λ_=>aL2 (aEY (λ_=>aEV trivial) λ_=>aL2 (aEY (λ_=>aEV trivial) λ_=>aEV trivial))))
  have own:∀ e:Int,Ex (λr:aM×Int×Int=>PQ' r.1/\XE r.2.1) ((aTO p).bind λx=>some (x,0,e)):=λe=>tF _ (aPE hp) λr hr=>aEV ⟨hr,aP0⟩
  rcases y with u | u | u | u | u <;> simp only [Sum.elim,WT.run,O9]
  · exact tF (λr=>PQ' r.1) (tF _ (aPC hn hp.1 hx) λr hr=>tF _ (aHZ hp hr) λw hw=>aEV hw) λr hr=>aL2 (aEY (λ_=>own _) λ_=>aEV ⟨hr,aP0⟩)
  · exact tF (λr=>PQ' r.1) (tF _ (aO3 hn hp.1 hx) λr hr=>tF _ (aHZ hp hr) λw hw=>aEV hw) λr hr=>aL2 (aEY (λ_=>own _) λ_=>aEV ⟨hr,aP0⟩)
  · exact tF (λr=>PQ' r.1) (tF _ (aPO hn hp hx) λr hr=>aEV hr) λr hr=>aL2 (aEY (λ_=>own _) λ_=>aEV ⟨hr,aP0⟩)
  · exact tF (λr=>PQ' r.1/\XE r.2.1) (tF _ (aPQ hn hp.1 hx) λr hr=>tF _ (aHZ hp hr.1) λw hw=>aEV ⟨hw,hr.2⟩) λr hr=>aL2 (aEY (λ_=>own _) λ_=>aEV hr)
  · exact own _
theorem aPR {n:Nat} {l:List aB} {q c:Int} (hn:250<=n) (h:LQ l) (hq:XE q):Ex (λr=>LQ r.1/\RL r.2.1) (QH n l q c):=by
  have hl:=h.1
  unfold QH aIK;simp only [WT.run,O9]
  refine tF _ aUF λd hd=>aL2 (aEW (λ_=>x_a (aEV ⟨h,RL0⟩)) λhd'=>?_)
  simp only [Option.bind_some]
  refine tF (λr=>r.1+r.2.1<=r.2.2.2.2.length/\LQ r.2.2.2.2/\RL r.2.2.1) (tF (λr=>r.1+r.2.1<=r.2.2.2.2.length/\LQ r.2.2.2.2/\RL r.2.2.1) (x_a (aL2 (aEY (λ_=>aEV ⟨by simp,h,RL0⟩) λ_=>tF _ (aPD (h.fuel hn)) λ_ _=>aL2 (aFQ (λ_=>aEV ⟨by simp,h,RL0⟩) λ_=>?_)))) λr hr=>aEV hr) λr hr=>?_
  · refine tF (λv=>v.1+v.2.1<=v.2.2.1.length/\LQ v.2.2.1/\RL v.2.2.2) (aQJ (λv=>v.1+v.2.1<=v.2.2.2.1.length/\XE v.2.2.1/\LQ v.2.2.2.1/\RL v.2.2.2.2) (λv=>if v.2.2.1>0 then v.2.1+1 else 0) ?_ ⟨by simp,hq,h,RL0⟩ (by simp only;split <;> omega)) λv hv=>aEV hv
    · rintro ⟨a,c,q,l',acc⟩ ⟨hi,hqq,hl,hacc⟩
      simp only at hi hqq hl hacc
      simp only [p2]
      refine tF (λy=>y=true->0<c/\0<q) ?_ λy hy=>aFQ (λht=>?_) λ_=>aEV ⟨hi,hl,hacc⟩
      · refine aL2 (aEY (λh=>aL2 (aEV λh'=>⟨by omega,of_decide_eq_true h'⟩)) λ_=>aEV λh=>by cases h)
      obtain ⟨hc,hq0⟩:=hy ht
      refine x_a (ON (by omega) (by omega) λx hx=>?_)
      have hxl:=hl.at hx
      refine aL2 (tF (λy=>y.1+y.2.1<=y.2.2.1.length/\LQ y.2.2.1/\RL y.2.2.2/\(y.2.1+1=c\/y.2.1=c/\y.2.2.2.aQ=q)) (aEY (λhb=>?_) λhb=>?_) λy hy=>?_)
      · refine tF _ (aF5 hn hxl.2.1 hqq hxl.1) λv1 h1=>tF _ (aF5 hn hxl.2.2 hqq hxl.1) λv2 h2=>x_a (aL2 (x_a (aL2 (x_a (aL2 (x_a (aL2 (x_a (aL2 (x_a (aL2 (aEV ?_))))))))))))
        exact ⟨by simp;exact hi,((hl.set (x:=⟨_,_,_⟩) ⟨aG1 _,hxl.2⟩).set (x:=⟨_,_,_⟩) ⟨aG1 _,aG1 _,hxl.2.2⟩).set (x:=⟨_,_,_⟩) ⟨aG1 _,aG1 _,aG1 _⟩,⟨hqq,h1,h2⟩,.inr ⟨rfl,rfl⟩⟩
      · refine x_a (aL2 (aEV ⟨?_,hl,hxl,.inl ?_⟩))
        · simp only;split <;> omega
        · simp only;omega
      · obtain ⟨a',c',l2,x2⟩:=y
        obtain ⟨k1,k2,k3,k4⟩:=hy
        simp only at k1 k2 k3 k4
        refine aL2 (aL2 (aL2 (aL2 (XC ⟨⟨k1,aG1 _,k2,aG1 _,aG1 _,aG1 _⟩,?_⟩))))
        simp only
        rw [if_pos hq0]
        rcases k4 with k4 | ⟨k4,k5⟩
        · split <;> omega
        · rw [k5,if_neg (by rw [Int.sub_self];decide)];omega
  · obtain ⟨a,k,y,e,l'⟩:=r
    obtain ⟨h1,h2,h3⟩:=hr
    simp only at h1 h2 h3
    simp only [p2]
    have cut:∀ l2:List aB,LQ l2->LQ ((l2.drop a).take k):=λl2 h=>⟨by have:=h.1;simp only [List.length_take,List.length_drop];omega,λx hx=>h.2 x (List.mem_of_mem_drop (List.mem_of_mem_take hx))⟩
    refine tF (λb=>b=false->0<k) (aL2 (aEY (λ_=>aEV λh=>by cases h) λ_=>aL2 (aEV λh=>by have:=of_decide_eq_false h;omega))) λb hb=>aFQ (λ_=>aL4 h1 (aEV ⟨cut _ h2,h3⟩)) λhb'=>?_
    have hk:=hb hb'
    refine tF _ (aT7 hn (hd hd') hq) λr hr=>x_a (ON (by omega) (by omega) λx hx=>aL2 ?_)
    have hxl:=h2.at hx
    refine tF (λ_=>True) (aL2 (aEY (λ_=>aEV trivial) λ_=>aL2 (aEV trivial))) λb _=>tF XE (aFQ (λ_=>aEV (aG1 _)) λ_=>aEV hr) λz hz=>x_a (aL2 (aL2 (x_a (aL2 (aL4 (by simp;exact h1) (aEV ⟨cut _ (h2.set (x:=⟨_,_,_⟩) ⟨hxl.1,aG1 _,hxl.2.2⟩),h3.1,hz,h3.2.2⟩))))))
theorem aPN {n:Nat} {m c k q:Int} {p:aM} (hn:250<=n) (hp:PQ' p) (hq:XE q):Ex (λr=>PQ' r.1/\RL r.2.1) (KL n m c p k q):=by
  unfold KL aE0;simp only [WT.run,O9]
  refine tF (λ_=>True) ?_ λy _=>?_
  · exact aL2 (aEY (λ_=>aEV trivial) λ_=>aL2 (aEY (λ_=>aEV trivial) λ_=>aL2 (aEY (λ_=>aEV trivial) λ_=>aL2 (aEY (λ_=>aEV trivial) λ_=>aEV trivial))))
  have own:∀ e:Int,Ex (λr:aM×aB×Bool×Int=>PQ' r.1/\RL r.2.1) ((aTO p).bind λx=>some (x,⟨0,0,0⟩,false,e)):=λe=>tF _ (aPE hp) λr hr=>aEV ⟨hr,RL0⟩
  rcases y with u | u | u | u | u <;> simp only [Sum.elim,WT.run,O9]
  · refine tF (λ_=>True) (aL2 (aEY (λ_=>aEV trivial) λ_=>aL2 (aEV trivial))) λb _=>aFQ (λ_=>own _) λ_=>?_
    simp only [Option.bind_some]
    exact tF (λr=>PQ' r.1/\RL r.2.1) (tF _ (aPA hn hp.1 hq) λr hr=>tF _ (aHZ hp hr.1) λw hw=>aEV ⟨hw,hr.2⟩) λr hr=>aL2 (aEY (λ_=>own _) λ_=>aEV hr)
  · refine tF (λ_=>True) (aL2 (aEY (λ_=>aEV trivial) λ_=>aL2 (aEV trivial))) λb _=>aFQ (λ_=>own _) λ_=>?_
    simp only [Option.bind_some]
    exact tF (λr=>PQ' r.1/\RL r.2.1) (tF _ (aPB hn hp.1 hq) λr hr=>tF _ (aHZ hp hr.1) λw hw=>aEV ⟨hw,hr.2⟩) λr hr=>aL2 (aEY (λ_=>own _) λ_=>aEV hr)
  · refine tF (λ_=>True) (aL2 (aEY (λ_=>aEV trivial) λ_=>aL2 (aEV trivial))) λb _=>aFQ (λ_=>own _) λ_=>?_
    simp only [Option.bind_some]
    exact aL2 (tF (λr=>PQ' r.2.2.2/\RL r.2.2.1) (aFQ (λ_=>tF _ (aPL hn hp) λr hr=>aEV ⟨hr,RL0⟩) λ_=>tF (λr=>PQ' r.1/\RL r.2.1) (tF _ (aPS hn hp hq) λr hr=>aEV hr) λr hr=>aEV hr) λr hr=>aL2 (aEY (λ_=>own _) λ_=>aEV hr))
  · refine tF (λ_=>True) (aL2 (aEY (λ_=>aEV trivial) λ_=>aL2 (aEV trivial))) λb _=>aFQ (λ_=>own _) λ_=>?_
    simp only [Option.bind_some]
    exact tF (λr=>PQ' r.1/\RL r.2.1) (tF _ (aPR hn hp.1 hq) λr hr=>tF _ (aHZ hp hr.1) λw hw=>aEV ⟨hw,hr.2⟩) λr hr=>aL2 (aEY (λ_=>own _) λ_=>aEV hr)
  · exact own _
structure EQ' (x:aP):Prop where
  pl:x.dD.length<=20
  pq:∀ p∈x.dD,PQ' p
  bl:x.dU.length<=40
  rl:x.dI.length<=20
  pr:x.dO.length<=20
  dn:x.Down.length<=20
  ah:x.eT=[]
def RcQ (r:bH):Prop:=XE r.aQ/\XE r.Value/\XE r.Open/\XE r.jV/\XE r.fF/\0<=r.Loc/\r.Loc<=1
def SlQ (r:bS):Prop:=XE r.aQ/\XE r.fF/\XE r.qV/\XE r.bO/\0<=r.Loc/\r.Loc<=1
def TrQ (r:dB):Prop:=XE r.aQ/\XE r.Value/\XE r.bO
structure SQ (s:aA):Prop where
  el:s.aW.length<=20
  eq:∀ x∈s.aW,EQ' x
  wl:s.bA.cB.length<=10
  ml:s.bA.Methods.length<=10
  mq:∀ l∈s.bA.Methods,l.length<=20
  cl:s.bA.dN.length<=10
  cq:∀ l∈s.bA.dN,l.length<=10/\∀ c∈l,XE c
  rl:s.bP.length<=40
  rq:∀ r∈s.bP,RcQ r
  sl:s.bU.length<=40
  sq:∀ r∈s.bU,SlQ r
  tl:s.bY.length<=40
  tq:∀ r∈s.bY,TrQ r
theorem SQ.at {s:aA} (h:SQ s) {i:Nat} {x:aP} (hx:s.aW[i]?=some x):EQ' x:=h.eq x (List.mem_of_getElem? hx)
theorem EQ'.at {x:aP} (h:EQ' x) {i:Nat} {p:aM} (hp:x.dD[i]?=some p):PQ' p:=h.pq p (List.mem_of_getElem? hp)
theorem SQ.set {s:aA} (h:SQ s) {i:Nat} {x:aP} (hx:EQ' x):SQ ⟨s.bA,s.aW.set i x,s.bP,s.bU,s.bY,s.Done⟩:=⟨by simp;exact h.el,λy hy=>by
  rcases List.mem_or_eq_of_mem_set hy with hy | rfl
  · exact h.eq y hy
  · exact hx,h.wl,h.ml,h.mq,h.cl,h.cq,h.rl,h.rq,h.sl,h.sq,h.tl,h.tq⟩
structure In' (s:aA) (e i:Int):Prop where
  e0:0<=e
  e1:e<(s.aW.length:Int)
  i0:0<=i
  i1:i<(s.bA.cB.length:Int)
  x:∀ x,s.aW[e.toNat]?=some x->(x.dD.length:Int)>=s.bA.cB.length*2/\(x.dI.length:Int)>=s.bA.cB.length
  m1:e<(s.bA.Methods.length:Int)
  m:∀ x,s.bA.Methods[e.toNat]?=some x->(x.length:Int)>=s.bA.cB.length
  c1:e<(s.bA.dN.length:Int)
  c:∀ x,s.bA.dN[e.toNat]?=some x->(x.length:Int)>=s.bA.cB.length
structure SK (s t:aA):Prop where
  q:SQ t
  ma:t.bA=s.bA
  rc:t.bP=s.bP
  sl:t.bU=s.bU
  tr:t.bY=s.bY
  dn:t.Done=s.Done
  el:t.aW.length=s.aW.length
  iN:∀ {e i:Int},In' s e i->In' t e i
theorem SQ.rf {s:aA} (h:SQ s):SK s s:=⟨h,rfl,rfl,rfl,rfl,rfl,rfl,λh=>h⟩
theorem SQ.aSC {s:aA} (h:SQ s) {i:Nat} {x y:aP} (hx:EQ' x) (hy:s.aW[i]?=some y) (hp:x.dD.length=y.dD.length:=by simp) (hr:x.dI.length=y.dI.length:=by simp):SK s ⟨s.bA,s.aW.set i x,s.bP,s.bU,s.bY,s.Done⟩:=⟨h.set hx,rfl,rfl,rfl,rfl,rfl,by simp,λ{e j} k=>⟨k.e0,by simp;exact k.e1,k.i0,k.i1,λz hz=>by
  simp only [List.getElem?_set] at hz
  split at hz
  · rename_i he
    split at hz
    · cases hz;rw [hp,hr];exact k.x y (he ▸ hy)
    · cases hz
  · exact k.x z hz,k.m1,k.m,k.c1,k.c⟩⟩
theorem SK.trans {s t u:aA} (h:SK s t) (k:SK t u):SK s u:=⟨k.q,k.ma.trans h.ma,k.rc.trans h.rc,k.sl.trans h.sl,k.tr.trans h.tr,k.dn.trans h.dn,k.el.trans h.el,λi=>k.iN (h.iN i)⟩
theorem EQ'.aSA {x:aP} (h:EQ' x) {i:Nat} {p:aM} (hp:PQ' p):∀ q∈x.dD.set i p,PQ' q:=λq hq=>by
  rcases List.mem_or_eq_of_mem_set hq with hq | rfl
  · exact h.pq q hq
  · exact hp
theorem aO9 {s:aA} {e i:Int} (h:SQ s):Ex (λb=>b=true->In' s e i) (zC s e i):=by
  have hw:=h.wl
  unfold zC XU;simp only [WT.run,O9]
  refine tF (λb=>b=false->0<=e/\e<(s.aW.length:Int)/\0<=i/\i<(s.bA.cB.length:Int)) ?_ λb hb=>aFQ (λ_=>aEV λh=>by cases h) λhb'=>?_
  · exact aL2 (aEY (λ_=>aEV λh=>by cases h) λ_=>aL2 (aEY (λ_=>aEV λh=>by cases h) λ_=>aL2 (aEY (λ_=>aEV λh=>by cases h) λ_=>aL2 (aEV λh=>by have:=of_decide_eq_false h;omega))))
  · obtain ⟨h1,h2,h3,h4⟩:=hb hb'
    have hF:∀ {P:Prop},Ex (λb:Bool=>b=true->P) (some false):=λ{P}=>aEV λh=>by cases h
    refine ON h1 h2 λx hx=>tF (λb=>b=true->In' s e i) (x_v (aL2 (aEY (λk1=>aL2 (aEY (λk2=>aL2 (aEY (λk3=>aL2 (aEY (λk4=>ON h1 k3 λm hm=>aL2 (aEY (λk5=>ON h1 k4 λc hc=>aL2 (aEV λk6=>?_)) λ_=>hF)) λ_=>hF)) λ_=>hF)) λ_=>hF)) λ_=>hF))) λb hb=>aEV hb
    have k6:=of_decide_eq_true k6
    exact ⟨h1,h2,h3,h4,λy hy=>by rw [hx] at hy;cases hy;exact ⟨k1,k2⟩,k3,λy hy=>by rw [hm] at hy;cases hy;exact k5,k4,λy hy=>by rw [hc] at hy;cases hy;exact k6⟩
theorem aGE {s:aA} {e i:Int} (h:SQ s):Ex (λr=>r=0->In' s e i) (lH s e i):=by
  unfold lH aLX;simp only [WT.run,O9]
  exact tF _ (aO9 h) λb hb=>aL2 (aEW (λ_=>aEV λh=>by cases h) λhb'=>ON (hb hb').e0 (hb hb').e1 λx hx=>aFQ (λ_=>aEV λh=>by cases h) λ_=>aEV λ_=>hb hb')
theorem aPU {a b c:Int}:Ex (λr=>r=true->b<=a/\a<=c) (UX a b c):=by
  unfold UX aIS;simp only [WT.run,O9]
  exact tF (λr=>r=true->b<=a/\a<=c) (aL2 (aEY (λh=>aL2 (aEV λh'=>⟨h,of_decide_eq_true h'⟩)) λ_=>aEV λh=>by cases h)) λr hr=>aEV hr
theorem aM9 {s:aA} {e i l:Int} (h:SQ s):Ex (λr=>¬ r<0->In' s e i/\r=i*2+l/\0<=l/\l<=1) (zN s e i l):=by
  have hw:=h.wl
  unfold zN aLD;simp only [WT.run,O9]
  refine tF (λb=>b=false->In' s e i/\0<=l/\l<=1) ?_ λb hb=>aFQ (λ_=>aEV λh=>absurd (by decide) h) λhb'=>?_
  · exact tF _ (aO9 h) λb hb=>aL2 (aEW (λ_=>aEV λh=>by cases h) λhb'=>tF _ aPU λc hc=>aL2 (aEV λh=>⟨hb hb',hc (by simpa using h)⟩))
  · obtain ⟨h1,h2⟩:=hb hb'
    have:=h1.i0;have:=h1.i1
    exact x_v (x_v (aEV λ_=>⟨h1,rfl,h2⟩))
theorem aIU {s:aA} {e i l:Int} (h:SQ s):Ex PQ' (yG s e i l):=by
  unfold yG aJC;simp only [WT.run,O9]
  refine tF _ (aM9 h) λp hp=>aL2 (aEY (λ_=>aEV ⟨LQ0,aP0,aP0,aP0⟩) λhn=>?_)
  obtain ⟨h1,rfl,h2,h3⟩:=hp hn
  refine ON h1.e0 h1.e1 λx hx=>?_
  have hxl:=(h1.x x hx).1
  have:=h1.i1
  refine ON (by omega) (by omega) λq hq=>?_
  have hqq:=(h.at hx).at hq
  have:=hqq.1.1
  exact x_a (aEV hqq)
theorem aPI {n:Nat} {s:aA} {e i:Int} (hn:250<=n) (h:SQ s):Ex (λr=>RL r.1) (SB n s e i):=by
  unfold SB aBY;simp only [WT.run,O9]
  refine tF (λa=>a.1.length<250/\a.2.1.length<250/\a.2.2.length<250) (aQB (m:=2) (λv=>v.1) (λv=>(v.2.1.length:Int)=v.1/\(v.2.2.1.length:Int)=v.1/\(v.2.2.2.length:Int)=v.1) ⟨by simp,by simp,by simp⟩ (by omega) λv h1 h2 h3=>?_) λa ha=>?_
  · obtain ⟨k,p,q,w⟩:=v
    simp only at h1 h2 h3
    simp only [p2]
    refine aL2 (aEY (λ_=>tF _ (aIU h) λp hp=>tF _ (aOB (hp.1.fuel hn)) λt ht=>?_) λ_=>aGQ (aEV ⟨by simp only;omega,by simp only;omega,by simp only;omega⟩))
    repeat' with_reducible first | exact aEV trivial | refine x_v ?_ | refine aP8 ?_ | apply aL2 | refine ON (by omega) (by omega) λ_ _=>?_ | exact XC trivial | exact XC ⟨by omega,by (first | rfl | omega | (simp only;omega)),trivial⟩ | refine x_a ?_ | refine aP5 (λ_ _=>?_) λ_ _=>trivial | apply aI5 | apply aCE | apply aAR | apply Y4 | apply aOY | apply aIH | apply aKG | apply aMX | apply aDS | refine aEY (λ_=>?_) λ_=>?_ | refine aEW (λ_=>?_) λ_=>?_ | refine aFQ (λ_=>?_) λ_=>?_ | apply x_cT | apply x_cF | apply aK3 | apply aGQ | refine tF _ aPX λ_ _=>?_ | refine tF _ aLP λ_ _=>?_ | refine tF _ aGO λ_ _=>?_ | refine tF _ aPW λ_ _=>?_ | refine tF _ aOB λ_ _=>?_ | refine tF _ aPY λ_ _=>?_ | refine tF _ aPV λ_ _=>?_ | refine tF _ (aPX (by assumption)) λ_ _=>?_ | refine tF _ (aLP (by assumption)) λ_ _=>?_ | refine tF _ (aGO (by assumption)) λ_ _=>?_ | refine tF _ (aPW (by assumption)) λ_ _=>?_ | refine tF _ (aOB (by assumption)) λ_ _=>?_ | refine tF _ (aPY (by assumption)) λ_ _=>?_ | refine tF _ (aPV (by assumption)) λ_ _=>?_
    all_goals (first | refine XC ?_ | refine aEV ?_) <;> (try simp only [List.length_append,List.length_cons,List.length_nil,List.length_set] at *) <;> (repeat' apply And.intro) <;> (first | trivial | omega)
  · obtain ⟨p,q,w⟩:=a
    simp only at ha
    simp only [p2]
    exact tF _ (aGO ⟨ha.1,hn⟩) λa1 h1=>tF _ (aGO ⟨ha.2.1,hn⟩) λa2 h2=>tF _ (aGO ⟨ha.2.2,hn⟩) λa3 h3=>aL2 (aL2 (aEV ⟨h1,h2,h3⟩))
theorem aPH {n:Nat} {s:aA} {e i:Int} (hn:250<=n) (h:SQ s):Tot (RY n s e i):=by
  unfold RY ZG;simp only [WT.run,O9]
  refine tF (λa=>a.length<250) (aQB (m:=2) (λv=>v.1) (λv=>(v.2.length:Int)<=v.1*30) ⟨by simp,by simp,by simp⟩ (by omega) λv h1 h2 h3=>?_) λa ha=>?_
  · obtain ⟨k,p⟩:=v
    simp only at h1 h2 h3
    simp only [p2]
    refine aL2 (aEY (λhk=>tF (λa=>(a.length:Int)<=(k+1)*30) (tF _ (aIU h) λo ho=>tF (λa=>(a.length:Int)<=(k+1)*30) ?_ λa ha=>aEV ha) λa ha=>x_v (XC ⟨by omega,rfl,ha⟩)) λ_=>aGQ (aEV (by omega)))
    have hl:=ho.1.1
    refine aQB (m:=o.cO.length) (λv=>v.1) (λv=>(v.2.length:Int)=p.length+v.1) ⟨by simp,by simp,by simp⟩ (by omega) λv h1 h2 h3=>?_
    obtain ⟨j,q⟩:=v
    simp only at h1 h2 h3
    repeat' with_reducible first | exact aEV trivial | refine x_v ?_ | refine aP8 ?_ | apply aL2 | refine ON (by omega) (by omega) λ_ _=>?_ | exact XC trivial | exact XC ⟨by omega,by (first | rfl | omega | (simp only;omega)),trivial⟩ | refine x_a ?_ | refine aP5 (λ_ _=>?_) λ_ _=>trivial | apply aI5 | apply aCE | apply aAR | apply Y4 | apply aOY | apply aIH | apply aKG | apply aMX | apply aDS | refine aEY (λ_=>?_) λ_=>?_ | refine aEW (λ_=>?_) λ_=>?_ | refine aFQ (λ_=>?_) λ_=>?_ | apply x_cT | apply x_cF | apply aK3 | apply aGQ | refine tF _ aPX λ_ _=>?_ | refine tF _ aLP λ_ _=>?_ | refine tF _ aGO λ_ _=>?_ | refine tF _ aPW λ_ _=>?_ | refine tF _ aOB λ_ _=>?_ | refine tF _ aPY λ_ _=>?_ | refine tF _ aPV λ_ _=>?_ | refine tF _ (aPX (by assumption)) λ_ _=>?_ | refine tF _ (aLP (by assumption)) λ_ _=>?_ | refine tF _ (aGO (by assumption)) λ_ _=>?_ | refine tF _ (aPW (by assumption)) λ_ _=>?_ | refine tF _ (aOB (by assumption)) λ_ _=>?_ | refine tF _ (aPY (by assumption)) λ_ _=>?_ | refine tF _ (aPV (by assumption)) λ_ _=>?_
    all_goals (first | refine XC ?_ | refine aEV ?_) <;> (try simp only [List.length_append,List.length_cons,List.length_nil,List.length_set] at *) <;> (repeat' apply And.intro) <;> (first | trivial | omega)
  · exact tF _ (aGO ⟨ha,hn⟩) λa1 h1=>aL2 (aEV trivial)
theorem aSG {n:Nat} {s:aA} {e i l:Int} {x:aB} (hn:250<=n) (h:SQ s) (hx:RL x):Ex (λr=>SK s r.1/\XE r.2.1/\XE r.2.2.1/\(r.2.2.2=0->0<=l/\l<=1)) (uU n s e i l x):=by
  unfold uU aEQ;simp only [WT.run,O9]
  refine tF _ (aM9 h) λp hp=>aL2 (aEY (λ_=>aEV ⟨h.rf,aP0,aP0,λh=>absurd h (show ¬ (4:Int)=0 by decide)⟩) λhpn=>?_)
  obtain ⟨hin,rfl,hl0,hl1⟩:=hp hpn
  have i1:=hin.i1
  refine ON hin.e0 hin.m1 λmt hmt=>ON hin.i0 (by have:=hin.m _ hmt;omega) λm hm=>ON hin.e0 hin.c1 λct hct=>ON hin.i0 (by have:=hin.c _ hct;omega) λc hc=>ON hin.e0 hin.e1 λy hy=>?_
  have hpl:=(hin.x y hy).1
  have hyq:=h.at hy
  refine ON (by omega) (by omega) λq hq=>tF _ (aPP hn (hyq.at hq) hx) λr hr=>aL2 (aEY (λ_=>aEV ⟨h.rf,aP0,aP0,λ_=>⟨hl0,hl1⟩⟩) λ_=>?_)
  have hel:=h.el
  have hyl:=hyq.pl
  refine tF (λt=>EQ' ⟨t.1,t.2.1,t.2.2.2.2.2.2.2,t.2.2.1,t.2.2.2.1,t.2.2.2.2.1,t.2.2.2.2.2.1,t.2.2.2.2.2.2.1⟩/\t.2.2.2.2.2.2.2.length=y.dD.length/\t.2.2.2.1.length=y.dI.length) (tF (λ_=>True) (x_a (ON hin.e0 hin.e1 λ_ _=>aEV trivial)) λ_ _=>aQZ hin.e0 hy (x_a (aQZ (by omega) hq (aL2 (aEV ⟨⟨by simp;exact hyl,hyq.aSA hr.1,hyq.bl,hyq.rl,hyq.pr,hyq.dn,hyq.ah⟩,by simp,rfl⟩))))) λt ht=>?_
  obtain ⟨a,b,c,d,f,g,k,w⟩:=t
  obtain ⟨ht,hP,hR⟩:=ht
  have hS:=h.set (i:=e.toNat) ht
  simp only [p2]
  exact ON hin.e0 hin.e1 λ_ _=>tF _ (aPI hn hS) λ_ _=>tF (λ_=>True) (aL2 (aFQ (λ_=>aEV trivial) λ_=>tF _ (aPH hn hS) λ_ _=>aL2 (aEV trivial))) λ_ _=>aFQ (λ_=>aEV ⟨h.rf,aP0,aP0,λ_=>⟨hl0,hl1⟩⟩) λ_=>aL2 (aEV ⟨h.aSC ht hy hP hR,aG1 _,hr.2,λ_=>⟨hl0,hl1⟩⟩)
theorem aR6 {n:Nat} {s:aA} {e i l k q:Int} (hn:250<=n) (h:SQ s) (hq:XE q):Ex (λr=>SK s r.1/\RL r.2.1/\(r.2.2.2=0->0<=l/\l<=1)) (rR n s e i l k q):=by
  unfold rR aNC;simp only [WT.run,O9]
  refine tF _ (aM9 h) λp hp=>aL2 (aEY (λ_=>aEV ⟨h.rf,RL0,λh=>absurd h (show ¬ (4:Int)=0 by decide)⟩) λhpn=>?_)
  obtain ⟨hin,rfl,hl0,hl1⟩:=hp hpn
  have i1:=hin.i1
  refine ON hin.e0 hin.m1 λmt hmt=>ON hin.i0 (by have:=hin.m _ hmt;omega) λm hm=>ON hin.e0 hin.c1 λct hct=>ON hin.i0 (by have:=hin.c _ hct;omega) λc hc=>ON hin.e0 hin.e1 λy hy=>?_
  have hpl:=(hin.x y hy).1
  have hyq:=h.at hy
  refine ON (by omega) (by omega) λo ho=>tF _ (aPN hn (hyq.at ho) hq) λr hr=>aL2 (aL2 (aEY (λ_=>aEV ⟨h.rf,RL0,λ_=>⟨hl0,hl1⟩⟩) λ_=>?_))
  have hel:=h.el
  have hyl:=hyq.pl
  refine tF (λt=>EQ' ⟨t.1,t.2.1,t.2.2.2.2.2.2.2,t.2.2.1,t.2.2.2.1,t.2.2.2.2.1,t.2.2.2.2.2.1,t.2.2.2.2.2.2.1⟩/\t.2.2.2.2.2.2.2.length=y.dD.length/\t.2.2.2.1.length=y.dI.length) (tF (λ_=>True) (x_a (ON hin.e0 hin.e1 λ_ _=>aEV trivial)) λ_ _=>aQZ hin.e0 hy (x_a (aQZ (by omega) ho (aL2 (aEV ⟨⟨by simp;exact hyl,hyq.aSA hr.1,hyq.bl,hyq.rl,hyq.pr,hyq.dn,hyq.ah⟩,by simp,rfl⟩))))) λt ht=>?_
  obtain ⟨a,b,c,d,f,g,k,w⟩:=t
  obtain ⟨ht,hP,hR⟩:=ht
  have hS:=h.set (i:=e.toNat) ht
  simp only [p2]
  exact ON hin.e0 hin.e1 λ_ _=>aEV ⟨h.aSC ht hy hP hR,hr.2,λ_=>⟨hl0,hl1⟩⟩
theorem aXZ {α β:Type} {P:β->Prop} {l:List α} {i:Int} {a:α} {f:α->Option β} (h:ix l i=some a) (k:Ex P (f a)):Ex P ((ix l i).bind f):=by rw [h];exact k
theorem aQ4 {s:aA} {e i:Int} {r:bM} (h:SQ s):Ex (λr=>SK s r.1) (qD s e i r):=by
  unfold qD aIQ;simp only [WT.run,O9,Option.bind_some]
  refine tF _ (aO9 h) λb hb=>aL2 (aEW (λ_=>aEV h.rf) λhb'=>?_)
  have hin:=hb hb'
  have hi1:=hin.i1
  refine ON hin.e0 hin.e1 λx hx=>ON hin.i0 (by have:=(hin.x x hx).2;omega) λy hy=>?_
  have hxq:=h.at hx
  refine tF (λr=>match r with | .inl _=>True | .inr q=>SK s q.1) ?_ λq hq=>?_
  · repeat' with_reducible first | refine aXZ rfl ?_ | refine tF _ aLP λ_ _=>?_ | apply aL2 | refine aEY (λ_=>aGQ (aEV h.rf)) λ_=>?_ | exact XC trivial
  · cases q with
    | inr q=>exact ⟨_,rfl,hq⟩
    | inl q =>
      refine aK3 ?_
      have:=h.el;have:=hxq.rl
      refine tF (λ_=>True) (x_a (ON hin.e0 hin.e1 λ_ _=>aEV trivial)) λ_ _=>aQZ hin.e0 hx (x_a ?_)
      exact aQZ hin.i0 hy (aL2 (aEV (h.aSC ⟨hxq.pl,hxq.pq,hxq.bl,by simp;exact hxq.rl,hxq.pr,hxq.dn,hxq.ah⟩ hx)))
end Go.Pv
