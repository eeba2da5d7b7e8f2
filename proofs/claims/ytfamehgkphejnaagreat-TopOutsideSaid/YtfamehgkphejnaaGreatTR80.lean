import Derived.Test.YtfamehgkphejnaaGreatGF90
import Derived.Test.YtfamehgkphejnaaGreatGA90
set_option linter.unusedVariables false
set_option linter.unusedSimpArgs false
namespace Go.Pv
open Go.Proofs
set_option maxRecDepth 100000
set_option maxHeartbeats 1000000
def aUZ (s:aA):Int:=sI (s.bY.map dB.aQ)
def aT2 (s:aA):Int:=sI (s.bY.map dB.Value)
def aXP (s:aA):Int:=sI (s.bY.map dB.bO)
def aYA (s:aA):Int:=sAb (s.bY.map dB.bO)
def TRs (s:aA):Prop:=∀ t∈s.bY,0<=t.aQ/\0<=t.Value/\t.Item=0
structure Gm (s t:aA) (q w A d:Int):Prop where
  q:gS fQ t+aUZ t=gS fQ s+aUZ s+q
  w:gS fV t+aT2 t-gS fP t-aXP t=gS fV s+aT2 s-gS fP s-aXP s+w
  v:gS fV t+aT2 t<=gS fV s+aT2 s+A
  a:gS fA t+aYA t<=gS fA s+aYA s+A+gS fV s
  l:gL t=gL s+d
  b:LBs t
  tr:TRs t
  el:t.aW.length=s.aW.length
  ma:t.bA=s.bA
  g:t.aW.map gX=s.aW.map gX
  iN:∀ {e i:Int},In' s e i->In' t e i
theorem Mv.tr {s t:aA} {q v p a d:Int} (h:Mv s t q v p a d):aUZ t=aUZ s/\aT2 t=aT2 s/\aXP t=aXP s/\aYA t=aYA s:=by
  unfold aUZ aT2 aXP aYA;rw [h.k.tr];exact ⟨rfl,rfl,rfl,rfl⟩
theorem Mv.gm {s t:aA} {q v p a d A:Int} (h:Mv s t q v p a d) (hb:LBs s) (ht:TRs s) (h1:v<=A) (h2:a<=A):Gm s t q (v-p) A d:=by
  obtain ⟨t1,t2,t3,t4⟩:=h.tr
  have h3:=h.q;have h4:=h.v;have h5:=h.p;have h6:=h.a;have h7:=hb.nn
  exact ⟨by omega,by omega,by omega,by omega,h.l,h.b,by unfold TRs;rw [h.k.tr];exact ht,h.k.el,h.k.ma,h.g,h.k.iN⟩
theorem bA0 {n:Nat} {s:aA} {o:aS} {A:Int} (hn:250<=n) (h:SQ s) (hM:M3s s) (hb:LBs s) (ht:TRs s) (hW:s.bA.cB.length=1) (hq:XE o.aQ/\XE o.bD) (hA:o.bD<=A) (hA0:0<=A):Ex (λr=>r.2=0->Gm s r.1 o.aQ o.bD A 0) (VK n s o):=by
  unfold VK aFN;simp only [WT.run,O9]
  refine aL2 (aEY (λ_=>aEV λh=>absurd h (show ¬ (1:Int)=0 by decide)) λ_=>tF (λr=>SK s r.1/\(¬ r.2≠0->s.bP.length<40/\Mv s r.1 o.aQ o.bD 0 0 0)) ?_ λr hr=>?_)
  · refine tF (λ_=>True) (tF _ (aGE h) λ_ _=>aEV trivial) λy _=>aL2 (aEY (λhy=>aEV ⟨h.rf,λk=>absurd hy k⟩) λhy=>tF (λz=>¬ z≠0->s.bP.length<40) (aL2 (aEY (λ_=>aEV λk=>absurd (by decide) k) λh40=>aEV λ_=>by omega)) λz hz=>aL2 (aEY (λhz'=>aEV ⟨h.rf,λk=>absurd hz' k⟩) λhz'=>?_))
    have hlt:=hz hz'
    refine tF (λt=>SK s t.1/\(t.2.2.2=0->Mv s t.1 o.aQ o.bD 0 0 0)) (tF _ (aUT (aSG hn h (x:=⟨_,_,_⟩) ⟨hq.1,hq.2,aP0⟩) (a6Z hn h hM hb (x:=⟨_,_,_⟩) ⟨hq.1,hq.2,aP0⟩)) λb hb'=>aEV ⟨hb'.1.1,λk=>(hb'.2 k).1⟩) λb hb'=>?_
    obtain ⟨t,c,d,e⟩:=b
    obtain ⟨hsk,hmv⟩:=hb'
    simp only at hsk hmv
    simp only [p2]
    refine aL2 (aEY (λhe=>aEV ⟨hsk,λk=>absurd he k⟩) λhne=>?_)
    have hmv:=hmv (Classical.not_not.1 hne)
    refine tF (λt=>Mv s t.1 o.aQ o.bD 0 0 0) (aL2 (tF _ (a5S hn hmv.k.q hmv.b (by simp)) λr hr=>aEV ((hmv.trans hr).to (by omega) (by omega) (by omega) (by omega) (by omega)))) λr hr=>?_
    refine aL2 (aEY (λhe=>aEV ⟨hr.k,λk=>absurd he k⟩) λ_=>tF (λt=>SK s t.1/\(t.2=0->Mv s t.1 o.aQ o.bD 0 0 0)) (tF _ (aUT (aQ4 hr.k.q) (a4A hr.k.q hr.b (by rw [hr.k.ma];exact hW))) λu hu=>aEV ⟨hr.k.trans hu.1,λk=>(hr.trans (hu.2 k)).to (by omega) (by omega) (by omega) (by omega) (by simp only;omega)⟩) λu hu=>?_)
    exact aL2 (aEY (λhe=>aEV ⟨hu.1,λk=>absurd he k⟩) λhe=>aEV ⟨hu.1,λ_=>⟨hlt,hu.2 (Classical.not_not.1 he)⟩⟩)
  · obtain ⟨t,e⟩:=r
    obtain ⟨h1,h2⟩:=hr
    simp only at h1 h2
    simp only [p2]
    refine aL2 (aEY (λk=>aEV λh=>absurd h k) λhe=>?_)
    obtain ⟨h3,h4⟩:=h2 he
    have hlt:t.bP.length<40:=by rw [h1.rc];exact h3
    have hg:=h4.gm hb ht hA hA0
    exact x_a (aL2 (x_a (aEV λ_=>⟨hg.q,by have:=hg.w;rw [Int.sub_zero] at this;exact this,hg.v,hg.a,hg.l,hg.b,hg.tr,hg.el,hg.ma,hg.g,λk=>let r:=hg.iN k;⟨r.e0,r.e1,r.i0,r.i1,r.x,r.m1,r.m,r.c1,r.c⟩⟩)))
theorem a8P {n:Nat} {s:aA} {l:List gG} (hn:250<=n) (h:SQ s) (hb:LBs s) (hl:l.length<20) (hx:∀ x∈l,x.lines.length<20):Ex (λr=>Mv s r.1 0 0 0 0 0) (EC n s l):=by
  unfold EC XB;simp only [WT.run,O9]
  refine tF (λr=>match r with | .inl a=>Mv s a 0 0 0 0 0 | .inr b=>Mv s b.1 0 0 0 0 0) (aQB (m:=l.length) (λv=>v.1) (λv=>Mv s v.2 0 0 0 0 0) ⟨by simp,by simp,.rf h hb⟩ (by omega) λv h1 h2 h3=>?_) λr hr=>?_
  · simp only [p2]
    refine aL2 (aEY (λhk=>ON (by omega) (by omega) λx hx'=>tF _ (a5S hn h3.k.q h3.b (hx x (List.mem_of_getElem? hx'))) λy hy=>aL2 (aEY (λ_=>aGQ (aGQ (aEV ((h3.trans hy).to rfl rfl rfl (Int.le_refl _) rfl)))) λ_=>x_v (XC ⟨hk,rfl,(h3.trans hy).to rfl rfl rfl (Int.le_refl _) rfl⟩))) λ_=>aGQ (XC h3))
  · cases r with
    | inl a=>exact aEV hr
    | inr b=>exact ⟨_,rfl,hr⟩
theorem bDS (a:List dB) (x:dB):sI ((a++[x]).map dB.aQ)=sI (a.map dB.aQ)+x.aQ/\sI ((a++[x]).map dB.Value)=sI (a.map dB.Value)+x.Value/\sI ((a++[x]).map dB.bO)=sI (a.map dB.bO)+x.bO/\sAb ((a++[x]).map dB.bO)=sAb (a.map dB.bO)+x.bO.natAbs:=by
  simp only [List.map_append,aV8,a7D,List.map_cons,List.map_nil,sI,sAb]
  refine ⟨?_,?_,?_,?_⟩ <;> omega
theorem bDG {n:Nat} {s:aA} {o:aS} {A:Int} (hn:250<=n) (h:SQ s) (hM:M3s s) (hb:LBs s) (ht:TRs s) (hW:s.bA.cB.length=1) (hq:XE o.aQ/\XE o.bD) (hA:0<=o.bD/\o.bD<=A) (hA2:A<=100000) (hI:o.Item=0):Ex (λr=>r.2=0->Gm s r.1 0 0 A 0) (KJ n s o):=by
  unfold KJ aIW;simp only [WT.run,O9]
  refine tF (λr=>match r with | .inl a=>True | .inr b=>b.2≠0) (aQB (m:=2) (λv=>v) (λ_=>True) ⟨by simp,by simp,trivial⟩ (by omega) λv h1 h2 h3=>?_) λr hr=>?_
  · exact aL2 (aEY (λhk=>ON h1 (by simp;omega) λx hx=>tF _ (aGE h) λy hy=>aL2 (aEY (λk=>aGQ (aGQ (aEV k))) λ_=>x_v (XC ⟨by omega,rfl,trivial⟩))) λ_=>aGQ (XC trivial))
  cases r with
  | inr t=>exact ⟨_,rfl,λh=>absurd h hr⟩
  | inl q =>
    refine aK3 (aL2 (aEY (λ_=>aEV λh=>absurd h (show ¬ (6:Int)=0 by decide)) λh40=>tF _ (aUT (aR6 hn h hq.1) (bAO hn h hM hb hq.1)) λf hf=>aL2 (aEY (λk=>aEV λh=>absurd h k) λkf=>?_)))
    obtain ⟨hF,hx0,hx1,hx2,hx3,hx4⟩:=hf.2 (Classical.not_not.1 kf)
    refine tF _ aQ7 λ_ _=>aL2 (tF _ aQ7 λ_ _=>tF _ aQ7 λ_ _=>aL2 (tF _ aQ7 λ_ _=>tF _ aQ7 λ_ _=>aL2 (tF _ aQ7 λ_ _=>tF _ (a8P hn hF.k.q hF.b (by simp) (by simp)) λu hu=>aL2 (aEY (λk=>aEV λh=>absurd h k) λ_=>tF _ (aUT (aQ4 hu.k.q) (a4A hu.k.q hu.b (by rw [hu.k.ma,hF.k.ma];exact hW))) λv hv=>aL2 (aEY (λk=>aEV λh=>absurd h k) λkv=>?_)))))
    have hT:=(hF.trans hu).trans (hv.2 (Classical.not_not.1 kv))
    have hlt:v.1.bY.length<40:=by rw [hT.k.tr];omega
    have e1:aI (o.bD-f.2.1.Value)=o.bD-f.2.1.Value:=wrap64 (by omega)
    have e2:aI (o.bD-f.2.1.Value+f.2.1.bO)=o.bD-f.2.1.Value+f.2.1.bO:=wrap64 (by omega)
    refine aL2 (aL2 (tF (λ_=>True) (aL2 (aEY (λ_=>aEV trivial) λ_=>aL2 (aEV trivial))) λ_ _=>aFQ (λ_=>aEV λh=>absurd h (show ¬ (2:Int)=0 by decide)) λ_=>x_a (aL2 (x_a (aEV λ_=>?_)))))
    simp only [e1,e2]
    obtain ⟨t1,t2,t3,t4⟩:=hT.tr
    have g1:=hT.q;have g2:=hT.v;have g3:=hT.p;have g4:=hT.a;have g5:=hT.l;have g6:=hT.b.nn
    obtain ⟨j1,j2,j3,j4⟩:=bDS v.1.bY ⟨o.E,o.To,o.Item,o.aQ,o.bD,o.bD-f.2.1.Value+f.2.1.bO⟩
    simp only at j1 j2 j3 j4
    unfold aUZ at t1;unfold aT2 at t2;unfold aXP at t3;unfold aYA at t4
    refine ⟨?_,?_,?_,?_,?_,hT.b,?_,hT.k.el,hT.k.ma,hT.g,λk=>let r:=hT.k.iN k;⟨r.e0,r.e1,r.i0,r.i1,r.x,r.m1,r.m,r.c1,r.c⟩⟩
    · unfold aUZ;simp only;rw [j1];unfold gS at *;simp only at *;omega
    · unfold aT2 aXP;simp only;rw [j2,j3];unfold gS at *;simp only at *;omega
    · unfold aT2;simp only;rw [j2];unfold gS at *;simp only at *;omega
    · unfold aYA;simp only;rw [j4];unfold gS at *;simp only at *;omega
    · unfold gL at *;simp only at *;omega
    · intro z hz
      rcases List.mem_append.1 hz with hz | hz
      · rw [hT.k.tr] at hz;exact ht z hz
      · rw [List.mem_singleton.1 hz];exact ⟨by simp only;omega,by simp only;omega,hI⟩
theorem bDV {n:Nat} {s:aA} {o:aS} {A:Int} (hn:250<=n) (h:SQ s) (hM:M3s s) (hb:LBs s) (ht:TRs s) (hW:s.bA.cB.length=1) (hq:XE o.aQ/\XE o.bD) (hA:0<=A):Ex (λr=>r.2=0->Gm s r.1 0 0 A 0) (T9 n s o):=by
  unfold T9 aLH;simp only [WT.run,O9]
  refine tF (λb=>b=false->0<=o.Ref/\o.Ref<s.bY.length) (aL2 (aEY (λ_=>aEV λh=>by cases h) λh1=>aL2 (aEV λh2=>by have:=of_decide_eq_false h2;omega))) λb hb'=>aFQ (λ_=>aEV λh=>absurd h (show ¬ (4:Int)=0 by decide)) λhb2=>ON (hb' hb2).1 (hb' hb2).2 λx hx=>tF _ (aGE h) λy hy=>aL2 (aEY (λk=>aEV λh=>absurd h k) λhy'=>aL2 (aEY (λ_=>aEV λh=>absurd h (show ¬ (5:Int)=0 by decide)) λhle=>?_))
  have hxq:=h.atT hx
  have hx0:=ht x (List.mem_of_getElem? hx)
  refine tF _ (aUT (aF5 hn hxq.2.1 hq.1 hxq.1) (a4K hn hxq.2.1 hq.1 hxq.1)) λv hv=>tF _ (aUT (aF5 hn hxq.2.2 hq.1 hxq.1) (a4K hn hxq.2.2 hq.1 hxq.1)) λp hp=>tF _ (aUT (aSG hn h (x:=⟨_,_,_⟩) ⟨hq.1,hv.1,hp.1⟩) (a6Z hn h hM hb (x:=⟨_,_,_⟩) ⟨hq.1,hv.1,hp.1⟩)) λc hc=>aL2 (aEY (λk=>aEV λh=>absurd h k) λkc=>?_)
  obtain ⟨hB,-,-,hq1,-⟩:=hc.2 (Classical.not_not.1 kc)
  refine tF _ aQ7 λ_ _=>tF _ aQ7 λ_ _=>aL2 (tF _ aQ7 λ_ _=>tF _ (a8P hn hB.k.q hB.b (by simp) (by simp)) λu hu=>aL2 (aEY (λk=>aEV λh=>absurd h k) λ_=>tF _ (aUT (aQ4 hu.k.q) (a4A hu.k.q hu.b (by rw [hu.k.ma,hB.k.ma];exact hW))) λt ht'=>aL2 (aEY (λk=>aEV λh=>absurd h k) λkt=>?_)))
  have hT:=(hB.trans hu).trans (ht'.2 (Classical.not_not.1 kt))
  have hl:=hT.k.q.tl
  have hlt:o.Ref<(t.1.bY.length:Int):=by rw [hT.k.tr];exact (hb' hb2).2
  have hxt:t.1.bY[o.Ref.toNat]?=some x:=by rw [hT.k.tr];exact hx
  simp only at hq1
  have hv2:=hv.2.1 hx0.2.1
  have r1:=hxq.1;have r2:=hxq.2.1;have r3:=hxq.2.2;have r4:=hp.1;have r5:=hv.1
  unfold XE at r1 r2 r3 r4 r5
  have hp2:(p.natAbs:Int)+(x.bO-p).natAbs=x.bO.natAbs:=by
    rcases Int.le_total 0 x.bO with k | k
    · have:=hp.2.1 k;omega
    · have:=hp.2.2 k;omega
  have e1:aI (x.aQ-o.aQ)=x.aQ-o.aQ:=wrap64 (by omega)
  have e2:aI (x.Value-v)=x.Value-v:=wrap64 (by omega)
  have e3:aI (x.bO-p)=x.bO-p:=wrap64 (by omega)
  refine x_a (aL2 (aL2 (aL2 (aQZ (hb' hb2).1 hxt (aL2 (aL2 (aL2 (aEV λ_=>?_))))))))
  simp only [e1,e2,e3,List.set_set]
  obtain ⟨t1,t2,t3,t4⟩:=hT.tr
  have g1:=hT.q;have g2:=hT.v;have g3:=hT.p;have g4:=hT.a;have g5:=hT.l;have g6:=hT.b.nn;have g7:=hb.nn
  have j1:=aYI dB.aQ hxt (y:=⟨x.aR1,x.To,x.Item,x.aQ-o.aQ,x.Value-v,x.bO-p⟩)
  have j2:=aYI dB.Value hxt (y:=⟨x.aR1,x.To,x.Item,x.aQ-o.aQ,x.Value-v,x.bO-p⟩)
  have j3:=aYI dB.bO hxt (y:=⟨x.aR1,x.To,x.Item,x.aQ-o.aQ,x.Value-v,x.bO-p⟩)
  have j4:=a6K dB.bO hxt (y:=⟨x.aR1,x.To,x.Item,x.aQ-o.aQ,x.Value-v,x.bO-p⟩)
  simp only at j1 j2 j3 j4
  unfold aUZ at t1;unfold aT2 at t2;unfold aXP at t3;unfold aYA at t4
  refine ⟨?_,?_,?_,?_,?_,hT.b,?_,hT.k.el,hT.k.ma,hT.g,λk=>let r:=hT.k.iN k;⟨r.e0,r.e1,r.i0,r.i1,r.x,r.m1,r.m,r.c1,r.c⟩⟩
  · unfold aUZ;simp only;rw [j1];unfold gS at *;simp only at *;omega
  · unfold aT2 aXP;simp only;rw [j2,j3];unfold gS at *;simp only at *;omega
  · unfold aT2;simp only;rw [j2];unfold gS at *;simp only at *;omega
  · unfold aYA;simp only;rw [j4];unfold gS at *;simp only at *;omega
  · unfold gL at *;simp only at *;omega
  · intro z hz
    rcases List.mem_or_eq_of_mem_set hz with hz | rfl
    · rw [hT.k.tr] at hz;exact ht z hz
    · exact ⟨by simp only;omega,by simp only;omega,hx0.2.2⟩
theorem bFO {n:Nat} {s:aA} {o:aS} {A:Int} (hn:250<=n) (h:SQ s) (hM:M3s s) (hb:LBs s) (ht:TRs s) (hW:s.bA.cB.length=1) (hq:XE o.aQ/\XE o.bD) (hA:0<=o.bD/\o.bD<=A) (hA2:A<=100000) (hI:o.Item=0):Ex (λr=>r.2=0->Gm s r.1 0 0 A 0) (L9 n s o):=by
  unfold L9 aEK;simp only [WT.run,O9]
  refine tF (λt=>t.1=0->Gm s t.2 0 0 A 0) (aL2 (aEY (λ_=>tF _ (bDG hn h hM hb ht hW hq hA hA2 hI) λt ht=>aEV ht) λ_=>aL2 (aEY (λ_=>tF _ (bDV hn h hM hb ht hW hq (by omega)) λt ht=>aEV ht) λ_=>aEV λh=>absurd h (show ¬ (1:Int)=0 by decide)))) λt ht=>?_
  obtain ⟨e,t⟩:=t
  simp only [p2]
  exact aL2 (aEY (λk=>aEV λh=>absurd h k) λk=>aEV λ_=>ht (Classical.not_not.1 k))
theorem bE1 {n:Nat} {s:aA} {o:aS} {r:bM} {l:List aH} (hn:250<=n) (h:SQ s) (hb:LBs s) (hW:s.bA.cB.length=1) (hl:l.length<20) (hr:r.iV=0):Ex (λr=>r.2=0->Mv s r.1 0 0 0 0 0) (wE n s o r l):=by
  unfold wE aOU;simp only [WT.run,O9]
  exact tF _ (a5S hn h hb hl) λu hu=>aL2 (aEY (λk=>aEV λh=>absurd h k) λ_=>tF _ (a4A hu.k.q hu.b (by rw [hu.k.ma];exact hW)) λt ht=>aEV λk=>(hu.trans (ht k)).to rfl rfl rfl (Int.le_refl _) (by omega))
theorem bF0 {n:Nat} {s:aA} {o:aS} {A:Int} (hn:250<=n) (h:SQ s) (hM:M3s s) (hb:LBs s) (ht:TRs s) (hW:s.bA.cB.length=1) (hq:XE o.aQ) (hA:0<=A):Ex (λr=>r.2=0->Gm s r.1 0 0 A 0) (U9 n s o):=by
  unfold U9 aC5;simp only [WT.run,O9]
  refine tF _ (aUT (aR6 hn h hq) (bAO hn h hM hb hq)) λf hf=>aL2 (aEY (λk=>aEV λh=>absurd h k) λkf=>?_)
  obtain ⟨hF,hx0,hx1,hx2,hx3,hx4⟩:=hf.2 (Classical.not_not.1 kf)
  refine tF _ (a6Z hn hF.k.q (hM.sk hF.k) hF.b hf.1.2.1) λb hb'=>aL2 (aEY (λk=>aEV λh=>absurd h k) λkb=>?_)
  obtain ⟨hB,-,-,-,-⟩:=hb' (Classical.not_not.1 kb)
  have hm:=hF.trans hB
  refine aL2 (aL2 (tF _ aQV λ_ _=>tF _ aQV λ_ _=>tF _ (bE1 hn hB.k.q hB.b (by rw [hm.k.ma];exact hW) (by simp) rfl) λw hw=>aEV λk=>?_))
  exact ((hm.trans (hw k)).to (q':=0) (v':=0) (p':=0) (a':=0) (d':=0) (by omega) (by omega) (by omega) (by omega) (by omega)).gm hb ht hA hA
theorem bCF {n:Nat} {s:aA} {o:aS} {A:Int} (hn:250<=n) (h:SQ s) (hM:M3s s) (hb:LBs s) (ht:TRs s) (hW:s.bA.cB.length=1) (hq:XE o.aQ) (hA:0<=A) (hk:o.Kind=8):Ex (λr=>r.2=0->Gm s r.1 0 0 A 0) (aTX n s o):=by
  unfold aTX aUK;simp only [WT.run,O9]
  have fin:∀ {D:Option (aA×Int)},(Ex (λr=>r.2=0->Gm s r.1 0 0 A 0) D)->Ex (λr:aA×Int=>r.2=0->Gm s r.1 0 0 A 0) ((lH s o.E o.Item).bind λx=>bnd (decide (x≠0)) λx_1=>bif x_1 then some (s,x) else D.bind λx=>bnd (decide (x.snd≠0)) λx_2=>bif x_2 then some (s,x.snd) else some (x.fst,0)):=λ{D} hD =>
    tF _ (aGE h) λy hy=>aL2 (aEY (λk=>aEV λh=>absurd h k) λhy'=>tF _ hD λr hr=>aL2 (aEY (λk=>aEV λh=>absurd h k) λk=>aEV λ_=>hr (Classical.not_not.1 k)))
  exact aL2 (aEY (λk=>absurd k (by omega)) λk6=>aL2 (aEY (λk=>absurd k (by omega)) λk7=>aL2 (aEY (λ_=>fin (bF0 hn h hM hb ht hW hq hA)) λk=>absurd hk k)))
theorem bEI {s:aA} {e i l:Int} (h:SQ s):Ex (λp=>p.cO=[]\/∃ y,s.aW[e.toNat]?=some y/\y.dD[(i*2+l).toNat]?=some p/\0<=i*2+l) (yG s e i l):=by
  unfold yG aJC;simp only [WT.run,O9]
  refine tF _ (aM9 h) λp hp=>aL2 (aEY (λ_=>aEV (.inl rfl)) λhn=>?_)
  obtain ⟨h1,rfl,h2,h3⟩:=hp hn
  refine ON h1.e0 h1.e1 λx hx=>?_
  have hxl:=(h1.x x hx).1
  have:=h1.i1;have:=h1.i0
  refine ON (by omega) (by omega) λq hq=>?_
  have hqq:=(h.at hx).at hq
  have:=hqq.1.1
  exact x_a (aEV (.inr ⟨x,hx,hq,by omega⟩))
theorem bBR {n:Nat} {s:aA} {r:bH} {v:Int} (hn:250<=n) (h:SQ s) (hb:LBs s) (hW:s.bA.cB.length=1) (hr:RcQ r) (hv:XE v) (hv2:0<=v/\v<=100000):Ex (λx=>x.2.2=0->∃ c,0<=c/\c<=v/\Mv s x.1 0 c 0 0 c) (aSS n s r v):=by
  have hel:=h.el;have hwl:=h.wl
  unfold aSS aVQ;simp only [WT.run,O9]
  refine tF _ (aGE h) λy hy=>aL2 (aEY (λk=>aEV λh=>absurd h k) λhy'=>?_)
  have hi:=hy (Classical.not_not.1 hy')
  have i0:=hi.i0;have i1:=hi.i1
  refine ON hi.e0 hi.m1 λmt hmt=>ON hi.i0 (by have:=hi.m _ hmt;omega) λm hm=>tF _ (aUT (aIU h) (bEI h)) λp hp=>aL2 (aEY (λ_=>?_) λ_=>tF _ (a4A h hb hW) λt ht=>aEV λk=>⟨0,Int.le_refl 0,hv2.1,ht k⟩)
  refine aL2 (tF _ (aIR hn hp.1) λt ht=>aL2 (tF _ (aUT (aF5 hn hv (by split;exact ht.1;exact aG1 _) hr.1) (a4K hn hv (by split;exact ht.1;exact aG1 _) hr.1)) λc hc=>?_))
  have hc2:=hc.2.1 hv2.1
  refine aL2 (aEY (λ_=>?_) λkc=>tF _ (a4A h hb hW) λt ht=>aEV λk=>⟨0,Int.le_refl 0,hv2.1,(ht k).to rfl rfl rfl (Int.le_refl _) (by simp only;omega)⟩)
  refine tF _ (aUT (aPK hn hp.1 hc.1) (bDM hn hp.1 (by omega))) λq hq=>aL2 (aEY (λk=>aEV λh=>absurd h k) λkq=>x_a (ON hi.e0 hi.e1 λz hz=>?_))
  obtain ⟨hq1,hq2⟩:=hq
  obtain ⟨k1,k2,k3,k4,k5,k6⟩:=hq2 (Classical.not_not.1 kq)
  have hzq:=h.at hz
  have hzl:=hzq.pl
  have hpl:=(hi.x z hz).1
  have hl0:=hr.2.2.2.2.2
  refine x_a (x_v (x_v (ON (by omega) (by omega) λ_ _=>aL2 ?_)))
  have hk:=h.aSC (i:=r.dG.toNat) (x:=⟨z.Now,z.Closed,z.dD.set (r.Item*2+r.Loc).toNat q.1,z.dU,z.dI,z.dO,z.Down,z.eT⟩) ⟨by simp;exact hzl,hzq.aSA hq1,hzq.bl,hzq.rl,hzq.pr,hzq.dn,hzq.ah⟩ hz
  rcases hp.2 with e | ⟨y',hy',hp',-⟩
  · exact absurd e k6
  rw [hz] at hy'
  cases hy'
  have hm2:Mv s ⟨s.bA,s.aW.set r.dG.toNat ⟨z.Now,z.Closed,z.dD.set (r.Item*2+r.Loc).toNat q.1,z.dU,z.dI,z.dO,z.Down,z.eT⟩,s.bP,s.bU,s.bY,s.Done⟩ 0 c 0 0 0:=by
    refine Mv.set hk hz hb ?_ ?_ ?_ ?_ (by simp [rL]) (hb.set hz k1)
    · rw [aYX hp'];unfold fQ;omega
    · rw [aYX hp'];unfold fV;omega
    · rw [aYX hp'];unfold fP;omega
    · rw [aYX hp'];unfold fA;omega
  exact tF _ (a4A hm2.k.q hm2.b (by rw [hm2.k.ma];exact hW)) λt ht=>aEV λk=>⟨c,hc2.1,hc2.2,(hm2.trans (ht k)).to (by omega) (by omega) (by omega) (by omega) (by simp only;omega)⟩
theorem bFC {n:Nat} {s:aA} {sh:List Int} {k:Int} {B:Int} (hn:250<=n) (h:SQ s) (hb:LBs s) (hW:s.bA.cB.length=1) (hs:∀ x∈sh,XE x/\0<=x/\x<=B) (hl:sh.length=1) (hB:B<=100000):Ex (λz=>match z with | .inl p=>∃ c,0<=c/\c<=B/\Mv s p.1 0 c 0 0 c | .inr r=>r.2≠0) (aRX n s sh [k] 0 s 0):=by
  rw [aRX]
  refine tF (λz=>match z with | .inl p=>∃ c,0<=c/\c<=B/\Mv s p.1 0 c 0 0 c | .inr r=>r.2≠0) ?_ λz hz=>?_
  · unfold t3;simp only [WT.run,O9]
    refine ON (by omega) (by omega) λq hq=>?_
    have hq2:=hs q (List.mem_of_getElem? hq)
    refine tF _ (bBR hn h hb hW (aU2 h k) hq2.1 (by omega)) λx hx=>aL2 (aEY (λk=>aGQ (aEV k)) λkx=>aL2 (XC ?_))
    obtain ⟨c,c0,c1,hm⟩:=hx (Classical.not_not.1 kx)
    exact ⟨c,c0,by omega,hm⟩
  · cases z with
    | inl p=>exact aEV hz
    | inr r=>exact aEV hz
theorem bB4 {n:Nat} {s:aA} {o:aS} {k A:Int} (hn:250<=n) (h:SQ s) (hb:LBs s) (ht:TRs s) (hW:s.bA.cB.length=1) (hr:o.bT=[k]) (hA:o.bD+20<=A) (hA2:A<=100000) (hA0:0<=A):Ex (λr=>r.2=0->∃ c,Gm s r.1 0 c A c) (JP n s o):=by
  have hrl:o.bT.length=1:=by rw [hr];rfl
  have hE:∀ {e:Int} {t:aA},e≠0->((t,e):aA×Int).2=0->∃ c,Gm s t 0 c A c:=λhe h=>absurd h he
  unfold JP
  refine tF (λz=>match z with | .inl _=>True | .inr r=>r.2=0->∃ c,Gm s r.1 0 c A c) ?_ λz hz=>aSM (λu e=>?_) λr e=>by subst e;exact hz
  · unfold tB';simp only [WT.run,O9]
    exact tF (λb=>True) (aL2 (aEY (λ_=>aEV trivial) λ_=>aL2 (aEV trivial))) λb _=>aFQ (λ_=>aGQ (aEV (hE (by decide)))) λhb'=>XC trivial
  clear hz e
  refine x_a (aFQ (λhV=>?_) λ_=>aEV (hE (by decide)))
  refine ON (by omega) (by omega) λk' hk=>?_
  have hin:=aX5 (s:=s) (k:=k') (by have:=List.all_eq_true.1 hV k' (List.mem_of_getElem? hk);simpa using this)
  refine ON hin.1 hin.2 λf hf=>aFQ (λhE'=>?_) λ_=>aEV (hE (by decide))
  refine tF (λz=>match z with | .inl _=>True | .inr r=>r.2=0->∃ c,Gm s r.1 0 c A c) ?_ λz hz=>aSM (λu e=>?_) λr e=>by subst e;exact hz
  · unfold tF';simp only [WT.run,O9]
    exact tF _ (aGE h) λy hy=>aL2 (aEY (λk=>aGQ (aEV (hE k))) λ_=>XC trivial)
  clear hz e
  refine tF _ (a1F h (by omega)) λw hw=>tF _ (aXQ hn (by omega)) λsh hsh=>?_
  refine tF (λz=>match z with | .inl _=>sh.2=0 | .inr r=>r.2=0->∃ c,Gm s r.1 0 c A c) ?_ λz hz=>aSM (λu e=>?_) λr e=>by subst e;exact hz
  · unfold tH;simp only [WT.run,O9]
    exact aL2 (aEY (λk=>aGQ (aEV (hE k))) λhe=>XC (Classical.not_not.1 he))
  subst e
  have hs:=hsh hz
  rw [hr]
  refine tF _ (bFC (B:=A) hn h hb hW (λx hx=>⟨(hs.2 x hx).1,(hs.2 x hx).2.1,by have:=(hs.2 x hx).2.2;omega⟩) (by omega) hA2) λz hz=>aSM (λp e=>?_) λr e=>by subst e;exact λh=>absurd h hz
  subst e
  obtain ⟨c,c0,c1,hp⟩:=hz
  refine tF (λz=>match z with | .inl _=>False | .inr r=>r.2=0->∃ c,Gm s r.1 0 c A c) ?_ λz hz=>aSM (λu e=>by subst e;exact absurd hz id) λr e=>by subst e;exact hz
  unfold tL;simp only [WT.run,O9]
  exact tF _ aUE λ_ _=>aL2 (tF _ aUE λ_ _=>aL2 (tF _ aUE λ_ _=>tF _ (a5S hn hp.k.q hp.b (by simp)) λu hu=>aL2 (aEY (λk=>aGQ (aEV (hE k))) λ_=>aGQ (aEV λ_=>⟨c,by have:=((hp.trans hu).to (q':=0) (v':=c) (p':=0) (a':=0) (d':=c) (by omega) (by omega) (by omega) (by omega) (by omega)).gm hb ht c1 hA0;rw [Int.sub_zero] at this;exact this⟩))))
theorem bF5 {α:Type} {P:α->Prop} {a b:Option α} (h:Ex P b):Ex P (cond (!true) a b):=h
theorem bFD {s:aA} {e i:Int} (h:SQ s) (hi:In' s e i):zC s e i=some true:=by
  have hw:=h.wl;have h1:=hi.e0;have h2:=hi.e1;have h3:=hi.i0;have h4:=hi.i1
  refine aQX ?_
  unfold zC XU;simp only [WT.run,O9]
  refine tF (λb=>b=false) ?_ λb hb=>aFQ (λk=>by rw [hb] at k;cases k) λ_=>?_
  · exact aL2 (aEY (λk=>absurd k (by omega)) λ_=>aL2 (aEY (λk=>absurd k (by omega)) λ_=>aL2 (aEY (λk=>absurd k (by omega)) λ_=>aL2 (aEV (decide_eq_false (by omega))))))
  · refine ON h1 h2 λx hx=>?_
    have hx2:=hi.x x hx
    exact tF (λb=>b=true) (x_v (aL2 (aEY (λ_=>aL2 (aEY (λ_=>aL2 (aEY (λ_=>aL2 (aEY (λ_=>ON h1 hi.m1 λm hm=>aL2 (aEY (λ_=>ON h1 hi.c1 λc hc=>aL2 (aEV (decide_eq_true (hi.c c hc)))) λk=>absurd (hi.m m hm) k)) λk=>absurd hi.c1 k)) λk=>absurd hi.m1 k)) λk=>absurd hx2.2 k)) λk=>absurd hx2.1 k))) λb hb=>aEV hb
theorem bCP {a b c:Int} (h:b<=a/\a<=c):UX a b c=some true:=by
  refine aQX ?_
  unfold UX aIS;simp only [WT.run,O9]
  exact tF (λr=>r=true) (aL2 (aEY (λ_=>aL2 (aEV (decide_eq_true h.2))) λk=>absurd h.1 k)) λr hr=>aEV hr
theorem bC3 {s:aA} {e i l:Int} (h:SQ s) (hi:In' s e i) (hl:0<=l/\l<=1):zN s e i l=some (i*2+l):=by
  have hw:=h.wl;have h3:=hi.i0;have h4:=hi.i1
  refine aQX ?_
  unfold zN aLD;simp only [WT.run,O9]
  refine tF (λb=>b=false) ?_ λb hb=>aFQ (λk=>by rw [hb] at k;cases k) λ_=>x_v (x_v (aEV rfl))
  exact x_eq (bFD h hi) (aL2 (bF5 (x_eq (bCP hl) (aL2 (aEV rfl)))))
theorem bE9 {s:aA} {e i l:Int} {y:aP} {p:aM} (h:SQ s) (hi:In' s e i) (hl:0<=l/\l<=1) (hy:s.aW[e.toNat]?=some y) (hp:y.dD[(i*2+l).toNat]?=some p):yG s e i l=some p:=by
  have h3:=hi.i0
  have hq:=((h.at hy).at hp).1.1
  refine aQX ?_
  unfold yG aJC;simp only [WT.run,O9]
  exact x_eq (bC3 h hi hl) (aL2 (aEY (λk=>absurd k (by omega)) λ_=>aQZ hi.e0 hy (aQZ (by omega) hp (x_a (aEV rfl)))))
theorem a3Y:∀ {l:List Int},(∀ x∈l,0<=x)->sAb l=sI l
  | [],_=>rfl
  | x :: l,h=>by
    have h1:=a3Y (l:=l) λy hy=>h y (List.mem_cons_of_mem _ hy)
    have h2:=h x (List.mem_cons_self ..)
    simp only [sAb,sI,h1];omega
theorem bFP {n:Nat} {l:List aB} (hn:250<=n) (hb:LB l):y8 n l=some (tot l,0):=by
  have hl:=hb.len
  obtain ⟨⟨t,e⟩,h1,h2,h3⟩:=a6M (n:=n) (l:=l) ⟨by omega,hn⟩
  simp only at h2 h3
  have z1:(aSF (l.map aB.aQ)).2=0:=by
    rw [a2B (by rw [a3Y (a4I λx hx=>by have:=hb.ok x hx;omega)];exact hb.q)]
  have z2:(aSF (l.map aB.Value)).2=0:=by
    rw [a2B (by rw [a3Y (a4I λx hx=>(hb.ok x hx).2)];exact hb.v)]
  have z3:(aSF (l.map aB.bO)).2=0:=by
    rw [a2B hb.a]
  have he:=h3 ⟨z1,z2,z3⟩
  rw [h1,he,(h2 he).1]
theorem a1Q {α β:Type} (f:α->β) {l:List α} {i:Int} {x:α} (h0:0<=i) (hx:l[i.toNat]?=some x):(l.take (i+1).toNat).map f=(l.take i.toNat).map f++[f x]:=by
  rw [show (i+1).toNat=i.toNat+1 by omega,List.take_add_one,hx]
  simp
theorem a7V (p:aM):((fP p).natAbs:Int)<=fA p:=a7C _
theorem bB0 {n:Nat} {s:aA} {e:Int} {y:aP} (hn:250<=n) (h:SQ s) (hi:In' s e 0) (hb:LBs s) (hy:s.aW[e.toNat]?=some y) (h2:y.dD.length=2) (b1:eS fQ y<=288230376151711744) (b2:eS fV y<=288230376151711744) (b3:eS fA y<=288230376151711744):SB n s e 0=some (⟨eS fQ y,eS fV y,eS fP y⟩,true):=by
  have hbp:=hb y (List.mem_of_getElem? hy)
  refine aQX ?_
  unfold SB aBY;simp only [WT.run,O9]
  refine tF (λa=>a=(y.dD.map fQ,y.dD.map fV,y.dD.map fP)) (aQB (m:=2) (λv=>v.1) (λv=>v.2.1=(y.dD.take v.1.toNat).map fQ/\v.2.2.1=(y.dD.take v.1.toNat).map fV/\v.2.2.2=(y.dD.take v.1.toNat).map fP) ⟨by simp,by simp,by simp⟩ (by omega) λv h1 h2' h3=>?_) λa ha=>?_
  · obtain ⟨k,p,q,w⟩:=v
    simp only at h1 h2' h3
    obtain ⟨rfl,rfl,rfl⟩:=h3
    simp only [p2]
    refine aL2 (aEY (λhk=>?_) λ_=>aGQ (aEV ?_))
    · have hp:=List.getElem?_eq_getElem (l:=y.dD) (i:=k.toNat) (by omega)
      generalize y.dD[k.toNat]'(by omega)=p at hp
      have hL:(y.dD.take k.toNat).length<=2:=by simp only [List.length_take];omega
      have hpb:=hbp p (List.mem_of_getElem? hp)
      refine x_eq (bE9 h hi (by omega) hy (p:=p) (by rw [show (0*2+k).toNat=k.toNat by omega];exact hp)) (x_eq (bFP hn hpb) ?_)
      refine aL2 (aL4 (by simp only [List.length_append,List.length_map,List.length_singleton];omega) (aL2 (aL4 (by simp only [List.length_append,List.length_map,List.length_singleton];omega) (aL2 (aL4 (by simp only [List.length_append,List.length_map,List.length_singleton];omega) (x_v (XC ⟨by omega,rfl,(a1Q _ h1 hp).symm,(a1Q _ h1 hp).symm,(a1Q _ h1 hp).symm⟩)))))))
    · rw [List.take_of_length_le (by omega)]
  · subst ha
    simp only [p2]
    have nq:∀ x∈y.dD.map fQ,0<=x:=aUB λp hp=>(aX6 (hbp p hp).ok).1
    have nv:∀ x∈y.dD.map fV,0<=x:=aUB λp hp=>(aX6 (hbp p hp).ok).2
    have hA:∀ l:List aM,sAb (l.map fP)<=sI (l.map fA):=by
      intro l
      induction l with
      | nil=>simp [sAb,sI]
      | cons p l ih=>have:=a7V p;simp only [List.map_cons,sAb,sI];omega
    have hA2:=hA y.dD
    have e1:=aZ4 (n:=n) (l:=y.dD.map fQ) ⟨by simp;omega,hn⟩
    have e2:=aZ4 (n:=n) (l:=y.dD.map fV) ⟨by simp;omega,hn⟩
    have e3:=aZ4 (n:=n) (l:=y.dD.map fP) ⟨by simp;omega,hn⟩
    rw [a2B (by rw [a3Y nq];exact b1)] at e1
    rw [a2B (by rw [a3Y nv];exact b2)] at e2
    rw [a2B (by unfold eS at b3;omega)] at e3
    exact x_eq e1 (x_eq e2 (x_eq e3 (aL2 (aL2 (aEV rfl)))))
theorem bCN {n:Nat} {s:aA} {e:Int} {y:aP} (hn:250<=n) (h:SQ s) (hi:In' s e 0) (hb:LBs s) (hy:s.aW[e.toNat]?=some y) (h2:y.dD.length=2) (b1:eS fQ y<=288230376151711744) (b2:eS fV y<=288230376151711744) (b3:eS fA y<=288230376151711744):a3S n s e 0=some ⟨eS fQ y,eS fV y,eS fP y⟩:=by
  refine aQX ?_
  unfold a3S bAC;simp only [WT.run,O9]
  exact x_eq (bB0 hn h hi hb hy h2 b1 b2 b3) (aEV rfl)
theorem a0W:Tot MG:=by
  unfold MG aAN;simp only [WT.run,O9]
  exact aEV trivial
theorem aZX {l:List UInt8} {c:Int}:Tot (qL l c):=by
  unfold qL aF3;simp only [WT.run,O9]
  refine tF (λ_=>True) ?_ λ_ _=>aEV trivial
  unfold UK WK;simp only [WT.run,O9]
  exact aL2 (aEV trivial)
theorem a2E {k c:Int}:Tot (oV k c):=by
  unfold oV
  repeat' with_reducible first | exact aEV trivial | refine x_v ?_ | refine aP8 ?_ | apply aL2 | refine ON (by omega) (by omega) λ_ _=>?_ | exact XC trivial | exact XC ⟨by omega,by (first | rfl | omega | (simp only;omega)),trivial⟩ | refine x_a ?_ | refine aP5 (λ_ _=>?_) λ_ _=>trivial | apply aI5 | apply aCE | apply aAR | apply Y4 | apply aOY | apply aIH | apply aKG | apply aMX | apply aDS | refine aEY (λ_=>?_) λ_=>?_ | refine aEW (λ_=>?_) λ_=>?_ | refine aFQ (λ_=>?_) λ_=>?_ | apply x_cT | apply x_cF | apply aK3 | apply aGQ | refine tF _ aPX λ_ _=>?_ | refine tF _ aLP λ_ _=>?_ | refine tF _ aGO λ_ _=>?_ | refine tF _ aPW λ_ _=>?_ | refine tF _ aOB λ_ _=>?_ | refine tF _ aPY λ_ _=>?_ | refine tF _ aPV λ_ _=>?_ | refine tF _ (aPX (by assumption)) λ_ _=>?_ | refine tF _ (aLP (by assumption)) λ_ _=>?_ | refine tF _ (aGO (by assumption)) λ_ _=>?_ | refine tF _ (aPW (by assumption)) λ_ _=>?_ | refine tF _ (aOB (by assumption)) λ_ _=>?_ | refine tF _ (aPY (by assumption)) λ_ _=>?_ | refine tF _ (aPV (by assumption)) λ_ _=>?_
theorem a2F {n:Nat} {l:List Int} (hn:250<=n) (hl:l.length<20):Tot (J3 n l):=by
  unfold J3 aK6;simp only [WT.run,O9]
  refine tF (λ_=>True) (aQB (m:=l.length) (λv=>v.1) (λv=>v.2.length=40) ⟨by simp,by simp,by simp⟩ (by omega) λv h1 h2 h3=>?_) λr _=>aP5 (λ_ _=>aL2 (aEV trivial)) λ_ _=>trivial
  obtain ⟨i,s⟩:=v
  simp only at h1 h2 h3
  simp only [p2]
  refine aL2 (aEY (λhk=>ON h1 hk λx hx=>tF (λb=>b=false->0<=x/\x<40) (aL2 (aEY (λ_=>aEV λh=>by cases h) λk1=>aL2 (aEY (λ_=>aEV λh=>by cases h) λk2=>aL4 ⟨by omega,by omega⟩ (ON (by omega) (by omega) λ_ _=>aEV λ_=>⟨by omega,by omega⟩)))) λb hb=>aFQ (λ_=>aGQ (aGQ (aEV trivial))) λhb'=>?_) λ_=>aGQ (XC trivial))
  have hx2:=hb hb'
  exact aL4 hx2 (ON hx2.1 (by omega) λ_ _=>aL2 (x_v (XC ⟨hk,rfl,by simp;exact h3⟩)))
theorem aRN {x:List UInt8} {k c v:Int} {R:Option Bool} (hR:Tot R):Tot (((((qL x c).bind λ(x11:Int)=>some x11).bind λy=>bnd (decide (y>=0)) λb=>some b).bind λb=>(cond b ((oV k c).bind λp=>some (p.1,p.2)) (some (0,0))).bind (p2 λlo hi=>(some ()).bind λ(_:Unit)=>(bnd (decide (v<lo)) λx17=>cond x17 (some true) (bnd (decide (v>hi)) λx18=>some x18)).bind λb=>cond b (some false) R))):=by
  refine tF (λ_=>True) (tF (λ_=>True) (tF (λ_=>True) aZX λ_ _=>aEV trivial) λ_ _=>aL2 (aEV trivial)) λ_ _=>tF (λ_=>True) (aFQ (λ_=>tF _ a2E λ_ _=>aEV trivial) λ_=>aEV trivial) λr _=>?_
  show Ex _ (Option.bind (bnd (decide (v<r.1)) λx17=>cond x17 (some true) (bnd (decide (v>r.2)) λx18=>some x18)) _)
  exact tF (λ_=>True) (aL2 (aEY (λ_=>aEV trivial) λ_=>aL2 (aEV trivial))) λ_ _=>aFQ (λ_=>aEV trivial) λ_=>hR
theorem aVB {n:Nat} {o:aS} (hn:250<=n) (hr:o.bT.length<20):Tot (nJ n o):=by
  unfold nJ
  refine tF (λb=>b=false->1<=o.Kind/\o.Kind<=16) (aL2 (aEY (λ_=>aEV λh=>by cases h) λh1=>aL2 (aEV λh2=>by have:=of_decide_eq_false h2;omega))) λb hb=>aFQ (λ_=>aEV trivial) λhb'=>tF _ a0W λf _=>ON (by have:=hb hb';omega) (by have:=hb hb';simp;omega) λx hx=>?_
  refine aRN (aRN (aRN (aRN (aRN (aRN (aRN ?_))))))
  refine aL2 (aEY (λ_=>tF _ (a2F hn hr) λ_ _=>aEV trivial) λ_=>tF (λ_=>True) ?_ λ_ _=>aEV trivial)
  repeat' with_reducible first | exact aEV trivial | refine x_v ?_ | refine aP8 ?_ | apply aL2 | refine ON (by omega) (by omega) λ_ _=>?_ | exact XC trivial | exact XC ⟨by omega,by (first | rfl | omega | (simp only;omega)),trivial⟩ | refine x_a ?_ | refine aP5 (λ_ _=>?_) λ_ _=>trivial | apply aI5 | apply aCE | apply aAR | apply Y4 | apply aOY | apply aIH | apply aKG | apply aMX | apply aDS | refine aEY (λ_=>?_) λ_=>?_ | refine aEW (λ_=>?_) λ_=>?_ | refine aFQ (λ_=>?_) λ_=>?_ | apply x_cT | apply x_cF | apply aK3 | apply aGQ | refine tF _ aPX λ_ _=>?_ | refine tF _ aLP λ_ _=>?_ | refine tF _ aGO λ_ _=>?_ | refine tF _ aPW λ_ _=>?_ | refine tF _ aOB λ_ _=>?_ | refine tF _ aPY λ_ _=>?_ | refine tF _ aPV λ_ _=>?_ | refine tF _ (aPX (by assumption)) λ_ _=>?_ | refine tF _ (aLP (by assumption)) λ_ _=>?_ | refine tF _ (aGO (by assumption)) λ_ _=>?_ | refine tF _ (aPW (by assumption)) λ_ _=>?_ | refine tF _ (aOB (by assumption)) λ_ _=>?_ | refine tF _ (aPY (by assumption)) λ_ _=>?_ | refine tF _ (aPV (by assumption)) λ_ _=>?_
end Go.Pv
