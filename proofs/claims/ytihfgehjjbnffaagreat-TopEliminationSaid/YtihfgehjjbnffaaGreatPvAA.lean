import Derived.Test.YtihfgehjjbnffaaGreatKD90
import Derived.Test.YtihfgehjjbnffaaGreatKB90
import Derived.Test.YtihfgehjjbnffaaGreatPvU
set_option linter.unusedVariables false
set_option linter.unusedSimpArgs false
namespace Go.Pv
open Go.Proofs
set_option maxRecDepth 100000
set_option maxHeartbeats 1000000
def jM (x:aP):aP:=⟨x.fD,true,x.cK,x.dM,x.d9,x.eH,x.Down,[x]⟩
theorem WX {α:Type} {l:List α} {i:Nat} {x:α} (h:l[i]?=some x):l.set i x=l:=by
  refine List.ext_getElem? λj=>?_
  rw [List.getElem?_set]
  by_cases k:i=j
  · subst k
    obtain ⟨h1,h2⟩:=List.getElem?_eq_some_iff.1 h
    simp [h1,h2]
  · simp [k]
theorem aAS (x:aP):(⟨x.fD,x.Closed,x.cK,x.dM,x.d9,x.eH,x.Down,x.gK⟩:aP)=x:=by cases x;rfl
theorem aOQ {n:Nat} {s:aA} {e:Int} {x:aP} (hn:250<=n) (hel:s.aW.length<=20) (he:0<=e/\e<(s.aW.length:Int)) (hx:s.aW[e.toNat]?=some x) (hb:BB x.dM 100000000000000000):nP n s e []=some (s,0):=by
  have hV:iA []:=λ_ h=>by cases h
  refine kG ?_
  unfold nP KH;simp only [WT.run,bU]
  refine aB (λb=>b=false) (aD (aU (λk=>absurd k (by omega)) λ_=>aD (aF (decide_eq_false (by omega))))) λb hb'=>cZ (λk=>by rw [hb'] at k;cases k) λ_=>?_
  refine aB _ (NG (l:=[]) hn (by decide) hV (by decide)) λp hp=>?_
  obtain ⟨p0,p1,p2',p3,p4,p5⟩:=hp
  have hpn:p.1=[]:=List.eq_nil_of_length_eq_zero (by simpa using p2')
  refine aD (aU (λk=>absurd p0 k) λ_=>iL he.1 hx ?_)
  rw [hpn]
  refine aB _ (ZK (l:=[]) hn hb (by decide) hV (by decide) (by decide) (by decide)) λg hg=>?_
  obtain ⟨g0,g1,g2⟩:=hg
  have e1:g.1=x.dM:=by
    refine List.ext_getElem? λi=>?_
    by_cases k:i<x.dM.length
    · have hv:=List.getElem?_eq_getElem (l:=x.dM) (i:=i) k
      have:=g2 (i:Int) _ (by omega) (by rw [Int.toNat_natCast];exact hv)
      rw [Int.toNat_natCast] at this
      rw [this,hv]
      simp [pS,sI]
    · rw [List.getElem?_eq_none (by have:=g1.1;have:=hb.1;omega),List.getElem?_eq_none (by omega)]
  refine aD (aU (λk=>absurd g0 k) λ_=>aB (λ_=>True) (dI (bP he.1 he.2 λ_ _=>aF trivial)) λ_ _=>iL he.1 hx (aD (aF ?_)))
  rw [e1,aAS,WX hx]
theorem aTH {n:Nat} {s:aA} {e:Int} {x:aP} (hn:250<=n) (hel:s.aW.length<=20) (he:0<=e/\e<(s.aW.length:Int)) (hx:s.aW[e.toNat]?=some x) (hb:BB x.dM 100000000000000000) (hp:x.eH=[-1]) (hd:x.Down=[0]):MZ n s e=some (s,0):=by
  refine kG ?_
  unfold MZ aDR;simp only [WT.run,bU]
  refine aB (λb=>b=false) (aD (aU (λk=>absurd k (by omega)) λ_=>aD (aF (decide_eq_false (by omega))))) λb hb'=>cZ (λk=>by rw [hb'] at k;cases k) λ_=>iL he.1 hx ?_
  rw [hp,hd]
  refine gU (by decide) (aD (aB (λr=>r=([0],[])) (gJ (m:=1) (λv=>v.1) (λv=>v.2=([0],[])) ⟨by decide,by decide,rfl⟩ (by omega) λv h1 h2 h3=>?_) λr hr=>?_))
  · obtain ⟨k,q⟩:=v
    simp only at h1 h2 h3
    subst h3
    simp only [p2]
    refine aD (aU (λhk=>?_) λhk=>bZ (aF rfl))
    have hk0:k=0:=by simp at hk;omega
    subst hk0
    exact aB (λr=>r=([0],[])) (pK rfl (aD (aU (λk=>absurd k (by decide)) λ_=>aF rfl))) λr hr=>by subst hr;exact cO (bM ⟨by decide,by decide,rfl⟩)
  · subst hr
    simp only [p2]
    refine x_eq (aOQ hn hel he hx hb) (aD (aU (λk=>absurd rfl k) λ_=>gU (by simp only;omega) (iL he.1 hx (aF ?_))))
    have he2:=aAS x
    rw [hd] at he2
    simp only [he2,WX hx]
theorem OV {n:Nat} {s:aA} {e:Int} {ms:List Int} {x:aP} (hn:250<=n) (hel:s.aW.length<=20) (he:0<=e/\e<(s.aW.length:Int)) (hx:s.aW[e.toNat]?=some x) (hb:BB x.dM 100000000000000000) (hp:x.eH=[-1]) (hd:x.Down=[0]) (hc:x.Closed=false) (hm:s.bF.Methods[e.toNat]?=some ms) (hm2:ms.length<=20) (hm3:∀ m∈ms,m≠3):xM n s e=some (sE s e (jM x),0):=by
  have hml:=(List.getElem?_eq_some_iff.1 hm).1
  refine kG ?_
  have his:BP s e=some true:=by
    refine kG ?_
    unfold BP aGN;simp only [WT.run,bU]
    exact aB (λb=>b=true) (aD (aU (λ_=>aD (aU (λ_=>aD (aF (decide_eq_true (by omega)))) λk=>absurd he.2 k)) λk=>absurd he.1 k)) λb hb=>aF hb
  unfold xM WY;simp only [WT.run,bU]
  refine x_eq his (aD (DN (iL he.1 hx (cZ (λk=>by rw [hc] at k;cases k) λ_=>iL he.1 hm ?_))))
  refine aB (λr=>r=.inl s) (gJ (m:=ms.length) (λv=>v.1) (λv=>v.2=s) ⟨by simp,by simp,rfl⟩ (by omega) λv h1 h2 h3=>?_) λr hr=>?_
  · obtain ⟨k,t⟩:=v
    simp only at h1 h2 h3
    subst h3
    simp only [p2]
    refine aD (aU (λhk=>?_) λhk=>bZ (bM rfl))
    refine aB (λr=>r=.inl t) (bP h1 hk λm hm0=>aB (λb=>b=true) (aD (aU (λ_=>aF rfl) λk=>absurd (hm3 m (List.mem_of_getElem? hm0)) k)) λb hb=>cZ (λ_=>bM rfl) λk=>by rw [hb] at k;cases k) λr hr=>?_
    subst hr
    exact fJ (cO (bM ⟨hk,rfl,rfl⟩))
  · subst hr
    refine fJ (x_eq (aTH hn hel he hx hb hp hd) (aD (aU (λk=>absurd rfl k) λ_=>gU (by simp only;omega) (iL he.1 hx (iL he.1 hx (aD (aD (aF ?_))))))))
    simp only [List.set_set]
    rfl
structure Kc (s t:aA):Prop where
  ti:TI t
  g:∀ g,gS g t=gS g s
  b:∀ a,bS a t=bS a s
  tr:t.bL=s.bL
  ma:t.bF=s.bF
theorem Kc.rf {s:aA} (h:TI s):Kc s s:=⟨h,λ_=>rfl,λ_=>rfl,rfl,rfl⟩
theorem Kc.step {s t:aA} {e:Int} {x:aP} (h:Kc s t) (hx:t.aW[e.toNat]?=some x):Kc s (sE t e (jM x)):=by
  have ti:=h.ti
  have hxq:=ti.sq.at hx
  have hK:=ti.sq.EW (i:=e.toNat) (x:=jM x) ⟨hxq.pl,hxq.pq,hxq.bl,hxq.rl,hxq.pr,hxq.dn,by simp [jM]⟩ hx rfl rfl
  refine ⟨⟨hK.q,ti.m3,λz hz p hp=>?_,ti.tr,ti.w1,λe h0 h1=>hK.iN (ti.iN e h0 h1),?_⟩,λg=>?_,λa=>?_,h.tr,h.ma⟩
  · rcases List.mem_or_eq_of_mem_set hz with hz | rfl
    · exact ti.lb z hz p hp
    · exact ti.lb x (List.mem_of_getElem? hx) p hp
  · have:(sE t e (jM x)).aW.map gX=t.aW.map gX:=aHK gX hx rfl
    rw [this];exact ti.g
  · have:gS g (sE t e (jM x))=gS g t:=by
      unfold gS sE;simp only
      rw [wW (eS g) hx]
      have:eS g (jM x)=eS g x:=rfl
      omega
    rw [this];exact h.g g
  · rw [J3 (x:=jM x) hx rfl];exact h.b a
theorem cl3 {s:aA} {f:Int->aT} {B:Int} (h:CS s f B) (hB:B<=100000000000000000) (hm:∀ e:Int,0<=e->e<3->∃ l,s.bF.Methods[e.toNat]?=some l/\l.length<=20/\∀ m∈l,m≠3):∃ s1 s2 s3 x0 x1 x2,xM 300 s 0=some (s1,0)/\xM 300 s1 1=some (s2,0)/\xM 300 s2 2=some (s3,0)/\Kc s s3/\s3.aW=[jM x0,jM x1,jM x2]/\x0.fD=1/\x1.fD=1/\x2.fD=1/\BB x0.dM B/\BB x1.dM B/\BB x2.dM B:=by
  obtain ⟨x0,h0,c0⟩:=h.en.2 0 (by decide) (by decide)
  obtain ⟨x1,h1,c1⟩:=h.en.2 1 (by decide) (by decide)
  obtain ⟨x2,h2,c2⟩:=h.en.2 2 (by decide) (by decide)
  obtain ⟨m0,k0,l0,n0⟩:=hm 0 (by decide) (by decide)
  obtain ⟨m1,k1,l1,n1⟩:=hm 1 (by decide) (by decide)
  obtain ⟨m2,k2,l2,n2⟩:=hm 2 (by decide) (by decide)
  have hl:=h.en.1
  have e:s.aW=[x0,x1,x2]:=by
    match hs:s.aW,hl with
    | [a,b,c],_=>rw [hs] at h0 h1 h2;simp at h0 h1 h2;rw [h0,h1,h2]
  have e1:(sE s 0 (jM x0)).aW=[jM x0,x1,x2]:=by unfold sE;simp only;rw [e];rfl
  have e2:(sE (sE s 0 (jM x0)) 1 (jM x1)).aW=[jM x0,jM x1,x2]:=by
    show (sE s 0 (jM x0)).aW.set 1 (jM x1)=_
    rw [e1];rfl
  have e3:(sE (sE (sE s 0 (jM x0)) 1 (jM x1)) 2 (jM x2)).aW=[jM x0,jM x1,jM x2]:=by
    show (sE (sE s 0 (jM x0)) 1 (jM x1)).aW.set 2 (jM x2)=_
    rw [e2];rfl
  refine ⟨_,_,_,x0,x1,x2,OV (by omega) (by omega) (by omega) h0 (c0.bb.mono hB) c0.pr c0.dn c0.cl k0 l0 n0,OV (by omega) (by rw [e1];simp) (by rw [e1];simp) (by rw [e1];rfl) (c1.bb.mono hB) c1.pr c1.dn c1.cl k1 l1 n1,OV (by omega) (by rw [e2];simp) (by rw [e2];simp) (by rw [e2];rfl) (c2.bb.mono hB) c2.pr c2.dn c2.cl k2 l2 n2,?_,e3,c0.nw,c1.nw,c2.nw,c0.bb,c1.bb,c2.bb⟩
  exact (((Kc.rf h.ti).step h0).step (by rw [e1];rfl)).step (by rw [e2];rfl)
theorem aXB {n:Nat} {s:aA} (hn:250<=n) (h:TI s) (b1:gS fQ s+nI s<=100000000) (b2:gS fV s+jI s<=100000000) (b3:gS fA s+qU s<=100000000):Ex (λr=>r.2=0/\r.1.aS=gS fQ s+nI s/\r.1.Value=gS fV s+jI s/\r.1.bE=gS fP s+iM s) (IE n s 0):=by
  have hw:=h.w1;have hel:=h.el
  have nn:=h.lb.nn;have wn:=xW h.tr
  have htl:=h.sq.tl
  unfold IE aEJ;simp only [WT.run,bU]
  refine aB (λa=>a=(s.aW.map (eS fQ),s.aW.map (eS fV),s.aW.map (eS fP))) (gJ (m:=s.aW.length) (λv=>v.1) (λv=>v.2.1=(s.aW.take v.1.toNat).map (eS fQ)/\v.2.2.1=(s.aW.take v.1.toNat).map (eS fV)/\v.2.2.2=(s.aW.take v.1.toNat).map (eS fP)) ⟨by simp,by simp,by simp⟩ (by omega) λv h1 h2 h3=>?_) λa ha=>?_
  · obtain ⟨i,p,q,w⟩:=v
    simp only at h1 h2 h3
    obtain ⟨rfl,rfl,rfl⟩:=h3
    simp only [p2]
    refine aD (aU (λhk=>?_) λ_=>bZ (aF ?_))
    · have hy:=List.getElem?_eq_getElem (l:=s.aW) (i:=i.toNat) (by omega)
      generalize s.aW[i.toNat]'(by omega)=y at hy
      have hL:(s.aW.take i.toNat).length<=3:=by simp only [List.length_take];omega
      have hle:=h.lb.le (List.mem_of_getElem? hy)
      refine x_eq (aEA hn h.sq (h.iN i h1 (by omega)) h.lb hy (h.at hy).2 (by omega) (by omega) (by omega)) ?_
      exact aD (gU (by simp only [List.length_append,List.length_map,List.length_singleton];omega) (aD (gU (by simp only [List.length_append,List.length_map,List.length_singleton];omega) (aD (gU (by simp only [List.length_append,List.length_map,List.length_singleton];omega) (cO (bM ⟨hk,rfl,(o6 _ h1 hy).symm,(o6 _ h1 hy).symm,(o6 _ h1 hy).symm⟩)))))))
    · rw [List.take_of_length_le (by omega)]
  subst ha
  simp only [p2]
  refine aB (λa=>a=(s.aW.map (eS fQ)++s.bL.map dD.aS,s.aW.map (eS fV)++s.bL.map dD.Value,s.aW.map (eS fP)++s.bL.map dD.bE)) (gJ (m:=s.bL.length) (λv=>v.1) (λv=>v.2.1=s.aW.map (eS fQ)++(s.bL.take v.1.toNat).map dD.aS/\v.2.2.1=s.aW.map (eS fV)++(s.bL.take v.1.toNat).map dD.Value/\v.2.2.2=s.aW.map (eS fP)++(s.bL.take v.1.toNat).map dD.bE) ⟨by simp,by simp,by simp⟩ (by omega) λv h1 h2 h3=>?_) λa ha=>?_
  · obtain ⟨i,p,q,w⟩:=v
    simp only at h1 h2 h3
    obtain ⟨rfl,rfl,rfl⟩:=h3
    simp only
    refine aD (aU (λhk=>aB (λr=>r=(s.aW.map (eS fQ)++(s.bL.take (i+1).toNat).map dD.aS,s.aW.map (eS fV)++(s.bL.take (i+1).toNat).map dD.Value,s.aW.map (eS fP)++(s.bL.take (i+1).toNat).map dD.bE)) (bP h1 hk λx hx=>?_) λr hr=>by subst hr;exact cO (bM ⟨hk,rfl,rfl,rfl,rfl⟩)) λ_=>bZ (aF ?_))
    · have hx2:=h.tr x (List.mem_of_getElem? hx)
      have hL:(s.bL.take i.toNat).length<=40:=by simp only [List.length_take];omega
      refine aD (aU (λ_=>?_) λk=>absurd hx2.2.2 k)
      refine aD (gU (by simp only [List.length_append,List.length_map,List.length_singleton];omega) (aD (gU (by simp only [List.length_append,List.length_map,List.length_singleton];omega) (aD (gU (by simp only [List.length_append,List.length_map,List.length_singleton];omega) (aF ?_))))))
      rw [o6 dD.aS h1 hx,o6 dD.Value h1 hx,o6 dD.bE h1 hx]
      simp only [List.append_assoc]
    · rw [List.take_of_length_le (by omega)]
  subst ha
  simp only
  refine aB (λr=>r.2=0) (aB (λl=>l.length<=3/\∀ z∈l,z=(0:Int)) (gJ (m:=s.aW.length) (λv=>v.1) (λv=>(v.2.length:Int)=v.1/\∀ z∈v.2,z=0) ⟨by simp,by simp,by simp,λ_ h=>(by cases h)⟩ (by omega) λv h1 h2 h3=>?_) λl hl=>?_) λr hr=>?_
  · obtain ⟨i,l⟩:=v
    obtain ⟨h3,h4⟩:=h3
    simp only at h1 h2 h3 h4
    simp only
    refine aD (aU (λhk=>bP h1 hk λx hx=>aB (λr=>r=0) ?_ λr hr=>aD (gU (by simp only [List.length_append,List.length_singleton];omega) (cO (bM ⟨hk,rfl,?_,λz hz=>?_⟩)))) λ_=>bZ (aF ⟨by omega,h4⟩))
    · rw [(h.at hx).1]
      exact aD (aU (λk=>aF rfl) λ_=>pK rfl (aF rfl))
    · simp only [List.length_append,List.length_singleton];omega
    · rcases List.mem_append.1 hz with hz | hz
      · exact h4 z hz
      · rw [List.mem_singleton.1 hz];exact hr
  · refine x_eq (pI ⟨by omega,hn⟩) (aF ?_)
    rw [pY (by rw [aAQ hl.2];decide)]
  · have q1:=vW (l:=s.aW.map (eS fQ)++s.bL.map dD.aS) λz hz=>by
      rcases List.mem_append.1 hz with hz | hz
      · exact jY (λx hx=>(lG (jY λp hp=>(nJ (h.lb x hx p hp).ok).1)).1) z hz
      · exact jY (λx hx=>(h.tr x hx).1) z hz
    have q2:=vW (l:=s.aW.map (eS fV)++s.bL.map dD.Value) λz hz=>by
      rcases List.mem_append.1 hz with hz | hz
      · exact jY (λx hx=>(lG (jY λp hp=>(nJ (h.lb x hx p hp).ok).2)).1) z hz
      · exact jY (λx hx=>(h.tr x hx).2.1) z hz
    have q3:eT (s.aW.map (eS fP)++s.bL.map dD.bE)<=gS fA s+qU s:=by rw [E5];have:=aA6 s;unfold qU;omega
    have e1:=pI (n:=n) (l:=s.aW.map (eS fQ)++s.bL.map dD.aS) ⟨by simp only [List.length_append,List.length_map];omega,hn⟩
    have e2:=pI (n:=n) (l:=s.aW.map (eS fV)++s.bL.map dD.Value) ⟨by simp only [List.length_append,List.length_map];omega,hn⟩
    have e3:=pI (n:=n) (l:=s.aW.map (eS fP)++s.bL.map dD.bE) ⟨by simp only [List.length_append,List.length_map];omega,hn⟩
    have t1:sI (s.aW.map (eS fQ)++s.bL.map dD.aS)=gS fQ s+nI s:=sD _ _
    have t2:sI (s.aW.map (eS fV)++s.bL.map dD.Value)=gS fV s+jI s:=sD _ _
    have t3:sI (s.aW.map (eS fP)++s.bL.map dD.bE)=gS fP s+iM s:=sD _ _
    rw [pY (by omega),t1] at e1
    rw [pY (by omega),t2] at e2
    rw [pY (by omega),t3] at e3
    obtain ⟨d,e⟩:=r
    simp only at hr
    subst hr
    refine aB (λr=>r.1=0/\r.2.aS=gS fQ s+nI s/\r.2.Value=gS fV s+jI s/\r.2.bE=gS fP s+iM s) (x_eq e1 (aD (x_eq e2 (aD (x_eq e3 (aD (aF ⟨by simp,rfl,rfl,rfl⟩))))))) λr hr=>aF hr
theorem V7 {a B:Int} {x:aP} (h:BB x.dM B) (hB:0<=B):((nY a x).natAbs:Int)<=B:=by
  unfold nY
  cases e:x.dM[a.toNat]? with
  | none=>simpa using hB
  | some v=>exact h.2 v (List.mem_of_getElem? e)
theorem aJK {a v:Int} {x:aP} (h:x.dM[a.toNat]?=some v):nY a x=v:=by
  unfold nY;rw [h];rfl
theorem zS {s:aA} {y0 y1 y2:aP} {B a:Int} (hE:s.aW=[y0,y1,y2]) (h:∀ x∈s.aW,BB x.dM B) (hB:0<=B):eT (s.aW.map (nY a))<=3*B/\((bS a s).natAbs:Int)<=3*B:=by
  have h0:=V7 (a:=a) (h y0 (by rw [hE];simp)) hB
  have h1:=V7 (a:=a) (h y1 (by rw [hE];simp)) hB
  have h2:=V7 (a:=a) (h y2 (by rw [hE];simp)) hB
  have e:eT (s.aW.map (nY a))<=3*B:=by
    rw [hE];simp only [List.map_cons,List.map_nil,eT];omega
  have:=NE (s.aW.map (nY a))
  unfold bS
  exact ⟨e,by omega⟩
theorem aDO {n:Nat} {s:aA} {y0 y1 y2:aP} {B a:Int} (hn:250<=n) (hE:s.aW=[y0,y1,y2]) (h:∀ x∈s.aW,BB x.dM B) (hB:0<=B/\B<=10000000000000000) (ha:0<=a/\a<17):G5 n s a=some (bS a s,0):=by
  have hl:s.aW.length=3:=by rw [hE];rfl
  refine kG ?_
  unfold G5 XO;simp only [WT.run,bU]
  refine aB (λr=>r=(bS a s,0)) (aB (λl=>l=s.aW.map (nY a)) (gJ (m:=s.aW.length) (λv=>v.1) (λv=>v.2=(s.aW.take v.1.toNat).map (nY a)) ⟨by simp,by simp,by simp⟩ (by omega) λv h1 h2 h3=>?_) λl hl2=>?_) λr hr=>?_
  · obtain ⟨i,l⟩:=v
    simp only at h1 h2 h3
    subst h3
    simp only [p2]
    refine aD (aU (λhk=>bP h1 hk λx hx=>aB (λr=>r=nY a x) ?_ λr hr=>aD (gU (by simp only [List.length_append,List.length_map,List.length_take,List.length_singleton];omega) (cO (bM ⟨hk,rfl,?_⟩)))) λhk=>bZ (aF ?_))
    · have hb:=(h x (List.mem_of_getElem? hx)).1
      exact aD (aU (λk=>absurd k (by omega)) λ_=>bP ha.1 (by omega) λv hv=>aF (aJK hv).symm)
    · simp only at hr ⊢
      rw [hr,o6 (nY a) h1 hx]
    · rw [List.take_of_length_le (by omega)]
  · subst hl2
    refine x_eq (pI ⟨by simp only [List.length_map];omega,hn⟩) (aF ?_)
    rw [pY (by have:=(zS (a:=a) hE h hB.1).1;omega)]
    rfl
  · subst hr
    exact aF rfl
def L7 (s:aA):List aQ:=[⟨14,-bS 14 s⟩,⟨13,-bS 13 s⟩,⟨15,-bS 15 s⟩,⟨16,-bS 16 s⟩,⟨0,-gS fP s⟩,⟨12,-iM s⟩,⟨5,bS 14 s+bS 13 s+bS 15 s+bS 16 s+gS fP s+iM s⟩]
theorem aNW {n:Nat} {s:aA} {y0 y1 y2:aP} {B:Int} (hn:250<=n) (h:TI s) (hE:s.aW=[y0,y1,y2]) (hb:∀ x∈s.aW,BB x.dM B) (hB:0<=B/\B<=1000000000000000) (b1:gS fQ s+nI s<=100000000) (b2:gS fV s+jI s<=100000000) (b3:gS fA s+qU s<=100000000):Ex (λr=>r.2=0/\r.1.length<=7/\iA r.1/\(∀ p,pS p r.1=pS p (L7 s))/\lB r.1<=100000000000000000) (M9 n s):=by
  have hw:=h.w1;have hel:=h.el
  have nn:=h.lb.nn;have wn:=xW h.tr
  have htl:=h.sq.tl
  have q14:=(zS (a:=14) hE hb hB.1).2
  have q13:=(zS (a:=13) hE hb hB.1).2
  have q15:=(zS (a:=15) hE hb hB.1).2
  have q16:=(zS (a:=16) hE hb hB.1).2
  have qp:=aI1 s
  unfold M9 aBS;simp only [WT.run,bU]
  refine aB (λr=>r=.inl [⟨14,-bS 14 s⟩,⟨13,-bS 13 s⟩,⟨15,-bS 15 s⟩,⟨16,-bS 16 s⟩]) (gJ (m:=4) (λv=>v.1) (λv=>v.2=(([14,13,15,16]:List Int).take v.1.toNat).map λa=>(⟨a,-bS a s⟩:aQ)) ⟨by simp,by simp,by simp⟩ (by omega) λv h1 h2 h3=>?_) λr hr=>?_
  · obtain ⟨i,l⟩:=v
    simp only at h1 h2 h3
    subst h3
    simp only [p2]
    refine aD (aU (λhk=>bP h1 (by simp;omega) λa ha=>?_) λhk=>bZ (bM ?_))
    · have ha2:a=14\/a=13\/a=15\/a=16:=by simpa using List.mem_of_getElem? ha
      have qa:=(zS (a:=a) hE hb hB.1).2
      have eL:=o6 (λa=>(⟨a,-bS a s⟩:aQ)) h1 ha
      refine x_eq (aDO hn hE hb (by omega) (by omega)) (aD (aU (λk=>absurd rfl k) λ_=>aD (aD (gU (by simp only [List.length_append,List.length_map,List.length_take,List.length_singleton,List.length_cons,List.length_nil];omega) (cO (bM ⟨by omega,rfl,?_⟩))))))
      simp only
      rw [eL,rZ (a:=bS a s) (by omega)]
    · have:i=4:=by omega
      subst this
      rfl
  subst hr
  refine fJ ?_
  refine aB (λl=>l=s.aW.map (eS fP)) (gJ (m:=s.aW.length) (λv=>v.1) (λv=>v.2=(s.aW.take v.1.toNat).map (eS fP)) ⟨by simp,by simp,by simp⟩ (by omega) λv h1 h2 h3=>?_) λl hl2=>?_
  · obtain ⟨i,l⟩:=v
    simp only at h1 h2 h3
    subst h3
    simp only [p2]
    refine aD (aU (λhk=>?_) λhk=>bZ (aF (by rw [List.take_of_length_le (by omega)])))
    have hy:=List.getElem?_eq_getElem (l:=s.aW) (i:=i.toNat) (by omega)
    generalize s.aW[i.toNat]'(by omega)=y at hy
    have hle:=h.lb.le (List.mem_of_getElem? hy)
    refine aB (λr=>r=(s.aW.take (i+1).toNat).map (eS fP)) (aB (λr=>r=(s.aW.take (i+1).toNat).map (eS fP)) (gJ (m:=1) (λv=>v.1) (λv=>(v.1=0/\v.2=(s.aW.take i.toNat).map (eS fP))\/(v.1=1/\v.2=(s.aW.take i.toNat).map (eS fP)++[eS fP y])) ⟨by simp,by simp,.inl ⟨rfl,rfl⟩⟩ (by omega) λv j1 j2 j3=>?_) λr hr=>aF hr) λr hr=>cO (bM ⟨hk,rfl,hr⟩)
    obtain ⟨k,q⟩:=v
    simp only at j1 j2 j3
    simp only [p2]
    refine aD (aU (λhkk=>?_) λhkk=>bZ (aF ?_))
    · have hk0:k=0:=by omega
      subst hk0
      have hq:q=(s.aW.take i.toNat).map (eS fP):=by
        rcases j3 with j3 | j3
        · exact j3.2
        · exact absurd j3.1 (by decide)
      subst hq
      exact x_eq (aEA hn h.sq (h.iN i h1 (by omega)) h.lb hy (h.at hy).2 (by omega) (by omega) (by omega)) (aD (gU (by simp only [List.length_append,List.length_map,List.length_take,List.length_singleton];omega) (cO (bM ⟨by omega,rfl,.inr ⟨rfl,rfl⟩⟩))))
    · rcases j3 with j3 | j3
      · omega
      · rw [j3.2,o6 (eS fP) h1 hy]
  subst hl2
  have qe:=aA6 s
  refine x_eq (pI ⟨by simp only [List.length_map];omega,hn⟩) ?_
  rw [pY (by omega)]
  refine aD (aU (λk=>absurd rfl k) λ_=>?_)
  refine aB (λr=>r=(iM s,0)) (aB (λl=>l=s.bL.map dD.bE) (gJ (m:=s.bL.length) (λv=>v.1) (λv=>v.2=(s.bL.take v.1.toNat).map dD.bE) ⟨by simp,by simp,by simp⟩ (by omega) λv h1 h2 h3=>?_) λl hl2=>?_) λr hr=>?_
  · obtain ⟨i,l⟩:=v
    simp only at h1 h2 h3
    subst h3
    simp only [p2]
    refine aD (aU (λhk=>bP h1 hk λx hx=>aB (λr=>r=x.bE) ?_ λr hr=>aD (gU (by simp only [List.length_append,List.length_map,List.length_take,List.length_singleton];omega) (cO (bM ⟨hk,rfl,?_⟩)))) λhk=>bZ (aF ?_))
    · unfold WE aB1;simp only [WT.run,bU]
      exact aF rfl
    · simp only at hr ⊢
      rw [hr,o6 dD.bE h1 hx]
    · rw [List.take_of_length_le (by omega)]
  · subst hl2
    refine x_eq (pI ⟨by simp only [List.length_map];omega,hn⟩) (aF ?_)
    rw [pY (by have:eT (s.bL.map dD.bE)=qU s:=rfl;omega)]
    rfl
  subst hr
  simp only [p2]
  have eP:sI (s.aW.map (eS fP))=gS fP s:=rfl
  refine aD (aU (λk=>absurd rfl k) λ_=>aD (aD (aD (gU (by simp) ?_))))
  rw [eP,rZ (a:=gS fP s) (by omega),rZ (a:=iM s) (by omega)]
  simp only [List.cons_append,List.nil_append]
  refine aB (λr=>r=(-(bS 14 s+bS 13 s+bS 15 s+bS 16 s+gS fP s+iM s),0)) (aB (λl=>l=[-bS 14 s,-bS 13 s,-bS 15 s,-bS 16 s,-gS fP s,-iM s]) (gJ (m:=6) (λv=>v.1) (λv=>v.2=(([-bS 14 s,-bS 13 s,-bS 15 s,-bS 16 s,-gS fP s,-iM s]:List Int).take v.1.toNat)) ⟨by simp,by simp,by simp⟩ (by omega) λv h1 h2 h3=>?_) λl hl2=>?_) λr hr=>?_
  · obtain ⟨i,l⟩:=v
    simp only at h1 h2 h3
    subst h3
    simp only [p2]
    refine aD (aU (λhk=>?_) λhk=>bZ (aF ?_))
    · refine bP h1 hk λx hx=>aB (λr=>r=x.bO) ?_ λr hr=>aD (gU (by simp only [List.length_append,List.length_take,List.length_singleton,List.length_cons,List.length_nil];omega) (cO (bM ⟨by simp at hk;omega,rfl,?_⟩)))
      · unfold RD WV;simp only [WT.run,bU]
        exact aF rfl
      · have hi:i=0\/i=1\/i=2\/i=3\/i=4\/i=5:=by simp at hk;omega
        simp only at hr ⊢
        rw [hr]
        rcases hi with rfl | rfl | rfl | rfl | rfl | rfl <;> (simp at hx;subst hx;rfl)
    · have:i=6:=by simp at hk;omega
      subst this;rfl
  · subst hl2
    refine x_eq (pI ⟨by simp,hn⟩) (aF ?_)
    rw [pY (by simp only [eT];omega)]
    simp only [sI]
    exact Prod.ext (by simp only;omega) rfl
  subst hr
  simp only [p2]
  refine aD (aU (λk=>absurd rfl k) λ_=>aD (aD (gU (by simp) ?_)))
  rw [rZ (by omega)]
  have hV:iA (L7 s):=yU (by simp [L7])
  have hlb:lB (L7 s)<=100000000000000000:=by simp only [L7,lB,List.map_cons,List.map_nil,eT];omega
  have hL:L7 s=[⟨14,-bS 14 s⟩,⟨13,-bS 13 s⟩,⟨15,-bS 15 s⟩,⟨16,-bS 16 s⟩,⟨0,-gS fP s⟩,⟨12,-iM s⟩,⟨5,- -(bS 14 s+bS 13 s+bS 15 s+bS 16 s+gS fP s+iM s)⟩]:=by
    unfold L7;simp
  have key:=NG (l:=L7 s) hn (by simp [L7]) hV (by omega)
  rw [hL] at key
  exact aB _ key λr hr=>aF ⟨hr.1,by simpa using hr.2.2.1,hr.2.1,by rw [hL];exact hr.2.2.2.1,by have h5:=hr.2.2.2.2.1;rw [<- hL] at h5;exact Int.le_trans h5 hlb⟩
theorem aWQ {n:Nat} {s:aA} (hn:250<=n) (hl:s.aW.length<=3) (h:∀ x∈s.aW,x.Closed=true/\x.fD=1):MM n s=some 0:=by
  refine kG ?_
  unfold MM aA9;simp only [WT.run,bU]
  refine aB (λb=>b=false) (aB (λj=>j<0) (aB (λr=>match r with | .inl _=>True | .inr j=>False) (gJ (m:=s.aW.length) (λv=>v) (λv=>True) ⟨by simp,by simp,trivial⟩ (by omega) λv h1 h2 h3=>?_) λr hr=>?_) λj hj=>aD (aF (decide_eq_false (Int.not_le.2 hj)))) λb hb=>cZ (λk=>by rw [hb] at k;cases k) λhb'=>?_
  · refine aD (aU (λhv=>bP h1 hv λx hx=>aB (λb=>b=false) ?_ λb hb=>cZ (λk=>by rw [hb] at k;cases k) λ_=>cO (bM ⟨hv,rfl,trivial⟩)) λhv=>bZ (bM trivial))
    unfold QT aDD;simp only [WT.run,bU]
    exact aD (aF (by rw [(h x (List.mem_of_getElem? hx)).1];rfl))
  · cases r with
    | inl a=>exact fJ (aF (by decide))
    | inr b=>exact hr.elim
  refine aB (λb=>b=false) (aB (λj=>j<0) (aB (λr=>match r with | .inl _=>True | .inr j=>False) (gJ (m:=s.aW.length) (λv=>v) (λv=>True) ⟨by simp,by simp,trivial⟩ (by omega) λv h1 h2 h3=>?_) λr hr=>?_) λj hj=>aD (aF (decide_eq_false (Int.not_le.2 hj)))) λb hb=>cZ (λk=>by rw [hb] at k;cases k) λhb'=>aF rfl
  · refine aD (aU (λhv=>bP h1 hv λx hx=>aB (λb=>b=false) (bP (by decide) (by omega) λy hy=>aD (aF (decide_eq_false ?_))) λb hb=>cZ (λk=>by rw [hb] at k;cases k) λ_=>cO (bM ⟨hv,rfl,trivial⟩)) λhv=>bZ (bM trivial))
    have e1:=(h x (List.mem_of_getElem? hx)).2
    have e2:=(h y (List.mem_of_getElem? hy)).2
    omega
  · cases r with
    | inl a=>exact fJ (aF (by decide))
    | inr b=>exact hr.elim
theorem aN1 {n:Nat} {s:aA} {y0 y1 y2:aP} {B:Int} (hn:250<=n) (h:TI s) (hE:s.aW=[y0,y1,y2]) (hc:∀ x∈s.aW,x.Closed=true/\x.fD=1) (hb:∀ x∈s.aW,BB x.dM B) (hB:0<=B/\B<=1000000000000000) (b1:gS fQ s+nI s<=100000000) (b2:gS fV s+jI s<=100000000) (b3:gS fA s+qU s<=100000000):Ex (λr=>r.2=0/\(∃ g,r.1.Items=[g]/\g.Value=gS fV s+jI s/\g.bE=gS fP s+iM s)/\r.1.dM.length=17/\∀ (a v:Int),0<=a->r.1.dM[a.toNat]?=some v->v=bS a s+pS (λk=>decide (k=a)) (L7 s)) (MH n s):=by
  have hw:=h.w1;have hel:=h.el
  unfold MH aD0;simp only [WT.run,bU]
  refine x_eq (aWQ hn (by omega) hc) (aD (aU (λk=>absurd rfl k) λ_=>aD ?_))
  refine aB (λ_=>True) (aU (λ_=>bP (by decide) (by omega) λ_ _=>aF trivial) λ_=>aF trivial) λnow _=>?_
  refine aB (λr=>match r with | .inl l=>∃ g:jG,l=[g]/\g.Value=gS fV s+jI s/\g.bE=gS fP s+iM s | .inr _=>False) (gJ (m:=1) (λv=>v.1) (λv=>(v.1=0/\v.2=[])\/(v.1=1/\∃ g:jG,v.2=[g]/\g.Value=gS fV s+jI s/\g.bE=gS fP s+iM s)) ⟨by simp,by simp,.inl ⟨rfl,rfl⟩⟩ (by omega) λv h1 h2 h3=>?_) λr hr=>?_
  · obtain ⟨i,l⟩:=v
    simp only at h1 h2 h3
    simp only [p2]
    refine aD (aU (λhk=>?_) λhk=>bZ (bM ?_))
    · have hi:i=0:=by omega
      subst hi
      have hl0:l=[]:=by
        rcases h3 with h3 | h3
        · exact h3.2
        · omega
      subst hl0
      refine aB _ (aXB hn h b1 b2 b3) λg hg=>?_
      exact aD (aU (λk=>absurd hg.1 k) λ_=>aD (gU (by simp) (cO (bM ⟨by omega,rfl,.inr ⟨rfl,g.1,rfl,hg.2.2.1,hg.2.2.2⟩⟩))))
    · rcases h3 with h3 | h3
      · omega
      · exact h3.2
  cases r with
  | inr b=>exact hr.elim
  | inl items =>
  have hr0:=hr
  refine fJ ?_
  refine aB _ (aNW hn h hE hb hB b1 b2 b3) λl hl=>aD (aU (λk=>absurd hl.1 k) λ_=>?_)
  obtain ⟨l,er⟩:=l
  obtain ⟨-,l1,l2,l3,l4⟩:=hl
  simp only at l1 l2 l3 l4
  simp only
  refine aB (λr=>match r with | .inl q=>q.length=17/\∀ (a v:Int),0<=a->q[a.toNat]?=some v->v=bS a s+pS (λk=>decide (k=a)) (L7 s) | .inr _=>False) (gJ (m:=17) (λv=>v.1) (λv=>(v.2.length:Int)=v.1/\∀ (a z:Int),0<=a->v.2[a.toNat]?=some z->z=bS a s+pS (λk=>decide (k=a)) (L7 s)) ⟨by simp,by simp,by simp,λa v _ h=>by simp at h⟩ (by omega) λv h1 h2 h3=>?_) λr hr=>?_
  · obtain ⟨a,q⟩:=v
    obtain ⟨h3,h4⟩:=h3
    simp only at h1 h2 h3 h4
    simp only [p2]
    refine aD (aU (λhk=>?_) λhk=>bZ (bM ⟨by omega,h4⟩))
    refine aB (λr=>r=.inl (q++[bS a s+pS (λk=>decide (k=a)) l])) ?_ λr hr=>?_
    · have qa:=(zS (a:=a) hE hb hB.1).2
      refine x_eq (aDO hn hE hb (by omega) ⟨h1,hk⟩) (aD (aU (λk=>absurd rfl k) λ_=>?_))
      refine aB (λr=>r=.inl (bS a s+pS (λk=>decide (k=a)) l)) (gJ (m:=l.length) (λv=>v.2) (λv=>v.1=bS a s+pS (λk=>decide (k=a)) (l.take v.2.toNat)) ⟨by simp,by simp,by simp [pS,sI]⟩ (by omega) λv j1 j2 j3=>?_) λr hr=>?_
      · obtain ⟨z,j⟩:=v
        simp only at j1 j2 j3
        subst j3
        simp only [p2]
        refine aD (aU (λhj=>?_) λhj=>bZ (bM ?_))
        · refine aB (λr=>r=.inl (bS a s+pS (λk=>decide (k=a)) (l.take (j+1).toNat))) (bP j1 hj λx hx=>?_) λr hr=>?_
          · have hT:=yM (λk=>decide (k=a)) j1 hx
            have hT1:=WI l j.toNat
            have hT2:=aH3 (λk=>decide (k=a)) (l.take j.toNat)
            have hx2:=GB (List.mem_of_getElem? hx)
            rw [hT.1]
            refine aD (aU (λk=>?_) λk=>bM ?_)
            · refine x_eq (GL _ _) ?_
              rw [L3 (by omega)]
              refine aD (aU (λk=>absurd rfl k) λ_=>bM ?_)
              simp only [gA,k,decide_true,if_true]
              congr 1;omega
            · simp only [gA,k,decide_false,Bool.false_eq_true,if_false]
              congr 1;omega
          · subst hr
            exact fJ (cO (bM ⟨hj,rfl,rfl⟩))
        · rw [List.take_of_length_le (by omega)]
      · subst hr
        exact fJ (aD (dI (bM rfl)))
    · subst hr
      refine fJ (cO (bM ⟨hk,rfl,by simp;omega,λb z hb0 hz=>?_⟩))
      simp only at hz
      by_cases e:b.toNat<q.length
      · rw [List.getElem?_append_left e] at hz;exact h4 b z hb0 hz
      · rw [List.getElem?_append_right (by omega)] at hz
        have hba:b.toNat-q.length=0:=by
          by_cases e2:b.toNat-q.length=0
          · exact e2
          · rw [List.getElem?_eq_none (by simp;omega)] at hz;cases hz
        rw [hba] at hz
        have:b=a:=by omega
        subst this
        simp only [List.getElem?_cons_zero,Option.some.injEq] at hz
        rw [<- hz,l3]
  cases r with
  | inr b=>exact hr.elim
  | inl q=>exact fJ (aF ⟨rfl,hr0,hr.1,hr.2⟩)
set_option maxRecDepth 1000000
theorem aUN:EC oE vU 0:=⟨rfl,⟨rfl,λv hv=>by
  have:=List.eq_of_mem_replicate (show v∈List.replicate 17 (0:Int) from hv)
  subst this;decide⟩,⟨_,rfl,NK (by decide) (by decide) (by decide) (by decide)⟩,rfl,rfl,rfl,rfl⟩
theorem aSU {m:Int} (hm:M2 m):TL 0 0 (oS m):=by
  have h3:M3 m:=by unfold M2 at hm;unfold M3;omega
  have ti:=aIA h3
  refine ⟨⟨λ_=>vU,0,⟨ti.sq,λl hl q hq=>?_,⟨by simp [oS],λe h0 h1=>⟨oE,?_,aUN⟩⟩,λ_=>LB.nil,rfl,λe h0 h1=>aA5 h0 h1,ti.tr⟩,by decide,by decide,λ_ _ h=>(by cases h),by rfl,Int.le_of_eq rfl,Int.le_of_eq rfl,Int.le_of_eq rfl⟩,λ_ h=>(by cases h),by rfl,by decide,by decide⟩
  · simp only [oS,oM,List.mem_cons,List.not_mem_nil,or_false,or_self] at hl
    subst hl
    simp only [List.mem_cons,List.not_mem_nil,or_false] at hq
    subst hq;exact hm
  · have h:e.toNat=0\/e.toNat=1\/e.toNat=2:=by omega
    rcases h with h | h | h <;> rw [h] <;> rfl
theorem O9 {l:List aM} (h:NP l):lA l=lP l:=vW (sO h)
theorem aUH (v:Int) (l:List Int):TW 300 v l=some true:=by
  refine kG (x:=true) ?_
  unfold TW aGU;simp only [WT.run,bU]
  refine aB _ (aE0 (by omega)) λq hq=>cO ?_
  have hm:M2 (1+q):=by unfold M2;omega
  have hS:(CZ 300 3 (1+q)).bind (EP 300)=some (oS (1+q)):=by
    have:q=0\/q=1:=by omega
    rcases this with rfl | rfl
    · exact aOL
    · exact aNN
  obtain ⟨m,e1,e2⟩:=Option.bind_eq_some_iff.1 hS
  refine x_eq e1 (x_eq e2 ?_)
  refine aB (λr=>∃ i:Int,0<=i/\i<=60/\TL i r.1 r.2) (gJ (m:=60) (λv=>v.2.1) (λv=>TL v.2.1 v.1 v.2.2) ⟨by simp,by simp,aSU hm⟩ (by omega) λv h1 h2 h3=>?_) λr hr=>?_
  · obtain ⟨asked,i,s⟩:=v
    simp only at h1 h2 h3
    simp only [p2]
    refine aB (λb=>b=true->i<(l.length:Int)/\i<60) (aD (aU (λk=>aD (aF λk2=>⟨k,of_decide_eq_true k2⟩)) λ_=>aF (λk=>nomatch k))) λb hb=>cZ (λkb=>?_) λ_=>bZ (aF ⟨i,h1,h2,h3⟩)
    obtain ⟨k1,k2⟩:=hb kb
    refine aB (λr=>TL (i+1) r.1 r.2) ?_ λr hr=>by
      obtain ⟨a,t⟩:=r
      exact cO (bM ⟨k2,rfl,hr⟩)
    refine bP h1 k1 λx hx=>aB _ (aE0 (by omega)) λk hk=>?_
    have f8:=td hk.1 (show (0:Int)<8 by omega)
    have f24:=td hk.1 (show (0:Int)<24 by omega)
    have f216:=td hk.1 (show (0:Int)<216 by omega)
    have f7:=td hk.1 (show (0:Int)<70000 by omega)
    have m3:=tm f8.1 (show (0:Int)<3 by omega)
    have m9:=tm f24.1 (show (0:Int)<9 by omega)
    have m4:=tm f216.1 (show (0:Int)<400 by omega)
    have m30:=tm f216.1 (show (0:Int)<300 by omega)
    have m2:=tm f7.1 (show (0:Int)<2 by omega)
    refine cO (aD (cO (aD (cO (cO (aD (aD ?_)))))))
    generalize he:(k.tdiv 8).tmod 3=e at *
    generalize hQ:1+(k.tdiv 24).tmod 9=Q
    generalize hA:(k.tdiv 216).tmod 400=A at *
    have hQ':1<=Q/\Q<=9:=by omega
    refine aB (λr=>match r with | .inl o=>Ex (λr=>TL (i+1) asked r.1) (rP 300 s o) | .inr p=>TL (i+1) p.1 p.2) ?_ λr hr=>jA (λo e=>by subst e;exact aB _ hr λu hu=>aF hu) λp e=>by subst e;exact hr
    refine aD (aU (λ_=>bM (h3.aMA ⟨h1,k2⟩ m3 hQ')) λ_=>aD (aU (λ_=>bM (h3.aI6 ⟨h1,k2⟩ m3 hQ')) λ_=>aD (aB _ F6 λb _=>cZ (λ_=>?_) λ_=>aD (aB _ F6 λb _=>cZ (λ_=>cO (aD (bM (h3.aOY ⟨h1,k2⟩ hQ')))) λ_=>bM (h3.aK2 ⟨h1,k2⟩ m3 hQ' ⟨m4.1,by omega⟩)))))
    obtain ⟨f,B,c1,c2,c3,c4,c5,c6,c7,c8⟩:=h3.ex
    have hfl:=DD c1 m3
    refine aB _ (aF9 (MX (n:=300) (e:=e) (k:=3) (q:=Q) (by omega) c1.sq c1.m2 c1.en (c1.iN e m3.1 m3.2) m3 (c1.lb e) (by omega) (oD (by omega)))) λr hf=>?_
    obtain ⟨⟨hk2,hf⟩,hD⟩:=hf
    refine aB (λb=>b=false->r.2.2.2=0) (aD (aU (λ_=>aF λh=>by cases h) λk=>aD (aF λ_=>Classical.not_not.1 k))) λb hb=>cZ (λ_=>bZ (aF (h3.mono h1))) λkb=>?_
    obtain ⟨-,⟨p',hE,hO⟩,-⟩:=hf (hb kb)
    have hv0:=hO.x2;have hv1:=hO.v;have hv2:=(nJ hO.b.ok).2;have hw:=(xW c1.tr).2.1
    have hx:0<=r.2.1.Value/\r.2.1.Value<=100000:=by omega
    have a0:=h3.a0;have a1:=h3.a1
    refine cO (aD (cO (cO (aD (cO (aD (cO ?_)))))))
    have mto:=tm (show 0<=e+1+(k.tdiv 70000).tmod 2 by omega) (show (0:Int)<3 by omega)
    refine aB _ (h3.aLP ⟨h1,k2⟩ m3 mto hQ' (d:=(k.tdiv 216).tmod 300) ⟨m30.1,by omega⟩ hD hx) λu hu=>aD ?_
    exact aB (λp=>TL (i+1) p.1 p.2) (aU (λh0=>cO (aF (hu.1 h0))) λh0=>aF (h3.mono h1)) λp hp=>bZ (aF hp)
  · obtain ⟨asked,s⟩:=r
    obtain ⟨i,i0,i1,hT⟩:=hr
    simp only at hT
    simp only [p2]
    obtain ⟨f,B,h1,h2,h3,h4,h5,h6,h7,h8⟩:=hT.ex
    obtain ⟨s1,s2,s3,x0,x1,x2,c1,c2,c3,hK,hE,n0,n1,n2,w0,w1,w2⟩:=cl3 h1 (by omega) λe a b=>by
      have hi:=h1.iN e a b
      have hml:=List.getElem?_eq_getElem (l:=s.bF.Methods) (i:=e.toNat) (by have:=hi.m1;omega)
      exact ⟨_,hml,h1.sq.mq _ (List.mem_of_getElem? hml),λm hm=>by have:=h1.m2 _ (List.mem_of_getElem? hml) m hm;unfold M2 at this;omega⟩
    refine aB (λt=>t=s3) (gJ (m:=3) (λv=>v.1) (λv=>(v.1=0->v.2=s)/\(v.1=1->v.2=s1)/\(v.1=2->v.2=s2)/\(v.1=3->v.2=s3)) ⟨by simp,by simp,λ_=>rfl,by simp,by simp,by simp⟩ (by omega) λv j1 j2 j3=>?_) λt ht=>?_
    · obtain ⟨k,t⟩:=v
      obtain ⟨j3,j4,j5,j6⟩:=j3
      simp only at j1 j2 j3 j4 j5 j6
      simp only [p2]
      refine aD (aU (λhk=>?_) λhk=>bZ (aF (j6 (by omega))))
      have hkk:k=0\/k=1\/k=2:=by omega
      rcases hkk with rfl | rfl | rfl
      · rw [j3 rfl];exact x_eq c1 (cO (bM ⟨by omega,rfl,by simp,by simp,by simp,by simp⟩))
      · rw [j4 rfl];exact x_eq c2 (cO (bM ⟨by omega,rfl,by simp,by simp,by simp,by simp⟩))
      · rw [j5 rfl];exact x_eq c3 (cO (bM ⟨by omega,rfl,by simp,by simp,by simp,by simp⟩))
    subst ht
    obtain ⟨y1,y2,y3⟩:=TN hK.tr
    have gQ:=hK.g fQ;have gV:=hK.g fV;have gP:=hK.g fP;have gA':=hK.g fA
    have z0:=hK.b 0;have z12:=hK.b 12
    have sQ':gS fQ s=sQ f:=K8 h1.en rfl
    have sV':gS fV s=sV f:=K8 h1.en rfl
    have sP':gS fP s=sP f:=K8 h1.en rfl
    have sA':gS fA s=sP f:=by
      rw [K8 h1.en rfl]
      show lA (f 0).bJ+lA (f 1).bJ+lA (f 2).bJ=_
      rw [O9 (h4 0),O9 (h4 1),O9 (h4 2)];rfl
    have wA:qU t=iM s:=by
      unfold qU iM
      rw [hK.tr]
      exact vW (jY λx hx=>(hT.tp x hx).2.2.2)
    have p0:=X0 h4;have p1:=aEC hT.tp
    have v0:=(DD h1 (e:=0) (by omega));have wv:=(xW h1.tr).2.1
    have a1:=hT.a1;have bt:=hT.bt
    refine aB _ (aN1 (B:=B) (n:=300) (by omega) hK.ti hE (λx hx=>?_) (λx hx=>?_) ⟨h2,by omega⟩ (by omega) (by omega) (by omega)) λg hg=>?_
    · rw [hE] at hx
      simp only [List.mem_cons,List.not_mem_nil,or_false] at hx
      rcases hx with rfl | rfl | rfl
      · exact ⟨rfl,n0⟩
      · exact ⟨rfl,n1⟩
      · exact ⟨rfl,n2⟩
    · rw [hE] at hx
      simp only [List.mem_cons,List.not_mem_nil,or_false] at hx
      rcases hx with rfl | rfl | rfl
      · exact w0
      · exact w1
      · exact w2
    obtain ⟨g1,⟨it,hit,gv,gp⟩,gl,gb⟩:=hg
    have hlen:g.1.Items.length=1:=by rw [hit];rfl
    refine aB (λb=>b=false) (aD (aU (λk=>absurd g1 k) λ_=>aD (aU (λk=>absurd (by omega) k) λ_=>aD (aF (decide_eq_false (by omega)))))) λb hb=>cZ (λk=>by rw [hb] at k;cases k) λ_=>?_
    refine iL (i:=0) (by decide) (a:=it) (by rw [hit];rfl) ?_
    have e15:pS (λk=>decide (k=15)) (L7 t)=-bS 15 t:=by simp [L7,pS,gA,sI]
    have e16:pS (λk=>decide (k=16)) (L7 t)=-bS 16 t:=by simp [L7,pS,gA,sI]
    have e13:pS (λk=>decide (k=13)) (L7 t)=-bS 13 t:=by simp [L7,pS,gA,sI]
    have e14:pS (λk=>decide (k=14)) (L7 t)=-bS 14 t:=by simp [L7,pS,gA,sI]
    have e0:pS (λk=>decide (k=0)) (L7 t)=-gS fP t:=by simp [L7,pS,gA,sI]
    have e12:pS (λk=>decide (k=12)) (L7 t)=-iM t:=by simp [L7,pS,gA,sI]
    refine aB (λb=>b=true) (aD (aU (λ_=>aD (aU (λ_=>bP (by decide) (by omega) λu hu=>aD (aU (λ_=>bP (by decide) (by omega) λu hu=>aD (aU (λ_=>bP (by decide) (by omega) λu hu=>aD (aU (λ_=>bP (by decide) (by omega) λu hu=>aD (aU (λ_=>bP (by decide) (by omega) λu0 hu0=>bP (by decide) (by omega) λu12 hu12=>?_) λk=>absurd (by have:=gb 14 u (by decide) hu;omega) k)) λk=>absurd (by have:=gb 13 u (by decide) hu;omega) k)) λk=>absurd (by have:=gb 16 u (by decide) hu;omega) k)) λk=>absurd (by have:=gb 15 u (by decide) hu;omega) k)) λk=>absurd (by omega) k)) λk=>absurd (by omega) k)) λb hb=>aF hb
    have r0:=gb 0 u0 (by decide) hu0
    have r12:=gb 12 u12 (by decide) hu12
    refine cO (iL (i:=0) (by decide) (a:=it) (by rw [hit];rfl) (cO (aD (aU (λ_=>x_eq aR7 (aF rfl)) λk=>absurd (by omega) k))))
open Go.ChangeShapes Go.WideShapes Go.ChangeAt Go.RowKit
theorem aJI {P:Program} {f:FuncId} {args:List AV} {vs:Array Value} {w:World} (h:PP P f args (λy=>y=aI true)) (ha:mU (s0 w) args vs) :
    Calls P f vs w λe w'=>e=.returned (.bool true)/\Below w.heap.size w w':=by
  refine (h (s0 w) vs (λ_ h=>h) ⟨0,λ_ _ h=>h⟩ ha).mono ?_
  rintro e w' ⟨y,s',v,rfl,_,rfl,rfl,h4,_,h6⟩
  have hv:=h4.fF
  subst hv
  exact ⟨rfl,⟨h6.os,h6.tape,h6.output,h6.size,λk hk=>h6.keep k hk λ⟨_,_,_,h,_⟩=>by cases h⟩⟩
end Go.Pv
