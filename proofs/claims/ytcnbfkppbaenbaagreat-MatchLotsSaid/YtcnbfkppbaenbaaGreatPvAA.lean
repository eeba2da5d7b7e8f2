import Derived.Test.YtcnbfkppbaenbaaGreatPR80
import Derived.Test.YtcnbfkppbaenbaaGreatPvU
set_option linter.unusedVariables false
set_option linter.unusedSimpArgs false
namespace Go.Pv
open Go.Proofs
set_option maxRecDepth 1000000
set_option maxHeartbeats 1000000
theorem aK8 {l:List aH} {i:Nat} {p q:aH} (hp:l[2*i]?=some p) (hq:l[2*i+1]?=some q):sV (l.drop (2*i))=tV p.aW+tV q.aW+sV (l.drop (2*(i+1))):=by
  have e1:sV (l.drop (2*i))=tV p.aW+sV (l.drop (2*i+1)):=tT _ hp
  have e2:sV (l.drop (2*i+1))=tV q.aW+sV (l.drop (2*i+1+1)):=tT _ hq
  rw [e1,e2,show 2*(i+1)=2*i+1+1 by omega];omega
theorem aWF {s:aA} {n:Nat} (hn:66<n) (hl:s.bY.length<=40) (hp:∀ r∈s.bY,0<=r.gW) (e:Int) {P:Bool->Prop} {f:List Int->Option Bool} (k:∀ l:List Int,l.length<=40->(∀ y∈l,0<=y)->(0<=e->dA l=eD (iT e.toNat) s.bY)->Ex P (f l)) :
    Ex P ((iter (λ(v:Int×List Int)=>p2 (λ(a:Int) (b:List Int)=>bnd (decide (a<(s.bY.length:Int))) λ(x:Bool)=>cond x (((ix s.bY a).bind λ(x:dG)=>bnd (decide (x.eY=e)) λ(x_1:Bool)=>cond x_1 ((ix s.bY a).bind λ(x:dG)=>bnd (b++[x.gW]) λ(x:List Int)=>iO (x.length<=68719476736) (some x)) (some b)).bind λ(y:List Int)=>bnd (bA (a+1)) λ(x:Int)=>brk (x,y)) (esc (some b))) v) n (0,[])).bind f):=by
  refine aU (λ(l:List Int)=>l.length<=40/\(∀ y∈l,0<=y)/\(0<=e->dA l=eD (iT e.toNat) s.bY)) (fJ (λ(v:Int×List Int)=>0<=v.1/\v.1<=(s.bY.length:Int)/\(v.2.length:Int)<=v.1/\(∀ y∈v.2,0<=y)/\(0<=e->dA v.2+eD (iT e.toNat) (s.bY.drop v.1.toNat)=eD (iT e.toNat) s.bY)) (λ(v:Int×List Int)=>s.bY.length-v.1.toNat) ?_ (v:=(0,[])) ⟨by simp,by simp,by simp,(λ_ h=>nomatch h),λ_=>by simp [dA,eD]⟩ (by simp;omega)) λl hl=>k l hl.1 hl.2.1 hl.2.2
  rintro ⟨i,l⟩ ⟨a1,a2,a3,a4,a5⟩
  simp only at a1 a2 a3 a4 a5
  refine bF (aF (aI (λk=>?_) λk=>bJ (aD ⟨by first | omega | (simp only;omega),a4,λhe=>?_⟩)))
  · have k:i<(s.bY.length:Int):=k
    refine aU (λ(l':List Int)=>(l'.length:Int)<=i+1/\(∀ y∈l',0<=y)/\(0<=e->dA l'+eD (iT e.toNat) (s.bY.drop (i.toNat+1))=eD (iT e.toNat) s.bY)) (eT a1 k λr hr=>?_) λl' hl'=>bE (cK ⟨⟨by first | omega | (simp only;omega),by first | omega | (simp only;omega),hl'.1,hl'.2.1,λhe=>?_⟩,by first | omega | (simp only;omega)⟩)
    · have hr:s.bY[i.toNat]?=some r:=hr
      have e1:=tT (iT e.toNat) hr
      refine aF (aI (λke=>dD a1 hr (aF (dM (aD ⟨by simp;omega,mI a4 (hp r (fE hr)),λhe=>?_⟩)))) λke=>aD ⟨by first | omega | (simp only;omega),a4,λhe=>?_⟩)
      · have:=a5 he
        have e2:iT e.toNat r=r.gW:=by unfold iT;rw [if_pos (by omega)]
        rw [CX]
        have:dA [r.gW]=r.gW:=by simp [dA,eD]
        show dA l+dA [r.gW]+eD (iT e.toNat) (s.bY.drop (i.toNat+1))=eD (iT e.toNat) s.bY
        omega
      · have:=a5 he
        have e2:iT e.toNat r=0:=by unfold iT;rw [if_neg (by omega)]
        show dA l+eD (iT e.toNat) (s.bY.drop (i.toNat+1))=eD (iT e.toNat) s.bY
        omega
    · have:=hl'.2.2 he
      show dA l'+eD (iT e.toNat) (s.bY.drop (i+1).toNat)=_
      rw [show (i+1).toNat=i.toNat+1 by omega];exact this
  · have k:¬ i<(s.bY.length:Int):=k
    have:=a5 he
    rw [List.drop_eq_nil_of_le (by omega)] at this
    have z:eD (iT e.toNat) ([]:List dG)=0:=rfl
    show dA l=eD (iT e.toNat) s.bY
    omega
theorem aQ6 {s:aA} {n:Nat} (hn:66<n) (hl:s.dL.length<=40) (hp:∀ r∈s.dL,0<=r.Value) (e:Int) {P:Bool->Prop} {f:List Int->Option Bool} (k:∀ l:List Int,l.length<=40->(∀ y∈l,0<=y)->(0<=e->dA l=eD (iI e.toNat) s.dL)->Ex P (f l)) :
    Ex P ((iter (λ(v:Int×List Int)=>p2 (λ(a:Int) (b:List Int)=>bnd (decide (a<(s.dL.length:Int))) λ(x:Bool)=>cond x (((ix s.dL a).bind λ(x:fT)=>bnd (decide (x.To=e)) λ(x_1:Bool)=>cond x_1 ((ix s.dL a).bind λ(x:fT)=>bnd (b++[x.Value]) λ(x:List Int)=>iO (x.length<=68719476736) (some x)) (some b)).bind λ(y:List Int)=>bnd (bA (a+1)) λ(x:Int)=>brk (x,y)) (esc (some b))) v) n (0,[])).bind f):=by
  refine aU (λ(l:List Int)=>l.length<=40/\(∀ y∈l,0<=y)/\(0<=e->dA l=eD (iI e.toNat) s.dL)) (fJ (λ(v:Int×List Int)=>0<=v.1/\v.1<=(s.dL.length:Int)/\(v.2.length:Int)<=v.1/\(∀ y∈v.2,0<=y)/\(0<=e->dA v.2+eD (iI e.toNat) (s.dL.drop v.1.toNat)=eD (iI e.toNat) s.dL)) (λ(v:Int×List Int)=>s.dL.length-v.1.toNat) ?_ (v:=(0,[])) ⟨by simp,by simp,by simp,(λ_ h=>nomatch h),λ_=>by simp [dA,eD]⟩ (by simp;omega)) λl hl=>k l hl.1 hl.2.1 hl.2.2
  rintro ⟨i,l⟩ ⟨a1,a2,a3,a4,a5⟩
  simp only at a1 a2 a3 a4 a5
  refine bF (aF (aI (λk=>?_) λk=>bJ (aD ⟨by first | omega | (simp only;omega),a4,λhe=>?_⟩)))
  · have k:i<(s.dL.length:Int):=k
    refine aU (λ(l':List Int)=>(l'.length:Int)<=i+1/\(∀ y∈l',0<=y)/\(0<=e->dA l'+eD (iI e.toNat) (s.dL.drop (i.toNat+1))=eD (iI e.toNat) s.dL)) (eT a1 k λr hr=>?_) λl' hl'=>bE (cK ⟨⟨by first | omega | (simp only;omega),by first | omega | (simp only;omega),hl'.1,hl'.2.1,λhe=>?_⟩,by first | omega | (simp only;omega)⟩)
    · have hr:s.dL[i.toNat]?=some r:=hr
      have e1:=tT (iI e.toNat) hr
      refine aF (aI (λke=>dD a1 hr (aF (dM (aD ⟨by simp;omega,mI a4 (hp r (fE hr)),λhe=>?_⟩)))) λke=>aD ⟨by first | omega | (simp only;omega),a4,λhe=>?_⟩)
      · have:=a5 he
        have e2:iI e.toNat r=r.Value:=by unfold iI;rw [if_pos (by omega)]
        rw [CX]
        have:dA [r.Value]=r.Value:=by simp [dA,eD]
        show dA l+dA [r.Value]+eD (iI e.toNat) (s.dL.drop (i.toNat+1))=eD (iI e.toNat) s.dL
        omega
      · have:=a5 he
        have e2:iI e.toNat r=0:=by unfold iI;rw [if_neg (by omega)]
        show dA l+eD (iI e.toNat) (s.dL.drop (i.toNat+1))=eD (iI e.toNat) s.dL
        omega
    · have:=hl'.2.2 he
      show dA l'+eD (iI e.toNat) (s.dL.drop (i+1).toNat)=_
      rw [show (i+1).toNat=i.toNat+1 by omega];exact this
  · have k:¬ i<(s.dL.length:Int):=k
    have:=a5 he
    rw [List.drop_eq_nil_of_le (by omega)] at this
    have z:eD (iI e.toNat) ([]:List fT)=0:=rfl
    show dA l=eD (iI e.toNat) s.dL
    omega
theorem Inv.see {K:Int} {s:aA} (h:Inv K s) {e:Int} (he:0<=e/\e<(s.bD.length:Int)):∃ x bL,s.bD[e.toNat]?=some x/\s.bH.Methods[e.toNat]?=some bL/\ES s.bH.bZ.length bL s.bH.gQ x/\EB x:=by
  have hx:s.bD[e.toNat]?=some (s.bD[e.toNat]'(by omega)):=List.getElem?_eq_getElem (by omega)
  obtain ⟨bL,hm,_,_,hes⟩:=h.ss.bL hx
  refine ⟨_,bL,hx,hm,hes,?_⟩
  rcases h.ent _ _ _ hx hm with g | ⟨y,g⟩
  · exact g.ee
  · exact g.ee
theorem ES.sv0 {n:Nat} {bL:List Int} {iN:Int} {x:aQ} (h:ES n bL iN x):0<=sV x.bX:=uK λp hp=>(gV (h.pr p hp)).2.1.1
theorem Y1 {s:aA} (h:SS s) {n:Nat} (hn:66<n) {e i:Int} {x:aQ} (ht:gY s e i) (hx:s.bD[e.toNat]?=some x) (hv:sV x.bX<=288230376151711744):∃ p q,x.bX[2*i.toNat]?=some p/\x.bX[2*i.toNat+1]?=some q/\wF n s e i=some ⟨tQ p.aW+tQ q.aW,tV p.aW+tV q.aW,tP p.aW+tP q.aW⟩/\0<=tV p.aW+tV q.aW:=by
  obtain ⟨bL,g1,g2,g3,hes⟩:=h.bL hx
  have ht2:=ht.2
  obtain ⟨m,p,q,w1,w2,w3,w4,w5,w6⟩:=hes.QA hv (i:=i.toNat) (by omega)
  have w2:x.bX[2*i.toNat]?=some p:=w2
  have w3:x.bX[2*i.toNat+1]?=some q:=w3
  exact ⟨p,q,w2,w3,RZ hn h ht hx w2 w3 w4 w5,w6⟩
theorem aN9 {s:aA} (h:SS s) {n:Nat} (hn:66<n) {e:Int} {x:aQ} (he:0<=e/\e<(s.bD.length:Int)) (hx:s.bD[e.toNat]?=some x) (hv:sV x.bX<=288230376151711744):M9 n s e=some (sV x.bX):=by
  have hf:=h.toS0.iC
  obtain ⟨bL,g1,g2,g3,hes⟩:=h.bL hx
  have hlp:x.bX.length=2*s.bH.bZ.length:=hes.lp
  refine fH ?_
  unfold M9 T4
  simp only [WT.run,bS]
  refine aU (λ(l:List Int)=>l.length<=5/\(∀ y∈l,0<=y)/\dA l=sV x.bX) (fJ (λ(v:Int×List Int)=>0<=v.1/\v.1<=(s.bH.bZ.length:Int)/\(v.2.length:Int)=v.1/\(∀ y∈v.2,0<=y)/\dA v.2+sV (x.bX.drop (2*v.1.toNat))=sV x.bX) (λ(v:Int×List Int)=>s.bH.bZ.length-v.1.toNat) ?_ (v:=(0,[])) ⟨by simp,by simp,rfl,(λ_ h=>nomatch h),by simp [dA,eD]⟩ (by simp;omega)) λl hl=>?_
  · rintro ⟨i,l⟩ ⟨a1,a2,a3,a4,a5⟩
    simp only at a1 a2 a3 a4 a5
    refine bF (aF (aI (λk=>?_) λk=>bJ (aD ⟨by first | omega | (simp only;omega),a4,?_⟩)))
    · have k:i<(s.bH.bZ.length:Int):=k
      obtain ⟨p,q,w1,w2,w3,w4⟩:=Y1 h hn (i:=i) ⟨he,a1,k⟩ hx hv
      refine x_eq w3 (aF (dM (bE (cK ⟨⟨by first | omega | (simp only;omega),by first | omega | (simp only;omega),by simp;omega,mI a4 w4,?_⟩,by first | omega | (simp only;omega)⟩))))
      have e1:=aK8 w1 w2
      show dA (l++[tV p.aW+tV q.aW])+sV (x.bX.drop (2*(i+1).toNat))=sV x.bX
      rw [CX,show (i+1).toNat=i.toNat+1 by omega]
      have:dA [tV p.aW+tV q.aW]=tV p.aW+tV q.aW:=by simp [dA,eD]
      omega
    · have k:¬ i<(s.bH.bZ.length:Int):=k
      rw [List.drop_eq_nil_of_le (by omega)] at a5
      have:sV []=0:=rfl
      first | omega | (simp only;omega)
  · refine x_eq (tF (by omega) (by omega)) (aD ?_)
    rw [HV hl.2.1 (by omega)];exact hl.2.2
theorem aI1 {s:aA} (h:SS s) {n:Nat} (hn:66<n) {e:Int} {x:aQ} (he:0<=e/\e<(s.bD.length:Int)) (hx:s.bD[e.toNat]?=some x) (hb:x.dR.length=17) (hv:0<=sV x.bX/\sV x.bX<=288230376151711744):EZ n s e=some (decide (sV x.bX=bl x 0)):=by
  refine fH ?_
  unfold EZ aBV
  simp only [WT.run,bS]
  refine aU (λ(b:Bool)=>b=decide (sV x.bX=bl x 0)) (x_eq (q_in he) (dB (x_eq (aN9 h hn he hx hv.2) (dD he.1 hx (eT (by decide) (by omega) λv hv=>aF (aD ?_)))))) λb hb=>aD hb
  have hv:x.dR[0]?=some v:=hv
  unfold bl;rw [getD_at hv]
theorem aM6 {s:aA} {n:Nat} (hn:66<n) (hl:s.bY.length<=40) (hp:∀ r∈s.bY,0<=r.gW) {e:Int} {x:aQ} (he:0<=e/\e<(s.bD.length:Int)) (hx:s.bD[e.toNat]?=some x) (hb:x.dR.length=17) (hb1:bQ (bl x 1)) (hv:eD (iT e.toNat) s.bY<=288230376151711744):DR n s e=some (decide (eD (iT e.toNat) s.bY=-bl x 1)):=by
  refine fH ?_
  unfold DR TZ
  simp only [WT.run,bS]
  refine aWF hn hl hp e λl h1 h2 h3=>?_
  have h3:=h3 he.1
  refine x_eq (tF (by omega) (by omega)) ?_
  rw [HV h2 (by omega)]
  unfold bQ at hb1
  refine aU (λ(b:Bool)=>b=decide (eD (iT e.toNat) s.bY=-bl x 1)) (x_eq (q_in he) (dB (aF (aI (λ_=>dD he.1 hx (eT (by decide) (by omega) λv hv=>?_)) λk=>absurd rfl k)))) λb hb=>aD hb
  have hv:x.dR[1]?=some v:=hv
  have e1:bl x 1=v:=by unfold bl;rw [getD_at hv]
  refine bE (aF (aD ?_))
  exact decide_eq_decide.2 (by simp only;omega)
theorem aOS {s:aA} {n:Nat} (hn:66<n) (hl:s.dL.length<=40) (hp:∀ r∈s.dL,0<=r.Value) {e:Int} {x:aQ} (he:0<=e/\e<(s.bD.length:Int)) (hx:s.bD[e.toNat]?=some x) (hb:x.dR.length=17) (hv:eD (iI e.toNat) s.dL<=288230376151711744):EF n s e=some (decide (eD (iI e.toNat) s.dL=bl x 12)):=by
  refine fH ?_
  unfold EF aFP
  simp only [WT.run,bS]
  refine aQ6 hn hl hp e λl h1 h2 h3=>?_
  have h3:=h3 he.1
  refine x_eq (tF (by omega) (by omega)) ?_
  rw [HV h2 (by omega)]
  refine aU (λ(b:Bool)=>b=decide (eD (iI e.toNat) s.dL=bl x 12)) (x_eq (q_in he) (dB (aF (aI (λ_=>dD he.1 hx (eT (by decide) (by omega) λv hv=>aF (aD ?_))) λk=>absurd rfl k)))) λb hb=>aD hb
  have hv:x.dR[12]?=some v:=hv
  have e1:bl x 12=v:=by unfold bl;rw [getD_at hv]
  exact decide_eq_decide.2 (by simp only;omega)
theorem aXP {s:aA} {n:Nat} (hn:66<n) {e:Int} {x:aQ} (he:0<=e/\e<(s.bD.length:Int)) (hx:s.bD[e.toNat]?=some x) (hb:x.dR.length=17) (hb1:bQ (bl x 11)) (hd:x.Down.length<=5) (hp:∀ y∈x.Down,0<=y) (hv:dA x.Down<=288230376151711744):DU n s e=some (decide (dA x.Down=-bl x 11)):=by
  refine fH ?_
  unfold DU aBA
  simp only [WT.run,bS]
  unfold bQ at hb1
  refine x_eq (q_in he) (aF (bW (dD he.1 hx (x_eq (tF (by omega) (by omega)) ?_))))
  rw [HV hp hv]
  refine aU (λ(b:Bool)=>b=decide (dA x.Down=-bl x 11)) (aF (aI (λ_=>dD he.1 hx (eT (by decide) (by omega) λv hv=>?_)) λk=>absurd rfl k)) λb hb=>aD hb
  have hv:x.dR[11]?=some v:=hv
  have e1:bl x 11=v:=by unfold bl;rw [getD_at hv]
  refine bE (aF (aD ?_))
  exact decide_eq_decide.2 (by simp only;omega)
theorem aNU {s:aA} (h:SS s) {n:Nat} (hn:66<n) {e i:Int} {x:aQ} {r:cO} (ht:gY s e i) (hx:s.bD[e.toNat]?=some x) (hr:x.dQ[i.toNat]?=some r) (hv:sV x.bX<=288230376151711744):∃ p q,x.bX[2*i.toNat]?=some p/\x.bX[2*i.toNat+1]?=some q/\DN n s e i=some (decide (kM r=tV p.aW+tV q.aW)):=by
  obtain ⟨p,q,w1,w2,w3,w4⟩:=Y1 h hn ht hx hv
  obtain ⟨bL,g1,g2,g3,hes⟩:=h.bL hx
  have hlr:x.dQ.length=s.bH.bZ.length:=hes.lr
  obtain ⟨i1,i2,i3,i4,i5,i6,i7,i8,i9,i10,i11⟩:=hes.roll r (fE (l:=x.dQ) hr)
  unfold bQ at i1 i2 i3 i4 i5 i6 i7 i8 i9 i10 i11
  have t1:=ht.1;have t2:=ht.2
  refine ⟨p,q,w1,w2,fH ?_⟩
  unfold DN YU
  simp only [WT.run,bS]
  refine aU (λb=>b=false) (x_eq (q_in t1) (aF (bW (aF (aI (λh=>absurd h (by omega)) λ_=>dD t1.1 hx (aF (aD (decide_eq_false (by omega))))))))) λb hb=>?_
  subst hb
  refine bW (dD t1.1 hx (dD t2.1 hr ?_))
  refine bE (bE (bE (bE (bE (bE (bE (bE (bE (bE (x_eq w3 (aF (aD ?_))))))))))))
  rfl
theorem aVC {l:List Int} {n:Nat} (hn:66<n) (hl:l.length=17) (hw:∀ x∈l,bQ x):Ex (λr=>r.2.2=0/\r.1-r.2.1=dA l) (ME n l):=by
  unfold ME U5
  simp only [WT.run,bS]
  refine aF (aI (λk=>absurd (by omega) k) λ_=>?_)
  refine aU (λ(r:(Int×Int)⊕(Int×Int×Int))=>∃ q,r=.inl q/\q.1-q.2=dA l)
    (fJ (λ(v:Int×Int×Int)=>0<=v.2.2/\v.2.2<=17/\(0<=v.1/\v.1<=288230376151711744*v.2.2)/\(0<=v.2.1/\v.2.1<=288230376151711744*v.2.2)/\v.1-v.2.1+dA (l.drop v.2.2.toNat)=dA l) (λ(v:Int×Int×Int)=>17-v.2.2.toNat) ?_ (v:=(0,0,0)) ⟨by simp,by simp,by simp,by simp,by simp⟩ (by simp;omega)) λr hr=>?_
  · rintro ⟨d,c,i⟩ ⟨a1,a2,a3,a4,a5⟩
    simp only at a1 a2 a3 a4 a5
    refine bF (bF (aF (aI (λk=>?_) λk=>bJ (cK ?_))))
    · have k:i<(l.length:Int):=k
      have hx:l[i.toNat]?=some (l[i.toNat]'(by omega)):=List.getElem?_eq_getElem (by omega)
      generalize l[i.toNat]'(by omega)=x at hx
      have e1:=R9 hx
      have hin:=hw x (fE hx)
      have hin2:=hin
      unfold bQ at hin
      refine aU (λ(r:(Int×Int)⊕((Int×Int×Int)⊕((Int×Int)⊕(Int×Int×Int))))=>∃ q,r=.inl q/\(0<=q.1/\q.1<=288230376151711744*(i+1))/\(0<=q.2/\q.2<=288230376151711744*(i+1))/\q.1-q.2+dA (l.drop (i.toNat+1))=dA l) (dD a1 hx (x_eq (JQ hin2) (aF (bW (dD a1 hx ?_))))) λr hr=>?_
      · refine aF (aI (λ_=>dD a1 hx (bE (cK ⟨_,rfl,by first | omega | (simp only;omega),by first | omega | (simp only;omega),by first | omega | (simp only;omega)⟩))) λ_=>dD a1 hx (bE (cK ⟨_,rfl,by first | omega | (simp only;omega),by first | omega | (simp only;omega),by first | omega | (simp only;omega)⟩)))
      · obtain ⟨q,rfl,q1,q2,q3⟩:=hr
        refine cZ (bF (bE (cK ⟨⟨by first | omega | (simp only;omega),by first | omega | (simp only;omega),q1,q2,?_⟩,by first | omega | (simp only;omega)⟩)))
        show q.1-q.2+dA (l.drop (i+1).toNat)=dA l
        rw [show (i+1).toNat=i.toNat+1 by omega];exact q3
    · have k:¬ i<(l.length:Int):=k
      rw [List.drop_eq_nil_of_le (by omega)] at a5
      have:dA []=0:=rfl
      exact ⟨_,rfl,by first | omega | (simp only;omega)⟩
  · obtain ⟨q,rfl,q1⟩:=hr
    exact cZ (bF (aD ⟨rfl,q1⟩))
theorem aMW {s:aA} {n:Nat} (hn:66<n) {e:Int} {x:aQ} (he:0<=e/\e<(s.bD.length:Int)) (hx:s.bD[e.toNat]?=some x) (hb:x.dR.length=17) (hw:∀ y∈x.dR,bQ y) (h0:dA x.dR=0):E8 n s e=some true:=by
  refine fH ?_
  unfold E8 aB9
  simp only [WT.run,bS]
  refine x_eq (q_in he) (aF (bW (dD he.1 hx (aU _ (aVC hn hb hw) λr hr=>?_))))
  exact aU (λb=>b=true) (aF (aI (λ_=>aF (aD (decide_eq_true (by have:=hr.2;omega)))) λk=>absurd hr.1 k)) λb hb=>aD hb
theorem aM3 {s:aA} {n:Nat} (hn:66<n) (h4:s.bD.length<=4) (hb:∀ x∈s.bD,x.dR.length=17/\bQ (bl x 13)/\bQ (bl x 14)):CW n s=some (decide (eD kH s.bD=0)):=by
  refine fH ?_
  unfold CW aB2
  simp only [WT.run,bS]
  refine aU (λ(r:Int)=>r=eD kH s.bD) (fJ (λ(v:Int×Int)=>0<=v.2/\v.2<=(s.bD.length:Int)/\(-1152921504606846976*v.2<=v.1/\v.1<=1152921504606846976*v.2)/\v.1+eD kH (s.bD.drop v.2.toNat)=eD kH s.bD) (λ(v:Int×Int)=>s.bD.length-v.2.toNat) ?_ (v:=(0,0)) ⟨by simp,by simp,by simp,by simp⟩ (by simp;omega)) λr hr=>by subst hr;exact aF (aD rfl)
  rintro ⟨t,i⟩ ⟨a1,a2,a3,a4⟩
  simp only at a1 a2 a3 a4
  refine bF (aF (aI (λk=>?_) λk=>bJ (aD ?_)))
  · have k:i<(s.bD.length:Int):=k
    have hx:s.bD[i.toNat]?=some (s.bD[i.toNat]'(by omega)):=List.getElem?_eq_getElem (by omega)
    generalize s.bD[i.toNat]'(by omega)=x at hx
    obtain ⟨b1,b2,b3⟩:=hb x (fE hx)
    unfold bQ at b2 b3
    have e1:=tT kH hx
    have eg:kH x=bl x 13+bl x 14:=rfl
    refine dD a1 hx (eT (by decide) (by omega) λu hu=>?_)
    have eu:bl x 13=u:=by have hu:x.dR[13]?=some u:=hu;unfold bl;rw [getD_at hu]
    refine bE (dD a1 hx (eT (by decide) (by omega) λw hw=>?_))
    have ew:bl x 14=w:=by have hw:x.dR[14]?=some w:=hw;unfold bl;rw [getD_at hw]
    refine bE (bE (cK ⟨⟨by first | omega | (simp only;omega),by first | omega | (simp only;omega),by first | omega | (simp only;omega),?_⟩,by first | omega | (simp only;omega)⟩))
    show t+u+w+eD kH (s.bD.drop (i+1).toNat)=_
    rw [show (i+1).toNat=i.toNat+1 by omega];omega
  · have k:¬ i<(s.bD.length:Int):=k
    rw [List.drop_eq_nil_of_le (by omega)] at a4
    have:eD kH ([]:List aQ)=0:=rfl
    first | omega | (simp only;omega)
structure aW0 (s:aA) (n:Nat) (e:Int):Prop where
  c:EZ n s e=some true
  a:DR n s e=some true
  w:EF n s e=some true
  d:DU n s e=some true
  b:E8 n s e=some true
  r:∀ i,0<=i/\i<(s.bH.bZ.length:Int)->DN n s e i=some true
theorem Inv.aV3 {K:Int} {s:aA} (h:Inv K s) {n:Nat} (hn:66<n) {e:Int} (he:0<=e/\e<(s.bD.length:Int)):aW0 s n e:=by
  obtain ⟨x,bL,hx,hm,hes,heb⟩:=h.see he
  have hsp:=h.ss
  have hsv:=heb.x.iC hes
  have hl:=hes.iC h.ss.toS0.iC.2.2
  have hlr:=hes.lr
  have c1:=zD hes 1 (by decide);have c11:=zD hes 11 (by decide)
  have b1:=c1;have b11:=c11;have b12:=zD hes 12 (by decide)
  unfold bQ at b1 b11 b12
  have ha:=h.acc _ _ hx;have hw:=h.way _ _ hx
  refine ⟨?_,?_,?_,?_,?_,?_⟩
  · rw [aI1 hsp hn he hx hes.lb ⟨hes.sv0,hsv⟩,decide_eq_true heb.ctl]
  · rw [aM6 hn h.l1 (λr hr=>by obtain ⟨_,_,_,_,_,_,g,_⟩:=h.mD r hr;exact g.1) he hx hes.lb c1 (by omega),decide_eq_true ha]
  · rw [aOS hn h.l3 (λr hr=>by obtain ⟨_,_,_,_,g,_⟩:=h.nP r hr;exact g.1) he hx hes.lb (by omega),decide_eq_true hw]
  · rw [aXP hn he hx hes.lb c11 hl.2.2.2.2 (λy hy=>(hes.zX y hy).1) (by have:=heb.pW;omega),decide_eq_true heb.pW]
  · exact aMW hn he hx hes.lb hes.gH heb.qX
  · intro i hi
    have hr:x.dQ[i.toNat]?=some (x.dQ[i.toNat]'(by omega)):=List.getElem?_eq_getElem (by omega)
    generalize x.dQ[i.toNat]'(by omega)=r at hr
    obtain ⟨p,q,w1,w2,w3⟩:=aNU hsp hn ⟨he,hi⟩ hx hr hsv
    rw [w3,decide_eq_true (heb.pE _ r p q hr w1 w2)]
theorem Inv.aLM {K:Int} {s:aA} (h:Inv K s) {n:Nat} (hn:66<n):CW n s=some true:=by
  rw [aM3 hn h.ss.toS0.iC.1 ?_,decide_eq_true h.xD]
  intro x hx
  obtain ⟨k,hk⟩:=List.getElem?_of_mem hx
  obtain ⟨bL,hm,_,_,hes⟩:=h.ss.bL hk
  exact ⟨hes.lb,zD hes 13 (by decide),zD hes 14 (by decide)⟩
theorem aUW {K:Int} {s:aA} (h:Inv K s) (hK:K<=1000000) {n:Nat} (hn:200<n):F7 n s=some true:=by
  have hf:=h.ss.toS0.iC
  have hd:=h.xS;have hl:=h.len
  refine fH ?_
  unfold F7 aGA
  simp only [WT.run,bS]
  refine aU (λb=>b=false) (x_eq (aBJ (by omega) h.jW) (aF (bW (aF (aI (λk=>absurd hl k) λ_=>x_eq (lG (by omega)) (aF (bW (x_eq (aOT h (by omega)) (aF (aD rfl)))))))))) λb hb=>?_
  subst hb
  refine bW (aU (λ(r:Unit⊕Bool)=>r=.inl ()) (fJ (λ(i:Int)=>0<=i/\i<=(s.bD.length:Int)) (λ(i:Int)=>s.bD.length-i.toNat) ?_ (v:=0) ⟨by simp,by simp⟩ (by simp;omega)) λr hr=>by subst hr;exact cZ (aD rfl))
  rintro i ⟨h0,h1⟩
  refine aF (aI (λk=>?_) λ_=>bJ (cK rfl))
  have hx:s.bD[i.toNat]?=some (s.bD[i.toNat]'(by omega)):=List.getElem?_eq_getElem (by omega)
  generalize s.bD[i.toNat]'(by omega)=x at hx
  obtain ⟨bL,hm,_,_,hes⟩:=h.ss.bL hx
  exact dD h0 hx (x_eq (aL6 h.jW h0 hm (h.ent _ _ _ hx hm) (by omega)) (aF (bW (bE (cK ⟨⟨by omega,by omega⟩,by omega⟩)))))
theorem Inv.UY {K:Int} {s:aA} (h:Inv K s) (hK:K<=1000000) {n:Nat} (hn:200<n):B8 n s=some true:=by
  have hf:=h.ss.toS0.iC
  refine fH ?_
  unfold B8 TX
  simp only [WT.run,bS]
  refine aU (λb=>b=false) (x_eq (aUW h hK hn) (aF (bW (x_eq (h.aLM (by omega)) (aF (aD rfl)))))) λb hb=>?_
  subst hb
  refine bW (aU (λ(r:Unit⊕Bool)=>r=.inl ()) (fJ (λ(i:Int)=>0<=i/\i<=(s.bD.length:Int)) (λ(i:Int)=>s.bD.length-i.toNat) ?_ (v:=0) ⟨by simp,by simp⟩ (by simp;omega)) λr hr=>by subst hr;exact cZ (aD rfl))
  rintro i ⟨h0,h1⟩
  refine aF (aI (λk=>?_) λ_=>bJ (cK rfl))
  obtain ⟨c,a,w,d,b,r⟩:=h.aV3 (n:=n) (by omega) (e:=i) ⟨h0,k⟩
  refine aU (λ(r:Unit⊕(Int⊕(Unit⊕Bool)))=>r=.inl ()) ?_ λr hr=>by subst hr;exact cZ (bE (cK ⟨⟨by omega,by omega⟩,by omega⟩))
  refine aU (λb=>b=false) ?_ λb hb=>?_
  · simp only [c,a,w,d,b,Option.bind_some]
    exact ⟨_,rfl,rfl⟩
  · subst hb
    refine bW ?_
    refine aU (λ(r:Unit⊕(Unit⊕(Int⊕(Unit⊕Bool))))=>r=.inl ()) (fJ (λ(j:Int)=>0<=j/\j<=(s.bH.bZ.length:Int)) (λ(j:Int)=>s.bH.bZ.length-j.toNat) ?_ (v:=0) ⟨by simp,by simp⟩ (by simp;omega)) λr hr=>by subst hr;exact cZ (cK rfl)
    rintro j ⟨j0,j1⟩
    exact aF (aI (λk2=>x_eq (r j ⟨j0,k2⟩) (aF (bW (bE (cK ⟨⟨by omega,by omega⟩,by omega⟩))))) λ_=>bJ (cK rfl))
theorem aVF {m:fC} {v odd:Int} {n:Nat} (hn:200<n) (h:MN m):Ex (λr=>r.fA.length<=4) (LU n m v odd):=by
  unfold LU aDX
  simp only [WT.run,bS]
  refine aU _ (KE (by decide)) λk hk=>aU _ (SK h) λo ho=>?_
  have f1:=td (a:=k) (b:=32) hk.1 (by decide)
  refine aU (λ(r:bK⊕bK)=>match r with | .inl o=>o.fA.length<=4 | .inr o=>o.fA.length<=4)
    (fJ (λ(u:Int×bK)=>0<=u.1/\u.1<=64/\u.2.fA.length<=3) (λu=>64-u.1.toNat) ?_ (v:=(0,o)) ⟨by simp,by simp,ho⟩ (by simp;omega)) λr hr=>iZ (λa e=>by subst e;exact aD hr) λb e=>by subst e;exact hr
  rintro ⟨i,x⟩ ⟨h0,h1,h2⟩
  simp only at h0 h1 h2
  refine bF (aF (aI (λq=>?_) λq=>bJ (cK (by show x.fA.length<=4;omega))))
  have q:i<64:=q
  have f3:=tm (a:=k.tdiv 32) (b:=2) f1.1 (by decide)
  have f4:=tm (a:=k+i+1) (b:=32) (by omega) (by decide)
  refine aU (λ(r:bK⊕((Int×bK)⊕(bK⊕bK)))=>match r with | .inl y=>y.fA.length<=3 | .inr (.inl _)=>False | .inr (.inr (.inl _))=>False | .inr (.inr (.inr o))=>o.fA.length<=4) ?_ λr hr=>?_
  · refine aU (λ(r:Unit⊕(bK⊕((Int×bK)⊕(bK⊕bK))))=>match r with | .inl _=>True | .inr (.inl _)=>False | .inr (.inr (.inl _))=>False | .inr (.inr (.inr (.inl _)))=>False | .inr (.inr (.inr (.inr o)))=>o.fA.length<=4)
      (fJ (λ(y:Int)=>0<=y/\y<=2) (λy=>2-y.toNat) ?_ (v:=0) (by simp) (by simp;omega)) λr hr=>?_
    · rintro y ⟨y0,y1⟩
      refine aF (aI (λq1=>?_) λq1=>bJ (cK trivial))
      refine aU (λ_=>True) ?_ λb _=>fB (λ_=>aU _ (aH8 (o:=x) (v:=odd) h2) λo2 ho2=>bJ (bJ (bJ (bJ (bJ (aD ho2)))))) λ_=>bE (cK ⟨⟨by omega,by omega⟩,by omega⟩)
      refine iR ⟨y0,q1⟩ (eT y0 (by simpa using q1) λz hz=>aF (aI (λ_=>aF (aI (λ_=>aD trivial) λ_=>iR ⟨y0,q1⟩ (bE (aF (iR f3 (eT f3.1 (by simpa using f3.2) λw hw=>aF (aD trivial))))))) λ_=>aD trivial))
    · match r,hr with
      | .inl _,_ =>
        refine cZ (bE (bE (bE (bE (aF (bE (aU _ (SK h) λo2 h2=>cK h2)))))))
      | .inr (.inr (.inr (.inr o))),hr=>exact yK hr
  · match r,hr with
    | .inl y,hr=>exact cZ (bE (cK ⟨⟨by first | omega | (simp only;omega),by first | omega | (simp only;omega),hr⟩,by first | omega | (simp only;omega)⟩))
    | .inr (.inr (.inr o)),hr=>exact yK hr
theorem aDY:K7 300=some true:=by decide +kernel
theorem aSZ {K:Int} {s:aA} {o:bK} (h:Inv K s) (hK:K<=1000000) (ho:zV o):KZ 300 s o=some true:=by
  have e:=aM2 (n:=300) (by decide) h ho.q ho.a
  obtain ⟨r,hr,hk⟩:=UR (n:=300) (o:=o) (by decide) h ho.q ho.a
  have hi:Inv K r.1:=by
    rcases hk with k | k
    · exact k.2
    · rw [k.2];exact h
  refine fH ?_
  unfold KZ aAW
  simp only [WT.run,bS]
  refine x_eq (e.trans hr) (x_eq hr (aU (λ(b:Bool)=>b=true) (x_eq (TS hi (by decide)) (dB (aF (aI (λ_=>aF (aI (λ_=>x_eq (hi.UY hK (by decide)) (aD rfl)) λk=>?_)) λk=>absurd rfl k)))) λb hb=>aD hb))
  rcases hk with k2 | k2
  · exact absurd k2.1 k
  · have e2:yZ 300 r.1 s=some true:=by rw [k2.2];exact TS h (by decide)
    exact x_eq e2 (dB (x_eq (hi.UY hK (by decide)) (aD rfl)))
theorem aIT {K:Int} {s:aA} {o:bK} (h:Inv K s) (ho:zV o):Ex (λr=>Inv K r.1) (yU 300 s o):=by
  rw [aM2 (n:=300) (by decide) h ho.q ho.a]
  obtain ⟨r,hr,hk⟩:=UR (n:=300) (o:=o) (by decide) h ho.q ho.a
  refine ⟨r,hr,?_⟩
  rcases hk with k | k
  · exact k.2
  · rw [k.2];exact h
theorem aSC (a1:Int) (a2 a3:List Int):aAK 300 a1 a2 a3=some true:=by
  refine fH ?_
  unfold aAK aEO
  simp only [WT.run,bS]
  refine aU _ (aQO (by decide)) λm hm=>aU _ (aT7 (by decide) hm) λs hs=>?_
  refine aU (λ(r:Unit⊕Bool)=>match r with | .inl _=>True | .inr b=>b=true) ?_ λr hr=>iZ (λ_ _=>x_eq aDY (aD rfl)) λb e=>by subst e;exact hr
  refine fJ (λ(v:Int×aA)=>0<=v.1/\v.1<=25/\Inv (1000+v.1) v.2) (λv=>25-v.1.toNat) ?_ (v:=(0,s)) ⟨by simp,by simp,hs⟩ (by simp)
  rintro ⟨i,t⟩ ⟨h0,h1,h2⟩
  simp only at h0 h1 h2
  refine bF (aU (λ(b:Bool)=>b=true->i<a3.length/\i<25) (aF (aI (λk1=>aF (aD λk2=>⟨k1,of_decide_eq_true k2⟩)) λ_=>aD (λk=>nomatch k))) λb hb=>fB (λkb=>?_) λ_=>bJ (cK trivial))
  obtain ⟨k1,k2⟩:=hb kb
  refine aU (λ(r:aA⊕((Int×aA)⊕(Unit⊕Bool)))=>match r with | .inl u=>Inv (1000+(i+1)) u | .inr (.inl _)=>False | .inr (.inr (.inl _))=>False | .inr (.inr (.inr b))=>b=true) ?_ λr hr=>?_
  · refine eT h0 k1 λx hx=>aU _ (aVF (by decide) hm) λo ho=>eT h0 k1 λy hy=>aF (aF (aI (λ_=>?_) λ_=>?_))
    · exact eT h0 k1 λz hz=>aU _ (SK hm) λo2 ho2=>aU _ (aUQ (by decide) h2 (by omega) (TW (by decide) (by omega))) λr hr=>cK (by show Inv _ _;rw [<- Int.add_assoc];exact hr)
    · obtain ⟨c,ec,hc⟩:=TW (o:=o) (n:=300) (by decide) (by omega)
      cases c with
      | false =>
        refine aU (λ(b:Bool)=>b=true) (x_eq ec (aF (dB (aD rfl)))) λb hb=>?_
        subst hb
        exact dB (aU (λ(b:Bool)=>b=true) (x_eq ec (aF (dB (x_eq aDY (aD rfl))))) λb hb=>bJ (bJ (bJ (aD hb))))
      | true =>
        refine aU (λ(b:Bool)=>b=false) (x_eq ec (aF (bW (x_eq (aSZ h2 (by omega) (hc rfl)) (aF (aD rfl)))))) λb hb=>?_
        subst hb
        exact bW (aU _ (aIT h2 (hc rfl)) λr hr=>cK (hr.mono (by omega)))
  · match r,hr with
    | .inl u,hr=>exact cZ (bE (cK ⟨⟨by first | omega | (simp only;omega),by first | omega | (simp only;omega),hr⟩,by first | omega | (simp only;omega)⟩))
    | .inr (.inr (.inr b)),hr=>exact yK hr
open Go.ChangeShapes Go.WideShapes Go.ChangeAt Go.RowKit
theorem aKV {P:Program} {f:FuncId} {args:List AV} {vs:Array Value} {w:World} (h:PP P f args (λy=>y=aT true)) (ha:nS (s0 w) args vs) :
    Calls P f vs w λe w'=>e=.returned (.bool true)/\Below w.heap.size w w':=by
  refine (h (s0 w) vs (λ_ h=>h) ⟨0,λ_ _ h=>h⟩ ha).mono ?_
  rintro e w' ⟨y,s',v,rfl,_,rfl,rfl,h4,_,h6⟩
  have hv:=h4.jU
  subst hv
  exact ⟨rfl,⟨h6.os,h6.tape,h6.output,h6.size,λk hk=>h6.keep k hk λ⟨_,_,_,h,_⟩=>by cases h⟩⟩
end Go.Pv
