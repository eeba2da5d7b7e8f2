import Derived.Test.YtidcjedeacampaaGreatPR80
import Derived.Test.YtidcjedeacampaaGreatPvU
set_option linter.unusedVariables false
set_option linter.unusedSimpArgs false
namespace Go.Pv
open Go.Proofs
set_option maxRecDepth 1000000
set_option maxHeartbeats 1000000
theorem aGS {l:List aS} {i:Nat} {p q:aS} (hp:l[2*i]?=some p) (hq:l[2*i+1]?=some q):sV (l.drop (2*i))=tV p.aI+tV q.aI+sV (l.drop (2*(i+1))):=by
  have e1:sV (l.drop (2*i))=tV p.aI+sV (l.drop (2*i+1)):=wS _ hp
  have e2:sV (l.drop (2*i+1))=tV q.aI+sV (l.drop (2*i+1+1)):=wS _ hq
  rw [e1,e2,show 2*(i+1)=2*i+1+1 by omega];omega
theorem aO0 {s:aB} {n:Nat} (hn:66<n) (hl:s.bX.length<=40) (hp:∀ r∈s.bX,0<=r.jW) (e:Int) {P:Bool->Prop} {f:List Int->Option Bool} (k:∀ l:List Int,l.length<=40->(∀ y∈l,0<=y)->(0<=e->cZ l=eD (jO e.toNat) s.bX)->Ex P (f l)) :
    Ex P ((iter (λ(v:Int×List Int)=>p2 (λ(a:Int) (b:List Int)=>bnd (decide (a<(s.bX.length:Int))) λ(x:Bool)=>cond x (((ix s.bX a).bind λ(x:dX)=>bnd (decide (x.fU=e)) λ(x_1:Bool)=>cond x_1 ((ix s.bX a).bind λ(x:dX)=>bnd (b++[x.jW]) λ(x:List Int)=>gV (x.length<=68719476736) (some x)) (some b)).bind λ(y:List Int)=>bnd (bE (a+1)) λ(x:Int)=>brk (x,y)) (esc (some b))) v) n (0,[])).bind f):=by
  refine aW (λ(l:List Int)=>l.length<=40/\(∀ y∈l,0<=y)/\(0<=e->cZ l=eD (jO e.toNat) s.bX)) (gB (λ(v:Int×List Int)=>0<=v.1/\v.1<=(s.bX.length:Int)/\(v.2.length:Int)<=v.1/\(∀ y∈v.2,0<=y)/\(0<=e->cZ v.2+eD (jO e.toNat) (s.bX.drop v.1.toNat)=eD (jO e.toNat) s.bX)) (λ(v:Int×List Int)=>s.bX.length-v.1.toNat) ?_ (v:=(0,[])) ⟨by simp,by simp,by simp,(λ_ h=>nomatch h),λ_=>by simp [cZ,eD]⟩ (by simp;omega)) λl hl=>k l hl.1 hl.2.1 hl.2.2
  rintro ⟨i,l⟩ ⟨a1,a2,a3,a4,a5⟩
  simp only at a1 a2 a3 a4 a5
  refine bK (aD (aQ (λk=>?_) λk=>bL (aG ⟨by first | omega | (simp only;omega),a4,λhe=>?_⟩)))
  · have k:i<(s.bX.length:Int):=k
    refine aW (λ(l':List Int)=>(l'.length:Int)<=i+1/\(∀ y∈l',0<=y)/\(0<=e->cZ l'+eD (jO e.toNat) (s.bX.drop (i.toNat+1))=eD (jO e.toNat) s.bX)) (eZ a1 k λr hr=>?_) λl' hl'=>bG (dD ⟨⟨by first | omega | (simp only;omega),by first | omega | (simp only;omega),hl'.1,hl'.2.1,λhe=>?_⟩,by first | omega | (simp only;omega)⟩)
    · have hr:s.bX[i.toNat]?=some r:=hr
      have e1:=wS (jO e.toNat) hr
      refine aD (aQ (λke=>dB a1 hr (aD (dO (aG ⟨by simp;omega,nE a4 (hp r (fO hr)),λhe=>?_⟩)))) λke=>aG ⟨by first | omega | (simp only;omega),a4,λhe=>?_⟩)
      · have:=a5 he
        have e2:jO e.toNat r=r.jW:=by unfold jO;rw [if_pos (by omega)]
        rw [EU]
        have:cZ [r.jW]=r.jW:=by simp [cZ,eD]
        show cZ l+cZ [r.jW]+eD (jO e.toNat) (s.bX.drop (i.toNat+1))=eD (jO e.toNat) s.bX
        omega
      · have:=a5 he
        have e2:jO e.toNat r=0:=by unfold jO;rw [if_neg (by omega)]
        show cZ l+eD (jO e.toNat) (s.bX.drop (i.toNat+1))=eD (jO e.toNat) s.bX
        omega
    · have:=hl'.2.2 he
      show cZ l'+eD (jO e.toNat) (s.bX.drop (i+1).toNat)=_
      rw [show (i+1).toNat=i.toNat+1 by omega];exact this
  · have k:¬ i<(s.bX.length:Int):=k
    have:=a5 he
    rw [List.drop_eq_nil_of_le (by omega)] at this
    have z:eD (jO e.toNat) ([]:List dX)=0:=rfl
    show cZ l=eD (jO e.toNat) s.bX
    omega
theorem aUE {s:aB} {n:Nat} (hn:66<n) (hl:s.dH.length<=40) (hp:∀ r∈s.dH,0<=r.Value) (e:Int) {P:Bool->Prop} {f:List Int->Option Bool} (k:∀ l:List Int,l.length<=40->(∀ y∈l,0<=y)->(0<=e->cZ l=eD (iV e.toNat) s.dH)->Ex P (f l)) :
    Ex P ((iter (λ(v:Int×List Int)=>p2 (λ(a:Int) (b:List Int)=>bnd (decide (a<(s.dH.length:Int))) λ(x:Bool)=>cond x (((ix s.dH a).bind λ(x:fP)=>bnd (decide (x.To=e)) λ(x_1:Bool)=>cond x_1 ((ix s.dH a).bind λ(x:fP)=>bnd (b++[x.Value]) λ(x:List Int)=>gV (x.length<=68719476736) (some x)) (some b)).bind λ(y:List Int)=>bnd (bE (a+1)) λ(x:Int)=>brk (x,y)) (esc (some b))) v) n (0,[])).bind f):=by
  refine aW (λ(l:List Int)=>l.length<=40/\(∀ y∈l,0<=y)/\(0<=e->cZ l=eD (iV e.toNat) s.dH)) (gB (λ(v:Int×List Int)=>0<=v.1/\v.1<=(s.dH.length:Int)/\(v.2.length:Int)<=v.1/\(∀ y∈v.2,0<=y)/\(0<=e->cZ v.2+eD (iV e.toNat) (s.dH.drop v.1.toNat)=eD (iV e.toNat) s.dH)) (λ(v:Int×List Int)=>s.dH.length-v.1.toNat) ?_ (v:=(0,[])) ⟨by simp,by simp,by simp,(λ_ h=>nomatch h),λ_=>by simp [cZ,eD]⟩ (by simp;omega)) λl hl=>k l hl.1 hl.2.1 hl.2.2
  rintro ⟨i,l⟩ ⟨a1,a2,a3,a4,a5⟩
  simp only at a1 a2 a3 a4 a5
  refine bK (aD (aQ (λk=>?_) λk=>bL (aG ⟨by first | omega | (simp only;omega),a4,λhe=>?_⟩)))
  · have k:i<(s.dH.length:Int):=k
    refine aW (λ(l':List Int)=>(l'.length:Int)<=i+1/\(∀ y∈l',0<=y)/\(0<=e->cZ l'+eD (iV e.toNat) (s.dH.drop (i.toNat+1))=eD (iV e.toNat) s.dH)) (eZ a1 k λr hr=>?_) λl' hl'=>bG (dD ⟨⟨by first | omega | (simp only;omega),by first | omega | (simp only;omega),hl'.1,hl'.2.1,λhe=>?_⟩,by first | omega | (simp only;omega)⟩)
    · have hr:s.dH[i.toNat]?=some r:=hr
      have e1:=wS (iV e.toNat) hr
      refine aD (aQ (λke=>dB a1 hr (aD (dO (aG ⟨by simp;omega,nE a4 (hp r (fO hr)),λhe=>?_⟩)))) λke=>aG ⟨by first | omega | (simp only;omega),a4,λhe=>?_⟩)
      · have:=a5 he
        have e2:iV e.toNat r=r.Value:=by unfold iV;rw [if_pos (by omega)]
        rw [EU]
        have:cZ [r.Value]=r.Value:=by simp [cZ,eD]
        show cZ l+cZ [r.Value]+eD (iV e.toNat) (s.dH.drop (i.toNat+1))=eD (iV e.toNat) s.dH
        omega
      · have:=a5 he
        have e2:iV e.toNat r=0:=by unfold iV;rw [if_neg (by omega)]
        show cZ l+eD (iV e.toNat) (s.dH.drop (i.toNat+1))=eD (iV e.toNat) s.dH
        omega
    · have:=hl'.2.2 he
      show cZ l'+eD (iV e.toNat) (s.dH.drop (i+1).toNat)=_
      rw [show (i+1).toNat=i.toNat+1 by omega];exact this
  · have k:¬ i<(s.dH.length:Int):=k
    have:=a5 he
    rw [List.drop_eq_nil_of_le (by omega)] at this
    have z:eD (iV e.toNat) ([]:List fP)=0:=rfl
    show cZ l=eD (iV e.toNat) s.dH
    omega
theorem Inv.see {K:Int} {s:aB} (h:Inv K s) {e:Int} (he:0<=e/\e<(s.bA.length:Int)):∃ x bH,s.bA[e.toNat]?=some x/\s.bF.Methods[e.toNat]?=some bH/\ES s.bF.bW.length bH s.bF.gZ x/\EB x:=by
  have hx:s.bA[e.toNat]?=some (s.bA[e.toNat]'(by omega)):=List.getElem?_eq_getElem (by omega)
  obtain ⟨bH,hm,_,_,hes⟩:=h.ss.bH hx
  refine ⟨_,bH,hx,hm,hes,?_⟩
  rcases h.ent _ _ _ hx hm with g | ⟨y,g⟩
  · exact g.ee
  · exact g.ee
theorem ES.sv0 {n:Nat} {bH:List Int} {iZ:Int} {x:aP} (h:ES n bH iZ x):0<=sV x.bR:=vU λp hp=>(jA (h.pr p hp)).2.1.1
theorem X5 {s:aB} (h:SS s) {n:Nat} (hn:66<n) {e i:Int} {x:aP} (ht:iH s e i) (hx:s.bA[e.toNat]?=some x) (hv:sV x.bR<=288230376151711744):∃ p q,x.bR[2*i.toNat]?=some p/\x.bR[2*i.toNat+1]?=some q/\xN n s e i=some ⟨tQ p.aI+tQ q.aI,tV p.aI+tV q.aI,tP p.aI+tP q.aI⟩/\0<=tV p.aI+tV q.aI:=by
  obtain ⟨bH,g1,g2,g3,hes⟩:=h.bH hx
  have ht2:=ht.2
  obtain ⟨m,p,q,w1,w2,w3,w4,w5,w6⟩:=hes.PK hv (i:=i.toNat) (by omega)
  have w2:x.bR[2*i.toNat]?=some p:=w2
  have w3:x.bR[2*i.toNat+1]?=some q:=w3
  exact ⟨p,q,w2,w3,PN hn h ht hx w2 w3 w4 w5,w6⟩
theorem aRH {s:aB} (h:SS s) {n:Nat} (hn:66<n) {e:Int} {x:aP} (he:0<=e/\e<(s.bA.length:Int)) (hx:s.bA[e.toNat]?=some x) (hv:sV x.bR<=288230376151711744):KL n s e=some (sV x.bR):=by
  have hf:=h.toS0.iK
  obtain ⟨bH,g1,g2,g3,hes⟩:=h.bH hx
  have hlp:x.bR.length=2*s.bF.bW.length:=hes.lp
  refine gF ?_
  unfold KL XK
  simp only [WT.run,bT]
  refine aW (λ(l:List Int)=>l.length<=5/\(∀ y∈l,0<=y)/\cZ l=sV x.bR) (gB (λ(v:Int×List Int)=>0<=v.1/\v.1<=(s.bF.bW.length:Int)/\(v.2.length:Int)=v.1/\(∀ y∈v.2,0<=y)/\cZ v.2+sV (x.bR.drop (2*v.1.toNat))=sV x.bR) (λ(v:Int×List Int)=>s.bF.bW.length-v.1.toNat) ?_ (v:=(0,[])) ⟨by simp,by simp,rfl,(λ_ h=>nomatch h),by simp [cZ,eD]⟩ (by simp;omega)) λl hl=>?_
  · rintro ⟨i,l⟩ ⟨a1,a2,a3,a4,a5⟩
    simp only at a1 a2 a3 a4 a5
    refine bK (aD (aQ (λk=>?_) λk=>bL (aG ⟨by first | omega | (simp only;omega),a4,?_⟩)))
    · have k:i<(s.bF.bW.length:Int):=k
      obtain ⟨p,q,w1,w2,w3,w4⟩:=X5 h hn (i:=i) ⟨he,a1,k⟩ hx hv
      refine x_eq w3 (aD (dO (bG (dD ⟨⟨by first | omega | (simp only;omega),by first | omega | (simp only;omega),by simp;omega,nE a4 w4,?_⟩,by first | omega | (simp only;omega)⟩))))
      have e1:=aGS w1 w2
      show cZ (l++[tV p.aI+tV q.aI])+sV (x.bR.drop (2*(i+1).toNat))=sV x.bR
      rw [EU,show (i+1).toNat=i.toNat+1 by omega]
      have:cZ [tV p.aI+tV q.aI]=tV p.aI+tV q.aI:=by simp [cZ,eD]
      omega
    · have k:¬ i<(s.bF.bW.length:Int):=k
      rw [List.drop_eq_nil_of_le (by omega)] at a5
      have:sV []=0:=rfl
      first | omega | (simp only;omega)
  · refine x_eq (uM (by omega) (by omega)) (aG ?_)
    rw [MI hl.2.1 (by omega)];exact hl.2.2
theorem aR0 {s:aB} (h:SS s) {n:Nat} (hn:66<n) {e:Int} {x:aP} (he:0<=e/\e<(s.bA.length:Int)) (hx:s.bA[e.toNat]?=some x) (hb:x.dI.length=17) (hv:0<=sV x.bR/\sV x.bR<=288230376151711744):EZ n s e=some (decide (sV x.bR=bl x 0)):=by
  refine gF ?_
  unfold EZ UF
  simp only [WT.run,bT]
  refine aW (λ(b:Bool)=>b=decide (sV x.bR=bl x 0)) (x_eq (q_in he) (dF (x_eq (aRH h hn he hx hv.2) (dB he.1 hx (eZ (by decide) (by omega) λv hv=>aD (aG ?_)))))) λb hb=>aG hb
  have hv:x.dI[0]?=some v:=hv
  unfold bl;rw [getD_at hv]
theorem aFJ {s:aB} {n:Nat} (hn:66<n) (hl:s.bX.length<=40) (hp:∀ r∈s.bX,0<=r.jW) {e:Int} {x:aP} (he:0<=e/\e<(s.bA.length:Int)) (hx:s.bA[e.toNat]?=some x) (hb:x.dI.length=17) (hb1:bN (bl x 1)) (hv:eD (jO e.toNat) s.bX<=288230376151711744):DV n s e=some (decide (eD (jO e.toNat) s.bX=-bl x 1)):=by
  refine gF ?_
  unfold DV Y1
  simp only [WT.run,bT]
  refine aO0 hn hl hp e λl h1 h2 h3=>?_
  have h3:=h3 he.1
  refine x_eq (uM (by omega) (by omega)) ?_
  rw [MI h2 (by omega)]
  unfold bN at hb1
  refine aW (λ(b:Bool)=>b=decide (eD (jO e.toNat) s.bX=-bl x 1)) (x_eq (q_in he) (dF (aD (aQ (λ_=>dB he.1 hx (eZ (by decide) (by omega) λv hv=>?_)) λk=>absurd rfl k)))) λb hb=>aG hb
  have hv:x.dI[1]?=some v:=hv
  have e1:bl x 1=v:=by unfold bl;rw [getD_at hv]
  refine bG (aD (aG ?_))
  exact decide_eq_decide.2 (by simp only;omega)
theorem aPH {s:aB} {n:Nat} (hn:66<n) (hl:s.dH.length<=40) (hp:∀ r∈s.dH,0<=r.Value) {e:Int} {x:aP} (he:0<=e/\e<(s.bA.length:Int)) (hx:s.bA[e.toNat]?=some x) (hb:x.dI.length=17) (hv:eD (iV e.toNat) s.dH<=288230376151711744):HY n s e=some (decide (eD (iV e.toNat) s.dH=bl x 12)):=by
  refine gF ?_
  unfold HY aBU
  simp only [WT.run,bT]
  refine aUE hn hl hp e λl h1 h2 h3=>?_
  have h3:=h3 he.1
  refine x_eq (uM (by omega) (by omega)) ?_
  rw [MI h2 (by omega)]
  refine aW (λ(b:Bool)=>b=decide (eD (iV e.toNat) s.dH=bl x 12)) (x_eq (q_in he) (dF (aD (aQ (λ_=>dB he.1 hx (eZ (by decide) (by omega) λv hv=>aD (aG ?_))) λk=>absurd rfl k)))) λb hb=>aG hb
  have hv:x.dI[12]?=some v:=hv
  have e1:bl x 12=v:=by unfold bl;rw [getD_at hv]
  exact decide_eq_decide.2 (by simp only;omega)
theorem aH6 {s:aB} {n:Nat} (hn:66<n) {e:Int} {x:aP} (he:0<=e/\e<(s.bA.length:Int)) (hx:s.bA[e.toNat]?=some x) (hb:x.dI.length=17) (hb1:bN (bl x 11)) (hd:x.Down.length<=5) (hp:∀ y∈x.Down,0<=y) (hv:cZ x.Down<=288230376151711744):FP n s e=some (decide (cZ x.Down=-bl x 11)):=by
  refine gF ?_
  unfold FP Y8
  simp only [WT.run,bT]
  unfold bN at hb1
  refine x_eq (q_in he) (aD (bU (dB he.1 hx (x_eq (uM (by omega) (by omega)) ?_))))
  rw [MI hp hv]
  refine aW (λ(b:Bool)=>b=decide (cZ x.Down=-bl x 11)) (aD (aQ (λ_=>dB he.1 hx (eZ (by decide) (by omega) λv hv=>?_)) λk=>absurd rfl k)) λb hb=>aG hb
  have hv:x.dI[11]?=some v:=hv
  have e1:bl x 11=v:=by unfold bl;rw [getD_at hv]
  refine bG (aD (aG ?_))
  exact decide_eq_decide.2 (by simp only;omega)
theorem aNW {s:aB} (h:SS s) {n:Nat} (hn:66<n) {e i:Int} {x:aP} {r:cB} (ht:iH s e i) (hx:s.bA[e.toNat]?=some x) (hr:x.dJ[i.toNat]?=some r) (hv:sV x.bR<=288230376151711744):∃ p q,x.bR[2*i.toNat]?=some p/\x.bR[2*i.toNat+1]?=some q/\D6 n s e i=some (decide (lD r=tV p.aI+tV q.aI)):=by
  obtain ⟨p,q,w1,w2,w3,w4⟩:=X5 h hn ht hx hv
  obtain ⟨bH,g1,g2,g3,hes⟩:=h.bH hx
  have hlr:x.dJ.length=s.bF.bW.length:=hes.lr
  obtain ⟨i1,i2,i3,i4,i5,i6,i7,i8,i9,i10,i11⟩:=hes.roll r (fO (l:=x.dJ) hr)
  unfold bN at i1 i2 i3 i4 i5 i6 i7 i8 i9 i10 i11
  have t1:=ht.1;have t2:=ht.2
  refine ⟨p,q,w1,w2,gF ?_⟩
  unfold D6 UG
  simp only [WT.run,bT]
  refine aW (λb=>b=false) (x_eq (q_in t1) (aD (bU (aD (aQ (λh=>absurd h (by omega)) λ_=>dB t1.1 hx (aD (aG (decide_eq_false (by omega))))))))) λb hb=>?_
  subst hb
  refine bU (dB t1.1 hx (dB t2.1 hr ?_))
  refine bG (bG (bG (bG (bG (bG (bG (bG (bG (bG (x_eq w3 (aD (aG ?_))))))))))))
  rfl
theorem aSV {l:List Int} {n:Nat} (hn:66<n) (hl:l.length=17) (hw:∀ x∈l,bN x):Ex (λr=>r.2.2=0/\r.1-r.2.1=cZ l) (NE n l):=by
  unfold NE TP
  simp only [WT.run,bT]
  refine aD (aQ (λk=>absurd (by omega) k) λ_=>?_)
  refine aW (λ(r:(Int×Int)⊕(Int×Int×Int))=>∃ q,r=.inl q/\q.1-q.2=cZ l)
    (gB (λ(v:Int×Int×Int)=>0<=v.2.2/\v.2.2<=17/\(0<=v.1/\v.1<=288230376151711744*v.2.2)/\(0<=v.2.1/\v.2.1<=288230376151711744*v.2.2)/\v.1-v.2.1+cZ (l.drop v.2.2.toNat)=cZ l) (λ(v:Int×Int×Int)=>17-v.2.2.toNat) ?_ (v:=(0,0,0)) ⟨by simp,by simp,by simp,by simp,by simp⟩ (by simp;omega)) λr hr=>?_
  · rintro ⟨d,c,i⟩ ⟨a1,a2,a3,a4,a5⟩
    simp only at a1 a2 a3 a4 a5
    refine bK (bK (aD (aQ (λk=>?_) λk=>bL (dD ?_))))
    · have k:i<(l.length:Int):=k
      have hx:l[i.toNat]?=some (l[i.toNat]'(by omega)):=List.getElem?_eq_getElem (by omega)
      generalize l[i.toNat]'(by omega)=x at hx
      have e1:=SB hx
      have hin:=hw x (fO hx)
      have hin2:=hin
      unfold bN at hin
      refine aW (λ(r:(Int×Int)⊕((Int×Int×Int)⊕((Int×Int)⊕(Int×Int×Int))))=>∃ q,r=.inl q/\(0<=q.1/\q.1<=288230376151711744*(i+1))/\(0<=q.2/\q.2<=288230376151711744*(i+1))/\q.1-q.2+cZ (l.drop (i.toNat+1))=cZ l) (dB a1 hx (x_eq (KR hin2) (aD (bU (dB a1 hx ?_))))) λr hr=>?_
      · refine aD (aQ (λ_=>dB a1 hx (bG (dD ⟨_,rfl,by first | omega | (simp only;omega),by first | omega | (simp only;omega),by first | omega | (simp only;omega)⟩))) λ_=>dB a1 hx (bG (dD ⟨_,rfl,by first | omega | (simp only;omega),by first | omega | (simp only;omega),by first | omega | (simp only;omega)⟩)))
      · obtain ⟨q,rfl,q1,q2,q3⟩:=hr
        refine dA (bK (bG (dD ⟨⟨by first | omega | (simp only;omega),by first | omega | (simp only;omega),q1,q2,?_⟩,by first | omega | (simp only;omega)⟩)))
        show q.1-q.2+cZ (l.drop (i+1).toNat)=cZ l
        rw [show (i+1).toNat=i.toNat+1 by omega];exact q3
    · have k:¬ i<(l.length:Int):=k
      rw [List.drop_eq_nil_of_le (by omega)] at a5
      have:cZ []=0:=rfl
      exact ⟨_,rfl,by first | omega | (simp only;omega)⟩
  · obtain ⟨q,rfl,q1⟩:=hr
    exact dA (bK (aG ⟨rfl,q1⟩))
theorem aS1 {s:aB} {n:Nat} (hn:66<n) {e:Int} {x:aP} (he:0<=e/\e<(s.bA.length:Int)) (hx:s.bA[e.toNat]?=some x) (hb:x.dI.length=17) (hw:∀ y∈x.dI,bN y) (h0:cZ x.dI=0):G8 n s e=some true:=by
  refine gF ?_
  unfold G8 UH
  simp only [WT.run,bT]
  refine x_eq (q_in he) (aD (bU (dB he.1 hx (aW _ (aSV hn hb hw) λr hr=>?_))))
  exact aW (λb=>b=true) (aD (aQ (λ_=>aD (aG (decide_eq_true (by have:=hr.2;omega)))) λk=>absurd hr.1 k)) λb hb=>aG hb
theorem aPW {s:aB} {n:Nat} (hn:66<n) (h4:s.bA.length<=4) (hb:∀ x∈s.bA,x.dI.length=17/\bN (bl x 13)/\bN (bl x 14)):GZ n s=some (decide (eD lC s.bA=0)):=by
  refine gF ?_
  unfold GZ aAO
  simp only [WT.run,bT]
  refine aW (λ(r:Int)=>r=eD lC s.bA) (gB (λ(v:Int×Int)=>0<=v.2/\v.2<=(s.bA.length:Int)/\(-1152921504606846976*v.2<=v.1/\v.1<=1152921504606846976*v.2)/\v.1+eD lC (s.bA.drop v.2.toNat)=eD lC s.bA) (λ(v:Int×Int)=>s.bA.length-v.2.toNat) ?_ (v:=(0,0)) ⟨by simp,by simp,by simp,by simp⟩ (by simp;omega)) λr hr=>by subst hr;exact aD (aG rfl)
  rintro ⟨t,i⟩ ⟨a1,a2,a3,a4⟩
  simp only at a1 a2 a3 a4
  refine bK (aD (aQ (λk=>?_) λk=>bL (aG ?_)))
  · have k:i<(s.bA.length:Int):=k
    have hx:s.bA[i.toNat]?=some (s.bA[i.toNat]'(by omega)):=List.getElem?_eq_getElem (by omega)
    generalize s.bA[i.toNat]'(by omega)=x at hx
    obtain ⟨b1,b2,b3⟩:=hb x (fO hx)
    unfold bN at b2 b3
    have e1:=wS lC hx
    have eg:lC x=bl x 13+bl x 14:=rfl
    refine dB a1 hx (eZ (by decide) (by omega) λu hu=>?_)
    have eu:bl x 13=u:=by have hu:x.dI[13]?=some u:=hu;unfold bl;rw [getD_at hu]
    refine bG (dB a1 hx (eZ (by decide) (by omega) λw hw=>?_))
    have ew:bl x 14=w:=by have hw:x.dI[14]?=some w:=hw;unfold bl;rw [getD_at hw]
    refine bG (bG (dD ⟨⟨by first | omega | (simp only;omega),by first | omega | (simp only;omega),by first | omega | (simp only;omega),?_⟩,by first | omega | (simp only;omega)⟩))
    show t+u+w+eD lC (s.bA.drop (i+1).toNat)=_
    rw [show (i+1).toNat=i.toNat+1 by omega];omega
  · have k:¬ i<(s.bA.length:Int):=k
    rw [List.drop_eq_nil_of_le (by omega)] at a4
    have:eD lC ([]:List aP)=0:=rfl
    first | omega | (simp only;omega)
structure aGV (s:aB) (n:Nat) (e:Int):Prop where
  c:EZ n s e=some true
  a:DV n s e=some true
  w:HY n s e=some true
  d:FP n s e=some true
  b:G8 n s e=some true
  r:∀ i,0<=i/\i<(s.bF.bW.length:Int)->D6 n s e i=some true
theorem Inv.aPF {K:Int} {s:aB} (h:Inv K s) {n:Nat} (hn:66<n) {e:Int} (he:0<=e/\e<(s.bA.length:Int)):aGV s n e:=by
  obtain ⟨x,bH,hx,hm,hes,heb⟩:=h.see he
  have hsp:=h.ss
  have hsv:=heb.x.iK hes
  have hl:=hes.iK h.ss.toS0.iK.2.2
  have hlr:=hes.lr
  have c1:=DC hes 1 (by decide);have c11:=DC hes 11 (by decide)
  have b1:=c1;have b11:=c11;have b12:=DC hes 12 (by decide)
  unfold bN at b1 b11 b12
  have ha:=h.acc _ _ hx;have hw:=h.way _ _ hx
  refine ⟨?_,?_,?_,?_,?_,?_⟩
  · rw [aR0 hsp hn he hx hes.lb ⟨hes.sv0,hsv⟩,decide_eq_true heb.ctl]
  · rw [aFJ hn h.l1 (λr hr=>by obtain ⟨_,_,_,_,_,_,g,_⟩:=h.nO r hr;exact g.1) he hx hes.lb c1 (by omega),decide_eq_true ha]
  · rw [aPH hn h.l3 (λr hr=>by obtain ⟨_,_,_,_,g,_⟩:=h.oO r hr;exact g.1) he hx hes.lb (by omega),decide_eq_true hw]
  · rw [aH6 hn he hx hes.lb c11 hl.2.2.2.2 (λy hy=>(hes.DR y hy).1) (by have:=heb.qW;omega),decide_eq_true heb.qW]
  · exact aS1 hn he hx hes.lb hes.gW heb.rE
  · intro i hi
    have hr:x.dJ[i.toNat]?=some (x.dJ[i.toNat]'(by omega)):=List.getElem?_eq_getElem (by omega)
    generalize x.dJ[i.toNat]'(by omega)=r at hr
    obtain ⟨p,q,w1,w2,w3⟩:=aNW hsp hn ⟨he,hi⟩ hx hr hsv
    rw [w3,decide_eq_true (heb.o6 _ r p q hr w1 w2)]
theorem Inv.aLY {K:Int} {s:aB} (h:Inv K s) {n:Nat} (hn:66<n):GZ n s=some true:=by
  rw [aPW hn h.ss.toS0.iK.1 ?_,decide_eq_true h.zF]
  intro x hx
  obtain ⟨k,hk⟩:=List.getElem?_of_mem hx
  obtain ⟨bH,hm,_,_,hes⟩:=h.ss.bH hk
  exact ⟨hes.lb,DC hes 13 (by decide),DC hes 14 (by decide)⟩
theorem aU1 {K:Int} {s:aB} (h:Inv K s) (hK:K<=1000000) {n:Nat} (hn:200<n):ND n s=some true:=by
  have hf:=h.ss.toS0.iK
  have hd:=h.zM;have hl:=h.len
  refine gF ?_
  unfold ND aA8
  simp only [WT.run,bT]
  refine aW (λb=>b=false) (x_eq (aAW (by omega) h.kF) (aD (bU (aD (aQ (λk=>absurd hl k) λ_=>x_eq (mJ (by omega)) (aD (bU (x_eq (aJ6 h (by omega)) (aD (aG rfl)))))))))) λb hb=>?_
  subst hb
  refine bU (aW (λ(r:Unit⊕Bool)=>r=.inl ()) (gB (λ(i:Int)=>0<=i/\i<=(s.bA.length:Int)) (λ(i:Int)=>s.bA.length-i.toNat) ?_ (v:=0) ⟨by simp,by simp⟩ (by simp;omega)) λr hr=>by subst hr;exact dA (aG rfl))
  rintro i ⟨h0,h1⟩
  refine aD (aQ (λk=>?_) λ_=>bL (dD rfl))
  have hx:s.bA[i.toNat]?=some (s.bA[i.toNat]'(by omega)):=List.getElem?_eq_getElem (by omega)
  generalize s.bA[i.toNat]'(by omega)=x at hx
  obtain ⟨bH,hm,_,_,hes⟩:=h.ss.bH hx
  exact dB h0 hx (x_eq (aEV h.kF h0 hm (h.ent _ _ _ hx hm) (by omega)) (aD (bU (bG (dD ⟨⟨by omega,by omega⟩,by omega⟩)))))
theorem Inv.aAM {K:Int} {s:aB} (h:Inv K s) (hK:K<=1000000) {n:Nat} (hn:200<n):G9 n s=some true:=by
  have hf:=h.ss.toS0.iK
  refine gF ?_
  unfold G9 XG
  simp only [WT.run,bT]
  refine aW (λb=>b=false) (x_eq (aU1 h hK hn) (aD (bU (x_eq (h.aLY (by omega)) (aD (aG rfl)))))) λb hb=>?_
  subst hb
  refine bU (aW (λ(r:Unit⊕Bool)=>r=.inl ()) (gB (λ(i:Int)=>0<=i/\i<=(s.bA.length:Int)) (λ(i:Int)=>s.bA.length-i.toNat) ?_ (v:=0) ⟨by simp,by simp⟩ (by simp;omega)) λr hr=>by subst hr;exact dA (aG rfl))
  rintro i ⟨h0,h1⟩
  refine aD (aQ (λk=>?_) λ_=>bL (dD rfl))
  obtain ⟨c,a,w,d,b,r⟩:=h.aPF (n:=n) (by omega) (e:=i) ⟨h0,k⟩
  refine aW (λ(r:Unit⊕(Int⊕(Unit⊕Bool)))=>r=.inl ()) ?_ λr hr=>by subst hr;exact dA (bG (dD ⟨⟨by omega,by omega⟩,by omega⟩))
  refine aW (λb=>b=false) ?_ λb hb=>?_
  · simp only [c,a,w,d,b,Option.bind_some]
    exact ⟨_,rfl,rfl⟩
  · subst hb
    refine bU ?_
    refine aW (λ(r:Unit⊕(Unit⊕(Int⊕(Unit⊕Bool))))=>r=.inl ()) (gB (λ(j:Int)=>0<=j/\j<=(s.bF.bW.length:Int)) (λ(j:Int)=>s.bF.bW.length-j.toNat) ?_ (v:=0) ⟨by simp,by simp⟩ (by simp;omega)) λr hr=>by subst hr;exact dA (dD rfl)
    rintro j ⟨j0,j1⟩
    exact aD (aQ (λk2=>x_eq (r j ⟨j0,k2⟩) (aD (bU (bG (dD ⟨⟨by omega,by omega⟩,by omega⟩))))) λ_=>bL (dD rfl))
theorem VB:J6 300=some true:=by decide +kernel
theorem aPU {K:Int} {s:aB} {o:bJ} (h:Inv K s) (hK:K<=1000000) (ho:A8 o):MB 300 s o=some true:=by
  have e:=aL4 (n:=300) (by decide) h (by have:=ho.q;omega) ho.a
  obtain ⟨r,hr,hk⟩:=r15 (n:=300) (o:=o) (by decide) h (by have:=ho.q;omega) ho.a
  have hi:Inv K r.1:=by
    rcases hk with k | k
    · exact k.2
    · rw [k.2];exact h
  refine gF ?_
  unfold MB YU
  simp only [WT.run,bT]
  refine x_eq (e.trans hr) (x_eq hr (aW (λ(b:Bool)=>b=true) (x_eq (VG hi (by decide)) (dF (aD (aQ (λ_=>aD (aQ (λ_=>x_eq (hi.aAM hK (by decide)) (aG rfl)) λk=>?_)) λk=>absurd rfl k)))) λb hb=>aG hb))
  rcases hk with k2 | k2
  · exact absurd k2.1 k
  · have e2:B5 300 r.1 s=some true:=by rw [k2.2];exact VG h (by decide)
    exact x_eq e2 (dF (x_eq (hi.aAM hK (by decide)) (aG rfl)))
theorem aNZ (a1:Int) (a2:List Int) (a3 a4:Int):NW 300 a1 a2 a3 a4=some true:=by
  refine gF ?_
  unfold NW XQ
  simp only [WT.run,bT]
  refine aW _ (aMH (by decide)) λm hm=>aW _ (aHM (by decide) hm) λs hs=>aW _ (aIQ (by decide) hm) λo ho=>?_
  refine aW _ (XL (n:=300) (by decide) (by omega)) λb hb=>?_
  refine aD (fJ (λk=>x_eq VB (aD (aG rfl))) λk=>?_)
  have hb2:b=true:=by revert k;cases b <;> simp
  exact aW (λ(b:Bool)=>b=true) (x_eq (aPU hs (by decide) (hb hb2)) (dF (x_eq VB (aG rfl)))) λb hb=>aG hb
open Go.ChangeShapes Go.WideShapes Go.ChangeAt Go.RowKit
theorem aJ5 {P:Program} {f:FuncId} {args:List AV} {vs:Array Value} {w:World} (h:PP P f args (λy=>y=aZ true)) (ha:pE (s0 w) args vs) :
    Calls P f vs w λe w'=>e=.returned (.bool true)/\Below w.heap.size w w':=by
  refine (h (s0 w) vs (λ_ h=>h) ⟨0,λ_ _ h=>h⟩ ha).mono ?_
  rintro e w' ⟨y,s',v,rfl,_,rfl,rfl,h4,_,h6⟩
  have hv:=h4.kH
  subst hv
  exact ⟨rfl,⟨h6.os,h6.tape,h6.output,h6.size,λk hk=>h6.keep k hk λ⟨_,_,_,h,_⟩=>by cases h⟩⟩
end Go.Pv
