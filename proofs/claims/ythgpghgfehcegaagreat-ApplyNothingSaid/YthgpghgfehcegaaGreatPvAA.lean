import Derived.Test.YthgpghgfehcegaaGreatTT80
import Derived.Test.YthgpghgfehcegaaGreatPvU
set_option linter.unusedVariables false
set_option linter.unusedSimpArgs false
namespace Go.Pv
open Go.Proofs
set_option maxRecDepth 1000000
set_option maxHeartbeats 1000000
theorem aU1 {l:List (List Int)} {n:Nat} (hl:l.length<=60) (hn:66<n) (hk:∀ x∈l,x.length<=60):aSK n l l=some true:=by
  unfold aSK aV3
  simp only [WT.run,O9]
  refine v_F (by simp) (aPZ (aP1 (aQ2 hl hn (λi x h0 h hx=>?_) λi h=>?_) rfl))
  · exact v_T h (aP7 (aQI h0 hx (aQI h0 hx (aP1 (aR7 (hk x (aRG hx)) hn) (aQP (aPZ (YD (by omega) rfl)))))))
  · exact v_F h (aPZ rfl)
theorem a19 {s:aA} {n:Nat} (h:SQ s) (hn:66<n):aST n s.bA s.bA=some true:=by
  have h1:=h.wl;have h2:=h.ml;have h4:=h.cl
  unfold aST aWR
  simp only [WT.run,O9]
  refine aP1 (a:=true) (v_T (by first | trivial | rfl) (aP7 (v_T (by first | trivial | rfl) (aP7 (aP1 (aR7 (by omega) hn) (aP7 (aP1 (aU1 (by omega) hn λx hx=>by have:=h.mq x hx;omega) (aP7 (aP1 (aU1 (by omega) hn λx hx=>by have:=(h.cq x hx).1;omega) rfl))))))))) rfl
theorem a06 (x:aB):aSW x x=some true:=by
  unfold aSW aVI
  simp only [WT.run,O9]
  exact aP1 (a:=true) (v_T (by first | trivial | rfl) (aP7 (v_T (by first | trivial | rfl) (aP7 (v_T (by first | trivial | rfl) rfl))))) rfl
theorem aX4 {l:List aB} {n:Nat} (hl:l.length<=60) (hn:66<n):aS8 n l l=some true:=by
  unfold aS8 aVK
  simp only [WT.run,O9]
  refine v_F (by simp) (aPZ (aP1 (aQ2 hl hn (λi x h0 h hx=>?_) λi h=>?_) rfl))
  · exact v_T h (aP7 (aQI h0 hx (aQI h0 hx (aP1 (a06 x) (aQP (aPZ (YD (by omega) rfl)))))))
  · exact v_F h (aPZ rfl)
theorem aX8 {p:aM} {n:Nat} (hl:p.cO.length<=60) (hn:66<n):aSY n p p=some true:=by
  unfold aSY aUU
  simp only [WT.run,O9]
  exact aP1 (a:=true) (aP1 (aX4 hl hn) (aP7 (v_T (by first | trivial | rfl) (aP7 (v_T (by first | trivial | rfl) (aP7 (v_T (by first | trivial | rfl) rfl))))))) rfl
theorem a0K {s:aA} {n:Nat} (h1:s.bP.length<=60) (h2:s.bU.length<=60) (h3:s.bY.length<=60) (hn:66<n):aTC n s s=some true:=by
  unfold aTC aWO
  simp only [WT.run,O9]
  refine aP1 (a:=false) (v_F (by simp) (aPZ (v_F (by simp) (aPZ (v_F (by simp) rfl))))) (aPZ (aP1 (aQ2 h1 hn (λi x h0 h hx=>?_) λi h=>?_) ?_))
  · exact v_T h (aP7 (aQI h0 hx (aQI h0 hx (aQP (by rw [decide_eq_true (rfl:x=x)];exact aPZ (YD (by omega) rfl))))))
  · exact v_F h (aPZ rfl)
  show Option.bind _ _=_
  refine aP1 (aQ2 h2 hn (λi x h0 h hx=>?_) λi h=>?_) ?_
  · exact v_T h (aP7 (aQI h0 hx (aQI h0 hx (aQP (by rw [decide_eq_true (rfl:x=x)];exact aPZ (YD (by omega) rfl))))))
  · exact v_F h (aPZ rfl)
  show Option.bind _ _=_
  refine aP1 (aQ2 h3 hn (λi x h0 h hx=>?_) λi h=>?_) rfl
  · exact v_T h (aP7 (aQI h0 hx (aQI h0 hx (aQP (by rw [decide_eq_true (rfl:x=x)];exact aPZ (YD (by omega) rfl))))))
  · exact v_F h (aPZ rfl)
theorem aZS {x:aP} {n:Nat} (h:EQ' x) (hn:90<n):aSN n x x=some true:=by
  obtain ⟨m,rfl⟩:∃ m,n=m+1:=⟨n-1,by omega⟩
  have a1:=h.pl;have a2:=h.bl;have a3:=h.rl;have a4:=h.pr;have a5:=h.dn
  rw [a1K]
  unfold aTT
  simp only [WT.run,O9]
  refine aP1 (a:=false) (v_F (by simp) (aPZ (v_F (by simp) (aPZ (v_F (by simp) (aPZ (v_F (by simp) (aPZ (v_F (by simp) rfl))))))))) (aPZ ?_)
  refine aP1 (a:=.inl ()) (aQ2 (l:=x.dD) (by omega) (by omega) (λi p h0 h2 hx=>?_) λi h=>v_F h (aPZ rfl)) ?_
  · have hp:=(h.pq p (aRG hx)).1.1
    exact v_T h2 (aP7 (aQI h0 hx (aQI h0 hx (aP1 (aX8 (by omega) (by omega)) (aQP (aPZ (YD (by omega) rfl)))))))
  show Option.bind _ _=_
  refine aP1 (a:=.inl ()) (aQ2 (l:=x.dI) (by omega) (by omega) (λi p h0 h hx=>?_) λi h=>v_F h (aPZ rfl)) ?_
  · refine v_T h (aP7 (aQI h0 hx (aP1 rfl (aQI h0 hx (aP1 rfl (aQP ?_))))))
    rw [show (!decide ((_:jJ)=_))=false from by simp]
    exact aPZ (YD (by omega) rfl)
  show Option.bind _ _=_
  refine aP1 (a:=.inl ()) (aQ2 (l:=x.eT) (by rw [h.ah];simp) (by omega) (λi y h0 h2 hx=>?_) λi h=>v_F h (aPZ rfl)) ?_
  · rw [h.ah] at h2;simp at h2;omega
  show Option.bind _ _=_
  exact aP1 (a:=true) (aP1 (aR7 (by omega) (by omega)) (aP7 (aP1 (aR7 (by omega) (by omega)) (aP7 (aP1 (aR7 (by omega) (by omega)) rfl))))) rfl
theorem aZO {s:aA} {n:Nat} (h:SQ s) (hn:100<n):aTK n s s=some true:=by
  have h0:=h.el;have h1:=h.rl;have h2:=h.sl;have h3:=h.tl
  unfold aTK aVN
  simp only [WT.run,O9]
  refine aP1 (a:=false) (aP1 (a19 h (by omega)) (aQP (aPZ (v_F (by simp) (aPZ (v_F (by simp) (aPZ (aP1 (a0K (by omega) (by omega) (by omega) (by omega)) rfl)))))))) (aPZ (aP1 (aQ2 (l:=s.aW) (by omega) (by omega) (λi x h0 hi hx=>?_) λi h=>?_) rfl))
  · exact v_T hi (aP7 (aQI h0 hx (aQI h0 hx (aP1 (aZS (h.at hx) (by omega)) (aQP (aPZ (YD (by omega) rfl)))))))
  · exact v_F h (aPZ rfl)
theorem a3O {m:eZ} {n:Nat} (hn:66<n):Ex (λr=>r=[]) (MJ n m []):=by
  unfold MJ aI2
  simp only [WT.run,O9]
  refine tF (λ(r:List aS)=>r=[]) (aQJ (λ(v:Int×List aS)=>v=(0,[])) (λ_=>0) ?_ rfl (by omega)) λr hr=>aEV hr
  rintro _ rfl
  refine aI5 ?_
  exact tF (λ(b:Bool)=>b=false) (aL2 (aEY (λk=>absurd k (by simp)) λ_=>aEV rfl)) λb hb=>aFQ (λkb=>by rw [hb] at kb;cases kb) λ_=>aGQ (aEV rfl)
theorem a1L {m:eZ} {n:Nat} (hn:66<n) (h:MOk m):Ex (λr=>SQ r/\r.Done=0) (AO n m []):=by
  unfold AO aFW;simp only [WT.run,O9]
  refine tF _ (a3C hn h) λx hx=>tF _ (a3O hn) λo ho=>?_
  subst ho
  refine tF (λ_=>True) (aQJ (λ_=>True) (λ_=>0) (λ_ _=>?_) trivial (by omega)) λ_ _=>aEV hx
  exact aL2 (aL4 (by simp) (aGQ (aEV trivial)))
theorem a18 {l:List aS} {e:List Int} {i:Int} {o:aS} {x:Int} (h0:0<=i) (ho:l[i.toNat]?=some o) (hx:e[i.toNat]?=some x) (hl:e.length=l.length):gd (l.take (i+1).toNat) (e.take (i+1).toNat)=gd (l.take i.toNat) (e.take i.toNat)++(if x=0 then [o] else []):=by
  rw [show (i+1).toNat=i.toNat+1 by omega,List.take_add_one,List.take_add_one,ho,hx]
  exact aWM (by simp only [List.length_take];omega)
theorem aWJ:IM 300=some true:=by decide +kernel
theorem a08 (v:Int) (l:List Int):aUH 300 v l=some true:=by
  refine aQX (x:=true) ?_
  unfold aUH aWV;simp only [WT.run,O9]
  refine tF _ (a1U (by omega)) λm hm=>tF _ (a1L (by omega) hm.1) λs hs=>tF _ (a02 (by omega) hm) λo ho=>tF _ (aVE (by omega) hs.1 (λx hx=>(ho.2 x hx).1) ho.1) λa ha=>?_
  have hlen:=ha.len
  refine aL2 (aEY (λh=>absurd (by omega) h) λ_=>?_)
  refine tF (λ(g:List aS)=>g=gd o a.2) (aQB (m:=o.length) (λv=>v.1) (λv=>v.2=gd (o.take v.1.toNat) (a.2.take v.1.toNat)) ⟨by simp,by simp,rfl⟩ (by omega) λv h1 h2 h3=>?_) λg hg=>?_
  · obtain ⟨i,g⟩:=v
    simp only at h1 h2 h3
    simp only [p2]
    refine aL2 (aEY (λhk=>tF (λr=>r=gd (o.take (i+1).toNat) (a.2.take (i+1).toNat)) (u7 h1 (by omega) λx hx=>?_) λr hr=>x_v (XC ⟨hk,rfl,hr⟩)) λhk=>aGQ (aEV ?_))
    · have hy:=List.getElem?_eq_getElem (l:=o) (i:=i.toNat) (by omega)
      have hd:=a18 h1 hy hx hlen
      rw [<- h3] at hd
      refine aL2 (aEY (λh0=>u7 h1 hk λy hy2=>?_) λh0=>aEV ?_)
      · rw [hy] at hy2
        cases hy2
        rw [if_pos h0] at hd
        have:=aUI (l:=o.take (i+1).toNat) (e:=a.2.take (i+1).toNat)
        rw [hd] at this
        simp only [List.length_take] at this
        exact aL2 (x_a (aEV hd.symm))
      · rw [if_neg h0,List.append_nil] at hd
        exact hd.symm
    · rw [h3,List.take_of_length_le (by omega),List.take_of_length_le (by omega)]
  subst hg
  have hG:=ha.good (by omega) hs.1 hs.2 (λx hx=>(ho.2 x hx).1) ho.1
  have hgl:(gd o a.2).length<=120:=Nat.le_trans aUI ho.1
  have hB:=aVE (n:=300) (by omega) hs.1 (l:=gd o a.2) (λx hx=>(ho.2 x (a0L x hx)).1) hgl
  have hB:Ex (λr=>r.1=a.1/\r.2=List.replicate (gd o a.2).length 0) (TN 300 s (gd o a.2)):=aS9 hB λr hr=>by
    obtain ⟨h1,h2⟩:=hG.1.det hr
    exact ⟨h1.symm,h2.symm⟩
  unfold TN aJY at hB
  simp only [WT.run,O9] at hB
  refine tF _ hB λr hr=>?_
  obtain ⟨b,f⟩:=r
  obtain ⟨rfl,rfl⟩:=hr
  simp only [p2]
  refine tF (λr=>r=.inl ()) (aQB (m:=(gd o a.2).length) (λv=>v) (λ_=>True) ⟨by simp,by simp,trivial⟩ (by omega) λv h1 h2 _=>?_) λr hr=>?_
  · refine aL2 (aEY (λhk=>u7 h1 hk λx hx=>?_) λ_=>aGQ (XC rfl))
    have hx0:=List.eq_of_mem_replicate (List.mem_of_getElem? hx)
    subst hx0
    simp only [List.length_replicate] at hk
    exact aL2 (aEY (λh=>absurd rfl h) λ_=>x_v (XC ⟨hk,rfl,trivial⟩))
  subst hr
  refine aK3 (tF (λb=>b=true) ?_ λb hb=>aEV hb)
  have hq:=ha.sq (by omega) hs.1 λx hx=>(ho.2 x hx).1
  refine x_eq (aZO hq (by omega)) (aL2 (aEY (λ_=>aL2 (aEY (λ_=>aL2 (aEY (λ_=>x_eq aWJ (aEV rfl)) λhne=>u7 (by omega) (by omega) λx hx=>?_)) λh=>absurd hG.2 h)) λh=>absurd (by simp) h))
  exact x_eq ((ho.2 x (List.mem_of_getElem? hx)).2 300 (by omega)) (x_eq aWJ (aEV rfl))
open Go.ChangeShapes Go.WideShapes Go.ChangeAt Go.RowKit
theorem YJ {P:Program} {f:FuncId} {args:List AV} {vs:Array Value} {w:World} (h:PP P f args (λy=>y=aF true)) (ha:jI (s0 w) args vs) :
    Calls P f vs w λe w'=>e=.returned (.bool true)/\Below w.heap.size w w':=by
  refine (h (s0 w) vs (λ_ h=>h) ⟨0,λ_ _ h=>h⟩ ha).mono ?_
  rintro e w' ⟨y,s',v,rfl,_,rfl,rfl,h4,_,h6⟩
  have hv:=h4.dP
  subst hv
  exact ⟨rfl,⟨h6.os,h6.tape,h6.output,h6.size,λk hk=>h6.keep k hk λ⟨_,_,_,h,_⟩=>by cases h⟩⟩
end Go.Pv
