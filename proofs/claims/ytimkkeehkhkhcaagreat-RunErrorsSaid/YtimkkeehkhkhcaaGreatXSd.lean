import Derived.Test.YtimkkeehkhkhcaaGreatXSc
set_option linter.unusedVariables false
set_option linter.unusedSimpArgs false
namespace Go.Pv
open Go.Proofs
set_option maxRecDepth 100000
set_option maxHeartbeats 4000000
noncomputable section
def yI (x6:Int):Nat->Int->aI->(List aP)->Option (aI×(List aP))
  | 0,_,_,_=>none
  | n+1,y2_2,y2_3,y2_4 =>
    bnd (decide (y2_2<x6)) λx10 =>
    cond x10 ((show Option (aI×(List aP)) from
    cZ (((y2_3.s,y2_3.bad):RS).1.length<=9223372036854775806)<|
    bnd (iA ((y2_3.s,y2_3.bad):RS) 16) λx13 =>
    bnd (gK ((y2_3.s,y2_3.bad):RS) 16) λx14 =>
    bnd (decide (x13=1)) λx16 =>
    cond x16 ((show Option ((Unit)) from
    some ()).bind <| λ_ =>
    cZ (x14.1.length<=9223372036854775806)<|
    bnd (dG x14) λx33 =>
    bnd (dL x14) λx34 =>
    (show Option ((Unit)) from
    some ()).bind <| λ_ =>
    cZ (x34.1.length<=9223372036854775806)<|
    bnd (dG x34) λx37 =>
    bnd (dL x34) λx38 =>
    (show Option ((Unit)) from
    some ()).bind <| λ_ =>
    cZ (x38.1.length<=9223372036854775806)<|
    bnd (dG x38) λx41 =>
    bnd (dL x38) λx42 =>
    (show Option ((Unit)) from
    some ()).bind <| λ_ =>
    cZ (x42.1.length<=9223372036854775806)<|
    bnd (dG x42) λx45 =>
    bnd (dL x42) λx46 =>
    (show Option ((Unit)) from
    some ()).bind <| λ_ =>
    cZ (x46.1.length<=9223372036854775806)<|
    bnd (dG x46) λx49 =>
    bnd (dL x46) λx50 =>
    (show Option (Bool) from
    bnd x50.2 λx52 =>
    cond x52 (some (true:Bool)) ((kW (⟨x13,x33,x37,x41,0,x45,x49,0,[]⟩:aP)).bind λx53 =>
    bnd (!x53) λx54 =>
    some (x54:Bool))).bind <| λy5_1 =>
    cZ (y5_1=false)<|
    bnd (y2_4++[(⟨x13,x33,x37,x41,0,x45,x49,0,[]⟩:aP)]) λx55 =>
    cZ (x55.length<=68719476736)<|
    some (((⟨x50.1,x50.2⟩:aI):aI),(x55:List aP))) (cZ (x13=14)<|
    (show Option ((Unit)) from
    some ()).bind <| λ_ =>
    cZ (x14.1.length<=9223372036854775806)<|
    bnd (dG x14) λx21 =>
    bnd (dL x14) λx22 =>
    (show Option (Bool) from
    bnd x22.2 λx24 =>
    cond x24 (some (true:Bool)) ((kW (⟨x13,x21,0,0,0,0,0,0,[]⟩:aP)).bind λx25 =>
    bnd (!x25) λx26 =>
    some (x26:Bool))).bind <| λy5_1 =>
    cZ (y5_1=false)<|
    bnd (y2_4++[(⟨x13,x21,0,0,0,0,0,0,[]⟩:aP)]) λx27 =>
    cZ (x27.length<=68719476736)<|
    some (((⟨x22.1,x22.2⟩:aI):aI),(x27:List aP)))).bind <| p2 λ(y6_2:aI) (y6_3:List aP) =>
    bnd (bL (y2_2+1)) λx58 =>
    yI x6 n (x58:Int) (y6_2:aI) (y6_3:List aP)) (some ((y2_3:aI),(y2_4:List aP)))
def xQ (n:Nat) (a1:List UInt8):Option ((List aP)×Int) :=
bnd (decide ((a1.length:Int)>131072)) λx2 =>
cond x2 (some (([]:List aP),(2:Int))) ((show Option ((Unit)) from
some ()).bind <| λ_ =>
cZ (((a1,false):RS).1.length<=9223372036854775806)<|
bnd (iA ((a1,false):RS) 400) λx6 =>
bnd (gK ((a1,false):RS) 400) λx7 =>
(show Option (aI×(List aP)) from
yI x6 n (0:Int) ((⟨x7.1,x7.2⟩:aI):aI) (([]:List aP):List aP)).bind <| p2 λ(y7_2:aI) (y7_3:List aP) =>
(show Option (Bool) from
bnd (((y7_2.s,y7_2.bad):RS).2) λx60 =>
cond x60 (some (true:Bool)) (bnd (decide ((((y7_2.s,y7_2.bad):RS).1.length:Int)>0)) λx61 =>
some (x61:Bool))).bind <| λy8_1 =>
cond y8_1 (some (([]:List aP),(3:Int))) (some ((y7_3:List aP),(0:Int))))
theorem aAD {n:Nat} {a1:List UInt8} {r:(List aP)×Int} (h0:xQ n a1=some r):PP Tryz.prog 19 [str a1] (λy=>y=.aM [aG 9 aP.av r.1,int r.2]):=by
  unfold xQ at h0
  refine sG (R0:=λy H=>Cv (mI H) y (.aM [aG 9 aP.av r.1,int r.2])) ?_ (λy H hc=>⟨_,rfl,.aM (SE ((qC aP.fZ) (r.1)) (xC (r.2))),hc⟩)
  refine fC (c:=_) Tryz.func19 rfl rfl ?_;intro Q hret hnorm
  refine tc aB 9 (.mk ?_)
  refine sY (nX rfl Tryz.underlying9 rfl) ?_
  refine nb aB h0 λx2 h0=>?_
  refine tr aB 1 (.mk ?_)
  cases x2
  replace h0:=cf h0
  refine tc aB 5 (.mk ?_)
  obtain ⟨j3,h1,h0⟩:=dD h0
  refine bO (Out:=λy H'=>(∃ (a:Unit) (k:Nat),a=j3/\y=.pt 1 k 0 0/\H'=hk [(1,⟨125,2,true,true,k,[[str a1,aA false]]⟩)])) rfl rfl rfl (aQ rfl rfl (.cons rfl .nil) IB ?_) ?_
  refine fC (c:=_) Tryz.func28 rfl rfl ?_;intro Q hret hnorm
  refine tc aB 8 (.mk ?_)
  refine sB 1 λv4=>?_
  refine tr aB 2 (.mk ?_)
  obtain rfl:=eH h1
  refine fF (hret _ _ (hk [(1,⟨125,2,true,true,v4,[[str a1,aA false]]⟩)]) (.tmp rfl .nil) (HK.le ⟨rfl,trivial⟩) ?_)
  exact ⟨(),v4,rfl,rfl,rfl⟩
  rintro y _ ⟨_,w1_1,rfl,hc,rfl⟩
  subst hc
  refine tr aB 10 (.mk ?_)
  obtain ⟨p5,h0⟩:=dH h0
  obtain ⟨x6,e6,h0⟩:=bJ h0
  obtain ⟨x7,e7,h0⟩:=bJ h0
  refine bO rfl rfl rfl (aQ rfl rfl (.cons rfl (.cons rfl .nil)) l7 (PC.mono (mE (most:=400) (s:=((a1,false):RS)) (id:=1) (aD:=w1_1) rfl p5) (R':=λy H'=>y=int x6/\H'=upd _ 1 (some (cK 125 w1_1 x7))) (λy H' h=>⟨h.1.trans (congrArg int e6),h.2.trans (dN e7)⟩))) ?_;rintro _ _ ⟨rfl,rfl⟩
  refine tr aB 2 (.mk ?_)
  refine jn h0 [2,3,4] [] (λ(a:aI×(List aP)) (k:Nat)=>[(5,.sl 4 k 0 a.2.length)]) (λa k=>[(1,⟨125,2,true,true,w1_1,[[str a.1.s,aA a.1.bad]]⟩),(4,⟨30,9,true,true,k,a.2.map aP.av⟩)]) ⟨λj8 h1=>?_,?_⟩
  refine tc aB 1 (.mk ?_)
  refine sH 5 4 30 9 rfl rfl ?_;intro v9
  refine lp (λn (a:Int×aI×(List aP))=>yI x6 n a.1 a.2.1 a.2.2) ((0:Int),((⟨x7.1,x7.2⟩:aI):aI),(([]:List aP):List aP)) v9 h1 [2,3,4,15] [] (λ(a:Int×aI×(List aP)) (k:Nat)=>[(5,.sl 4 k 0 a.2.2.length),(16,int a.1)]) (λa k=>[(1,⟨125,2,true,true,w1_1,[[str a.2.1.s,aA a.2.1.bad]]⟩),(4,⟨30,9,true,true,k,a.2.2.map aP.av⟩)]) (λ_=>rfl) ⟨dW,?_⟩
  rintro n ⟨y2_2,y2_3,y2_4⟩ w2_1 hm h1
  replace h1:yI x6 (n+1) y2_2 y2_3 y2_4=some _:=h1
  rw [yI] at h1
  refine tc aB 2 (.mk ?_)
  refine nb aB h1 λx10 h1=>?_
  refine tr aB 2 (.mk ?_)
  cases x10
  replace h1:=cf h1
  refine tc aB 2 (.mk ?_)
  exact lf h1 w2_1 dW
  replace h1:=ct h1
  refine tc aB 3 (.mk ?_)
  refine jn h1 [2,3,4,15,16] [] (λ(a:aI×(List aP)) (k:Nat)=>[(5,.sl 4 k 0 a.2.length)]) (λa k=>[(1,⟨125,2,true,true,w1_1,[[str a.1.s,aA a.1.bad]]⟩),(4,⟨30,9,true,true,k,a.2.map aP.av⟩)]) ⟨λj11 h2=>?_,?_⟩
  refine tc aB 4 (.mk ?_)
  obtain ⟨p12,h2⟩:=dH h2
  obtain ⟨x13,e13,h2⟩:=bJ h2
  obtain ⟨x14,e14,h2⟩:=bJ h2
  refine bO rfl rfl rfl (aQ rfl rfl (.cons rfl (.cons rfl .nil)) l7 (PC.mono (mE (most:=16) (s:=((y2_3.s,y2_3.bad):RS)) (id:=1) (aD:=w1_1) rfl p12) (R':=λy H'=>y=int x13/\H'=upd _ 1 (some (cK 125 w1_1 x14))) (λy H' h=>⟨h.1.trans (congrArg int e13),h.2.trans (dN e14)⟩))) ?_;rintro _ _ ⟨rfl,rfl⟩
  refine sY (F9 (cs:=[int x13,int 0,int 0,int 0,int 0,int 0,int 0,int 0,.sc (.slice none 0 0)]) (ps:=[(0,_)]) rfl aCU z30 rfl (.cons rfl .nil) (by kernel_rfl)) ?_
  refine sA 2 z30 λv15=>?_
  refine sS ⟨30,9,true,true,v15,[[int x13,int 0,int 0,int 0,int 0,int 0,int 0,int 0,.sc (.slice none 0 0)]]⟩ wT ?_
  refine tr aB 2 (.mk ?_)
  obtain ⟨x16,e16,h2⟩:=bJ h2
  cases x16
  replace h2:=cf h2
  obtain ⟨p17,h2⟩:=dH h2
  refine mP [0,0,2,7,15] (λi=>bif Nat.beq i 1 then ([2]) else bif Nat.beq i 2 then ([2]) else []) (λi=>[2]) 4 [0,1,2,3] mixed (by kernel_rfl) rfl rfl rfl rfl rfl rfl rfl rfl rfl rfl rfl rfl rfl Tryz.underlying9 ?_
  refine eP (λH hH=>iO rfl rfl .nil mD (cO.refl _) mQ) ?_
  refine eF l9 ?_
  refine eL bX ?_
  refine mO 23 (int 14) rfl (congrArg int p17) ?_
  refine kT rfl rfl rfl rfl (λH hH=>mF rfl Tryz.underlying82 lQ rfl rfl (by decide) rfl) ?_
  refine ⟨_,rfl,rfl,λb18=>?_⟩
  refine tc aB 13 (.mk ?_)
  refine sY (aN (y:=aA false) (aS rfl rfl rfl) (congrArg aA (by decide))) ?_
  refine tr aB 4 (.mk ?_)
  obtain ⟨j19,h3,h2⟩:=dD h2
  refine bO (Out:=λy H'=>(∃ (a:Unit) (k:Unit),a=j19/\y=.pt 2 v15 0 1/\H'=hk [(1,⟨125,2,true,true,w1_1,[[str x14.1,aA x14.2]]⟩),(2,⟨30,9,true,true,v15,[[int x13,int 0,int 0,int 0,int 0,int 0,int 0,int 0,.sc (.slice none 0 0)]]⟩),(4,⟨30,9,true,true,w2_1,y2_4.map aP.av⟩)])) rfl rfl rfl (aQ rfl rfl (.cons rfl (.cons rfl .nil)) gG ?_) ?_
  refine fC (c:=_) Tryz.func37 rfl rfl ?_;intro Q hret hnorm
  refine tc aB 12 (.mk ?_)
  refine sY (aN (y:=aA true) (aS rfl rfl rfl) (congrArg aA (by decide))) ?_
  refine tr aB 10 (.mk ?_)
  obtain rfl:=eH h3
  refine fF (hret _ _ (hk [(1,⟨125,2,true,true,w1_1,[[str x14.1,aA x14.2]]⟩),(2,⟨30,9,true,true,v15,[[int x13,int 0,int 0,int 0,int 0,int 0,int 0,int 0,.sc (.slice none 0 0)]]⟩),(4,⟨30,9,true,true,w2_1,y2_4.map aP.av⟩)]) (.tmp rfl .nil) (HK.le ⟨rfl,rfl,rfl,trivial⟩) ?_)
  exact ⟨(),(),rfl,rfl,rfl⟩
  rintro y _ ⟨_,_,rfl,hc,rfl⟩
  subst hc
  refine tr aB 1 (.mk ?_)
  obtain ⟨p20,h2⟩:=dH h2
  obtain ⟨x21,e21,h2⟩:=bJ h2
  obtain ⟨x22,e22,h2⟩:=bJ h2
  refine bO rfl rfl rfl (aQ rfl rfl (.cons rfl .nil) eD (PC.mono (eB (s:=x14) (id:=1) (aD:=w1_1) rfl p20) (R':=λy H'=>y=int x21/\H'=upd _ 1 (some (cK 125 w1_1 x22))) (λy H' h=>⟨h.1.trans (congrArg int e21),h.2.trans (dN e22)⟩))) ?_;rintro _ _ ⟨rfl,rfl⟩
  refine tr aB 1 (.mk ?_)
  refine sS ⟨30,9,true,true,v15,[[int x13,int x21,int 0,int 0,int 0,int 0,int 0,int 0,.sc (.slice none 0 0)]]⟩ bX ?_
  refine tr aB 8 (.mk ?_)
  refine jn h2 [2,3,4,5,6,15,16] [1,2,4] (λ(a:Bool) (k:Unit)=>[(45,aA a)]) (λa k=>[]) ⟨λj23 h3=>?_,?_⟩
  refine tc aB 2 (.mk ?_)
  refine sY (kL rfl rfl (.cons rfl .nil) lD (lH (s:=x22) (id:=1) (aD:=w1_1) rfl) (.sc _)) ?_
  refine tr aB 1 (.mk ?_)
  obtain ⟨x24,e24,h3⟩:=bJ h3
  refine iN 40 (aA x24) rfl (congrArg aA e24) ?_
  refine iN 41 (aA x24) rfl (congrArg aA e24) ?_
  cases x24
  replace h3:=cf h3
  refine tr aB 1 (.mk ?_)
  obtain ⟨x25,e25,h3⟩:=dD h3
  refine sY (iO rfl rfl (.cons rfl .nil) lM (.cons (cO.agg (.cons (.refl _) (.cons (.refl _) (.cons (.refl _) (.cons (.refl _) (.cons (.refl _) (.cons (.refl _) (.cons (.refl _) (.cons (.refl _) (.cons (.nil _) .nil)))))))))) .nil) (lK e25)) ?_
  refine nb aB h3 λx26 h3=>?_
  refine tr aB 2 (.mk ?_)
  exact lf h3 () dW
  replace h3:=ct h3
  refine tr aB 5 (.mk ?_)
  exact lf h3 () dW
  rintro y5_1 _ h2
  replace h2:=dH h2
  obtain ⟨rfl,h2⟩:=h2
  refine tc aB 5 (.mk ?_)
  refine sY (dY (ps:=[(0,_)]) (rows:=[[int x13,int x21,int 0,int 0,int 0,int 0,int 0,int 0,.sc (.slice none 0 0)]]) rfl Tryz.underlying31 iU (.cons rfl .nil) (by kernel_rfl) rfl rfl rfl) ?_
  obtain ⟨x27,e27,h2⟩:=bJ h2
  obtain ⟨p28,h2⟩:=dH h2
  refine bO rfl rfl rfl (iP (g:=aP.av) (l:=y2_4) (m:=[(⟨x13,x21,0,0,0,0,0,0,[]⟩:aP)]) .any rfl Tryz.underlying31 iU mV rfl rfl rfl rfl rfl rfl rfl rfl rfl rfl (Eq.symm rfl) (gN.list (.cons (.cons (.refl _) (.cons (.refl _) (.cons (.refl _) (.cons (.refl _) (.cons (.refl _) (.cons (.refl _) (.cons (.refl _) (.cons (.refl _) (.cons (.nil _) .nil))))))))) .nil)) (λ_=>rfl) e27 p28) ?_;rintro _ _ ⟨v29,-,rfl,rfl⟩
  refine tr aB 3 (.mk ?_)
  exact lf h2 v29 dW
  replace h2:=ct h2
  refine mP [0,0,2,7,15] (λi=>bif Nat.beq i 1 then ([2]) else bif Nat.beq i 2 then ([2]) else []) (λi=>[2]) 4 [0,1,2,3] mixed (by kernel_rfl) rfl rfl rfl rfl rfl rfl rfl rfl rfl rfl rfl rfl rfl Tryz.underlying9 ?_
  refine eP (λH hH=>iO rfl rfl .nil mD (cO.refl _) mQ) ?_
  refine eF l9 ?_
  refine eL bX ?_
  refine mO 23 (int 1) rfl (congrArg int (of_decide_eq_true e16)) ?_
  refine kT rfl rfl rfl rfl (λH hH=>mF rfl Tryz.underlying82 lQ rfl rfl (by decide) rfl) ?_
  refine ⟨_,rfl,rfl,λb30=>?_⟩
  refine tc aB 13 (.mk ?_)
  refine sY (aN (y:=aA false) (aS rfl rfl rfl) (congrArg aA (by decide))) ?_
  refine tr aB 4 (.mk ?_)
  obtain ⟨j31,h3,h2⟩:=dD h2
  refine bO (Out:=λy H'=>(∃ (a:Unit) (k:Unit),a=j31/\y=.pt 2 v15 0 1/\H'=hk [(1,⟨125,2,true,true,w1_1,[[str x14.1,aA x14.2]]⟩),(2,⟨30,9,true,true,v15,[[int x13,int 0,int 0,int 0,int 0,int 0,int 0,int 0,.sc (.slice none 0 0)]]⟩),(4,⟨30,9,true,true,w2_1,y2_4.map aP.av⟩)])) rfl rfl rfl (aQ rfl rfl (.cons rfl (.cons rfl .nil)) gG ?_) ?_
  refine fC (c:=_) Tryz.func37 rfl rfl ?_;intro Q hret hnorm
  refine tc aB 12 (.mk ?_)
  refine sY (aN (y:=aA true) (aS rfl rfl rfl) (congrArg aA (by decide))) ?_
  refine tr aB 10 (.mk ?_)
  obtain rfl:=eH h3
  refine fF (hret _ _ (hk [(1,⟨125,2,true,true,w1_1,[[str x14.1,aA x14.2]]⟩),(2,⟨30,9,true,true,v15,[[int x13,int 0,int 0,int 0,int 0,int 0,int 0,int 0,.sc (.slice none 0 0)]]⟩),(4,⟨30,9,true,true,w2_1,y2_4.map aP.av⟩)]) (.tmp rfl .nil) (HK.le ⟨rfl,rfl,rfl,trivial⟩) ?_)
  exact ⟨(),(),rfl,rfl,rfl⟩
  rintro y _ ⟨_,_,rfl,hc,rfl⟩
  subst hc
  refine tr aB 1 (.mk ?_)
  obtain ⟨p32,h2⟩:=dH h2
  obtain ⟨x33,e33,h2⟩:=bJ h2
  obtain ⟨x34,e34,h2⟩:=bJ h2
  refine bO rfl rfl rfl (aQ rfl rfl (.cons rfl .nil) eD (PC.mono (eB (s:=x14) (id:=1) (aD:=w1_1) rfl p32) (R':=λy H'=>y=int x33/\H'=upd _ 1 (some (cK 125 w1_1 x34))) (λy H' h=>⟨h.1.trans (congrArg int e33),h.2.trans (dN e34)⟩))) ?_;rintro _ _ ⟨rfl,rfl⟩
  refine tr aB 1 (.mk ?_)
  refine sS ⟨30,9,true,true,v15,[[int x13,int x33,int 0,int 0,int 0,int 0,int 0,int 0,.sc (.slice none 0 0)]]⟩ bX ?_
  refine tr aB 15 (.mk ?_)
  refine sY (aN (y:=aA false) (aS rfl rfl rfl) (congrArg aA (by decide))) ?_
  refine tr aB 4 (.mk ?_)
  obtain ⟨j35,h3,h2⟩:=dD h2
  refine bO (Out:=λy H'=>(∃ (a:Unit) (k:Unit),a=j35/\y=.pt 2 v15 0 2/\H'=hk [(1,⟨125,2,true,true,w1_1,[[str x34.1,aA x34.2]]⟩),(2,⟨30,9,true,true,v15,[[int x13,int x33,int 0,int 0,int 0,int 0,int 0,int 0,.sc (.slice none 0 0)]]⟩),(4,⟨30,9,true,true,w2_1,y2_4.map aP.av⟩)])) rfl rfl rfl (aQ rfl rfl (.cons rfl (.cons rfl .nil)) gG ?_) ?_
  refine fC (c:=_) Tryz.func37 rfl rfl ?_;intro Q hret hnorm
  refine tc aB 12 (.mk ?_)
  refine sY (aN (y:=aA false) (aS rfl rfl rfl) (congrArg aA (by decide))) ?_
  refine tr aB 5 (.mk ?_)
  refine sY (aN (y:=aA true) (aS rfl rfl rfl) (congrArg aA (by decide))) ?_
  refine tr aB 10 (.mk ?_)
  obtain rfl:=eH h3
  refine fF (hret _ _ (hk [(1,⟨125,2,true,true,w1_1,[[str x34.1,aA x34.2]]⟩),(2,⟨30,9,true,true,v15,[[int x13,int x33,int 0,int 0,int 0,int 0,int 0,int 0,.sc (.slice none 0 0)]]⟩),(4,⟨30,9,true,true,w2_1,y2_4.map aP.av⟩)]) (.tmp rfl .nil) (HK.le ⟨rfl,rfl,rfl,trivial⟩) ?_)
  exact ⟨(),(),rfl,rfl,rfl⟩
  rintro y _ ⟨_,_,rfl,hc,rfl⟩
  subst hc
  refine tr aB 1 (.mk ?_)
  obtain ⟨p36,h2⟩:=dH h2
  obtain ⟨x37,e37,h2⟩:=bJ h2
  obtain ⟨x38,e38,h2⟩:=bJ h2
  refine bO rfl rfl rfl (aQ rfl rfl (.cons rfl .nil) eD (PC.mono (eB (s:=x34) (id:=1) (aD:=w1_1) rfl p36) (R':=λy H'=>y=int x37/\H'=upd _ 1 (some (cK 125 w1_1 x38))) (λy H' h=>⟨h.1.trans (congrArg int e37),h.2.trans (dN e38)⟩))) ?_;rintro _ _ ⟨rfl,rfl⟩
  refine tr aB 1 (.mk ?_)
  refine sS ⟨30,9,true,true,v15,[[int x13,int x33,int x37,int 0,int 0,int 0,int 0,int 0,.sc (.slice none 0 0)]]⟩ bX ?_
  refine tr aB 15 (.mk ?_)
  refine sY (aN (y:=aA false) (aS rfl rfl rfl) (congrArg aA (by decide))) ?_
  refine tr aB 4 (.mk ?_)
  obtain ⟨j39,h3,h2⟩:=dD h2
  refine bO (Out:=λy H'=>(∃ (a:Unit) (k:Unit),a=j39/\y=.pt 2 v15 0 3/\H'=hk [(1,⟨125,2,true,true,w1_1,[[str x38.1,aA x38.2]]⟩),(2,⟨30,9,true,true,v15,[[int x13,int x33,int x37,int 0,int 0,int 0,int 0,int 0,.sc (.slice none 0 0)]]⟩),(4,⟨30,9,true,true,w2_1,y2_4.map aP.av⟩)])) rfl rfl rfl (aQ rfl rfl (.cons rfl (.cons rfl .nil)) gG ?_) ?_
  refine fC (c:=_) Tryz.func37 rfl rfl ?_;intro Q hret hnorm
  refine tc aB 12 (.mk ?_)
  refine sY (aN (y:=aA false) (aS rfl rfl rfl) (congrArg aA (by decide))) ?_
  refine tr aB 5 (.mk ?_)
  refine sY (aN (y:=aA false) (aS rfl rfl rfl) (congrArg aA (by decide))) ?_
  refine tr aB 5 (.mk ?_)
  refine sY (aN (y:=aA true) (aS rfl rfl rfl) (congrArg aA (by decide))) ?_
  refine tr aB 10 (.mk ?_)
  obtain rfl:=eH h3
  refine fF (hret _ _ (hk [(1,⟨125,2,true,true,w1_1,[[str x38.1,aA x38.2]]⟩),(2,⟨30,9,true,true,v15,[[int x13,int x33,int x37,int 0,int 0,int 0,int 0,int 0,.sc (.slice none 0 0)]]⟩),(4,⟨30,9,true,true,w2_1,y2_4.map aP.av⟩)]) (.tmp rfl .nil) (HK.le ⟨rfl,rfl,rfl,trivial⟩) ?_)
  exact ⟨(),(),rfl,rfl,rfl⟩
  rintro y _ ⟨_,_,rfl,hc,rfl⟩
  subst hc
  refine tr aB 1 (.mk ?_)
  obtain ⟨p40,h2⟩:=dH h2
  obtain ⟨x41,e41,h2⟩:=bJ h2
  obtain ⟨x42,e42,h2⟩:=bJ h2
  refine bO rfl rfl rfl (aQ rfl rfl (.cons rfl .nil) eD (PC.mono (eB (s:=x38) (id:=1) (aD:=w1_1) rfl p40) (R':=λy H'=>y=int x41/\H'=upd _ 1 (some (cK 125 w1_1 x42))) (λy H' h=>⟨h.1.trans (congrArg int e41),h.2.trans (dN e42)⟩))) ?_;rintro _ _ ⟨rfl,rfl⟩
  refine tr aB 1 (.mk ?_)
  refine sS ⟨30,9,true,true,v15,[[int x13,int x33,int x37,int x41,int 0,int 0,int 0,int 0,.sc (.slice none 0 0)]]⟩ bX ?_
  refine tr aB 15 (.mk ?_)
  refine sY (aN (y:=aA false) (aS rfl rfl rfl) (congrArg aA (by decide))) ?_
  refine tr aB 4 (.mk ?_)
  obtain ⟨j43,h3,h2⟩:=dD h2
  refine bO (Out:=λy H'=>(∃ (a:Unit) (k:Unit),a=j43/\y=.pt 2 v15 0 5/\H'=hk [(1,⟨125,2,true,true,w1_1,[[str x42.1,aA x42.2]]⟩),(2,⟨30,9,true,true,v15,[[int x13,int x33,int x37,int x41,int 0,int 0,int 0,int 0,.sc (.slice none 0 0)]]⟩),(4,⟨30,9,true,true,w2_1,y2_4.map aP.av⟩)])) rfl rfl rfl (aQ rfl rfl (.cons rfl (.cons rfl .nil)) gG ?_) ?_
  refine fC (c:=_) Tryz.func37 rfl rfl ?_;intro Q hret hnorm
  refine tc aB 12 (.mk ?_)
  refine sY (aN (y:=aA false) (aS rfl rfl rfl) (congrArg aA (by decide))) ?_
  refine tr aB 5 (.mk ?_)
  refine sY (aN (y:=aA false) (aS rfl rfl rfl) (congrArg aA (by decide))) ?_
  refine tr aB 5 (.mk ?_)
  refine sY (aN (y:=aA false) (aS rfl rfl rfl) (congrArg aA (by decide))) ?_
  refine tr aB 5 (.mk ?_)
  refine sY (aN (y:=aA false) (aS rfl rfl rfl) (congrArg aA (by decide))) ?_
  refine tr aB 5 (.mk ?_)
  refine sY (aN (y:=aA true) (aS rfl rfl rfl) (congrArg aA (by decide))) ?_
  refine tr aB 10 (.mk ?_)
  obtain rfl:=eH h3
  refine fF (hret _ _ (hk [(1,⟨125,2,true,true,w1_1,[[str x42.1,aA x42.2]]⟩),(2,⟨30,9,true,true,v15,[[int x13,int x33,int x37,int x41,int 0,int 0,int 0,int 0,.sc (.slice none 0 0)]]⟩),(4,⟨30,9,true,true,w2_1,y2_4.map aP.av⟩)]) (.tmp rfl .nil) (HK.le ⟨rfl,rfl,rfl,trivial⟩) ?_)
  exact ⟨(),(),rfl,rfl,rfl⟩
  rintro y _ ⟨_,_,rfl,hc,rfl⟩
  subst hc
  refine tr aB 1 (.mk ?_)
  obtain ⟨p44,h2⟩:=dH h2
  obtain ⟨x45,e45,h2⟩:=bJ h2
  obtain ⟨x46,e46,h2⟩:=bJ h2
  refine bO rfl rfl rfl (aQ rfl rfl (.cons rfl .nil) eD (PC.mono (eB (s:=x42) (id:=1) (aD:=w1_1) rfl p44) (R':=λy H'=>y=int x45/\H'=upd _ 1 (some (cK 125 w1_1 x46))) (λy H' h=>⟨h.1.trans (congrArg int e45),h.2.trans (dN e46)⟩))) ?_;rintro _ _ ⟨rfl,rfl⟩
  refine tr aB 1 (.mk ?_)
  refine sS ⟨30,9,true,true,v15,[[int x13,int x33,int x37,int x41,int 0,int x45,int 0,int 0,.sc (.slice none 0 0)]]⟩ bX ?_
  refine tr aB 15 (.mk ?_)
  refine sY (aN (y:=aA false) (aS rfl rfl rfl) (congrArg aA (by decide))) ?_
  refine tr aB 4 (.mk ?_)
  obtain ⟨j47,h3,h2⟩:=dD h2
  refine bO (Out:=λy H'=>(∃ (a:Unit) (k:Unit),a=j47/\y=.pt 2 v15 0 6/\H'=hk [(1,⟨125,2,true,true,w1_1,[[str x46.1,aA x46.2]]⟩),(2,⟨30,9,true,true,v15,[[int x13,int x33,int x37,int x41,int 0,int x45,int 0,int 0,.sc (.slice none 0 0)]]⟩),(4,⟨30,9,true,true,w2_1,y2_4.map aP.av⟩)])) rfl rfl rfl (aQ rfl rfl (.cons rfl (.cons rfl .nil)) gG ?_) ?_
  refine fC (c:=_) Tryz.func37 rfl rfl ?_;intro Q hret hnorm
  refine tc aB 12 (.mk ?_)
  refine sY (aN (y:=aA false) (aS rfl rfl rfl) (congrArg aA (by decide))) ?_
  refine tr aB 5 (.mk ?_)
  refine sY (aN (y:=aA false) (aS rfl rfl rfl) (congrArg aA (by decide))) ?_
  refine tr aB 5 (.mk ?_)
  refine sY (aN (y:=aA false) (aS rfl rfl rfl) (congrArg aA (by decide))) ?_
  refine tr aB 5 (.mk ?_)
  refine sY (aN (y:=aA false) (aS rfl rfl rfl) (congrArg aA (by decide))) ?_
  refine tr aB 5 (.mk ?_)
  refine sY (aN (y:=aA false) (aS rfl rfl rfl) (congrArg aA (by decide))) ?_
  refine tr aB 5 (.mk ?_)
  refine sY (aN (y:=aA true) (aS rfl rfl rfl) (congrArg aA (by decide))) ?_
  refine tr aB 10 (.mk ?_)
  obtain rfl:=eH h3
  refine fF (hret _ _ (hk [(1,⟨125,2,true,true,w1_1,[[str x46.1,aA x46.2]]⟩),(2,⟨30,9,true,true,v15,[[int x13,int x33,int x37,int x41,int 0,int x45,int 0,int 0,.sc (.slice none 0 0)]]⟩),(4,⟨30,9,true,true,w2_1,y2_4.map aP.av⟩)]) (.tmp rfl .nil) (HK.le ⟨rfl,rfl,rfl,trivial⟩) ?_)
  exact ⟨(),(),rfl,rfl,rfl⟩
  rintro y _ ⟨_,_,rfl,hc,rfl⟩
  subst hc
  refine tr aB 1 (.mk ?_)
  obtain ⟨p48,h2⟩:=dH h2
  obtain ⟨x49,e49,h2⟩:=bJ h2
  obtain ⟨x50,e50,h2⟩:=bJ h2
  refine bO rfl rfl rfl (aQ rfl rfl (.cons rfl .nil) eD (PC.mono (eB (s:=x46) (id:=1) (aD:=w1_1) rfl p48) (R':=λy H'=>y=int x49/\H'=upd _ 1 (some (cK 125 w1_1 x50))) (λy H' h=>⟨h.1.trans (congrArg int e49),h.2.trans (dN e50)⟩))) ?_;rintro _ _ ⟨rfl,rfl⟩
  refine tr aB 1 (.mk ?_)
  refine sS ⟨30,9,true,true,v15,[[int x13,int x33,int x37,int x41,int 0,int x45,int x49,int 0,.sc (.slice none 0 0)]]⟩ bX ?_
  refine tr aB 8 (.mk ?_)
  refine jn h2 [2,3,4,5,6,15,16] [1,2,4] (λ(a:Bool) (k:Unit)=>[(45,aA a)]) (λa k=>[]) ⟨λj51 h3=>?_,?_⟩
  refine tc aB 2 (.mk ?_)
  refine sY (kL rfl rfl (.cons rfl .nil) lD (lH (s:=x50) (id:=1) (aD:=w1_1) rfl) (.sc _)) ?_
  refine tr aB 1 (.mk ?_)
  obtain ⟨x52,e52,h3⟩:=bJ h3
  refine iN 40 (aA x52) rfl (congrArg aA e52) ?_
  refine iN 41 (aA x52) rfl (congrArg aA e52) ?_
  cases x52
  replace h3:=cf h3
  refine tr aB 1 (.mk ?_)
  obtain ⟨x53,e53,h3⟩:=dD h3
  refine sY (iO rfl rfl (.cons rfl .nil) lM (.cons (cO.agg (.cons (.refl _) (.cons (.refl _) (.cons (.refl _) (.cons (.refl _) (.cons (.refl _) (.cons (.refl _) (.cons (.refl _) (.cons (.refl _) (.cons (.nil _) .nil)))))))))) .nil) (lK e53)) ?_
  refine nb aB h3 λx54 h3=>?_
  refine tr aB 2 (.mk ?_)
  exact lf h3 () dW
  replace h3:=ct h3
  refine tr aB 5 (.mk ?_)
  exact lf h3 () dW
  rintro y5_1 _ h2
  replace h2:=dH h2
  obtain ⟨rfl,h2⟩:=h2
  refine tc aB 5 (.mk ?_)
  refine sY (dY (ps:=[(0,_)]) (rows:=[[int x13,int x33,int x37,int x41,int 0,int x45,int x49,int 0,.sc (.slice none 0 0)]]) rfl Tryz.underlying31 iU (.cons rfl .nil) (by kernel_rfl) rfl rfl rfl) ?_
  obtain ⟨x55,e55,h2⟩:=bJ h2
  obtain ⟨p56,h2⟩:=dH h2
  refine bO rfl rfl rfl (iP (g:=aP.av) (l:=y2_4) (m:=[(⟨x13,x33,x37,x41,0,x45,x49,0,[]⟩:aP)]) .any rfl Tryz.underlying31 iU mV rfl rfl rfl rfl rfl rfl rfl rfl rfl rfl (Eq.symm rfl) (gN.list (.cons (.cons (.refl _) (.cons (.refl _) (.cons (.refl _) (.cons (.refl _) (.cons (.refl _) (.cons (.refl _) (.cons (.refl _) (.cons (.refl _) (.cons (.nil _) .nil))))))))) .nil)) (λ_=>rfl) e55 p56) ?_;rintro _ _ ⟨v57,-,rfl,rfl⟩
  refine tr aB 3 (.mk ?_)
  exact lf h2 v57 dW
  rintro ⟨y6_2,y6_3⟩ w6_1 h1
  replace h1:=oU h1
  refine tc aB 1 (.mk ?_)
  refine ni aB h1 λx58 h1=>?_
  refine tr aB 2 (.mk ?_)
  exact bk (x58,y6_2,y6_3) w6_1 h1 dW
  rintro ⟨y7_2,y7_3⟩ w7_1 h0
  replace h0:=oU h0
  refine tc aB 2 (.mk ?_)
  refine jn h0 [2,3,5] [4] (λ(a:Bool) (k:Unit)=>[(57,aA a)]) (λa k=>[]) ⟨λj59 h1=>?_,?_⟩
  refine tc aB 2 (.mk ?_)
  refine sY (kL rfl rfl (.cons rfl .nil) lD (lH (s:=((y7_2.s,y7_2.bad):RS)) (id:=1) (aD:=w1_1) rfl) (.sc _)) ?_
  refine tr aB 1 (.mk ?_)
  obtain ⟨x60,e60,h1⟩:=bJ h1
  refine iN 52 (aA x60) rfl (congrArg aA e60) ?_
  refine iN 53 (aA x60) rfl (congrArg aA e60) ?_
  cases x60
  replace h1:=cf h1
  refine tr aB 1 (.mk ?_)
  refine sY (kL rfl rfl (.cons rfl .nil) GK (J8 (s:=((y7_2.s,y7_2.bad):RS)) (id:=1) (aD:=w1_1) rfl) (.sc _)) ?_
  refine nb aB h1 λx61 h1=>?_
  refine tr aB 2 (.mk ?_)
  exact lf h1 () dW
  replace h1:=ct h1
  refine tr aB 5 (.mk ?_)
  exact lf h1 () dW
  rintro y8_1 _ h0
  cases y8_1
  replace h0:=cf h0
  refine tc aB 8 (.mk ?_)
  obtain rfl:=eH h0
  refine wR hret (rT (rT .nil)) ?_
  exact cO.aM (.cons (gB rfl rfl rfl rfl rfl (Eq.symm rfl)) (.cons (.refl _) .nil))
  replace h0:=ct h0
  refine tc aB 6 (.mk ?_)
  obtain rfl:=eH h0
  refine wR hret (rT (rT .nil)) ?_
  exact cO.aM (.cons (.nil _) (.cons (.refl _) .nil))
  replace h0:=ct h0
  refine tc aB 6 (.mk ?_)
  obtain rfl:=eH h0
  refine wR hret (rT (rT .nil)) ?_
  exact cO.aM (.cons (.nil _) (.cons (.refl _) .nil))
def WL (n:Nat) (a1:List (List Int)):WB ((List (List Int))) :=
 .ln 7 (fL 1 fI) a1<|.jn 0 [2] [] [3] (λu2 (a:(List (List Int)))=>[(3,.sl 3 (u2 3) 0 a.length)]) (λ_ a=>[.nw 3 23 1 (a.map (fL 1 fI))]) (.no 3 3 23 1<|.lp [2,6,7] [] [3] (λu3 (a:Int×(List (List Int)))=>[(3,.sl 3 (u3 3) 0 a.2.length),(8,int a.1)]) (λ_ a=>[.nw 3 23 1 (a.2.map (fL 1 fI))]) n ((0:Int),(([]:List (List Int)):List (List Int))) (pw λy0_2 y0_3=>.bB 9 (decide (y0_2<(a1.length:Int))) λx3=>.ifs [9] x3 (.ix 10 (fL 1 fI) a1 y0_2 λx4=>.as (x4.length<=68719476736) inferInstance<|.ge 14 1<|.gv 15<|.bl (y0_3++[x4]:List (List Int)) λx7=>.as (x7.length<=68719476736) inferInstance<|.ge 16 0<|.bI 17 (bL (y0_2+1)) λx10=>.brk ((x10:Int),(x7:List (List Int)))) (.esc (.ret (y0_3:List (List Int)))))) (λy1_2=>.ret ((y1_2:List (List Int))))
def F3 (n:Nat) (a1:List (List Int)):Option ((List (List Int))):=(WL n a1).run
theorem M4 {n a1}:PZ (F3 n a1) 69 [aG 1 (fL 1 fI) a1] (λr=>aG 1 (fL 1 fI) r):=by
 refine wm Tryz.func69 ?_
 refine .mk ?_
 refine .mk ?_ ?_
 intro v2
 refine .mk ?_
 rintro ⟨y0_2,y0_3⟩ _
 refine .mk λx3=>?_
 refine .mk ?_ ?_
 refine .mk λx4 e4=>?_
 refine .mk λp5=>?_
 refine .mk _ ⟨λ_=>aQ rfl rfl (.cons rfl .nil) BR (nU (CE.pc (id:=1) (l:=x4) rfl p5) (.cons (.refl _) .nil)),λ_ _ _=>trivial⟩ ?_
 rintro _ _ ⟨v6,rfl,rfl⟩
 refine .mk _ (aF (dY (ps:=[(0,_)]) (rows:=[[.sl 1 v6 0 x4.length]]) rfl Tryz.underlying24 pP (.cons rfl .nil) (by kernel_rfl) rfl rfl rfl)) ?_
 refine .mk λx7 e7=>?_
 refine .mk λp8=>?_
 refine .mk _ ⟨λ_=>bW.jJ 1 rfl (iP (g:=(fL 1 fI)) (l:=y0_3) (m:=[x4]) .any rfl Tryz.underlying24 pP uO rfl rfl rfl rfl rfl rfl rfl rfl rfl rfl (Eq.symm rfl) (gN.list (.cons (.cons (gB rfl rfl rfl rfl rfl (Eq.symm rfl)) .nil) .nil)) (λ_=>rfl) e7 p8),λ_ _ _=>trivial⟩ ?_
 rintro _ _ ⟨v9,-,rfl,rfl⟩
 refine .mk λx10=>?_
 exact .mk
 exact .mk
 intro _ _
 exact .mk (gB rfl rfl rfl rfl rfl (Eq.symm rfl))
def aJ8 (n:Nat) (a1:dB):WB (bF×Int) :=
 .al 1<|.al 2<|.cl 9 (zT n a1) AP DL λx4=>.bB 10 (!x4) λx5=>.az [10] x5 (.dr [(0,[1]),(1,[1]),(3,[1]),(4,[1]),(6,[1]),(7,[1]),(9,[1]),(11,[1]),(13,[1])] [(10,[]),(12,[]),(14,[])] [1] [2,10,12,14] [0,1,3,4,6,7,2,5,8,9,10,11,12,13,14] (.as (a1.bC.length<=68719476736) inferInstance<|.ge 14 3<|.cl 17 (F3 n a1.Methods) OK M4 λx8=>.cl 20 (F3 n a1.iF) OK M4 λx9=>.al 4<|.jn 2 [2,3,4] [2,3] [12] (λ_ (a:(List aH))=>[]) (λu14 a=>[.kp 4 [[int a1.fT,int a1.iX,.sl 3 (u14 3) 0 a1.bC.length,aG 1 (fL 1 fI) x8,aG 1 (fL 1 fI) x9,.sl 12 (u14 12) 0 a.length,.sc (.slice none 0 0),.sc (.slice none 0 0),.sc (.slice none 0 0),int 0]],.nw 12 110 8 (a.map aH.av)]) (.nc 4 0 5 12 110 8<|.lp [2,3,4,5,30] [2,3] [12] (λ_ (a:Int×(List aH))=>[(31,int a.1)]) (λu18 a=>[.kp 4 [[int a1.fT,int a1.iX,.sl 3 (u18 3) 0 a1.bC.length,aG 1 (fL 1 fI) x8,aG 1 (fL 1 fI) x9,.sl 12 (u18 12) 0 a.2.length,.sc (.slice none 0 0),.sc (.slice none 0 0),.sc (.slice none 0 0),int 0]],.nw 12 110 8 (a.2.map aH.av)]) n ((0:Int),(([]:List aH):List aH)) (pw λy0_1 y0_3=>.bB 32 (decide (y0_1<a1.fT)) λx12=>.ifs [32] x12 (.jn 1 [2,3,4,5,30,31] [2,3] [12] (λ_ (a:(List aH))=>[]) (λu21 a=>[.kp 4 [[int a1.fT,int a1.iX,.sl 3 (u21 3) 0 a1.bC.length,aG 1 (fL 1 fI) x8,aG 1 (fL 1 fI) x9,.sl 12 (u21 12) 0 a.length,.sc (.slice none 0 0),.sc (.slice none 0 0),.sc (.slice none 0 0),int 0]],.nw 12 110 8 (a.map aH.av)]) (.dg [(12,[10])] [(2,5),(3,6),(5,7),(7,8),(9,9),(11,10),(12,10)] (.bI 34 (bL ((a1.bC.length:Int)*2)) λx13=>.as ((0:Int)<=x13/\x13<=1048576) inferInstance<|.bl (List.replicate (Int.toNat x13) ((⟨[],(⟨0,0,0⟩:jN)⟩:aT):aT):List aT) λx15=>.ms 35 5 aT.av ((⟨[],(⟨0,0,0⟩:jN)⟩:aT):aT) x13 x15<|.as ((0:Int)<=17/\(17:Int)<=1048576) inferInstance<|.bl (List.replicate (Int.toNat 17) 0:List Int) λx18=>.ms 36 6 fI 0 17 x18<|.as ((0:Int)<=(a1.bC.length:Int)/\((a1.bC.length:Int):Int)<=1048576) inferInstance<|.bl (List.replicate (Int.toNat (a1.bC.length:Int)) ((⟨0,0,0,0,0,0,0,0,0,0,0⟩:bA):bA):List bA) λx21=>.ms 38 7 bA.av ((⟨0,0,0,0,0,0,0,0,0,0,0⟩:bA):bA) (a1.bC.length:Int) x21<|.as ((0:Int)<=(a1.bC.length:Int)/\((a1.bC.length:Int):Int)<=1048576) inferInstance<|.bl (List.replicate (Int.toNat (a1.bC.length:Int)) 0:List Int) λx24=>.ms 40 8 fI 0 (a1.bC.length:Int) x24<|.as ((0:Int)<=(a1.bC.length:Int)/\((a1.bC.length:Int):Int)<=1048576) inferInstance<|.bl (List.replicate (Int.toNat (a1.bC.length:Int)) 0:List Int) λx27=>.ms 42 9 fI 0 (a1.bC.length:Int) x27<|.al 10<|.jn 1 [2,3,4,5,6,30,31] [2,3,4,5,6,7,9,12] [] (λ_ (a:(List Int))=>[]) (λu23 a=>[.kp 8 (a.map fI),.kp 10 [[int 1,aA false,.sl 5 (u23 5) 0 (Int.toNat x13),.sl 6 (u23 6) 0 (Int.toNat 17),.sl 7 (u23 7) 0 (Int.toNat (a1.bC.length:Int)),.sl 8 (u23 8) 0 a.length,.sl 9 (u23 9) 0 (Int.toNat (a1.bC.length:Int)),.sc (.slice none 0 0)]]]) (.lp [2,3,4,5,6,30,31,46] [2,3,4,5,6,7,9,12] [] (λ_ (a:Int×(List Int))=>[(47,int a.1)]) (λu24 a=>[.kp 8 (a.2.map fI),.kp 10 [[int 1,aA false,.sl 5 (u24 5) 0 (Int.toNat x13),.sl 6 (u24 6) 0 (Int.toNat 17),.sl 7 (u24 7) 0 (Int.toNat (a1.bC.length:Int)),.sl 8 (u24 8) 0 a.2.length,.sl 9 (u24 9) 0 (Int.toNat (a1.bC.length:Int)),.sc (.slice none 0 0)]]]) n ((0:Int),x24) (pw λy1_1 y1_2=>.bB 48 (decide (y1_1<((Int.toNat (a1.bC.length:Int)):Int))) λx30=>.ifs [48] x30 (.bo (ix y1_2 y1_1) λx31=>.gv 53<|.bl (y1_2.set (Int.toNat y1_1) (-1):List Int) λx32=>.ge 1012004 0<|.bI 54 (bL (y1_1+1)) λx33=>.brk ((x33:Int),x32)) (.esc (.ret y1_2)))) (λy2_1=>.gv 58<|.bl (y0_3++[(⟨1,false,x15,x18,x21,y2_1,x27,[]⟩:aH)]:List aH) λx34=>.as (x34.length<=68719476736) inferInstance<|.ge 59 0<|.ret x34))) (λy3_2=>.bI 61 (bL (y0_1+1)) λx37=>.brk ((x37:Int),y3_2))) (.esc (.ret y0_3)))) (λy4_2=>.ret (((⟨(⟨a1.fT,a1.iX,a1.bC,x8,x9⟩:dB),y4_2,[],[],[],0⟩:bF):bF),0))))
def M3 (n:Nat) (a1:dB):Option (bF×Int):=(aJ8 n a1).run
theorem aHL {n a1}:PZ (M3 n a1) 39 [.agg (dB.av a1)] (λr=>.aM [.agg (bF.av r.1),int r.2]):=by
 refine wm Tryz.func39 ?_
 intro v2
 intro v3
 refine .mk λx4 e4=>?_
 refine .mk λx5=>?_
 refine .mk ?_
 refine .mk ?_
 refine .mk λp6=>?_
 refine .mk _ ⟨λ_=>aQ rfl rfl (.cons rfl .nil) BR (nU (CE.pc (id:=3) (l:=a1.bC) rfl p6) (.cons (.refl _) .nil)),by rintro _ _ ⟨v7,rfl,rfl⟩;exact ⟨rfl,trivial⟩⟩ ?_
 rintro _ _ ⟨v7,rfl,rfl⟩
 refine .mk λx8 e8=>?_
 refine .mk λx9 e9=>?_
 intro v10
 refine .mk ?_ ?_
 intro v11
 refine .mk ?_
 rintro ⟨y0_1,y0_3⟩ _
 refine .mk λx12=>?_
 refine .mk ?_ ?_
 refine .mk ?_ ?_
 refine .mk ?_
 intro C6
 refine .mk λx13=>?_
 refine .mk λp14=>?_
 refine .mk λx15 e15=>?_
 have lx15:x15.length=(Int.toNat x13):=by rw [<- e15];exact List.length_replicate
 refine .mk ?_
 conv=>whnf
 refine .mk (by repeat (first | exact ZL.nil | refine ZL.cons ?_ ?_ | exact .sc _ | exact .nil _)) ⟨by assumption,by assumption⟩ ?_
 refine .mk λp17=>?_
 refine .mk λx18 e18=>?_
 have lx18:x18.length=(Int.toNat 17):=by rw [<- e18];exact List.length_replicate
 refine .mk ?_
 conv=>whnf
 refine .mk (by repeat (first | exact ZL.nil | refine ZL.cons ?_ ?_ | exact .sc _ | exact .nil _)) ⟨by assumption,by assumption⟩ ?_
 refine .mk λp20=>?_
 refine .mk λx21 e21=>?_
 have lx21:x21.length=(Int.toNat (a1.bC.length:Int)):=by rw [<- e21];exact List.length_replicate
 refine .mk ?_
 conv=>whnf
 refine .mk (by repeat (first | exact ZL.nil | refine ZL.cons ?_ ?_ | exact .sc _ | exact .nil _)) ⟨by assumption,by assumption⟩ ?_
 refine .mk λp23=>?_
 refine .mk λx24 e24=>?_
 have lx24:x24.length=(Int.toNat (a1.bC.length:Int)):=by rw [<- e24];exact List.length_replicate
 refine .mk ?_
 conv=>whnf
 refine .mk (by repeat (first | exact ZL.nil | refine ZL.cons ?_ ?_ | exact .sc _ | exact .nil _)) ⟨by assumption,by assumption⟩ ?_
 refine .mk λp26=>?_
 refine .mk λx27 e27=>?_
 have lx27:x27.length=(Int.toNat (a1.bC.length:Int)):=by rw [<- e27];exact List.length_replicate
 refine .mk ?_
 conv=>whnf
 refine .mk (by repeat (first | exact ZL.nil | refine ZL.cons ?_ ?_ | exact .sc _ | exact .nil _)) ⟨by assumption,by assumption⟩ ?_
 refine .mk ?_ ?_
 refine .mk ?_ ⟨⟨⟨_,rfl,(.refl _)⟩,⟨_,rfl,(.refl _)⟩,⟨_,rfl,(.refl _)⟩,⟨_,rfl,(.refl _)⟩,⟨_,rfl,(.refl _)⟩,⟨_,rfl,(.refl _)⟩,⟨_,rfl,(.refl _)⟩,⟨_,rfl,(.refl _)⟩,⟨_,rfl,(.refl _)⟩,trivial⟩,⟨⟨_,rfl,(.refl _)⟩,⟨_,rfl,⟨rfl,(.cons (.cons (.refl _) (.cons (.refl _) (.cons (.refl _) (.cons (.refl _) (.cons (.refl _) (.cons (nL (Eq.symm lx24)) (.cons (.refl _) (.cons (.refl _) .nil)))))))) .nil)⟩⟩,⟨_,rfl,(.refl _)⟩,⟨_,rfl,(.refl _)⟩,⟨_,rfl,(.refl _)⟩,⟨_,rfl,(.refl _)⟩,⟨_,rfl,(.refl _)⟩,⟨_,rfl,(.refl _)⟩,⟨_,rfl,(.refl _)⟩,⟨_,rfl,(.refl _)⟩,trivial⟩⟩
 rintro ⟨y1_1,y1_2⟩ _
 refine .mk λx30=>?_
 refine .mk ?_ ?_
 refine .mk λx31 e31=>?_
 refine .mk _ (aF (iY rfl Tryz.underlying23 bX rfl rfl rfl rfl rfl (Eq.symm rfl) (List.length_map _) e31)) ?_
 refine .mk λx32 e32=>?_
 have fx32:=gT e31 e32;have lx32:=gQ e32 (rfl:y1_2.length=y1_2.length)
 refine .mk _ ⟨λ_=>bW.d9 (fH (ob':=(⟨3,1,true,true,_,x32.map fI⟩:aW)) (dZ rfl bX rfl rfl rfl rfl rfl (bZ e31) rfl rfl rfl) (fQ (iE e32))) (λ_ h=>h) (λ_ _=>trivial),λ_ _ _=>trivial⟩ ?_
 rintro _ _ ⟨rfl,rfl⟩
 refine .mk λx33=>?_
 exact .mk ⟨⟨⟨_,rfl,(.refl _)⟩,⟨_,rfl,(.refl _)⟩,⟨_,rfl,(.refl _)⟩,⟨_,rfl,(.refl _)⟩,⟨_,rfl,(.refl _)⟩,⟨_,rfl,(.refl _)⟩,⟨_,rfl,(.refl _)⟩,⟨_,rfl,(.refl _)⟩,⟨_,rfl,(.refl _)⟩,trivial⟩,⟨⟨_,rfl,(.refl _)⟩,⟨_,rfl,⟨rfl,(.cons (.cons (.refl _) (.cons (.refl _) (.cons (.refl _) (.cons (.refl _) (.cons (.refl _) (.cons (nL (Eq.symm lx32)) (.cons (.refl _) (.cons (.refl _) .nil)))))))) .nil)⟩⟩,⟨_,rfl,(.refl _)⟩,⟨_,rfl,(.refl _)⟩,⟨_,rfl,(.refl _)⟩,⟨_,rfl,(.refl _)⟩,⟨_,rfl,(.refl _)⟩,⟨_,rfl,(.refl _)⟩,⟨_,rfl,(.refl _)⟩,⟨_,rfl,(.refl _)⟩,trivial⟩⟩
 exact .mk
 intro y2_1 _
 refine .mk _ (aF (dY (ps:=[(0,_)]) (rows:=[[int 1,aA false,.sl 5 (C6+2) 0 (Int.toNat x13),.sl 6 (C6+3) 0 (Int.toNat 17),.sl 7 (C6+5) 0 (Int.toNat (a1.bC.length:Int)),.sl 8 (C6+7) 0 y2_1.length,.sl 9 (C6+9) 0 (Int.toNat (a1.bC.length:Int)),.sc (.slice none 0 0)]]) rfl Tryz.underlying55 wK (.cons rfl .nil) (by kernel_rfl) rfl rfl rfl)) ?_
 refine .mk λx34 e34=>?_
 refine .mk λp35=>?_
 refine .mk _ ⟨λ_=>bW.jJ 5 rfl (bW.jJ 6 rfl (bW.jJ 7 rfl (bW.jJ 8 rfl (bW.jJ 9 rfl (iP (g:=aH.av) (l:=y0_3) (m:=[(⟨1,false,x15,x18,x21,y2_1,x27,[]⟩:aH)]) .any rfl Tryz.underlying55 wK BL rfl rfl rfl rfl rfl rfl rfl rfl rfl rfl (Eq.symm rfl) (gN.list (ys:=[aH.av (⟨1,false,x15,x18,x21,y2_1,x27,[]⟩:aH)]) (.cons (rG (.cons (.refl _) (.cons (.refl _) (.cons (gB rfl rfl rfl rfl rfl (Eq.symm lx15)) (.cons (gB rfl rfl rfl rfl rfl (Eq.symm lx18)) (.cons (gB rfl rfl rfl rfl rfl (Eq.symm lx21)) (.cons (gB rfl rfl rfl rfl rfl (Eq.symm rfl)) (.cons (gB rfl rfl rfl rfl rfl (Eq.symm lx27)) (.cons (.nil _) .nil)))))))) (aH.gI _)) .nil)) aH.one e34 p35))))),λ_ _ _=>trivial⟩ ?_
 rintro _ _ ⟨v36,-,rfl,rfl⟩
 exact .mk
 intro _ _
 refine .mk λx37=>?_
 exact .mk
 exact .mk
 intro _ _
 exact .mk (cO.aM (.cons (cO.agg (.cons (.refl _) (.cons (.refl _) (.cons (gB rfl rfl rfl rfl rfl (Eq.symm rfl)) (.cons (.refl _) (.cons (.refl _) (.cons (gB rfl rfl rfl rfl rfl (Eq.symm rfl)) (.cons (.nil _) (.cons (.nil _) (.cons (.nil _) (.cons (.refl _) .nil))))))))))) (.cons (.refl _) .nil)))
def XF (a1:bF) (a2:Int):WB (Bool) :=
 .al 1<|.jn 0 [] [] [] (λ_ (a:Bool)=>[(4,aA a)]) (λ_ _=>[]) (.bB 6 (decide (a2>=0)) λx4=>.ifs [6] x4 (.ln 11 aH.av a1.fO<|.bB 12 (decide (a2<(a1.fO.length:Int))) λx5=>.ifs [12] x5 (.ln 19 (fL 1 fI) a1.fJ.Methods<|.bB 20 (decide (a2<(a1.fJ.Methods.length:Int))) λx6=>.ret x6) (.ret false)) (.ret false)) (λy0_1=>.ret ((y0_1:Bool)))
def OY (a1:bF) (a2:Int):Option (Bool):=(XF a1 a2).run
theorem aKT {a1 a2}:PZ (OY a1 a2) 129 [.agg (bF.av a1),int a2] aA:=wq Tryz.func129
def aDA (a1:Int):WB (Bool) :=
 .jn 1 [] [] [] (λ_ (a:Bool)=>[(2,aA a)]) (λ_ _=>[]) (.bB 4 (decide (a1>=0)) λx2=>.ifs [4] x2 (.bB 7 (decide (a1<17)) λx3=>.ret x3) (.ret false)) (λy0_1=>.ret ((y0_1:Bool)))
def E8 (a1:Int):Option (Bool):=(aDA a1).run
theorem LV {a1}:PZ (E8 a1) 140 [int a1] aA:=wq Tryz.func140
def aGQ (a1:Int):WB (Bool) :=
 .jn 1 [] [] [] (λ_ (a:Bool)=>[(2,aA a)]) (λ_ _=>[]) (.bB 4 (decide (a1>=(-288230376151711744))) λx2=>.ifs [4] x2 (.bB 7 (decide (a1<=288230376151711744)) λx3=>.ret x3) (.ret false)) (λy0_1=>.ret ((y0_1:Bool)))
def G7 (a1:Int):Option (Bool):=(aGQ a1).run
theorem P6 {a1}:PZ (G7 a1) 141 [int a1] aA:=wq Tryz.func141
def aBE (a1:dK):WB (Bool) :=
 .al 1<|.jn 0 [] [] [] (λ_ (a:Bool)=>[(2,aA a)]) (λ_ _=>[]) (.cl 5 (E8 a1.sJ) O1 LV λx3=>.bB 6 (!x3) λx4=>.ifs [6] x4 (.ret true) (.cl 10 (G7 a1.fM) QL P6 λx5=>.bB 11 (!x5) λx6=>.ret x6)) (λy0_1=>.ret ((y0_1:Bool)))
def NV (a1:dK):Option (Bool):=(aBE a1).run
theorem aA1 {a1}:PZ (NV a1) 139 [.agg (dK.av a1)] aA:=wq Tryz.func139
def WH (a1:dK):WB (Int) :=
 .al 1<|.ret ((a1.sJ:Int))
def K9 (a1:dK):Option (Int):=(WH a1).run
theorem PT {a1}:PZ (K9 a1) 144 [.agg (dK.av a1)] int:=wq Tryz.func144
def aJ0 (a1:Int):WB (Bool) :=
 .bB 5 (decide (a1≠a1)) λx2=>.ret ((x2:Bool))
def FH (a1:Int):Option (Bool):=(aJ0 a1).run
theorem VY {a1}:PZ (FH a1) 218 [int a1] aA:=wq Tryz.func218
def aBK (a1:Int) (a2:Int):WB (Int) :=
 .cl 8 (FH a1) U0 VY λx3=>.cl 10 (FH a2) U0 VY λx4=>.ifs [5,8] x3 (.ifs [10] x4 (.ret ((0:Int))) (.ret (((-1):Int)))) (.ifs [10] x4 (.ret ((1:Int))) (.bB 16 (decide (a1<a2)) λx5=>.ifs [16] x5 (.ret (((-1):Int))) (.bB 19 (decide (a1>a2)) λx6=>.ifs [19] x6 (.ret ((1:Int))) (.ret ((0:Int))))))
def Q8 (a1:Int) (a2:Int):Option (Int):=(aBK a1 a2).run
theorem aAT {a1 a2}:PZ (Q8 a1 a2) 178 [int a1,int a2] int:=wq Tryz.func178
def X7 (a1:dK):WB (Bool) :=
 .al 1<|.bB 5 (decide (a1.fM=0)) λx3=>.ret ((x3:Bool))
def E9 (a1:dK):Option (Bool):=(X7 a1).run
theorem R3 {a1}:PZ (E9 a1) 146 [.agg (dK.av a1)] aA:=wq Tryz.func146
end
end Go.Pv
