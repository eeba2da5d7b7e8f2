import Derived.Test.YtidcjedeacampaaGreatX80l
set_option linter.unusedVariables false
set_option linter.unusedSimpArgs false
namespace Go.Pv
open Go.Proofs
set_option maxRecDepth 100000
set_option maxHeartbeats 4000000
noncomputable section
mutual
def yT (a1:fM) (a2:Int) (a3:aP):Nat->Int->Option ((Unit)⊕(Bool))
  | 0,_=>none
  | n+1,y1_1 =>
    bnd (decide (y1_1<(a3.bR.length:Int))) λx20 =>
    cond x20 ((ix a1.Methods a2).bind λx21 =>
    bnd (bE (y1_1.tdiv 2)) λx22 =>
    (ix x21 x22).bind λx23 =>
    (ix a3.bR y1_1).bind λx24 =>
    (GQ n x23 x24).bind λx25 =>
    bnd (!x25) λx26 =>
    cond x26 (esc (some ((false:Bool)))) (bnd (bE (y1_1+1)) λx27 =>
    yT a1 a2 a3 n (x27:Int))) (brk ())
def xW (a1:fM) (a2:Int) (a3:aP) (a4:Bool) (x33:iX):Nat->Int->Option ((Unit)⊕((Unit)⊕((Unit)⊕(Bool))))
  | 0,_=>none
  | n+1,y4_1 =>
    bnd (decide (y4_1<11)) λx36 =>
    cond x36 (gV ((0:Int)<=y4_1/\y4_1<(11:Int))<|
    (ix ([x33.a0,x33.a1,x33.a2,x33.a3,x33.a4,x33.a5,x33.a6,x33.a7,x33.a8,x33.a9,x33.jU]:List Int) y4_1).bind λx38 =>
    (pI x38).bind λx39 =>
    bnd (!x39) λx40 =>
    cond x40 (esc (esc (esc (some ((false:Bool)))))) (bnd (bE (y4_1+1)) λx41 =>
    xW a1 a2 a3 a4 x33 n (x41:Int))) (brk ())
def w9 (a1:fM) (a2:Int) (a3:aP) (a4:Bool):Nat->Int->Option ((Unit)⊕(Bool))
  | 0,_=>none
  | n+1,y3_1 =>
    bnd (decide (y3_1<(a1.bW.length:Int))) λx30 =>
    cond x30 ((show Option ((Unit)⊕((Unit)⊕(Bool))) from
    (ix a3.dJ y3_1).bind λx32 =>
    (xC x32).bind λx33 =>
    (show Option ((Unit)⊕((Unit)⊕((Unit)⊕(Bool)))) from
    xW a1 a2 a3 a4 x33 n (0:Int)).bind <| sel <| λ_ =>
    brk ()).bind <| sel <| λ_ =>
    bnd (bE (y3_1+1)) λx45 =>
    w9 a1 a2 a3 a4 n (x45:Int)) (brk ())
def wL:Nat->fM->Int->aP->Bool->Option (Bool)
  | 0,_,_,_,_=>none
  | n+1,a1,a2,a3,a4 =>
    (show Option (Bool) from
    bnd (decide (a3.fQ<1)) λx8 =>
    cond x8 (some (true:Bool)) (bnd (decide (a3.fQ>a1.gZ)) λx9 =>
    cond x9 (some (true:Bool)) (bnd (bE ((a1.bW.length:Int)*2)) λx10 =>
    bnd (decide ((a3.bR.length:Int)≠x10)) λx11 =>
    cond x11 (some (true:Bool)) (bnd (decide ((a3.dJ.length:Int)≠(a1.bW.length:Int))) λx12 =>
    cond x12 (some (true:Bool)) ((C8 n a3.dI 17 (-288230376151711744)).bind λx13 =>
    bnd (!x13) λx14 =>
    cond x14 (some (true:Bool)) ((C8 n a3.gJ (a1.bW.length:Int) (-1)).bind λx15 =>
    bnd (!x15) λx16 =>
    cond x16 (some (true:Bool)) ((C8 n a3.Down (a1.bW.length:Int) 0).bind λx17 =>
    bnd (!x17) λx18 =>
    some (x18:Bool)))))))).bind <| λy0_1 =>
    cond y0_1 (some ((false:Bool))) ((show Option ((Unit)⊕(Bool)) from
    yT a1 a2 a3 n (0:Int)).bind <| sel <| λ_ =>
    (show Option ((Unit)⊕(Bool)) from
    w9 a1 a2 a3 a4 n (0:Int)).bind <| sel <| λ_ =>
    bnd (decide ((a3.fZ.length:Int)=0)) λx46 =>
    cond x46 (bnd (!a3.Closed) λx52 =>
    some ((x52:Bool))) ((show Option (Bool) from
    cond a4 (bnd a3.Closed λx48 =>
    cond x48 (bnd (decide ((a3.fZ.length:Int)=1)) λx49 =>
    cond x49 ((ix a3.fZ 0).bind λx50 =>
    (wL n a1 a2 x50 false).bind λx51 =>
    some (x51:Bool)) (some (false:Bool))) (some (false:Bool))) (some (false:Bool))).bind <| λy8_1 =>
    some ((y8_1:Bool))))
end
theorem aMW {n:Nat} {a1:fM} {a2:Int} {a3:aP} {a4:Bool} {r:Bool} (h0:wL n a1 a2 a3 a4=some r):PP Tryz.prog 92 [.agg (fM.av a1),int a2,.agg [int a3.fQ,aZ a3.Closed,aH 4 aS.av a3.bR,aH 1 fI a3.dI,aH 11 cB.av a3.dJ,aH 1 fI a3.gJ,aH 1 fI a3.Down,aH 8 aP.av a3.fZ],aZ a4] (λy=>y=aZ r):=by
  induction n using Nat.strongRecOn generalizing a1 a2 a3 a4 r with
  | ind n ih =>
    cases n with
    | zero=>rw [wL] at h0;cases h0
    | succ n =>
    have hN:n<n+1:=Nat.lt_succ_self n
    rw [wL] at h0
    refine oN (R0:=λy H=>Cv (lH H) y (aZ r)) ?_ (λy H hc=>⟨_,rfl,gT r,hc⟩)
    refine lN (c:=_) Tryz.func92 rfl rfl ?_;intro Q hret hnorm
    refine tc aA 2 (.mk ?_)
    refine sB 1 λv5=>?_
    refine sB 2 λv6=>?_
    refine tr aA 6 (.mk ?_)
    refine sY (kX rfl Tryz.underlying22 rfl (mF _)) ?_
    refine tr aA 4 (.mk ?_)
    refine jn h0 [1,3,4,6,8,9] [1,2] (λ(a:Bool) (k:Unit)=>[(61,aZ a)]) (λa k=>[]) ⟨λj7 h1=>?_,?_⟩
    refine tc aA 3 (.mk ?_)
    refine nb aA h1 λx8 h1=>?_
    refine tr aA 1 (.mk ?_)
    cases x8
    replace h1:=cf h1
    refine tr aA 4 (.mk ?_)
    refine nb aA h1 λx9 h1=>?_
    refine tr aA 2 (.mk ?_)
    cases x9
    replace h1:=cf h1
    refine tr aA 2 (.mk ?_)
    refine sY (kX rfl Tryz.underlying57 rfl (mF _)) ?_
    refine tr aA 1 (.mk ?_)
    refine ni aA h1 λx10 h1=>?_
    refine nb aA h1 λx11 h1=>?_
    refine tr aA 2 (.mk ?_)
    cases x11
    replace h1:=cf h1
    refine tr aA 2 (.mk ?_)
    refine sY (kX rfl Tryz.underlying58 rfl (mF _)) ?_
    refine tr aA 1 (.mk ?_)
    refine nb aA h1 λx12 h1=>?_
    refine tr aA 2 (.mk ?_)
    cases x12
    replace h1:=cf h1
    refine tr aA 2 (.mk ?_)
    obtain ⟨x13,e13,h1⟩:=fE h1
    refine sC QG (NQ e13) ?_
    refine nb aA h1 λx14 h1=>?_
    refine tr aA 2 (.mk ?_)
    cases x14
    replace h1:=cf h1
    refine tr aA 3 (.mk ?_)
    obtain ⟨x15,e15,h1⟩:=fE h1
    refine sC QG (NQ e15) ?_
    refine nb aA h1 λx16 h1=>?_
    refine tr aA 2 (.mk ?_)
    cases x16
    replace h1:=cf h1
    refine tr aA 3 (.mk ?_)
    obtain ⟨x17,e17,h1⟩:=fE h1
    refine sC QG (NQ e17) ?_
    refine nb aA h1 λx18 h1=>?_
    refine tr aA 2 (.mk ?_)
    exact lf h1 () dP
    replace h1:=ct h1
    refine tr aA 7 (.mk ?_)
    exact lf h1 () dP
    replace h1:=ct h1
    refine tr aA 14 (.mk ?_)
    exact lf h1 () dP
    replace h1:=ct h1
    refine tr aA 20 (.mk ?_)
    exact lf h1 () dP
    replace h1:=ct h1
    refine tr aA 27 (.mk ?_)
    exact lf h1 () dP
    replace h1:=ct h1
    refine tr aA 35 (.mk ?_)
    exact lf h1 () dP
    replace h1:=ct h1
    refine tr aA 42 (.mk ?_)
    exact lf h1 () dP
    rintro y0_1 _ h0
    cases y0_1
    replace h0:=cf h0
    refine tc aA 7 (.mk ?_)
    refine fH h0 [1,3,4,6,8,9] [1,2] (λ(a:Unit) (k:Unit)=>[]) (λa k=>[]) ⟨λj19 h1 h0=>?_,?_⟩
    refine tc aA 1 (.mk ?_)
    refine lp (λn (a:Int)=>yT a1 a2 a3 n a) (0:Int) () h1 [1,3,4,6,8,9] [1,2] (λ(a:Int) (k:Unit)=>[(10,int a)]) (λa k=>[]) (λ_=>rfl) ⟨dP,?_⟩
    rintro n y1_1 _ hm h1
    replace h1:yT a1 a2 a3 (n+1) y1_1=some _:=h1
    replace hN:=Nat.lt_trans (Nat.lt_of_succ_le hm) hN
    rw [yT] at h1
    refine tc aA 6 (.mk ?_)
    refine sY (kX rfl Tryz.underlying57 rfl (mF _)) ?_
    refine nb aA h1 λx20 h1=>?_
    refine tr aA 1 (.mk ?_)
    cases x20
    replace h1:=cf h1
    refine tc aA 2 (.mk ?_)
    exact oW h1 () dP
    replace h1:=ct h1
    refine tc aA 5 (.mk ?_)
    refine pR [0,1,0,7,15,0,32,127,255,0,512,0,3584,7680,16383,32767] (λi=>bif Nat.beq i 0 then ([1]) else bif Nat.beq i 1 then ([1]) else bif Nat.beq i 9 then ([2]) else bif Nat.beq i 10 then ([2]) else []) (λi=>[1,2]) (λi=>true) [0,1,2,3,4,5,6,7,8,9,10,11,12,13,14,15] mixed (by kernel_rfl) ?_;intro K hK
    refine eT rfl rfl rfl rfl (λH hH=>iC rfl J3 rfl (.pt ((hH _ (by decide)).trans rfl) rfl rfl) (.pt _ _ _ _ _)) ?_
    refine eT rfl rfl rfl rfl (λH hH=>gQ rfl zK rfl (.pt ((hH _ (by decide)).trans rfl) rfl rfl) rfl) ?_
    refine eT rfl rfl rfl rfl (λH hH=>iE rfl rfl) ?_
    obtain ⟨x21,e21,h1⟩:=fE h1
    refine eT rfl rfl rfl rfl (λH hH=>mM rfl Tryz.underlying23 lT rfl rfl e21) ?_
    refine eT rfl rfl rfl rfl (λH hH=>gQ rfl lT rfl (.pp _) rfl) ?_
    refine eT rfl rfl rfl rfl (λH hH=>iE rfl rfl) ?_
    obtain ⟨x22,e22,h1⟩:=iI h1
    refine eT rfl rfl rfl rfl (λH hH=>AL rfl rfl rfl (by decide) e22) ?_
    obtain ⟨x23,e23,h1⟩:=fE h1
    refine eT rfl rfl rfl rfl (λH hH=>mM rfl Tryz.underlying22 dM rfl rfl e23) ?_
    refine eT rfl rfl rfl rfl (λH hH=>gQ rfl dM rfl (.pp _) rfl) ?_
    refine eT rfl rfl rfl rfl (λH hH=>iC rfl uQ rfl (.pt ((hH _ (by decide)).trans rfl) rfl rfl) (.pt _ _ _ _ _)) ?_
    refine eT rfl rfl rfl rfl (λH hH=>gQ rfl uN rfl (.pt ((hH _ (by decide)).trans rfl) rfl rfl) rfl) ?_
    refine eT rfl rfl rfl rfl (λH hH=>iE rfl rfl) ?_
    obtain ⟨x24,e24,h1⟩:=fE h1
    refine eT rfl rfl rfl rfl (λH hH=>mM rfl Tryz.underlying57 gL rfl rfl e24) ?_
    refine eT rfl rfl rfl rfl (λH hH=>gQ rfl gL rfl (.pp _) rfl) ?_
    obtain ⟨x25,e25,h1⟩:=fE h1
    refine eT rfl rfl rfl rfl (λH hH=>oC rfl rfl (.cons rfl (.cons rfl .nil)) aTL (dG.refl _) (aMA e25)) ?_
    obtain ⟨x26,e26,h1⟩:=iI h1
    refine eT rfl rfl rfl rfl (λH hH=>NI rfl rfl e26) ?_
    refine oK (hK _ ?_)
    cases x26
    replace h1:=cf h1
    refine tc aA 5 (.mk ?_)
    refine ni aA h1 λx27 h1=>?_
    refine tr aA 2 (.mk ?_)
    exact bk x27 () h1 dP
    replace h1:=ct h1
    refine tc aA 5 (.mk ?_)
    obtain ⟨c28,hX,hj⟩:=oG h1;subst hj;replace h0:=hX.trans (nZ h0)
    obtain rfl:=fV h0
    refine wR hret (rT .nil) ?_
    exact .refl _
    rintro _ _ h0
    refine tc aA 5 (.mk ?_)
    refine fH h0 [1,3,4,6,8] [1,2] (λ(a:Unit) (k:Unit)=>[]) (λa k=>[]) ⟨λj29 h1 h0=>?_,?_⟩
    refine tc aA 1 (.mk ?_)
    refine lp (λn (a:Int)=>w9 a1 a2 a3 a4 n a) (0:Int) () h1 [1,3,4,6,8,9] [1,2] (λ(a:Int) (k:Unit)=>[(11,int a)]) (λa k=>[]) (λ_=>rfl) ⟨dP,?_⟩
    rintro n y3_1 _ hm h1
    replace h1:w9 a1 a2 a3 a4 (n+1) y3_1=some _:=h1
    replace hN:=Nat.lt_trans (Nat.lt_of_succ_le hm) hN
    rw [w9] at h1
    refine tc aA 5 (.mk ?_)
    refine nb aA h1 λx30 h1=>?_
    refine tr aA 1 (.mk ?_)
    cases x30
    replace h1:=cf h1
    refine tc aA 2 (.mk ?_)
    exact oW h1 () dP
    replace h1:=ct h1
    refine tc aA 3 (.mk ?_)
    refine fH h1 [1,3,4,6,8,9,11] [1,2] (λ(a:Unit) (k:Unit)=>[]) (λa k=>[]) ⟨λj31 h2 h1=>?_,?_⟩
    refine tc aA 6 (.mk ?_)
    obtain ⟨x32,e32,h2⟩:=fE h2
    refine sY (mM rfl Tryz.underlying58 rM rfl rfl e32) ?_
    refine tr aA 1 (.mk ?_)
    obtain ⟨x33,e33,h2⟩:=fE h2
    refine sC GI (EM e33) ?_
    refine sA 3 z127 λv34=>?_
    refine LH rfl rfl (iP (ob':=(⟨127,11,true,true,v34,[[int x33.a0,int x33.a1,int x33.a2,int x33.a3,int x33.a4,int x33.a5,int x33.a6,int x33.a7,int x33.a8,int x33.a9,int x33.jU]]⟩:cO)) (iL rfl K4 rfl rfl rfl rfl rfl rfl rfl rfl rfl) rfl) ?_
    refine tr aA 5 (.mk ?_)
    refine fH h2 [1,3,4,6,8,9,11] [1,2] (λ(a:Unit) (k:Unit)=>[]) (λa k=>[]) ⟨λj35 h3 h2=>?_,?_⟩
    refine tc aA 1 (.mk ?_)
    refine lp (λn (a:Int)=>xW a1 a2 a3 a4 x33 n a) (0:Int) () h3 [1,3,4,6,8,9,11,12] [1,2] (λ(a:Int) (k:Unit)=>[(13,int a)]) (λa k=>[(3,⟨127,11,true,true,v34,[([x33.a0,x33.a1,x33.a2,x33.a3,x33.a4,x33.a5,x33.a6,x33.a7,x33.a8,x33.a9,x33.jU]:List Int).map int]⟩)]) (λ_=>rfl) ⟨dP,?_⟩
    rintro n y4_1 _ hm h3
    replace h3:xW a1 a2 a3 a4 x33 (n+1) y4_1=some _:=h3
    replace hN:=Nat.lt_trans (Nat.lt_of_succ_le hm) hN
    rw [xW] at h3
    refine tc aA 4 (.mk ?_)
    refine nb aA h3 λx36 h3=>?_
    refine tr aA 1 (.mk ?_)
    cases x36
    replace h3:=cf h3
    refine tc aA 2 (.mk ?_)
    exact oW h3 () dP
    replace h3:=ct h3
    refine tc aA 7 (.mk ?_)
    obtain ⟨p37,h3⟩:=iR h3
    obtain ⟨x38,e38,h3⟩:=fE h3
    refine sY (xB rfl Tryz.underlying127 dM rfl rfl rfl rfl rfl p37) ?_
    refine sY (AI rfl dM rfl rfl rfl rfl e38) ?_
    obtain ⟨x39,e39,h3⟩:=fE h3
    refine sC tO (sJ e39) ?_
    refine nb aA h3 λx40 h3=>?_
    refine tr aA 1 (.mk ?_)
    cases x40
    replace h3:=cf h3
    refine tc aA 5 (.mk ?_)
    refine ni aA h3 λx41 h3=>?_
    refine tr aA 2 (.mk ?_)
    exact bk x41 () h3 dP
    replace h3:=ct h3
    refine tc aA 5 (.mk ?_)
    obtain ⟨c42,hX,hj⟩:=oG h3;subst hj;replace h2:=hX.trans (nZ h2)
    obtain ⟨c43,hX,hj⟩:=oG h2;subst hj;replace h1:=hX.trans (nZ h1)
    obtain ⟨c44,hX,hj⟩:=oG h1;subst hj;replace h0:=hX.trans (nZ h0)
    obtain rfl:=fV h0
    refine wR hret (rT .nil) ?_
    exact .refl _
    rintro _ _ h2
    refine tc aA 1 (.mk ?_)
    exact oW h2 () dP
    rintro _ _ h1
    refine tc aA 2 (.mk ?_)
    refine ni aA h1 λx45 h1=>?_
    refine tr aA 2 (.mk ?_)
    exact bk x45 () h1 dP
    rintro _ _ h0
    refine tc aA 5 (.mk ?_)
    refine sY (kX rfl Tryz.underlying27 rfl (mF _)) ?_
    refine nb aA h0 λx46 h0=>?_
    refine tr aA 1 (.mk ?_)
    cases x46
    replace h0:=cf h0
    refine tc aA 3 (.mk ?_)
    refine jn h0 [] [] (λ(a:Bool) (k:Unit)=>[(8,aZ a)]) (λa k=>[]) ⟨λj47 h1=>?_,?_⟩
    refine pR [0,1,3,7,15,31,63,127,255,511,1023,2047,4095,4095,4095,20479,53247,118783,262143,524287,1048575] (λi=>bif Nat.beq i 2 then ([2]) else bif Nat.beq i 3 then ([2]) else bif Nat.beq i 6 then ([2]) else bif Nat.beq i 7 then ([2]) else bif Nat.beq i 12 then ([1]) else bif Nat.beq i 14 then ([2]) else bif Nat.beq i 15 then ([2]) else []) (λi=>[1,2]) (λi=>true) [0,1,2,3,4,5,6,7,8,9,10,11,12,13,14,15,16,17,18,19,20] mixed (by kernel_rfl) ?_;intro K hK
    refine eT rfl rfl rfl rfl (λH hH=>iE rfl rfl) ?_
    refine eT rfl rfl rfl rfl (λH hH=>iE rfl rfl) ?_
    cases a4
    replace h1:=cf h1
    refine jY rfl rfl rfl ?_
    refine jY rfl rfl rfl ?_
    refine eT rfl rfl rfl rfl (λH hH=>tL rfl rfl (λ_=>rfl) (λ_=>rfl) rfl) ?_
    refine eT rfl rfl rfl rfl (λH hH=>iE rfl rfl) ?_
    refine jY rfl rfl rfl ?_
    refine jY rfl rfl rfl ?_
    refine jY rfl rfl rfl ?_
    refine jY rfl rfl rfl ?_
    refine eT rfl rfl rfl rfl (λH hH=>tL rfl rfl (λ_=>rfl) (λ_=>rfl) rfl) ?_
    refine eT rfl rfl rfl rfl (λH hH=>iE rfl rfl) ?_
    refine jY rfl rfl rfl ?_
    refine jY rfl rfl rfl ?_
    refine jY rfl rfl rfl ?_
    refine jY rfl rfl rfl ?_
    refine jY rfl rfl rfl ?_
    refine jY rfl rfl rfl ?_
    refine jY rfl rfl rfl ?_
    refine eT rfl rfl rfl rfl (λH hH=>tL rfl rfl (λ_=>rfl) (λ_=>rfl) rfl) ?_
    refine eT rfl rfl rfl rfl (λH hH=>kK rfl rfl) ?_
    refine oK (hK _ ?_)
    exact lf h1 () dP
    replace h1:=ct h1
    refine eT rfl rfl rfl rfl (λH hH=>iC rfl aAA rfl (.pt ((hH _ (by decide)).trans rfl) rfl rfl) (.pt _ _ _ _ _)) ?_
    refine eT rfl rfl rfl rfl (λH hH=>gQ rfl O8 rfl (.pt ((hH _ (by decide)).trans rfl) rfl rfl) rfl) ?_
    refine eT rfl rfl rfl rfl (λH hH=>tL rfl rfl (λ_=>rfl) (λ_=>rfl) rfl) ?_
    obtain ⟨x48,e48,h1⟩:=iI h1
    refine eT rfl rfl rfl rfl (λH hH=>fT (y:=aZ x48) (iE rfl rfl) (congrArg aZ e48)) ?_
    cases x48
    replace h1:=cf h1
    refine jY rfl rfl rfl ?_
    refine jY rfl rfl rfl ?_
    refine jY rfl rfl rfl ?_
    refine jY rfl rfl rfl ?_
    refine eT rfl rfl rfl rfl (λH hH=>tL rfl rfl (λ_=>rfl) (λ_=>rfl) rfl) ?_
    refine eT rfl rfl rfl rfl (λH hH=>iE rfl rfl) ?_
    refine jY rfl rfl rfl ?_
    refine jY rfl rfl rfl ?_
    refine jY rfl rfl rfl ?_
    refine jY rfl rfl rfl ?_
    refine jY rfl rfl rfl ?_
    refine jY rfl rfl rfl ?_
    refine jY rfl rfl rfl ?_
    refine eT rfl rfl rfl rfl (λH hH=>tL rfl rfl (λ_=>rfl) (λ_=>rfl) rfl) ?_
    refine eT rfl rfl rfl rfl (λH hH=>kK rfl rfl) ?_
    refine oK (hK _ ?_)
    exact lf h1 () dP
    replace h1:=ct h1
    refine eT rfl rfl rfl rfl (λH hH=>iC rfl A7 rfl (.pt ((hH _ (by decide)).trans rfl) rfl rfl) (.pt _ _ _ _ _)) ?_
    refine eT rfl rfl rfl rfl (λH hH=>gQ rfl vK rfl (.pt ((hH _ (by decide)).trans rfl) rfl rfl) rfl) ?_
    refine eT rfl rfl rfl rfl (λH hH=>kX rfl Tryz.underlying27 rfl (mF _)) ?_
    obtain ⟨x49,e49,h1⟩:=iI h1
    refine eT rfl rfl rfl rfl (λH hH=>fT (y:=aZ x49) (aBG rfl rfl rfl) (congrArg aZ e49)) ?_
    refine eT rfl rfl rfl rfl (λH hH=>tL rfl rfl (λ_=>rfl) (λ_=>rfl) rfl) ?_
    refine eT rfl rfl rfl rfl (λH hH=>iE rfl rfl) ?_
    cases x49
    replace h1:=cf h1
    refine jY rfl rfl rfl ?_
    refine jY rfl rfl rfl ?_
    refine jY rfl rfl rfl ?_
    refine jY rfl rfl rfl ?_
    refine jY rfl rfl rfl ?_
    refine jY rfl rfl rfl ?_
    refine jY rfl rfl rfl ?_
    refine eT rfl rfl rfl rfl (λH hH=>tL rfl rfl (λ_=>rfl) (λ_=>rfl) rfl) ?_
    refine eT rfl rfl rfl rfl (λH hH=>kK rfl rfl) ?_
    refine oK (hK _ ?_)
    exact lf h1 () dP
    replace h1:=ct h1
    refine eT rfl rfl rfl rfl (λH hH=>gQ rfl L5 rfl (.pt ((hH _ (by decide)).trans rfl) rfl rfl) rfl) ?_
    refine eT rfl rfl rfl rfl (λH hH=>iE rfl rfl) ?_
    refine eT rfl rfl rfl rfl (λH hH=>iC rfl A7 rfl (.pt ((hH _ (by decide)).trans rfl) rfl rfl) (.pt _ _ _ _ _)) ?_
    refine eT rfl rfl rfl rfl (λH hH=>gQ rfl vK rfl (.pt ((hH _ (by decide)).trans rfl) rfl rfl) rfl) ?_
    obtain ⟨x50,e50,h1⟩:=fE h1
    refine eT rfl rfl rfl rfl (λH hH=>fT (y:=.pp [int x50.fQ,aZ x50.Closed,aH 4 aS.av x50.bR,aH 1 fI x50.dI,aH 11 cB.av x50.dJ,aH 1 fI x50.gJ,aH 1 fI x50.Down,aH 8 aP.av x50.fZ]) (mM rfl Tryz.underlying27 mQ rfl rfl e50) (congrArg AV.pp (aP.fB x50))) ?_
    refine eT rfl rfl rfl rfl (λH hH=>gQ rfl mQ rfl (.pp _) rfl) ?_
    obtain ⟨x51,e51,h1⟩:=fE h1
    refine eT rfl rfl rfl rfl (λH hH=>oC rfl rfl (.cons rfl (.cons rfl (.cons rfl (.cons rfl .nil)))) aDH (dG.refl _) (ih _ hN e51)) ?_
    refine eT rfl rfl rfl rfl (λH hH=>tL rfl rfl (λ_=>rfl) (λ_=>rfl) rfl) ?_
    refine eT rfl rfl rfl rfl (λH hH=>kK rfl rfl) ?_
    refine oK (hK _ ?_)
    exact lf h1 () dP
    rintro y8_1 _ h0
    obtain rfl:=fV h0
    refine wR hret (rT .nil) ?_
    exact .refl _
    replace h0:=ct h0
    refine tc aA 5 (.mk ?_)
    refine nb aA h0 λx52 h0=>?_
    refine tr aA 2 (.mk ?_)
    obtain rfl:=fV h0
    refine wR hret (rT .nil) ?_
    exact .refl _
    replace h0:=ct h0
    refine tc aA 5 (.mk ?_)
    obtain rfl:=fV h0
    refine wR hret (rT .nil) ?_
    exact .refl _
def aA8 (n:Nat) (a1:aB):WT Tryz.prog (.b (Bool)) :=
 .al 1<|.jn 0 [1,2] [1] [] (λ_ (a:Bool)=>[(27,aZ a)]) (λ_ _=>[]) (.cl 6 (E9 n a1.bF) aAB aDT λx3=>.bB 7 (!x3) λx4=>.ifs [7] x4 (.ret true) (.ln 11 aP.av a1.bA<|.bB 15 (decide ((a1.bA.length:Int)≠a1.bF.gG)) λx5=>.ifs [15] x5 (.ret true) (.cl 20 (jV a1.Done 288230376151711744) kY kV λx6=>.bB 21 (!x6) λx7=>.ifs [21] x7 (.ret true) (.cl 25 (IP n a1) aFK aG7 λx8=>.bB 26 (!x8) λx9=>.ret x9)))) (λy0_1=>.ifs [27] y0_1 (.ret ((false:Bool))) (.fH 2 [2] [] [] (λ_ (a:Unit)=>[]) (λ_ _=>[]) (.lp [1,2] [1] [] (λ_ (a:Int)=>[(3,int a)]) (λ_ _=>[]) n 0 (λy1_1=>.ln 31 aP.av a1.bA<|.bB 32 (decide (y1_1<(a1.bA.length:Int))) λx10=>.ifs [32] x10 (.dr [(0,[1]),(1,[1]),(3,[1]),(4,[1])] [] [1] [] [0,1,2,3,4,5,6,7,8,9] (.jC 41 aP.av gE aP.fB a1.bA y1_1 λx11=>.cl 43 (wL n a1.bF y1_1 x11 true) aDH aMW λx12=>.bB 44 (!x12) λx13=>.ifs [44] x13 (.esc (.esc (.ret ((false:Bool))))) (.bI 34 (bE (y1_1+1)) λx14=>.brk x14))) (.esc (.brk ())))) (λ_=>.ret ((true:Bool)))))
def ND (n:Nat) (a1:aB):Option (Bool):=(aA8 n a1).run
theorem aUB {n a1 r} (h0:ND n a1=some r):PP Tryz.prog 50 [.agg (aB.av a1)] (λy=>y=aZ r) :=
 bY mixed aA (λr:Bool=>aZ r) h0 Tryz.func50 (λr=>gT r) 100000 au
def aAO (n:Nat) (a1:aB):WT Tryz.prog (.b (Bool)) :=
 .al 1<|.jn 2 [2] [] [] (λ_ (a:Int)=>[(3,int a)]) (λ_ _=>[]) (.lp [1,2] [1] [] (λ_ (a:Int×Int)=>[(3,int a.1),(4,int a.2)]) (λ_ _=>[]) n ((0:Int),0) (pw λy0_1 y0_2=>.ln 8 aP.av a1.bA<|.bB 9 (decide (y0_2<(a1.bA.length:Int))) λx3=>.ifs [9] x3 (.dr [(1,[1]),(2,[1]),(10,[1]),(11,[1])] [] [1] [] [0,1,2,3,4,5,6,7,8,9,10,11,12,13,14,15,16,17,18,19] (.jC 16 aP.av gE aP.fB a1.bA y0_2 λx4=>.ix 19 fI x4.dI 13 λx5=>.bI 21 (bE (y0_1+x5)) λx6=>.jC 25 aP.av gE aP.fB a1.bA y0_2 λx7=>.ix 28 fI x7.dI 14 λx8=>.bI 30 (bE (x6+x8)) λx9=>.bI 11 (bE (y0_2+1)) λx10=>.brk ((x9:Int),x10))) (.esc (.ret y0_1)))) (λy1_1=>.bB 32 (decide (y1_1=0)) λx11=>.ret ((x11:Bool)))
def GZ (n:Nat) (a1:aB):Option (Bool):=(aAO n a1).run
theorem aL1 {n a1 r} (h0:GZ n a1=some r):PP Tryz.prog 51 [.agg (aB.av a1)] (λy=>y=aZ r) :=
 bY mixed aA (λr:Bool=>aZ r) h0 Tryz.func51 (λr=>gT r) 100000 au
def aBY (a1:aB) (a2:Int):WT Tryz.prog (.b (Bool)) :=
 .al 1<|.jn 0 [] [] [] (λ_ (a:Bool)=>[(4,aZ a)]) (λ_ _=>[]) (.bB 6 (decide (a2>=0)) λx4=>.ifs [6] x4 (.ln 11 aP.av a1.bA<|.bB 12 (decide (a2<(a1.bA.length:Int))) λx5=>.ret x5) (.ret false)) (λy0_1=>.ret ((y0_1:Bool)))
def wD (a1:aB) (a2:Int):Option (Bool):=(aBY a1 a2).run
theorem BE {a1 a2 r} (h0:wD a1 a2=some r):PP Tryz.prog 93 [.agg (aB.av a1),int a2] (λy=>y=aZ r) :=
 bY mixed aA (λr:Bool=>aZ r) h0 Tryz.func93 (λr=>gT r) 100000 au
def XK (n:Nat) (a1:aB) (a2:Int):WT Tryz.prog (.b (Int)) :=
 .al 1<|.jn 2 [4] [] [3] (λu2 (a:(List Int))=>[(5,.sl 3 (u2 3) 0 a.length)]) (λ_ a=>[.nw 3 3 1 (a.map fI)]) (.no 5 3 3 1<|.lp [1,2,4] [1] [3] (λu3 (a:Int×(List Int))=>[(5,.sl 3 (u3 3) 0 a.2.length),(6,int a.1)]) (λ_ a=>[.nw 3 3 1 (a.2.map fI)]) n ((0:Int),(([]:List Int):List Int)) (pw λy0_2 y0_3=>.ln 13 fI a1.bF.bW<|.bB 14 (decide (y0_2<(a1.bF.bW.length:Int))) λx5=>.ifs [14] x5 (.cl 21 (xN n a1 a2 y0_2) IL IV λx6=>.to 23 (aH 1 fI ([x6.Value]:List Int))<|.bl (y0_3++([x6.Value]:List Int):List Int) λx7=>.as (x7.length<=68719476736) inferInstance<|.ge 24 0<|.bI 16 (bE (y0_2+1)) λx10=>.brk ((x10:Int),x7)) (.esc (.ret y0_3)))) (λy1_2=>.kZ 27 (oQ n y1_2) uH uG (λ_=>rfl) λx11=>.ret ((x11.1:Int)))
def KL (n:Nat) (a1:aB) (a2:Int):Option (Int):=(XK n a1 a2).run
theorem aLX {n a1 a2 r} (h0:KL n a1 a2=some r):PP Tryz.prog 94 [.agg (aB.av a1),int a2] (λy=>y=int r) :=
 bY mixed aA (λr:Int=>int r) h0 Tryz.func94 (λr=>bQ r) 100000 au
def UF (n:Nat) (a1:aB) (a2:Int):WT Tryz.prog (.b (Bool)) :=
 .al 1<|.jn 0 [] [] [] (λ_ (a:Bool)=>[(4,aZ a)]) (λ_ _=>[]) (.dr [(0,[1]),(4,[1]),(7,[1]),(8,[1])] [] [1] [] [0,1,2,3,4,5,6,7,8,9,10,11,12,13,14,15,16,17] (.cl 7 (wD a1 a2) DO BE λx4=>.ifs [7] x4 (.cl 11 (KL n a1 a2) aM4 aLX λx5=>.jC 15 aP.av gE aP.fB a1.bA a2 λx6=>.ix 18 fI x6.dI 0 λx7=>.bB 20 (decide (x5=x7)) λx8=>.ret x8) (.ret false))) (λy0_1=>.ret ((y0_1:Bool)))
def EZ (n:Nat) (a1:aB) (a2:Int):Option (Bool):=(UF n a1 a2).run
theorem aKC {n a1 a2 r} (h0:EZ n a1 a2=some r):PP Tryz.prog 52 [.agg (aB.av a1),int a2] (λy=>y=aZ r) :=
 bY mixed aA (λr:Bool=>aZ r) h0 Tryz.func52 (λr=>gT r) 100000 au
def Y1 (n:Nat) (a1:aB) (a2:Int):WT Tryz.prog (.b (Bool)) :=
 .al 1<|.jn 2 [1,2,4] [1] [3] (λu6 (a:(List Int))=>[(5,.sl 3 (u6 3) 0 a.length)]) (λ_ a=>[.nw 3 3 1 (a.map fI)]) (.no 5 3 3 1<|.lp [1,2,4] [1] [3] (λu10 (a:Int×(List Int))=>[(5,.sl 3 (u10 3) 0 a.2.length),(6,int a.1)]) (λ_ a=>[.nw 3 3 1 (a.2.map fI)]) n ((0:Int),(([]:List Int):List Int)) (pw λy0_2 y0_3=>.ln 12 dX.av a1.bX<|.bB 13 (decide (y0_2<(a1.bX.length:Int))) λx5=>.ifs [13] x5 (.jn 1 [1,2,4,6] [1] [3] (λu11 (a:(List Int))=>[(5,.sl 3 (u11 3) 0 a.length)]) (λ_ a=>[.nw 3 3 1 (a.map fI)]) (.ix 19 dX.av a1.bX y0_2 λx6=>.bB 23 (decide (x6.fU=a2)) λx7=>.ifs [23] x7 (.ix 28 dX.av a1.bX y0_2 λx8=>.to 31 (aH 1 fI ([x8.jW]:List Int))<|.bl (y0_3++([x8.jW]:List Int):List Int) λx9=>.as (x9.length<=68719476736) inferInstance<|.ge 32 0<|.ret x9) (.ret y0_3)) (λy1_2=>.bI 15 (bE (y0_2+1)) λx12=>.brk ((x12:Int),y1_2))) (.esc (.ret y0_3)))) (λy2_2=>.kZ 35 (oQ n y2_2) uH uG (λ_=>rfl) λx13=>.jn 0 [] [] [] (λ_ (a:Bool)=>[(4,aZ a)]) (λ_ _=>[]) (.cl 40 (wD a1 a2) DO BE λx14=>.ifs [40] x14 (.bB 43 (decide (x13.2=0)) λx15=>.ifs [43] x15 (.jC 50 aP.av gE aP.fB a1.bA a2 λx16=>.ix 53 fI x16.dI 1 λx17=>.bI 55 (bE (0-x17)) λx18=>.bB 56 (decide (x13.1=x18)) λx19=>.ret x19) (.ret false)) (.ret false)) (λy3_1=>.ret ((y3_1:Bool))))
def DV (n:Nat) (a1:aB) (a2:Int):Option (Bool):=(Y1 n a1 a2).run
theorem aJD {n a1 a2 r} (h0:DV n a1 a2=some r):PP Tryz.prog 53 [.agg (aB.av a1),int a2] (λy=>y=aZ r) :=
 bY mixed aA (λr:Bool=>aZ r) h0 Tryz.func53 (λr=>gT r) 100000 au
def aBU (n:Nat) (a1:aB) (a2:Int):WT Tryz.prog (.b (Bool)) :=
 .al 1<|.jn 2 [1,2,4] [1] [3] (λu6 (a:(List Int))=>[(5,.sl 3 (u6 3) 0 a.length)]) (λ_ a=>[.nw 3 3 1 (a.map fI)]) (.no 5 3 3 1<|.lp [1,2,4] [1] [3] (λu10 (a:Int×(List Int))=>[(5,.sl 3 (u10 3) 0 a.2.length),(6,int a.1)]) (λ_ a=>[.nw 3 3 1 (a.2.map fI)]) n ((0:Int),(([]:List Int):List Int)) (pw λy0_2 y0_3=>.ln 12 fP.av a1.dH<|.bB 13 (decide (y0_2<(a1.dH.length:Int))) λx5=>.ifs [13] x5 (.jn 1 [1,2,4,6] [1] [3] (λu11 (a:(List Int))=>[(5,.sl 3 (u11 3) 0 a.length)]) (λ_ a=>[.nw 3 3 1 (a.map fI)]) (.ix 19 fP.av a1.dH y0_2 λx6=>.bB 23 (decide (x6.To=a2)) λx7=>.ifs [23] x7 (.ix 28 fP.av a1.dH y0_2 λx8=>.to 31 (aH 1 fI ([x8.Value]:List Int))<|.bl (y0_3++([x8.Value]:List Int):List Int) λx9=>.as (x9.length<=68719476736) inferInstance<|.ge 32 0<|.ret x9) (.ret y0_3)) (λy1_2=>.bI 15 (bE (y0_2+1)) λx12=>.brk ((x12:Int),y1_2))) (.esc (.ret y0_3)))) (λy2_2=>.kZ 35 (oQ n y2_2) uH uG (λ_=>rfl) λx13=>.jn 0 [] [] [] (λ_ (a:Bool)=>[(4,aZ a)]) (λ_ _=>[]) (.cl 40 (wD a1 a2) DO BE λx14=>.ifs [40] x14 (.bB 43 (decide (x13.2=0)) λx15=>.ifs [43] x15 (.jC 50 aP.av gE aP.fB a1.bA a2 λx16=>.ix 53 fI x16.dI 12 λx17=>.bB 55 (decide (x13.1=x17)) λx18=>.ret x18) (.ret false)) (.ret false)) (λy3_1=>.ret ((y3_1:Bool))))
def HY (n:Nat) (a1:aB) (a2:Int):Option (Bool):=(aBU n a1 a2).run
theorem aS2 {n a1 a2 r} (h0:HY n a1 a2=some r):PP Tryz.prog 54 [.agg (aB.av a1),int a2] (λy=>y=aZ r) :=
 bY mixed aA (λr:Bool=>aZ r) h0 Tryz.func54 (λr=>gT r) 100000 au
def Y8 (n:Nat) (a1:aB) (a2:Int):WT Tryz.prog (.b (Bool)) :=
 .al 1<|.cl 9 (wD a1 a2) DO BE λx4=>.bB 10 (!x4) λx5=>.ifs [10] x5 (.ret ((false:Bool))) (.jC 15 aP.av gE aP.fB a1.bA a2 λx6=>.cl 18 (oQ n x6.Down) uH uG λx7=>.jn 0 [] [] [] (λ_ (a:Bool)=>[(4,aZ a)]) (λ_ _=>[]) (.bB 22 (decide (x7.2=0)) λx8=>.ifs [22] x8 (.jC 28 aP.av gE aP.fB a1.bA a2 λx9=>.ix 31 fI x9.dI 11 λx10=>.bI 33 (bE (0-x10)) λx11=>.bB 34 (decide (x7.1=x11)) λx12=>.ret x12) (.ret false)) (λy0_1=>.ret ((y0_1:Bool))))
def FP (n:Nat) (a1:aB) (a2:Int):Option (Bool):=(Y8 n a1 a2).run
theorem aMP {n a1 a2 r} (h0:FP n a1 a2=some r):PP Tryz.prog 55 [.agg (aB.av a1),int a2] (λy=>y=aZ r) :=
 bY mixed aA (λr:Bool=>aZ r) h0 Tryz.func55 (λr=>gT r) 100000 au
def TP (n:Nat) (a1:List Int):WT Tryz.prog (.b (Int×Int×Int)) :=
 .ln 9 fI a1<|.bB 10 (decide ((a1.length:Int)≠17)) λx2=>.ifs [10] x2 (.ret ((0:Int),0,1)) (.fH 3 [2,3,4] [] [] (λ_ (a:Int×Int)=>[(5,int a.1),(6,int a.2)]) (λ_ _=>[]) (.lp [0,2,3,4] [] [] (λ_ (a:Int×Int×Int)=>[(5,int a.1),(6,int a.2.1),(7,int a.2.2)]) (λ_ _=>[]) n ((0:Int),0,0) (pw λy0_1 q0=>(pw λy0_2 y0_3=>.ln 13 fI a1<|.bB 14 (decide (y0_3<(a1.length:Int))) λx3=>.ifs [14] x3 (.fH 1 [0,2,3,4,7] [] [] (λ_ (a:Int×Int)=>[(5,int a.1),(6,int a.2)]) (λ_ _=>[]) (.ix 26 fI a1 y0_3 λx4=>.cl 28 (pI x4) tO sJ λx5=>.bB 29 (!x5) λx6=>.ifs [29] x6 (.esc (.esc (.esc (.ret ((0:Int),0,2))))) (.ix 33 fI a1 y0_3 λx7=>.bB 35 (decide (x7>0)) λx8=>.ifs [35] x8 (.ix 39 fI a1 y0_3 λx9=>.bI 41 (bE (y0_1+x9)) λx10=>.brk ((x10:Int),y0_2)) (.ix 20 fI a1 y0_3 λx11=>.bI 22 (bE (y0_2-x11)) λx12=>.brk ((y0_1:Int),x12)))) (pw λy1_1 y1_2=>.bI 16 (bE (y0_3+1)) λx13=>.brk ((y1_1:Int),y1_2,x13))) (.esc (.brk ((y0_1:Int),y0_2)))) q0)) (pw λy2_1 y2_2=>.ret ((y2_1:Int),y2_2,0)))
def NE (n:Nat) (a1:List Int):Option (Int×Int×Int):=(TP n a1).run
theorem aSA {n a1 r} (h0:NE n a1=some r):PP Tryz.prog 96 [aH 1 fI a1] (λy=>y=.bD [int r.1,int r.2.1,int r.2.2]) :=
 bY mixed aA (λr:Int×Int×Int=>.bD [int r.1,int r.2.1,int r.2.2]) h0 Tryz.func96 (λr=>.bD (qN (bQ (r.1)) (bQ (r.2.1)) (bQ (r.2.2)))) 100000 au
def UH (n:Nat) (a1:aB) (a2:Int):WT Tryz.prog (.b (Bool)) :=
 .al 1<|.cl 10 (wD a1 a2) DO BE λx4=>.bB 11 (!x4) λx5=>.ifs [11] x5 (.ret ((false:Bool))) (.jC 16 aP.av gE aP.fB a1.bA a2 λx6=>.cl 19 (NE n x6.dI) aG2 aSA λx7=>.jn 0 [] [] [] (λ_ (a:Bool)=>[(4,aZ a)]) (λ_ _=>[]) (.bB 24 (decide (x7.2.2=0)) λx8=>.ifs [24] x8 (.bB 28 (decide (x7.1=x7.2.1)) λx9=>.ret x9) (.ret false)) (λy0_1=>.ret ((y0_1:Bool))))
def G8 (n:Nat) (a1:aB) (a2:Int):Option (Bool):=(UH n a1 a2).run
theorem aSX {n a1 a2 r} (h0:G8 n a1 a2=some r):PP Tryz.prog 56 [.agg (aB.av a1),int a2] (λy=>y=aZ r) :=
 bY mixed aA (λr:Bool=>aZ r) h0 Tryz.func56 (λr=>gT r) 100000 au
def UG (n:Nat) (a1:aB) (a2:Int) (a3:Int):WT Tryz.prog (.b (Bool)) :=
 .al 1<|.jn 0 [1,2,3,6] [1] [] (λ_ (a:Bool)=>[(28,aZ a)]) (λ_ _=>[]) (.cl 12 (wD a1 a2) DO BE λx5=>.bB 13 (!x5) λx6=>.ifs [13] x6 (.ret true) (.bB 16 (decide (a3<0)) λx7=>.ifs [16] x7 (.ret true) (.jC 23 aP.av gE aP.fB a1.bA a2 λx8=>.ln 26 cB.av x8.dJ<|.bB 27 (decide (a3>=(x8.dJ.length:Int))) λx9=>.ret x9))) (λy0_1=>.ifs [28] y0_1 (.ret ((false:Bool))) (.jC 32 aP.av gE aP.fB a1.bA a2 λx10=>.ix 36 cB.av x10.dJ a3 λx11=>.al 2<|.bI 42 (bE (x11.Open+x11.jH)) λx13=>.bI 45 (bE (x13+x11.jL)) λx14=>.bI 48 (bE (x14+x11.jJ)) λx15=>.bI 51 (bE (x15+x11.jK)) λx16=>.bI 54 (bE (x16+x11.jI)) λx17=>.bI 59 (bE (x11.jG+x11.jN)) λx18=>.bI 62 (bE (x18+x11.jE)) λx19=>.bI 65 (bE (x19+x11.jF)) λx20=>.bI 68 (bE (x20+x11.jM)) λx21=>.bI 71 (bE (x17-x21)) λx22=>.cl 75 (xN n a1 a2 a3) IL IV λx23=>.bB 77 (decide (x22=x23.Value)) λx24=>.ret ((x24:Bool))))
def D6 (n:Nat) (a1:aB) (a2:Int) (a3:Int):Option (Bool):=(UG n a1 a2 a3).run
theorem aFL {n a1 a2 a3 r} (h0:D6 n a1 a2 a3=some r):PP Tryz.prog 57 [.agg (aB.av a1),int a2,int a3] (λy=>y=aZ r) :=
 bY mixed aA (λr:Bool=>aZ r) h0 Tryz.func57 (λr=>gT r) 100000 au
def XG (n:Nat) (a1:aB):WT Tryz.prog (.b (Bool)) :=
 .al 1<|.jn 0 [1,2] [1] [] (λ_ (a:Bool)=>[(12,aZ a)]) (λ_ _=>[]) (.cl 6 (ND n a1) aHE aUB λx3=>.bB 7 (!x3) λx4=>.ifs [7] x4 (.ret true) (.cl 10 (GZ n a1) aJ1 aL1 λx5=>.bB 11 (!x5) λx6=>.ret x6)) (λy0_1=>.ifs [12] y0_1 (.ret ((false:Bool))) (.fH 2 [2] [] [] (λ_ (a:Unit)=>[]) (λ_ _=>[]) (.lp [1,2] [1] [] (λ_ (a:Int)=>[(3,int a)]) (λ_ _=>[]) n 0 (λy1_1=>.ln 16 aP.av a1.bA<|.bB 17 (decide (y1_1<(a1.bA.length:Int))) λx7=>.ifs [17] x7 (.fH 1 [1,2,3] [1] [] (λ_ (a:Unit)=>[]) (λ_ _=>[]) (.jn 1 [1,2,3] [1] [] (λ_ (a:Bool)=>[(47,aZ a)]) (λ_ _=>[]) (.cl 22 (EZ n a1 y1_1) aKQ aKC λx8=>.bB 23 (!x8) λx9=>.ifs [23] x9 (.ret true) (.cl 27 (DV n a1 y1_1) aR6 aJD λx10=>.bB 28 (!x10) λx11=>.ifs [28] x11 (.ret true) (.cl 33 (HY n a1 y1_1) aQ4 aS2 λx12=>.bB 34 (!x12) λx13=>.ifs [34] x13 (.ret true) (.cl 39 (FP n a1 y1_1) aI5 aMP λx14=>.bB 40 (!x14) λx15=>.ifs [40] x15 (.ret true) (.cl 45 (G8 n a1 y1_1) aNU aSX λx16=>.bB 46 (!x16) λx17=>.ret x17))))) (λy2_1=>.ifs [47] y2_1 (.esc (.esc (.esc (.ret ((false:Bool)))))) (.fH 2 [1,2,3] [1] [] (λ_ (a:Unit)=>[]) (λ_ _=>[]) (.lp [1,2,3] [1] [] (λ_ (a:Int)=>[(4,int a)]) (λ_ _=>[]) n 0 (λy3_1=>.ln 52 fI a1.bF.bW<|.bB 53 (decide (y3_1<(a1.bF.bW.length:Int))) λx18=>.ifs [53] x18 (.cl 59 (D6 n a1 y1_1 y3_1) aQ2 aFL λx19=>.bB 60 (!x19) λx20=>.ifs [60] x20 (.esc (.esc (.esc (.esc (.esc (.ret ((false:Bool)))))))) (.bI 55 (bE (y3_1+1)) λx21=>.brk x21)) (.esc (.brk ())))) (λ_=>.brk ())))) (λ_=>.bI 19 (bE (y1_1+1)) λx22=>.brk x22)) (.esc (.brk ())))) (λ_=>.ret ((true:Bool)))))
def G9 (n:Nat) (a1:aB):Option (Bool):=(XG n a1).run
theorem aEE {n a1 r} (h0:G9 n a1=some r):PP Tryz.prog 24 [.agg (aB.av a1)] (λy=>y=aZ r) :=
 bY mixed aA (λr:Bool=>aZ r) h0 Tryz.func24 (λr=>gT r) 100000 au
def YU (n:Nat) (a1:aB) (a2:bJ):WT Tryz.prog (.b (Bool)) :=
 .al 1<|.al 2<|.cl 12 (zV n a1 a2) OH Q4 λx5=>.al 3<|.cl 18 (qM n a1 a2) aEH aA4 λx7=>.al 4<|.jn 0 [] [] [] (λ_ (a:Bool)=>[(4,aZ a)]) (λ_ _=>[]) (.cl 23 (B5 n x5.1 x7.1) ZX aEJ λx9=>.ifs [23] x9 (.bB 27 (decide (x5.2=x7.2)) λx10=>.ifs [27] x10 (.bB 31 (decide (x5.2=0)) λx11=>.ifs [31] x11 (.cl 40 (G9 n x5.1) YX aEE λx12=>.ret x12) (.cl 35 (B5 n x5.1 a1) ZX aEJ λx13=>.ifs [35] x13 (.cl 40 (G9 n x5.1) YX aEE λx14=>.ret x14) (.ret false))) (.ret false)) (.ret false)) (λy0_1=>.ret ((y0_1:Bool)))
def MB (n:Nat) (a1:aB) (a2:bJ):Option (Bool):=(YU n a1 a2).run
theorem aP0 {n a1 a2 r} (h0:MB n a1 a2=some r):PP Tryz.prog 10 [.agg (aB.av a1),.agg (bJ.av a2)] (λy=>y=aZ r) :=
 bY mixed aA (λr:Bool=>aZ r) h0 Tryz.func10 (λr=>gT r) 100000 au
end
end Go.Pv
