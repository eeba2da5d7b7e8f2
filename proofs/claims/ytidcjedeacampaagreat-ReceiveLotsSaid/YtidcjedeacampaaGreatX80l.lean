import Derived.Test.YtidcjedeacampaaGreatX80k
set_option linter.unusedVariables false
set_option linter.unusedSimpArgs false
namespace Go.Pv
open Go.Proofs
set_option maxRecDepth 100000
set_option maxHeartbeats 4000000
noncomputable section
def WJ (n:Nat) (a1:List aF) (a2:List aF):WT Tryz.prog (.b (Bool)) :=
 .ln 7 aF.av a1<|.ln 9 aF.av a2<|.bB 10 (decide ((a1.length:Int)≠(a2.length:Int))) λx3=>.ifs [10] x3 (.ret ((false:Bool))) (.fH 2 [4] [] [] (λ_ (a:Unit)=>[]) (λ_ _=>[]) (.lp [0,1,4] [] [] (λ_ (a:Int)=>[(5,int a)]) (λ_ _=>[]) n 0 (λy0_1=>.ln 13 aF.av a1<|.bB 14 (decide (y0_1<(a1.length:Int))) λx4=>.ifs [14] x4 (.dr [] [] [] [] [0,1,2,3,4,5,6,7,8,9] (.ix 19 aF.av a1 y0_1 λx5=>.ix 23 aF.av a2 y0_1 λx6=>.cl 25 (KD x5 x6) aFC aOU λx7=>.bB 26 (!x7) λx8=>.ifs [26] x8 (.esc (.esc (.ret ((false:Bool))))) (.bI 16 (bE (y0_1+1)) λx9=>.brk x9))) (.esc (.brk ())))) (λ_=>.ret ((true:Bool))))
def LG (n:Nat) (a1:List aF) (a2:List aF):Option (Bool):=(WJ n a1 a2).run
theorem aPA {n a1 a2 r} (h0:LG n a1 a2=some r):PP Tryz.prog 135 [aH 3 aF.av a1,aH 3 aF.av a2] (λy=>y=aZ r) :=
 bY mixed aA (λr:Bool=>aZ r) h0 Tryz.func135 (λr=>gT r) 100000 au
def YN (n:Nat) (a1:aS) (a2:aS):WT Tryz.prog (.b (Bool)) :=
 .al 1<|.al 2<|.jn 0 [] [] [] (λ_ (a:Bool)=>[(4,aZ a)]) (λ_ _=>[]) (.cl 9 (LG n a1.aI a2.aI) aOX aPA λx5=>.ifs [9] x5 (.gv 12<|.gv 15<|.bB 17 (decide (a1.bC.a0=a2.bC.a0)) λx6=>.ifs [17] x6 (.gv 21<|.gv 24<|.bB 26 (decide (a1.bC.a1=a2.bC.a1)) λx7=>.ifs [26] x7 (.gv 30<|.gv 33<|.bB 35 (decide (a1.bC.a2=a2.bC.a2)) λx8=>.ret x8) (.ret false)) (.ret false)) (.ret false)) (λy0_1=>.ret ((y0_1:Bool)))
def KO (n:Nat) (a1:aS) (a2:aS):Option (Bool):=(YN n a1 a2).run
theorem aPI {n a1 a2 r} (h0:KO n a1 a2=some r):PP Tryz.prog 90 [.agg (aS.av a1),.agg (aS.av a2)] (λy=>y=aZ r) :=
 bY mixed aA (λr:Bool=>aZ r) h0 Tryz.func90 (λr=>gT r) 100000 au
mutual
def BM (a1:aP) (a2:aP):Nat->Int->Option ((Unit)⊕(Bool))
  | 0,_=>none
  | n+1,y1_1 =>
    bnd (decide (y1_1<(a1.bR.length:Int))) λx12 =>
    cond x12 ((ix a1.bR y1_1).bind λx13 =>
    (ix a2.bR y1_1).bind λx14 =>
    (KO n x13 x14).bind λx15 =>
    bnd (!x15) λx16 =>
    cond x16 (esc (some ((false:Bool)))) (bnd (bE (y1_1+1)) λx17 =>
    BM a1 a2 n (x17:Int))) (brk ())
def C5 (a1:aP) (a2:aP):Nat->Int->Option ((Unit)⊕(Bool))
  | 0,_=>none
  | n+1,y3_1 =>
    bnd (decide (y3_1<(a1.dJ.length:Int))) λx20 =>
    cond x20 ((ix a1.dJ y3_1).bind λx21 =>
    (xC x21).bind λx22 =>
    (ix a2.dJ y3_1).bind λx23 =>
    (xC x23).bind λx24 =>
    bnd (!decide ((x22:iX)=(x24:iX))) λx25 =>
    cond x25 (esc (some ((false:Bool)))) (bnd (bE (y3_1+1)) λx26 =>
    C5 a1 a2 n (x26:Int))) (brk ())
def yB (a1:aP) (a2:aP):Nat->Int->Option ((Unit)⊕(Bool))
  | 0,_=>none
  | n+1,y5_1 =>
    bnd (decide (y5_1<(a1.fZ.length:Int))) λx29 =>
    cond x29 ((ix a1.fZ y5_1).bind λx30 =>
    (ix a2.fZ y5_1).bind λx31 =>
    (vO n x30 x31).bind λx32 =>
    bnd (!x32) λx33 =>
    cond x33 (esc (some ((false:Bool)))) (bnd (bE (y5_1+1)) λx34 =>
    yB a1 a2 n (x34:Int))) (brk ())
def vO:Nat->aP->aP->Option (Bool)
  | 0,_,_=>none
  | n+1,a1,a2 =>
    (show Option (Bool) from
    bnd (decide (a1.fQ≠a2.fQ)) λx6 =>
    cond x6 (some (true:Bool)) (bnd (decide (a1.Closed≠a2.Closed)) λx7 =>
    cond x7 (some (true:Bool)) (bnd (decide ((a1.bR.length:Int)≠(a2.bR.length:Int))) λx8 =>
    cond x8 (some (true:Bool)) (bnd (decide ((a1.dJ.length:Int)≠(a2.dJ.length:Int))) λx9 =>
    cond x9 (some (true:Bool)) (bnd (decide ((a1.fZ.length:Int)≠(a2.fZ.length:Int))) λx10 =>
    some (x10:Bool)))))).bind <| λy0_1 =>
    cond y0_1 (some ((false:Bool))) ((show Option ((Unit)⊕(Bool)) from
    BM a1 a2 n (0:Int)).bind <| sel <| λ_ =>
    (show Option ((Unit)⊕(Bool)) from
    C5 a1 a2 n (0:Int)).bind <| sel <| λ_ =>
    (show Option ((Unit)⊕(Bool)) from
    yB a1 a2 n (0:Int)).bind <| sel <| λ_ =>
    (show Option (Bool) from
    (sM n a1.dI a2.dI).bind λx37 =>
    cond x37 ((sM n a1.gJ a2.gJ).bind λx38 =>
    cond x38 ((sM n a1.Down a2.Down).bind λx39 =>
    some (x39:Bool)) (some (false:Bool))) (some (false:Bool))).bind <| λy7_1 =>
    some ((y7_1:Bool)))
end
theorem aRO {n:Nat} {a1:aP} {a2:aP} {r:Bool} (h0:vO n a1 a2=some r):PP Tryz.prog 49 [.agg [int a1.fQ,aZ a1.Closed,aH 4 aS.av a1.bR,aH 1 fI a1.dI,aH 11 cB.av a1.dJ,aH 1 fI a1.gJ,aH 1 fI a1.Down,aH 8 aP.av a1.fZ],.agg [int a2.fQ,aZ a2.Closed,aH 4 aS.av a2.bR,aH 1 fI a2.dI,aH 11 cB.av a2.dJ,aH 1 fI a2.gJ,aH 1 fI a2.Down,aH 8 aP.av a2.fZ]] (λy=>y=aZ r):=by
  induction n using Nat.strongRecOn generalizing a1 a2 r with
  | ind n ih =>
    cases n with
    | zero=>rw [vO] at h0;cases h0
    | succ n =>
    have hN:n<n+1:=Nat.lt_succ_self n
    rw [vO] at h0
    refine oN (R0:=λy H=>Cv (lH H) y (aZ r)) ?_ (λy H hc=>⟨_,rfl,gT r,hc⟩)
    refine lN (c:=_) Tryz.func49 rfl rfl ?_;intro Q hret hnorm
    refine tc aA 2 (.mk ?_)
    refine sB 1 λv3=>?_
    refine sB 2 λv4=>?_
    refine tr aA 4 (.mk ?_)
    refine jn h0 [2,3,4] [1,2] (λ(a:Bool) (k:Unit)=>[(46,aZ a)]) (λa k=>[]) ⟨λj5 h1=>?_,?_⟩
    refine tc aA 5 (.mk ?_)
    refine nb aA h1 λx6 h1=>?_
    refine tr aA 1 (.mk ?_)
    cases x6
    replace h1:=cf h1
    refine tr aA 4 (.mk ?_)
    obtain ⟨x7,e7,h1⟩:=iI h1
    refine sY (fT (y:=aZ x7) (aTD rfl Tryz.underlying4 rfl rfl) (congrArg aZ e7)) ?_
    refine tr aA 2 (.mk ?_)
    cases x7
    replace h1:=cf h1
    refine tr aA 2 (.mk ?_)
    refine sY (kX rfl Tryz.underlying57 rfl (mF _)) ?_
    refine tr aA 2 (.mk ?_)
    refine sY (kX rfl Tryz.underlying57 rfl (mF _)) ?_
    refine nb aA h1 λx8 h1=>?_
    refine tr aA 2 (.mk ?_)
    cases x8
    replace h1:=cf h1
    refine tr aA 2 (.mk ?_)
    refine sY (kX rfl Tryz.underlying58 rfl (mF _)) ?_
    refine tr aA 2 (.mk ?_)
    refine sY (kX rfl Tryz.underlying58 rfl (mF _)) ?_
    refine nb aA h1 λx9 h1=>?_
    refine tr aA 2 (.mk ?_)
    cases x9
    replace h1:=cf h1
    refine tr aA 2 (.mk ?_)
    refine sY (kX rfl Tryz.underlying27 rfl (mF _)) ?_
    refine tr aA 2 (.mk ?_)
    refine sY (kX rfl Tryz.underlying27 rfl (mF _)) ?_
    refine nb aA h1 λx10 h1=>?_
    refine tr aA 2 (.mk ?_)
    exact lf h1 () dP
    replace h1:=ct h1
    refine tr aA 9 (.mk ?_)
    exact lf h1 () dP
    replace h1:=ct h1
    refine tr aA 18 (.mk ?_)
    exact lf h1 () dP
    replace h1:=ct h1
    refine tr aA 27 (.mk ?_)
    exact lf h1 () dP
    replace h1:=ct h1
    refine tr aA 34 (.mk ?_)
    exact lf h1 () dP
    rintro y0_1 _ h0
    cases y0_1
    replace h0:=cf h0
    refine tc aA 7 (.mk ?_)
    refine fH h0 [2,3,4] [1,2] (λ(a:Unit) (k:Unit)=>[]) (λa k=>[]) ⟨λj11 h1 h0=>?_,?_⟩
    refine tc aA 1 (.mk ?_)
    refine lp (λn (a:Int)=>BM a1 a2 n a) (0:Int) () h1 [2,3,4] [1,2] (λ(a:Int) (k:Unit)=>[(5,int a)]) (λa k=>[]) (λ_=>rfl) ⟨dP,?_⟩
    rintro n y1_1 _ hm h1
    replace h1:BM a1 a2 (n+1) y1_1=some _:=h1
    replace hN:=Nat.lt_trans (Nat.lt_of_succ_le hm) hN
    rw [BM] at h1
    refine tc aA 6 (.mk ?_)
    refine sY (kX rfl Tryz.underlying57 rfl (mF _)) ?_
    refine nb aA h1 λx12 h1=>?_
    refine tr aA 1 (.mk ?_)
    cases x12
    replace h1:=cf h1
    refine tc aA 2 (.mk ?_)
    exact oW h1 () dP
    replace h1:=ct h1
    refine tc aA 5 (.mk ?_)
    refine pR [0,1,0,7,15,0,32,0,224,480,1023,2047] (λi=>bif Nat.beq i 0 then ([1]) else bif Nat.beq i 1 then ([1]) else bif Nat.beq i 5 then ([2]) else bif Nat.beq i 6 then ([2]) else []) (λi=>[1,2]) (λi=>true) [0,1,2,3,4,5,6,7,8,9,10,11] mixed (by kernel_rfl) ?_;intro K hK
    refine eT rfl rfl rfl rfl (λH hH=>iC rfl uQ rfl (.pt ((hH _ (by decide)).trans rfl) rfl rfl) (.pt _ _ _ _ _)) ?_
    refine eT rfl rfl rfl rfl (λH hH=>gQ rfl uN rfl (.pt ((hH _ (by decide)).trans rfl) rfl rfl) rfl) ?_
    refine eT rfl rfl rfl rfl (λH hH=>iE rfl rfl) ?_
    obtain ⟨x13,e13,h1⟩:=fE h1
    refine eT rfl rfl rfl rfl (λH hH=>mM rfl Tryz.underlying57 gL rfl rfl e13) ?_
    refine eT rfl rfl rfl rfl (λH hH=>gQ rfl gL rfl (.pp _) rfl) ?_
    refine eT rfl rfl rfl rfl (λH hH=>iC rfl uQ rfl (.pt ((hH _ (by decide)).trans rfl) rfl rfl) (.pt _ _ _ _ _)) ?_
    refine eT rfl rfl rfl rfl (λH hH=>gQ rfl uN rfl (.pt ((hH _ (by decide)).trans rfl) rfl rfl) rfl) ?_
    refine eT rfl rfl rfl rfl (λH hH=>iE rfl rfl) ?_
    obtain ⟨x14,e14,h1⟩:=fE h1
    refine eT rfl rfl rfl rfl (λH hH=>mM rfl Tryz.underlying57 gL rfl rfl e14) ?_
    refine eT rfl rfl rfl rfl (λH hH=>gQ rfl gL rfl (.pp _) rfl) ?_
    obtain ⟨x15,e15,h1⟩:=fE h1
    refine eT rfl rfl rfl rfl (λH hH=>oC rfl rfl (.cons rfl (.cons rfl .nil)) aKK (dG.refl _) (aPI e15)) ?_
    obtain ⟨x16,e16,h1⟩:=iI h1
    refine eT rfl rfl rfl rfl (λH hH=>NI rfl rfl e16) ?_
    refine oK (hK _ ?_)
    cases x16
    replace h1:=cf h1
    refine tc aA 5 (.mk ?_)
    refine ni aA h1 λx17 h1=>?_
    refine tr aA 2 (.mk ?_)
    exact bk x17 () h1 dP
    replace h1:=ct h1
    refine tc aA 5 (.mk ?_)
    obtain ⟨c18,hX,hj⟩:=oG h1;subst hj;replace h0:=hX.trans (nZ h0)
    obtain rfl:=fV h0
    refine wR hret (rT .nil) ?_
    exact .refl _
    rintro _ _ h0
    refine tc aA 5 (.mk ?_)
    refine fH h0 [2,3,4] [1,2] (λ(a:Unit) (k:Unit)=>[]) (λa k=>[]) ⟨λj19 h1 h0=>?_,?_⟩
    refine tc aA 1 (.mk ?_)
    refine lp (λn (a:Int)=>C5 a1 a2 n a) (0:Int) () h1 [2,3,4] [1,2] (λ(a:Int) (k:Unit)=>[(6,int a)]) (λa k=>[]) (λ_=>rfl) ⟨dP,?_⟩
    rintro n y3_1 _ hm h1
    replace h1:C5 a1 a2 (n+1) y3_1=some _:=h1
    replace hN:=Nat.lt_trans (Nat.lt_of_succ_le hm) hN
    rw [C5] at h1
    refine tc aA 6 (.mk ?_)
    refine sY (kX rfl Tryz.underlying58 rfl (mF _)) ?_
    refine nb aA h1 λx20 h1=>?_
    refine tr aA 1 (.mk ?_)
    cases x20
    replace h1:=cf h1
    refine tc aA 2 (.mk ?_)
    exact oW h1 () dP
    replace h1:=ct h1
    refine tc aA 5 (.mk ?_)
    refine pR [0,1,0,7,15,31,0,64,0,448,960,2047,4095] (λi=>bif Nat.beq i 0 then ([1]) else bif Nat.beq i 1 then ([1]) else bif Nat.beq i 6 then ([2]) else bif Nat.beq i 7 then ([2]) else []) (λi=>[1,2]) (λi=>true) [0,1,2,3,4,5,6,7,8,9,10,11,12] mixed (by kernel_rfl) ?_;intro K hK
    refine eT rfl rfl rfl rfl (λH hH=>iC rfl tC rfl (.pt ((hH _ (by decide)).trans rfl) rfl rfl) (.pt _ _ _ _ _)) ?_
    refine eT rfl rfl rfl rfl (λH hH=>gQ rfl sG rfl (.pt ((hH _ (by decide)).trans rfl) rfl rfl) rfl) ?_
    refine eT rfl rfl rfl rfl (λH hH=>iE rfl rfl) ?_
    obtain ⟨x21,e21,h1⟩:=fE h1
    refine eT rfl rfl rfl rfl (λH hH=>mM rfl Tryz.underlying58 rM rfl rfl e21) ?_
    refine eT rfl rfl rfl rfl (λH hH=>gQ rfl rM rfl (.pp _) rfl) ?_
    obtain ⟨x22,e22,h1⟩:=fE h1
    refine eT rfl rfl rfl rfl (λH hH=>oC rfl rfl (.cons rfl .nil) GI (dG.refl _) (EM e22)) ?_
    refine eT rfl rfl rfl rfl (λH hH=>iC rfl tC rfl (.pt ((hH _ (by decide)).trans rfl) rfl rfl) (.pt _ _ _ _ _)) ?_
    refine eT rfl rfl rfl rfl (λH hH=>gQ rfl sG rfl (.pt ((hH _ (by decide)).trans rfl) rfl rfl) rfl) ?_
    refine eT rfl rfl rfl rfl (λH hH=>iE rfl rfl) ?_
    obtain ⟨x23,e23,h1⟩:=fE h1
    refine eT rfl rfl rfl rfl (λH hH=>mM rfl Tryz.underlying58 rM rfl rfl e23) ?_
    refine eT rfl rfl rfl rfl (λH hH=>gQ rfl rM rfl (.pp _) rfl) ?_
    obtain ⟨x24,e24,h1⟩:=fE h1
    refine eT rfl rfl rfl rfl (λH hH=>oC rfl rfl (.cons rfl .nil) GI (dG.refl _) (EM e24)) ?_
    obtain ⟨x25,e25,h1⟩:=iI h1
    refine eT rfl rfl rfl rfl (λH hH=>aNY (r':=x25) rfl Tryz.underlying127 sz3 c3 (by decide) rfl rfl (.cons (.int Tryz.underlying3) dM (.cons (.int Tryz.underlying3) dM (.cons (.int Tryz.underlying3) dM (.cons (.int Tryz.underlying3) dM (.cons (.int Tryz.underlying3) dM (.cons (.int Tryz.underlying3) dM (.cons (.int Tryz.underlying3) dM (.cons (.int Tryz.underlying3) dM (.cons (.int Tryz.underlying3) dM (.cons (.int Tryz.underlying3) dM (.cons (.int Tryz.underlying3) dM (.nil _)))))))))))) ((congrArg Bool.not (iX.eqv (x22:iX) (x24:iX))).trans e25)) ?_
    refine oK (hK _ ?_)
    cases x25
    replace h1:=cf h1
    refine tc aA 5 (.mk ?_)
    refine ni aA h1 λx26 h1=>?_
    refine tr aA 2 (.mk ?_)
    exact bk x26 () h1 dP
    replace h1:=ct h1
    refine tc aA 5 (.mk ?_)
    obtain ⟨c27,hX,hj⟩:=oG h1;subst hj;replace h0:=hX.trans (nZ h0)
    obtain rfl:=fV h0
    refine wR hret (rT .nil) ?_
    exact .refl _
    rintro _ _ h0
    refine tc aA 5 (.mk ?_)
    refine fH h0 [2,3,4] [1,2] (λ(a:Unit) (k:Unit)=>[]) (λa k=>[]) ⟨λj28 h1 h0=>?_,?_⟩
    refine tc aA 1 (.mk ?_)
    refine lp (λn (a:Int)=>yB a1 a2 n a) (0:Int) () h1 [2,3,4] [1,2] (λ(a:Int) (k:Unit)=>[(7,int a)]) (λa k=>[]) (λ_=>rfl) ⟨dP,?_⟩
    rintro n y5_1 _ hm h1
    replace h1:yB a1 a2 (n+1) y5_1=some _:=h1
    replace hN:=Nat.lt_trans (Nat.lt_of_succ_le hm) hN
    rw [yB] at h1
    refine tc aA 6 (.mk ?_)
    refine sY (kX rfl Tryz.underlying27 rfl (mF _)) ?_
    refine nb aA h1 λx29 h1=>?_
    refine tr aA 1 (.mk ?_)
    cases x29
    replace h1:=cf h1
    refine tc aA 2 (.mk ?_)
    exact oW h1 () dP
    replace h1:=ct h1
    refine tc aA 5 (.mk ?_)
    refine pR [0,1,0,7,15,0,32,0,224,480,1023,2047] (λi=>bif Nat.beq i 0 then ([1]) else bif Nat.beq i 1 then ([1]) else bif Nat.beq i 5 then ([2]) else bif Nat.beq i 6 then ([2]) else []) (λi=>[1,2]) (λi=>true) [0,1,2,3,4,5,6,7,8,9,10,11] mixed (by kernel_rfl) ?_;intro K hK
    refine eT rfl rfl rfl rfl (λH hH=>iC rfl A7 rfl (.pt ((hH _ (by decide)).trans rfl) rfl rfl) (.pt _ _ _ _ _)) ?_
    refine eT rfl rfl rfl rfl (λH hH=>gQ rfl vK rfl (.pt ((hH _ (by decide)).trans rfl) rfl rfl) rfl) ?_
    refine eT rfl rfl rfl rfl (λH hH=>iE rfl rfl) ?_
    obtain ⟨x30,e30,h1⟩:=fE h1
    refine eT rfl rfl rfl rfl (λH hH=>fT (y:=.pp [int x30.fQ,aZ x30.Closed,aH 4 aS.av x30.bR,aH 1 fI x30.dI,aH 11 cB.av x30.dJ,aH 1 fI x30.gJ,aH 1 fI x30.Down,aH 8 aP.av x30.fZ]) (mM rfl Tryz.underlying27 mQ rfl rfl e30) (congrArg AV.pp (aP.fB x30))) ?_
    refine eT rfl rfl rfl rfl (λH hH=>gQ rfl mQ rfl (.pp _) rfl) ?_
    refine eT rfl rfl rfl rfl (λH hH=>iC rfl A7 rfl (.pt ((hH _ (by decide)).trans rfl) rfl rfl) (.pt _ _ _ _ _)) ?_
    refine eT rfl rfl rfl rfl (λH hH=>gQ rfl vK rfl (.pt ((hH _ (by decide)).trans rfl) rfl rfl) rfl) ?_
    refine eT rfl rfl rfl rfl (λH hH=>iE rfl rfl) ?_
    obtain ⟨x31,e31,h1⟩:=fE h1
    refine eT rfl rfl rfl rfl (λH hH=>fT (y:=.pp [int x31.fQ,aZ x31.Closed,aH 4 aS.av x31.bR,aH 1 fI x31.dI,aH 11 cB.av x31.dJ,aH 1 fI x31.gJ,aH 1 fI x31.Down,aH 8 aP.av x31.fZ]) (mM rfl Tryz.underlying27 mQ rfl rfl e31) (congrArg AV.pp (aP.fB x31))) ?_
    refine eT rfl rfl rfl rfl (λH hH=>gQ rfl mQ rfl (.pp _) rfl) ?_
    obtain ⟨x32,e32,h1⟩:=fE h1
    refine eT rfl rfl rfl rfl (λH hH=>oC rfl rfl (.cons rfl (.cons rfl .nil)) aC5 (dG.refl _) (ih _ hN e32)) ?_
    obtain ⟨x33,e33,h1⟩:=iI h1
    refine eT rfl rfl rfl rfl (λH hH=>NI rfl rfl e33) ?_
    refine oK (hK _ ?_)
    cases x33
    replace h1:=cf h1
    refine tc aA 5 (.mk ?_)
    refine ni aA h1 λx34 h1=>?_
    refine tr aA 2 (.mk ?_)
    exact bk x34 () h1 dP
    replace h1:=ct h1
    refine tc aA 5 (.mk ?_)
    obtain ⟨c35,hX,hj⟩:=oG h1;subst hj;replace h0:=hX.trans (nZ h0)
    obtain rfl:=fV h0
    refine wR hret (rT .nil) ?_
    exact .refl _
    rintro _ _ h0
    refine tc aA 1 (.mk ?_)
    refine jn h0 [] [] (λ(a:Bool) (k:Unit)=>[(4,aZ a)]) (λa k=>[]) ⟨λj36 h1=>?_,?_⟩
    refine tc aA 5 (.mk ?_)
    obtain ⟨x37,e37,h1⟩:=fE h1
    refine sC C7 (DJ e37) ?_
    refine tr aA 1 (.mk ?_)
    cases x37
    replace h1:=cf h1
    refine tr aA 15 (.mk ?_)
    exact lf h1 () dP
    replace h1:=ct h1
    refine tr aA 4 (.mk ?_)
    obtain ⟨x38,e38,h1⟩:=fE h1
    refine sC C7 (DJ e38) ?_
    refine tr aA 2 (.mk ?_)
    cases x38
    replace h1:=cf h1
    refine tr aA 8 (.mk ?_)
    exact lf h1 () dP
    replace h1:=ct h1
    refine tr aA 4 (.mk ?_)
    obtain ⟨x39,e39,h1⟩:=fE h1
    refine sC C7 (DJ e39) ?_
    refine tr aA 3 (.mk ?_)
    exact lf h1 () dP
    rintro y7_1 _ h0
    obtain rfl:=fV h0
    refine wR hret (rT .nil) ?_
    exact .refl _
    replace h0:=ct h0
    refine tc aA 5 (.mk ?_)
    obtain rfl:=fV h0
    refine wR hret (rT .nil) ?_
    exact .refl _
def TM (n:Nat) (a1:aB) (a2:aB):WT Tryz.prog (.b (Bool)) :=
 .al 1<|.al 2<|.jn 0 [2,3,4] [1,2] [] (λ_ (a:Bool)=>[(33,aZ a)]) (λ_ _=>[]) (.cl 10 (IS n a1.bF a2.bF) aNV aQM λx5=>.bB 11 (!x5) λx6=>.ifs [11] x6 (.ret true) (.ln 15 aP.av a1.bA<|.ln 18 aP.av a2.bA<|.bB 19 (decide ((a1.bA.length:Int)≠(a2.bA.length:Int))) λx7=>.ifs [19] x7 (.ret true) (.bB 26 (decide (a1.Done≠a2.Done)) λx8=>.ifs [26] x8 (.ret true) (.cl 31 (KS n a1 a2) aGO aRW λx9=>.bB 32 (!x9) λx10=>.ret x10)))) (λy0_1=>.ifs [33] y0_1 (.ret ((false:Bool))) (.fH 2 [4] [] [] (λ_ (a:Unit)=>[]) (λ_ _=>[]) (.lp [2,3,4] [1,2] [] (λ_ (a:Int)=>[(5,int a)]) (λ_ _=>[]) n 0 (λy1_1=>.ln 37 aP.av a1.bA<|.bB 38 (decide (y1_1<(a1.bA.length:Int))) λx11=>.ifs [38] x11 (.dr [(0,[1]),(1,[1]),(5,[2]),(6,[2])] [] [1,2] [] [0,1,2,3,4,5,6,7,8,9,10,11] (.jC 44 aP.av gE aP.fB a1.bA y1_1 λx12=>.jC 49 aP.av gE aP.fB a2.bA y1_1 λx13=>.cl 51 (vO n x12 x13) aC5 aRO λx14=>.bB 52 (!x14) λx15=>.ifs [52] x15 (.esc (.esc (.ret ((false:Bool))))) (.bI 40 (bE (y1_1+1)) λx16=>.brk x16))) (.esc (.brk ())))) (λ_=>.ret ((true:Bool)))))
def B5 (n:Nat) (a1:aB) (a2:aB):Option (Bool):=(TM n a1 a2).run
theorem aEJ {n a1 a2 r} (h0:B5 n a1 a2=some r):PP Tryz.prog 23 [.agg (aB.av a1),.agg (aB.av a2)] (λy=>y=aZ r) :=
 bY mixed aA (λr:Bool=>aZ r) h0 Tryz.func23 (λr=>gT r) 100000 au
def YS (n:Nat) (a1:aB):WT Tryz.prog (.b (Bool)) :=
 .al 1<|.dr [(0,[1]),(1,[1]),(2,[1]),(4,[1]),(5,[1]),(6,[1])] [] [1] [] [0,1,2,3,4,5,6,7,8,9,10] (.bI 14 (bE (a1.bF.gG-1)) λx3=>.ln 18 fI a1.bF.bW<|.bI 19 (bE ((a1.bF.bW.length:Int)-1)) λx4=>.fH 1 [1,2,3,4] [1] [] (λ_ (a:Unit)=>[]) (λ_ _=>[]) (.lp [1,2,3,4] [1] [] (λ_ (a:Int)=>[(5,int a)]) (λ_ _=>[]) n 0 (λy0_1=>.ln 23 dX.av a1.bX<|.bB 24 (decide (y0_1<(a1.bX.length:Int))) λx5=>.ifs [24] x5 (.ix 30 dX.av a1.bX y0_1 λx6=>.al 2<|.jn 0 [1,2,3,4,5] [1] [] (λ_ (a:Bool)=>[(83,aZ a)]) (λ_ _=>[]) (.cl 35 (jV x6.fU x3) kY kV λx8=>.bB 36 (!x8) λx9=>.ifs [36] x9 (.ret true) (.cl 41 (jV x6.Item x4) kY kV λx10=>.bB 42 (!x10) λx11=>.ifs [42] x11 (.ret true) (.cl 47 (jV x6.Loc 1) kY kV λx12=>.bB 48 (!x12) λx13=>.ifs [48] x13 (.ret true) (.cl 53 (jV x6.aT 288230376151711744) kY kV λx14=>.bB 54 (!x14) λx15=>.ifs [54] x15 (.ret true) (.cl 59 (jV x6.Value 288230376151711744) kY kV λx16=>.bB 60 (!x16) λx17=>.ifs [60] x17 (.ret true) (.cl 67 (jV x6.Open x6.aT) kY kV λx18=>.bB 68 (!x18) λx19=>.ifs [68] x19 (.ret true) (.cl 73 (jV x6.jW 288230376151711744) kY kV λx20=>.bB 74 (!x20) λx21=>.ifs [74] x21 (.ret true) (.cl 81 (jV x6.jB x6.aT) kY kV λx22=>.bB 82 (!x22) λx23=>.ret x23)))))))) (λy1_1=>.ifs [83] y1_1 (.esc (.esc (.ret ((false:Bool))))) (.bI 26 (bE (y0_1+1)) λx24=>.brk x24))) (.esc (.brk ())))) (λ_=>.fH 1 [1,2,3,4] [1] [] (λ_ (a:Unit)=>[]) (λ_ _=>[]) (.lp [1,2,3,4] [1] [] (λ_ (a:Int)=>[(7,int a)]) (λ_ _=>[]) n 0 (λy3_1=>.ln 87 fA.av a1.dS<|.bB 88 (decide (y3_1<(a1.dS.length:Int))) λx25=>.ifs [88] x25 (.ix 94 fA.av a1.dS y3_1 λx26=>.al 3<|.jn 0 [1,2,3,4,7] [1] [] (λ_ (a:Bool)=>[(146,aZ a)]) (λ_ _=>[]) (.cl 99 (jV x26.fU x3) kY kV λx28=>.bB 100 (!x28) λx29=>.ifs [100] x29 (.ret true) (.cl 105 (jV x26.Item x4) kY kV λx30=>.bB 106 (!x30) λx31=>.ifs [106] x31 (.ret true) (.cl 111 (jV x26.Loc 1) kY kV λx32=>.bB 112 (!x32) λx33=>.ifs [112] x33 (.ret true) (.cl 117 (jV x26.aT 288230376151711744) kY kV λx34=>.bB 118 (!x34) λx35=>.ifs [118] x35 (.ret true) (.cl 125 (jV x26.jB x26.aT) kY kV λx36=>.bB 126 (!x36) λx37=>.ifs [126] x37 (.ret true) (.cl 131 (jV x26.rD 288230376151711744) kY kV λx38=>.bB 132 (!x38) λx39=>.ifs [132] x39 (.ret true) (.cl 137 (pI x26.bO) tO sJ λx40=>.bB 138 (!x40) λx41=>.ifs [138] x41 (.ret true) (.bI 143 (bE (x26.oP-1)) λx42=>.cl 144 (jV x42 11) kY kV λx43=>.bB 145 (!x43) λx44=>.ret x44)))))))) (λy4_1=>.ifs [146] y4_1 (.esc (.esc (.ret ((false:Bool))))) (.bI 90 (bE (y3_1+1)) λx45=>.brk x45))) (.esc (.brk ())))) (λ_=>.fH 1 [1,2] [1] [] (λ_ (a:Unit)=>[]) (λ_ _=>[]) (.lp [1,2,3,4] [1] [] (λ_ (a:Int)=>[(9,int a)]) (λ_ _=>[]) n 0 (λy6_1=>.ln 150 fP.av a1.dH<|.bB 151 (decide (y6_1<(a1.dH.length:Int))) λx46=>.ifs [151] x46 (.ix 157 fP.av a1.dH y6_1 λx47=>.al 4<|.jn 0 [1,2,3,4,9] [1] [] (λ_ (a:Bool)=>[(195,aZ a)]) (λ_ _=>[]) (.cl 162 (jV x47.uL x3) kY kV λx49=>.bB 163 (!x49) λx50=>.ifs [163] x50 (.ret true) (.cl 168 (jV x47.To x3) kY kV λx51=>.bB 169 (!x51) λx52=>.ifs [169] x52 (.ret true) (.cl 175 (jV x47.Item x4) kY kV λx53=>.bB 176 (!x53) λx54=>.ifs [176] x54 (.ret true) (.cl 181 (jV x47.aT 288230376151711744) kY kV λx55=>.bB 182 (!x55) λx56=>.ifs [182] x56 (.ret true) (.cl 187 (jV x47.Value 288230376151711744) kY kV λx57=>.bB 188 (!x57) λx58=>.ifs [188] x58 (.ret true) (.cl 193 (pI x47.bO) tO sJ λx59=>.bB 194 (!x59) λx60=>.ret x60)))))) (λy7_1=>.ifs [195] y7_1 (.esc (.esc (.ret ((false:Bool))))) (.bI 153 (bE (y6_1+1)) λx61=>.brk x61))) (.esc (.brk ())))) (λ_=>.jn 0 [] [] [] (λ_ (a:Bool)=>[(2,aZ a)]) (λ_ _=>[]) (.ln 198 dX.av a1.bX<|.bB 199 (decide ((a1.bX.length:Int)<=40)) λx62=>.ifs [199] x62 (.ln 203 fA.av a1.dS<|.bB 204 (decide ((a1.dS.length:Int)<=40)) λx63=>.ifs [204] x63 (.ln 209 fP.av a1.dH<|.bB 210 (decide ((a1.dH.length:Int)<=40)) λx64=>.ret x64) (.ret false)) (.ret false)) (λy9_1=>.ret ((y9_1:Bool)))))))
def IP (n:Nat) (a1:aB):Option (Bool):=(YS n a1).run
theorem aG7 {n a1 r} (h0:IP n a1=some r):PP Tryz.prog 91 [.agg (aB.av a1)] (λy=>y=aZ r) :=
 bY mixed aA (λr:Bool=>aZ r) h0 Tryz.func91 (λr=>gT r) 100000 au
def aEI (n:Nat) (a1:List Int) (a2:Int) (a3:Int):WT Tryz.prog (.b (Bool)) :=
 .ln 9 fI a1<|.bB 11 (decide ((a1.length:Int)≠a2)) λx4=>.ifs [11] x4 (.ret ((false:Bool))) (.fH 2 [6] [] [] (λ_ (a:Unit)=>[]) (λ_ _=>[]) (.lp [0,1,2,6] [] [] (λ_ (a:Int)=>[(7,int a)]) (λ_ _=>[]) n 0 (λy0_1=>.bB 14 (decide (y0_1<a2)) λx5=>.ifs [14] x5 (.jn 2 [0,1,2,6,7] [] [] (λ_ (a:Bool)=>[(29,aZ a)]) (λ_ _=>[]) (.ix 19 fI a1 y0_1 λx6=>.bB 22 (decide (x6<a3)) λx7=>.ifs [22] x7 (.ret true) (.ix 26 fI a1 y0_1 λx8=>.bB 28 (decide (x8>288230376151711744)) λx9=>.ret x9)) (λy1_1=>.ifs [29] y1_1 (.esc (.esc (.ret ((false:Bool))))) (.bI 16 (bE (y0_1+1)) λx10=>.brk x10))) (.esc (.brk ())))) (λ_=>.ret ((true:Bool))))
def C8 (n:Nat) (a1:List Int) (a2:Int) (a3:Int):Option (Bool):=(aEI n a1 a2 a3).run
theorem NQ {n a1 a2 a3 r} (h0:C8 n a1 a2 a3=some r):PP Tryz.prog 136 [aH 1 fI a1,int a2,int a3] (λy=>y=aZ r) :=
 bY mixed aA (λr:Bool=>aZ r) h0 Tryz.func136 (λr=>gT r) 100000 au
def pF (a1:Int) (a2:aS):Nat->Int->Int->Option ((Unit)⊕(Bool))
  | 0,_,_=>none
  | n+1,y1_1,y1_2 =>
    bnd (decide (y1_2<3)) λx13 =>
    cond x13 ((show Option ((Int)⊕((Unit)⊕(Bool))) from
    (show Option (Bool) from
    bnd (decide (y1_2=0)) λx16 =>
    cond x16 (bnd (decide (a2.bC.a0<0)) λx27 =>
    cond x27 (some (true:Bool)) (bnd (decide (a2.bC.a0>y1_1)) λx28 =>
    cond x28 (some (true:Bool)) (bnd (decide (a1≠3)) λx29 =>
    cond x29 (bnd (decide (a2.bC.a0≠0)) λx30 =>
    some (x30:Bool)) (some (false:Bool))))) (bnd (decide (y1_2=1)) λx17 =>
    cond x17 (bnd (decide (a2.bC.a1<0)) λx23 =>
    cond x23 (some (true:Bool)) (bnd (decide (a2.bC.a1>y1_1)) λx24 =>
    cond x24 (some (true:Bool)) (bnd (decide (a1≠3)) λx25 =>
    cond x25 (bnd (decide (a2.bC.a1≠0)) λx26 =>
    some (x26:Bool)) (some (false:Bool))))) (gV (y1_2=2)<|
    bnd (decide (a2.bC.a2<0)) λx19 =>
    cond x19 (some (true:Bool)) (bnd (decide (a2.bC.a2>y1_1)) λx20 =>
    cond x20 (some (true:Bool)) (bnd (decide (a1≠3)) λx21 =>
    cond x21 (bnd (decide (a2.bC.a2≠0)) λx22 =>
    some (x22:Bool)) (some (false:Bool))))))).bind <| λy2_1 =>
    cond y2_1 (esc (esc (some ((false:Bool))))) (bnd (decide (y1_2=0)) λx31 =>
    cond x31 (bnd (bE (y1_1-a2.bC.a0)) λx36 =>
    brk (x36:Int)) (bnd (decide (y1_2=1)) λx32 =>
    cond x32 (bnd (bE (y1_1-a2.bC.a1)) λx35 =>
    brk (x35:Int)) (gV (y1_2=2)<|
    bnd (bE (y1_1-a2.bC.a2)) λx34 =>
    brk (x34:Int))))).bind <| sel <| λy3_1 =>
    bnd (bE (y1_2+1)) λx39 =>
    pF a1 a2 n (y3_1:Int) (x39:Int)) (brk ())
def GQ (n:Nat) (a1:Int) (a2:aS):Option (Bool) :=
(show Option (Bool) from
bnd (decide (a1<1)) λx5 =>
cond x5 (some (true:Bool)) (bnd (decide (a1>4)) λx6 =>
cond x6 (some (true:Bool)) ((zY n a2.aI).bind λx7 =>
bnd (!x7) λx8 =>
cond x8 (some (true:Bool)) (bnd (decide (a1≠1)) λx9 =>
cond x9 (bnd (decide ((a2.aI.length:Int)>1)) λx10 =>
some (x10:Bool)) (some (false:Bool)))))).bind <| λy0_1 =>
cond y0_1 (some ((false:Bool))) ((wT n a2).bind λx11 =>
(show Option ((Unit)⊕(Bool)) from
pF a1 a2 n (x11.aT:Int) (0:Int)).bind <| sel <| λ_ =>
some ((true:Bool)))
theorem aMA {n:Nat} {a1:Int} {a2:aS} {r:Bool} (h0:GQ n a1 a2=some r):PP Tryz.prog 137 [int a1,.agg (aS.av a2)] (λy=>y=aZ r):=by
  unfold GQ at h0
  refine oN (R0:=λy H=>Cv (lH H) y (aZ r)) ?_ (λy H hc=>⟨_,rfl,gT r,hc⟩)
  refine lN (c:=_) Tryz.func137 rfl rfl ?_;intro Q hret hnorm
  refine tc aA 2 (.mk ?_)
  refine sB 1 λv3=>?_
  refine tr aA 4 (.mk ?_)
  refine jn h0 [0,3,4] [1] (λ(a:Bool) (k:Unit)=>[(28,aZ a)]) (λa k=>[]) ⟨λj4 h1=>?_,?_⟩
  refine tc aA 2 (.mk ?_)
  refine nb aA h1 λx5 h1=>?_
  refine tr aA 1 (.mk ?_)
  cases x5
  replace h1:=cf h1
  refine tr aA 1 (.mk ?_)
  refine nb aA h1 λx6 h1=>?_
  refine tr aA 2 (.mk ?_)
  cases x6
  replace h1:=cf h1
  refine tr aA 2 (.mk ?_)
  obtain ⟨x7,e7,h1⟩:=fE h1
  refine sC IC (KI e7) ?_
  refine nb aA h1 λx8 h1=>?_
  refine tr aA 2 (.mk ?_)
  cases x8
  replace h1:=cf h1
  refine tr aA 1 (.mk ?_)
  refine nb aA h1 λx9 h1=>?_
  refine tr aA 1 (.mk ?_)
  cases x9
  replace h1:=cf h1
  refine tr aA 7 (.mk ?_)
  exact lf h1 () dP
  replace h1:=ct h1
  refine tr aA 2 (.mk ?_)
  refine sY (kX rfl Tryz.underlying96 rfl (mF _)) ?_
  refine nb aA h1 λx10 h1=>?_
  refine tr aA 3 (.mk ?_)
  exact lf h1 () dP
  replace h1:=ct h1
  refine tr aA 10 (.mk ?_)
  exact lf h1 () dP
  replace h1:=ct h1
  refine tr aA 16 (.mk ?_)
  exact lf h1 () dP
  replace h1:=ct h1
  refine tr aA 20 (.mk ?_)
  exact lf h1 () dP
  rintro y0_1 _ h0
  cases y0_1
  replace h0:=cf h0
  refine tc aA 5 (.mk ?_)
  obtain ⟨x11,e11,h0⟩:=fE h0
  refine sC BZ (BG e11) ?_
  refine tr aA 8 (.mk ?_)
  refine fH h0 [4] [] (λ(a:Unit) (k:Unit)=>[]) (λa k=>[]) ⟨λj12 h1 h0=>?_,?_⟩
  refine tc aA 1 (.mk ?_)
  refine lp (λn (a:Int×Int)=>pF a1 a2 n a.1 a.2) ((x11.aT:Int),(0:Int)) () h1 [0,3,4] [1] (λ(a:Int×Int) (k:Unit)=>[(5,int a.1),(6,int a.2)]) (λa k=>[]) (λ_=>rfl) ⟨dP,?_⟩
  rintro n ⟨y1_1,y1_2⟩ _ hm h1
  replace h1:pF a1 a2 (n+1) y1_1 y1_2=some _:=h1
  rw [pF] at h1
  refine tc aA 4 (.mk ?_)
  refine nb aA h1 λx13 h1=>?_
  refine tr aA 1 (.mk ?_)
  cases x13
  replace h1:=cf h1
  refine tc aA 2 (.mk ?_)
  exact oW h1 () dP
  replace h1:=ct h1
  refine tc aA 3 (.mk ?_)
  refine fH h1 [0,3,4,6] [1] (λ(a:Int) (k:Unit)=>[(5,int a)]) (λa k=>[]) ⟨λj14 h2 h1=>?_,?_⟩
  refine tc aA 3 (.mk ?_)
  refine jn h2 [0,3,4,5,6] [1] (λ(a:Bool) (k:Unit)=>[(59,aZ a)]) (λa k=>[]) ⟨λj15 h3=>?_,?_⟩
  refine tc aA 3 (.mk ?_)
  obtain ⟨x16,e16,h3⟩:=iI h3
  cases x16
  replace h3:=cf h3
  obtain ⟨x17,e17,h3⟩:=iI h3
  cases x17
  replace h3:=cf h3
  obtain ⟨p18,h3⟩:=iR h3
  refine kU 36 (int 2) rfl (congrArg int p18) ?_
  refine sY (fT (y:=.pt 1 v3 0 3) (iJ rfl Tryz.underlying97 dM rfl rfl rfl rfl rfl (by decide)) rfl) ?_
  refine tr aA 1 (.mk ?_)
  refine nb aA h3 λx19 h3=>?_
  refine tr aA 1 (.mk ?_)
  cases x19
  replace h3:=cf h3
  refine tr aA 2 (.mk ?_)
  refine kU 42 (int 2) rfl (congrArg int p18) ?_
  refine sY (fT (y:=.pt 1 v3 0 3) (iJ rfl Tryz.underlying97 dM rfl rfl rfl rfl rfl (by decide)) rfl) ?_
  refine tr aA 2 (.mk ?_)
  refine nb aA h3 λx20 h3=>?_
  refine tr aA 2 (.mk ?_)
  cases x20
  replace h3:=cf h3
  refine tr aA 1 (.mk ?_)
  refine nb aA h3 λx21 h3=>?_
  refine tr aA 1 (.mk ?_)
  cases x21
  replace h3:=cf h3
  refine tr aA 8 (.mk ?_)
  exact lf h3 () dP
  replace h3:=ct h3
  refine tr aA 2 (.mk ?_)
  refine kU 53 (int 2) rfl (congrArg int p18) ?_
  refine sY (fT (y:=.pt 1 v3 0 3) (iJ rfl Tryz.underlying97 dM rfl rfl rfl rfl rfl (by decide)) rfl) ?_
  refine tr aA 1 (.mk ?_)
  refine nb aA h3 λx22 h3=>?_
  refine tr aA 3 (.mk ?_)
  exact lf h3 () dP
  replace h3:=ct h3
  refine tr aA 11 (.mk ?_)
  exact lf h3 () dP
  replace h3:=ct h3
  refine tr aA 19 (.mk ?_)
  exact lf h3 () dP
  replace h3:=ct h3
  refine kU 36 (int 1) rfl (congrArg int (of_decide_eq_true e17)) ?_
  refine sY (fT (y:=.pt 1 v3 0 2) (iJ rfl Tryz.underlying97 dM rfl rfl rfl rfl rfl (by decide)) rfl) ?_
  refine tr aA 1 (.mk ?_)
  refine nb aA h3 λx23 h3=>?_
  refine tr aA 1 (.mk ?_)
  cases x23
  replace h3:=cf h3
  refine tr aA 2 (.mk ?_)
  refine kU 42 (int 1) rfl (congrArg int (of_decide_eq_true e17)) ?_
  refine sY (fT (y:=.pt 1 v3 0 2) (iJ rfl Tryz.underlying97 dM rfl rfl rfl rfl rfl (by decide)) rfl) ?_
  refine tr aA 2 (.mk ?_)
  refine nb aA h3 λx24 h3=>?_
  refine tr aA 2 (.mk ?_)
  cases x24
  replace h3:=cf h3
  refine tr aA 1 (.mk ?_)
  refine nb aA h3 λx25 h3=>?_
  refine tr aA 1 (.mk ?_)
  cases x25
  replace h3:=cf h3
  refine tr aA 8 (.mk ?_)
  exact lf h3 () dP
  replace h3:=ct h3
  refine tr aA 2 (.mk ?_)
  refine kU 53 (int 1) rfl (congrArg int (of_decide_eq_true e17)) ?_
  refine sY (fT (y:=.pt 1 v3 0 2) (iJ rfl Tryz.underlying97 dM rfl rfl rfl rfl rfl (by decide)) rfl) ?_
  refine tr aA 1 (.mk ?_)
  refine nb aA h3 λx26 h3=>?_
  refine tr aA 3 (.mk ?_)
  exact lf h3 () dP
  replace h3:=ct h3
  refine tr aA 11 (.mk ?_)
  exact lf h3 () dP
  replace h3:=ct h3
  refine tr aA 19 (.mk ?_)
  exact lf h3 () dP
  replace h3:=ct h3
  refine kU 36 (int 0) rfl (congrArg int (of_decide_eq_true e16)) ?_
  refine sY (fT (y:=.pt 1 v3 0 1) (iJ rfl Tryz.underlying97 dM rfl rfl rfl rfl rfl (by decide)) rfl) ?_
  refine tr aA 1 (.mk ?_)
  refine nb aA h3 λx27 h3=>?_
  refine tr aA 1 (.mk ?_)
  cases x27
  replace h3:=cf h3
  refine tr aA 2 (.mk ?_)
  refine kU 42 (int 0) rfl (congrArg int (of_decide_eq_true e16)) ?_
  refine sY (fT (y:=.pt 1 v3 0 1) (iJ rfl Tryz.underlying97 dM rfl rfl rfl rfl rfl (by decide)) rfl) ?_
  refine tr aA 2 (.mk ?_)
  refine nb aA h3 λx28 h3=>?_
  refine tr aA 2 (.mk ?_)
  cases x28
  replace h3:=cf h3
  refine tr aA 1 (.mk ?_)
  refine nb aA h3 λx29 h3=>?_
  refine tr aA 1 (.mk ?_)
  cases x29
  replace h3:=cf h3
  refine tr aA 8 (.mk ?_)
  exact lf h3 () dP
  replace h3:=ct h3
  refine tr aA 2 (.mk ?_)
  refine kU 53 (int 0) rfl (congrArg int (of_decide_eq_true e16)) ?_
  refine sY (fT (y:=.pt 1 v3 0 1) (iJ rfl Tryz.underlying97 dM rfl rfl rfl rfl rfl (by decide)) rfl) ?_
  refine tr aA 1 (.mk ?_)
  refine nb aA h3 λx30 h3=>?_
  refine tr aA 3 (.mk ?_)
  exact lf h3 () dP
  replace h3:=ct h3
  refine tr aA 11 (.mk ?_)
  exact lf h3 () dP
  replace h3:=ct h3
  refine tr aA 19 (.mk ?_)
  exact lf h3 () dP
  rintro y2_1 _ h2
  cases y2_1
  replace h2:=cf h2
  refine tc aA 6 (.mk ?_)
  obtain ⟨x31,e31,h2⟩:=iI h2
  cases x31
  replace h2:=cf h2
  obtain ⟨x32,e32,h2⟩:=iI h2
  cases x32
  replace h2:=cf h2
  obtain ⟨p33,h2⟩:=iR h2
  refine kU 61 (int 2) rfl (congrArg int p33) ?_
  refine sY (fT (y:=.pt 1 v3 0 3) (iJ rfl Tryz.underlying97 dM rfl rfl rfl rfl rfl (by decide)) rfl) ?_
  refine tr aA 1 (.mk ?_)
  refine ni aA h2 λx34 h2=>?_
  refine tr aA 3 (.mk ?_)
  exact oW h2 () dP
  replace h2:=ct h2
  refine kU 61 (int 1) rfl (congrArg int (of_decide_eq_true e32)) ?_
  refine sY (fT (y:=.pt 1 v3 0 2) (iJ rfl Tryz.underlying97 dM rfl rfl rfl rfl rfl (by decide)) rfl) ?_
  refine tr aA 1 (.mk ?_)
  refine ni aA h2 λx35 h2=>?_
  refine tr aA 3 (.mk ?_)
  exact oW h2 () dP
  replace h2:=ct h2
  refine kU 61 (int 0) rfl (congrArg int (of_decide_eq_true e31)) ?_
  refine sY (fT (y:=.pt 1 v3 0 1) (iJ rfl Tryz.underlying97 dM rfl rfl rfl rfl rfl (by decide)) rfl) ?_
  refine tr aA 1 (.mk ?_)
  refine ni aA h2 λx36 h2=>?_
  refine tr aA 3 (.mk ?_)
  exact oW h2 () dP
  replace h2:=ct h2
  refine tc aA 5 (.mk ?_)
  obtain ⟨c37,hX,hj⟩:=oG h2;subst hj;replace h1:=hX.trans (nZ h1)
  obtain ⟨c38,hX,hj⟩:=oG h1;subst hj;replace h0:=hX.trans (nZ h0)
  obtain rfl:=fV h0
  refine wR hret (rT .nil) ?_
  exact .refl _
  rintro y3_1 _ h1
  refine tc aA 2 (.mk ?_)
  refine ni aA h1 λx39 h1=>?_
  refine tr aA 2 (.mk ?_)
  exact bk (y3_1,x39) () h1 dP
  rintro _ _ h0
  refine tc aA 4 (.mk ?_)
  obtain rfl:=fV h0
  refine wR hret (rT .nil) ?_
  exact .refl _
  replace h0:=ct h0
  refine tc aA 5 (.mk ?_)
  obtain rfl:=fV h0
  refine wR hret (rT .nil) ?_
  exact .refl _
end
end Go.Pv
