import Derived.Test.YtidcjedeacampaaGreatX80e
set_option linter.unusedVariables false
set_option linter.unusedSimpArgs false
namespace Go.Pv
open Go.Proofs
set_option maxRecDepth 100000
set_option maxHeartbeats 4000000
noncomputable section
def K8 (n:Nat) (a1:aB) (a2:Int) (a3:Int) (a4:Int) (a5:aF):WT Tryz.prog (.b (aB×Int×Int×Int)) :=
 .al 1<|.al 2<|.al 3<|.jn 0 [1,2,3,5,9,10,11,12,13] [1,2,3] [] (λ_ (a:Bool)=>[(29,aZ a)]) (λ_ _=>[]) (.cl 23 (yD a1 a2 a3) G7 FQ λx9=>.bB 24 (!x9) λx10=>.ifs [24] x10 (.ret true) (.cl 27 (jV a4 1) kY kV λx11=>.bB 28 (!x11) λx12=>.ret x12)) (λy0_1=>.ifs [29] y0_1 (.ret ((a1:aB),0,0,4)) (.dr [(0,[1]),(1,[1]),(2,[1]),(9,[1]),(10,[1]),(11,[1]),(18,[1]),(23,[2])] [(30,[])] [1,2] [29,30] [0,1,2,3,4,5,6,7,8,9,10,11,12,13,14,15,16,17,18,19,20,21,22,23,24,25,26,27,28,29,30,31,32] (.ix 36 (fL 1 fI) a1.bF.Methods a2 λx13=>.ix 39 fI x13 a3 λx14=>.ix 45 (fL 1 fI) a1.bF.gX a2 λx15=>.ix 48 fI x15 a3 λx16=>.cl 54 (rG a1 a2 a3 a4) wZ vW λx17=>.cl 56 (C9 n x14 x16 x17 a5) aMV aPK λx18=>.al 4<|.bB 61 (decide (x18.2.2≠0)) λx20=>.ifs [61] x20 (.ret ((a1:aB),0,0,x18.2.2)) (.cl 69 (wI a1 a2 a3 a4 x18.1) BU CY λx21=>.al 5<|.cl 74 (BC n x21 a2 a3) UO aBV λx23=>.bB 78 (decide (x23.2≠0)) λx24=>.ifs [78] x24 (.ret ((a1:aB),0,0,2)) (.jn 3 [5,9,10,11,12,13,15,17] [1,2,3,5] [7] (λu3 (a:(List aF))=>[(18,.sl 7 (u3 7) 0 a.length)]) (λ_ a=>[.nw 7 69 3 (a.map aF.av)]) (.no 18 7 69 3<|.lp [1,2,5,9,10,11,12,13,15,17] [1,2,3,5] [7] (λu4 (a:Int×(List aF))=>[(18,.sl 7 (u4 7) 0 a.2.length),(19,int a.1)]) (λ_ a=>[.nw 7 69 3 (a.2.map aF.av)]) n ((0:Int),(([]:List aF):List aF)) (pw λy1_2 y1_3=>.bB 81 (decide (y1_2<2)) λx26=>.ifs [81] x26 (.cl 89 (rG x21 a2 a3 y1_2) wZ vW λx27=>.bl (y1_3++x27.aI:List aF) λx28=>.as (x28.length<=68719476736) inferInstance<|.ge 91 0<|.bI 83 (bE (y1_2+1)) λx31=>.brk ((x31:Int),x28)) (.esc (.ret y1_3)))) (λy2_2=>.kZ 94 (GH n y2_2) aA3 aCH (λ_=>rfl) λx32=>.bB 98 (decide (x32.2≠0)) λx33=>.ifs [98] x33 (.ret ((a1:aB),0,0,2)) (.dr [(0,[5]),(1,[2]),(2,[2])] [(6,[2])] [2,5] [6] [0,1,2,3,4,5,6,7,8,9] (.bI 104 (bE (a5.Value-x18.2.1)) λx34=>.ret ((x21:aB),x34,x18.2.1,0)))))))))
def qO (n:Nat) (a1:aB) (a2:Int) (a3:Int) (a4:Int) (a5:aF):Option (aB×Int×Int×Int):=(K8 n a1 a2 a3 a4 a5).run
theorem FR {n a1 a2 a3 a4 a5 r} (h0:qO n a1 a2 a3 a4 a5=some r):PP Tryz.prog 44 [.agg (aB.av a1),int a2,int a3,int a4,.agg (aF.av a5)] (λy=>y=.bD [.agg (aB.av r.1),int r.2.1,int r.2.2.1,int r.2.2.2]) :=
 bY mixed aA (λr:aB×Int×Int×Int=>.bD [.agg (aB.av r.1),int r.2.1,int r.2.2.1,int r.2.2.2]) h0 Tryz.func44 (λr=>.bD (JB ((λ(a:aB)=>PV.agg (aB.dR a)) (r.1)) (bQ (r.2.1)) (bQ (r.2.2.1)) (bQ (r.2.2.2)))) 100000 au
def BF (n:Nat) (a1:aB) (a2:bJ):WT Tryz.prog (.b (aB×Int)) :=
 .al 1<|.al 2<|.al 3<|.bB 13 (decide (a2.Kind≠1)) λx6=>.ifs [13] x6 (.ret ((a1:aB),1)) (.cl 20 (pK a1 a2.E a2.Item) vN vB λx7=>.bB 22 (decide (x7≠0)) λx8=>.ifs [22] x8 (.ret ((a1:aB),x7)) (.ln 27 dX.av a1.bX<|.bB 28 (decide ((a1.bX.length:Int)>=40)) λx9=>.ifs [28] x9 (.ret ((a1:aB),6)) (.cl 43 (qO n a1 a2.E a2.Item a2.Loc (⟨a2.aT,a2.bM,0⟩:aF)) EY FR λx10=>.al 4<|.bB 49 (decide (x10.2.2.2≠0)) λx12=>.ifs [49] x12 (.ret ((a1:aB),x10.2.2.2)) (.bI 62 (bE (0-a2.bM)) λx13=>.to 64 (aH 2 aN.av ([(⟨0,x10.2.1⟩:aN),(⟨6,x10.2.2.1⟩:aN),(⟨1,x13⟩:aN)]:List aN))<|.cl 65 (lS n x10.1 a2.E ([(⟨0,x10.2.1⟩:aN),(⟨6,x10.2.2.1⟩:aN),(⟨1,x13⟩:aN)]:List aN)) qU qK λx14=>.bB 69 (decide (x14.2≠0)) λx15=>.ifs [69] x15 (.ret ((a1:aB),x14.2)) (.cl 80 (nA n x14.1 a2.E a2.Item (⟨0,x10.2.1,0,0,0,0,0,0,0,0,0⟩:cB)) wE wY λx16=>.bB 84 (decide (x16.2≠0)) λx17=>.ifs [84] x17 (.ret ((a1:aB),x16.2)) (.dr [(0,[4]),(1,[4]),(3,[2]),(4,[2]),(5,[2]),(6,[2]),(7,[2]),(8,[2]),(9,[2]),(10,[2]),(11,[2]),(12,[2]),(13,[2]),(14,[2]),(15,[2]),(16,[2]),(20,[4])] [(2,[2]),(19,[]),(21,[])] [2,4] [2,19,21] [0,1,3,4,5,6,7,8,9,10,11,12,13,14,15,16,17,18,2,19,20,21] (.to 105 (aH 8 dX.av ([(⟨a2.E,a2.Item,a2.Loc,a2.aT,a2.bM,a2.aT,a2.bM,0⟩:dX)]:List dX))<|.as (x16.1.bX.length<=68719476736) inferInstance<|.ge 89 5<|.bl (x16.1.bX++([(⟨a2.E,a2.Item,a2.Loc,a2.aT,a2.bM,a2.aT,a2.bM,0⟩:dX)]:List dX):List dX) λx20=>.as (x20.length<=68719476736) inferInstance<|.ge 106 0<|.ret (((⟨x16.1.bF,x16.1.bA,x20,x16.1.dS,x16.1.dH,x16.1.Done⟩:aB):aB),0))))))))
def qM (n:Nat) (a1:aB) (a2:bJ):Option (aB×Int):=(BF n a1 a2).run
theorem aA4 {n a1 a2 r} (h0:qM n a1 a2=some r):PP Tryz.prog 22 [.agg (aB.av a1),.agg (bJ.av a2)] (λy=>y=.bD [.agg (aB.av r.1),int r.2]) :=
 bY mixed aA (λr:aB×Int=>.bD [.agg (aB.av r.1),int r.2]) h0 Tryz.func22 (λr=>.bD (gK ((λ(a:aB)=>PV.agg (aB.dR a)) (r.1)) (bQ (r.2)))) 100000 au
def VV (n:Nat) (a1:aS):WT Tryz.prog (.b (Int)) :=
 .al 1<|.cl 8 (sH n a1.aI) AB zA λx3=>.al 2<|.gv 14<|.bI 16 (bE (x3.1.aT-a1.bC.a0)) λx5=>.gv 18<|.bI 20 (bE (x5-a1.bC.a1)) λx6=>.gv 22<|.bI 24 (bE (x6-a1.bC.a2)) λx7=>.ret ((x7:Int))
def CU (n:Nat) (a1:aS):Option (Int):=(VV n a1).run
theorem TE {n a1 r} (h0:CU n a1=some r):PP Tryz.prog 183 [.agg (aS.av a1)] (λy=>y=int r) :=
 bY mixed aA (λr:Int=>int r) h0 Tryz.func183 (λr=>bQ r) 100000 au
def EQ (n:Nat) (a1:aS) (a2:Int) (a3:Int):Option (aS×Int) :=
(show Option (Bool) from
bnd (decide (a2<0)) λx7 =>
cond x7 (some (true:Bool)) (bnd (decide (a2>=3)) λx8 =>
cond x8 (some (true:Bool)) (bnd (decide (a3<1)) λx9 =>
some (x9:Bool)))).bind <| λy0_1 =>
cond y0_1 (some ((a1:aS),(1:Int))) ((CU n a1).bind λx10 =>
bnd (decide (a3>x10)) λx11 =>
cond x11 (some ((a1:aS),(5:Int))) (bnd (decide (a2=0)) λx12 =>
cond x12 (bnd (bE (a1.bC.a0+a3)) λx17 =>
some (((⟨a1.aI,(⟨x17,a1.bC.a1,a1.bC.a2⟩:l9)⟩:aS):aS),(0:Int))) (bnd (decide (a2=1)) λx13 =>
cond x13 (bnd (bE (a1.bC.a1+a3)) λx16 =>
some (((⟨a1.aI,(⟨a1.bC.a0,x16,a1.bC.a2⟩:l9)⟩:aS):aS),(0:Int))) (gV (a2=2)<|
bnd (bE (a1.bC.a2+a3)) λx15 =>
some (((⟨a1.aI,(⟨a1.bC.a0,a1.bC.a1,x15⟩:l9)⟩:aS):aS),(0:Int))))))
theorem aPM {n:Nat} {a1:aS} {a2:Int} {a3:Int} {r:aS×Int} (h0:EQ n a1 a2 a3=some r):PP Tryz.prog 186 [.agg (aS.av a1),int a2,int a3] (λy=>y=.bD [.agg (aS.av r.1),int r.2]):=by
  unfold EQ at h0
  refine oN (R0:=λy H=>Cv (lH H) y (.bD [.agg (aS.av r.1),int r.2])) ?_ (λy H hc=>⟨_,rfl,.bD (gK ((λ(a:aS)=>PV.agg (aS.dR a)) (r.1)) (bQ (r.2))),hc⟩)
  refine lN (c:=_) Tryz.func186 rfl rfl ?_;intro Q hret hnorm
  refine tc aA 2 (.mk ?_)
  refine sB 1 λv4=>?_
  refine sA 2 qE λv5=>?_
  refine tr aA 5 (.mk ?_)
  refine jn h0 [1,2,3,6,7] [1,2] (λ(a:Bool) (k:Unit)=>[(8,aZ a)]) (λa k=>[]) ⟨λj6 h1=>?_,?_⟩
  refine tc aA 2 (.mk ?_)
  refine nb aA h1 λx7 h1=>?_
  refine tr aA 1 (.mk ?_)
  cases x7
  replace h1:=cf h1
  refine tr aA 1 (.mk ?_)
  refine nb aA h1 λx8 h1=>?_
  refine tr aA 2 (.mk ?_)
  cases x8
  replace h1:=cf h1
  refine tr aA 1 (.mk ?_)
  refine nb aA h1 λx9 h1=>?_
  refine tr aA 3 (.mk ?_)
  exact lf h1 () dP
  replace h1:=ct h1
  refine tr aA 5 (.mk ?_)
  exact lf h1 () dP
  replace h1:=ct h1
  refine tr aA 9 (.mk ?_)
  exact lf h1 () dP
  rintro y0_1 _ h0
  cases y0_1
  replace h0:=cf h0
  refine tc aA 5 (.mk ?_)
  obtain ⟨x10,e10,h0⟩:=fE h0
  refine sC RG (TE e10) ?_
  refine nb aA h0 λx11 h0=>?_
  refine tr aA 2 (.mk ?_)
  cases x11
  replace h0:=cf h0
  refine tc aA 8 (.mk ?_)
  obtain ⟨x12,e12,h0⟩:=iI h0
  cases x12
  replace h0:=cf h0
  obtain ⟨x13,e13,h0⟩:=iI h0
  cases x13
  replace h0:=cf h0
  obtain ⟨p14,h0⟩:=iR h0
  refine kU 27 (int 2) rfl (congrArg int p14) ?_
  refine sY (fT (y:=.pt 1 v4 0 3) (iJ rfl Tryz.underlying97 dM rfl rfl rfl rfl rfl (by decide)) rfl) ?_
  refine tr aA 2 (.mk ?_)
  refine ni aA h0 λx15 h0=>?_
  refine tr aA 1 (.mk ?_)
  refine kU 26 (int 2) rfl (congrArg int p14) ?_
  refine sY (fT (y:=.pt 1 v4 0 3) (iJ rfl Tryz.underlying97 dM rfl rfl rfl rfl rfl (by decide)) rfl) ?_
  refine sS ⟨99,4,true,true,v4,[[aH 3 aF.av a1.aI,int a1.bC.a0,int a1.bC.a1,int x15]]⟩ dM ?_
  refine tr aA 4 (.mk ?_)
  refine sS ⟨99,4,true,true,v5,[[aH 3 aF.av a1.aI,int a1.bC.a0,int a1.bC.a1,int x15]]⟩ gL ?_
  refine tr aA 2 (.mk ?_)
  obtain rfl:=fV h0
  refine wR hret (rC gL (rT .nil)) ?_
  exact .refl _
  replace h0:=ct h0
  refine kU 27 (int 1) rfl (congrArg int (of_decide_eq_true e13)) ?_
  refine sY (fT (y:=.pt 1 v4 0 2) (iJ rfl Tryz.underlying97 dM rfl rfl rfl rfl rfl (by decide)) rfl) ?_
  refine tr aA 2 (.mk ?_)
  refine ni aA h0 λx16 h0=>?_
  refine tr aA 1 (.mk ?_)
  refine kU 26 (int 1) rfl (congrArg int (of_decide_eq_true e13)) ?_
  refine sY (fT (y:=.pt 1 v4 0 2) (iJ rfl Tryz.underlying97 dM rfl rfl rfl rfl rfl (by decide)) rfl) ?_
  refine sS ⟨99,4,true,true,v4,[[aH 3 aF.av a1.aI,int a1.bC.a0,int x16,int a1.bC.a2]]⟩ dM ?_
  refine tr aA 4 (.mk ?_)
  refine sS ⟨99,4,true,true,v5,[[aH 3 aF.av a1.aI,int a1.bC.a0,int x16,int a1.bC.a2]]⟩ gL ?_
  refine tr aA 2 (.mk ?_)
  obtain rfl:=fV h0
  refine wR hret (rC gL (rT .nil)) ?_
  exact .refl _
  replace h0:=ct h0
  refine kU 27 (int 0) rfl (congrArg int (of_decide_eq_true e12)) ?_
  refine sY (fT (y:=.pt 1 v4 0 1) (iJ rfl Tryz.underlying97 dM rfl rfl rfl rfl rfl (by decide)) rfl) ?_
  refine tr aA 2 (.mk ?_)
  refine ni aA h0 λx17 h0=>?_
  refine tr aA 1 (.mk ?_)
  refine kU 26 (int 0) rfl (congrArg int (of_decide_eq_true e12)) ?_
  refine sY (fT (y:=.pt 1 v4 0 1) (iJ rfl Tryz.underlying97 dM rfl rfl rfl rfl rfl (by decide)) rfl) ?_
  refine sS ⟨99,4,true,true,v4,[[aH 3 aF.av a1.aI,int x17,int a1.bC.a1,int a1.bC.a2]]⟩ dM ?_
  refine tr aA 4 (.mk ?_)
  refine sS ⟨99,4,true,true,v5,[[aH 3 aF.av a1.aI,int x17,int a1.bC.a1,int a1.bC.a2]]⟩ gL ?_
  refine tr aA 2 (.mk ?_)
  obtain rfl:=fV h0
  refine wR hret (rC gL (rT .nil)) ?_
  exact .refl _
  replace h0:=ct h0
  refine tc aA 4 (.mk ?_)
  refine sS ⟨99,4,true,true,v5,[[aH 3 aF.av a1.aI,int a1.bC.a0,int a1.bC.a1,int a1.bC.a2]]⟩ gL ?_
  refine tr aA 2 (.mk ?_)
  obtain rfl:=fV h0
  refine wR hret (rC gL (rT .nil)) ?_
  exact .refl _
  replace h0:=ct h0
  refine tc aA 4 (.mk ?_)
  refine sS ⟨99,4,true,true,v5,[[aH 3 aF.av a1.aI,int a1.bC.a0,int a1.bC.a1,int a1.bC.a2]]⟩ gL ?_
  refine tr aA 2 (.mk ?_)
  obtain rfl:=fV h0
  refine wR hret (rC gL (rT .nil)) ?_
  exact .refl _
def aBX (n:Nat) (a1:aS) (a2:Int):WT Tryz.prog (.b (aS×aF×Int)) :=
 .al 1<|.al 2<|.al 3<|.bB 12 (decide (a2<1)) λx6=>.ifs [12] x6 (.ret ((a1:aS),((⟨0,0,0⟩:aF):aF),1)) (.cl 18 (CU n a1) RG TE λx7=>.bB 19 (decide (a2>x7)) λx8=>.ifs [19] x8 (.ret ((a1:aS),((⟨0,0,0⟩:aF):aF),5)) (.cl 26 (uX n a1.aI a2) BS B4 λx9=>.al 4<|.dr [(0,[1]),(1,[4])] [(3,[4]),(4,[])] [1,4] [3,4] [0,1,2,3,4,5] (.ret (((⟨x9.1,a1.bC⟩:aS):aS),x9.2.1,x9.2.2))))
def IT (n:Nat) (a1:aS) (a2:Int):Option (aS×aF×Int):=(aBX n a1 a2).run
theorem aL0 {n a1 a2 r} (h0:IT n a1 a2=some r):PP Tryz.prog 187 [.agg (aS.av a1),int a2] (λy=>y=.bD [.agg (aS.av r.1),.agg (aF.av r.2.1),int r.2.2]) :=
 bY mixed aA (λr:aS×aF×Int=>.bD [.agg (aS.av r.1),.agg (aF.av r.2.1),int r.2.2]) h0 Tryz.func187 (λr=>.bD (qN ((λ(a:aS)=>PV.agg (aS.dR a)) (r.1)) ((λ(a:aF)=>PV.agg (aF.dR a)) (r.2.1)) (bQ (r.2.2)))) 100000 au
def aCQ (n:Nat) (a1:List aF) (a2:Int) (a3:Int):WT Tryz.prog (.b ((List aF)×aF×Int)) :=
 .al 1<|.jn 0 [0,1,2,6,7,8] [1] [] (λ_ (a:Bool)=>[(21,aZ a)]) (λ_ _=>[]) (.bB 17 (decide (a3<0)) λx5=>.ifs [17] x5 (.ret true) (.bB 20 (decide (a3>1073741824)) λx6=>.ret x6)) (λy0_1=>.ifs [21] y0_1 (.ret ((a1:List aF),((⟨0,0,0⟩:aF):aF),1)) (.cl 27 (uX n a1 a2) BS B4 λx7=>.al 2<|.jn 0 [0,1,2,6,7,8,9,10,11] [1,2] [] (λ_ (a:Bool)=>[(37,aZ a)]) (λ_ _=>[]) (.bB 32 (decide (x7.2.2≠0)) λx9=>.ifs [32] x9 (.ret true) (.ln 35 aF.av x7.1<|.bB 36 (decide ((x7.1.length:Int)=0)) λx10=>.ret x10)) (λy1_1=>.ifs [37] y1_1 (.dr [(1,[2])] [(4,[])] [2] [4] [0,1,2,3,4,5] (.ret ((x7.1:List aF),x7.2.1,x7.2.2))) (.cl 43 (sH n a1) AB zA λx11=>.al 3<|.cl 49 (DT n a2 a3) QC OV λx13=>.jn 0 [1,6,7,8,10,12,14] [1,2,3] [] (λ_ (a:Bool)=>[(59,aZ a)]) (λ_ _=>[]) (.bB 53 (!x13.2) λx14=>.ifs [53] x14 (.ret true) (.bB 58 (decide (x13.1>x11.1.Value)) λx15=>.ret x15)) (λy2_1=>.jn 0 [1,6,7,8,10,12] [1,2,3] [] (λ_ (a:Int)=>[(14,int a)]) (λ_ _=>[]) (.ifs [59] y2_1 (.ret (x11.1.Value:Int)) (.ret x13.1)) (λy3_1=>.dr [(0,[3]),(1,[3]),(4,[3]),(5,[3]),(8,[3]),(9,[3]),(10,[2]),(11,[2]),(15,[2])] [(17,[])] [2,3] [17] [0,1,2,3,4,5,6,7,8,9,10,11,12,13,14,15,16,17,18] (.bI 67 (bE (x11.1.aT-a2)) λx16=>.bI 71 (bE (x11.1.Value-y3_1)) λx17=>.bI 76 (bE (x11.1.bO-x7.2.1.bO)) λx18=>.to 78 (aH 3 aF.av ([(⟨x16,x17,x18⟩:aF)]:List aF))<|.ret ((([(⟨x16,x17,x18⟩:aF)]:List aF):List aF),((⟨x7.2.1.aT,y3_1,x7.2.1.bO⟩:aF):aF),0))))))))
def M6 (n:Nat) (a1:List aF) (a2:Int) (a3:Int):Option ((List aF)×aF×Int):=(aCQ n a1 a2 a3).run
theorem aPG {n a1 a2 a3 r} (h0:M6 n a1 a2 a3=some r):PP Tryz.prog 188 [aH 3 aF.av a1,int a2,int a3] (λy=>y=.bD [aH 3 aF.av r.1,.agg (aF.av r.2.1),int r.2.2]) :=
 bY mixed aA (λr:(List aF)×aF×Int=>.bD [aH 3 aF.av r.1,.agg (aF.av r.2.1),int r.2.2]) h0 Tryz.func188 (λr=>.bD (qN ((jD aF.dR) (r.1)) ((λ(a:aF)=>PV.agg (aF.dR a)) (r.2.1)) (bQ (r.2.2)))) 100000 au
def TV (n:Nat) (a1:Int) (a2:Int) (a3:aS) (a4:Int) (a5:Int):WT Tryz.prog (.b (aS×aF×Bool×Int)) :=
 .al 1<|.al 2<|.al 3<|.al 4<|.al 5<|.jn 1 [0,1,3,4,7,10,11,12,13,14,15,16] [1,2,3,4,5] [] (λ_ (a:Bool)=>[(31,aZ a)]) (λ_ _=>[]) (.bB 19 (decide (a1>=1)) λx11=>.ifs [19] x11 (.bB 22 (decide (a1<=4)) λx12=>.ifs [22] x12 (.bB 26 (decide (a4<0)) λx13=>.ifs [26] x13 (.ret true) (.bB 29 (decide (a4>3)) λx14=>.ret x14)) (.ret false)) (.ret false)) (λy0_1=>.ifs [31] y0_1 (.dr [(0,[1]),(1,[5])] [(2,[5]),(3,[])] [1,5] [2,3] [0,1,2,3,4,5] (.ret ((a3:aS),((⟨0,0,0⟩:aF):aF),false,1))) (.fH 2 [7,10,11,12,13,14,15] [1,2,3] [] (λ_ (a:Int×aS×aF)=>[(16,int a.1)]) (λ_ a=>[.kp 4 [[aH 3 aF.av a.2.1.aI,int a.2.1.bC.a0,int a.2.1.bC.a1,int a.2.1.bC.a2]],.kp 5 [[int a.2.2.aT,int a.2.2.Value,int a.2.2.bO]]]) (.bB 36 (decide (a1=1)) λx15=>.ifs [36] x15 (.cl 41 (GM n a3.aI a5) aD4 aCY λx16=>.brk ((x16.2.2:Int),((⟨x16.1,a3.bC⟩:aS):aS),x16.2.1)) (.bB 47 (decide (a1=2)) λx17=>.ifs [47] x17 (.cl 52 (uX n a3.aI a5) BS B4 λx18=>.brk ((x18.2.2:Int),((⟨x18.1,a3.bC⟩:aS):aS),x18.2.1)) (.bB 58 (decide (a1=3)) λx19=>.ifs [58] x19 (.bB 60 (decide (a4≠3)) λx20=>.ifs [60] x20 (.cl 65 (EQ n a3 a4 a5) aQL aPM λx21=>.dr [(0,[4]),(1,[5])] [(5,[5]),(6,[])] [4,5] [5,6] [0,1,2,3,4,5,6,7,8] (.bB 71 (decide (x21.2=0)) λx22=>.esc (.ret ((x21.1:aS),((⟨0,0,0⟩:aF):aF),x22,x21.2)))) (.cl 76 (IT n a3 a5) aGT aL0 λx23=>.brk ((x23.2.2:Int),x23.1,x23.2.1))) (.bB 81 (decide (a1=4)) λx24=>.ifs [81] x24 (.cl 87 (M6 n a3.aI a5 a2) aUQ aPG λx25=>.brk ((x25.2.2:Int),((⟨x25.1,a3.bC⟩:aS):aS),x25.2.1)) (.brk ((12:Int),a3,((⟨0,0,0⟩:aF):aF))))))) (pw λy1_1 q0=>(pw λy1_2 y1_3=>.bB 93 (decide (y1_1≠0)) λx26=>.ifs [93] x26 (.ret ((a3:aS),((⟨0,0,0⟩:aF):aF),false,y1_1)) (.dr [(0,[4]),(1,[5])] [(2,[5]),(3,[])] [4,5] [2,3] [0,1,2,3,4,5] (.ret ((y1_2:aS),y1_3,false,0)))) q0)))
def M8 (n:Nat) (a1:Int) (a2:Int) (a3:aS) (a4:Int) (a5:Int):Option (aS×aF×Bool×Int):=(TV n a1 a2 a3 a4 a5).run
theorem aSH {n a1 a2 a3 a4 a5 r} (h0:M8 n a1 a2 a3 a4 a5=some r):PP Tryz.prog 182 [int a1,int a2,.agg (aS.av a3),int a4,int a5] (λy=>y=.bD [.agg (aS.av r.1),.agg (aF.av r.2.1),aZ r.2.2.1,int r.2.2.2]) :=
 bY mixed aA (λr:aS×aF×Bool×Int=>.bD [.agg (aS.av r.1),.agg (aF.av r.2.1),aZ r.2.2.1,int r.2.2.2]) h0 Tryz.func182 (λr=>.bD (JB ((λ(a:aS)=>PV.agg (aS.dR a)) (r.1)) ((λ(a:aF)=>PV.agg (aF.dR a)) (r.2.1)) (gT (r.2.2.1)) (bQ (r.2.2.2)))) 100000 au
def uS (n:Nat) (a1:aB) (a2:Int) (a3:Int) (a4:Int) (a5:Int) (a6:Int):Option (aB×aF×Bool×Int) :=
(show Option (Bool) from
(yD a1 a2 a3).bind λx11 =>
bnd (!x11) λx12 =>
cond x12 (some (true:Bool)) ((jV a4 1).bind λx13 =>
bnd (!x13) λx14 =>
some (x14:Bool))).bind <| λy0_1 =>
cond y0_1 (some ((a1:aB),((⟨0,0,0⟩:aF):aF),(false:Bool),(4:Int))) ((ix a1.bF.Methods a2).bind λx15 =>
(ix x15 a3).bind λx16 =>
(ix a1.bF.gX a2).bind λx17 =>
(ix x17 a3).bind λx18 =>
(rG a1 a2 a3 a4).bind λx19 =>
(M8 n x16 x18 x19 a5 a6).bind λx20 =>
bnd x20.2.2.1 λx23 =>
bnd (decide (x20.2.2.2≠0)) λx24 =>
cond x24 (some ((a1:aB),((⟨0,0,0⟩:aF):aF),(false:Bool),(x20.2.2.2:Int))) ((wI a1 a2 a3 a4 x20.1).bind λx25 =>
some ((x25:aB),(x20.2.1:aF),(x23:Bool),(0:Int))))
theorem DF {n:Nat} {a1:aB} {a2:Int} {a3:Int} {a4:Int} {a5:Int} {a6:Int} {r:aB×aF×Bool×Int} (h0:uS n a1 a2 a3 a4 a5 a6=some r):PP Tryz.prog 169 [.agg (aB.av a1),int a2,int a3,int a4,int a5,int a6] (λy=>y=.bD [.agg (aB.av r.1),.agg (aF.av r.2.1),aZ r.2.2.1,int r.2.2.2]):=by
  unfold uS at h0
  refine oN (R0:=λy H=>Cv (lH H) y (.bD [.agg (aB.av r.1),.agg (aF.av r.2.1),aZ r.2.2.1,int r.2.2.2])) ?_ (λy H hc=>⟨_,rfl,.bD (JB ((λ(a:aB)=>PV.agg (aB.dR a)) (r.1)) ((λ(a:aF)=>PV.agg (aF.dR a)) (r.2.1)) (gT (r.2.2.1)) (bQ (r.2.2.2))),hc⟩)
  refine lN (c:=_) Tryz.func169 rfl rfl ?_;intro Q hret hnorm
  refine tc aA 2 (.mk ?_)
  refine sB 1 λv7=>?_
  refine sA 2 z32 λv8=>?_
  refine sA 3 z69 λv9=>?_
  refine tr aA 5 (.mk ?_)
  refine jn h0 [1,2,3,4,5,6,12,13,14,15] [1,2,3] (λ(a:Bool) (k:Unit)=>[(29,aZ a)]) (λa k=>[]) ⟨λj10 h1=>?_,?_⟩
  refine tc aA 4 (.mk ?_)
  obtain ⟨x11,e11,h1⟩:=fE h1
  refine sC G7 (FQ e11) ?_
  refine nb aA h1 λx12 h1=>?_
  refine tr aA 1 (.mk ?_)
  cases x12
  replace h1:=cf h1
  refine tr aA 1 (.mk ?_)
  obtain ⟨x13,e13,h1⟩:=fE h1
  refine sC kY (kV e13) ?_
  refine nb aA h1 λx14 h1=>?_
  refine tr aA 2 (.mk ?_)
  exact lf h1 () dP
  replace h1:=ct h1
  refine tr aA 5 (.mk ?_)
  exact lf h1 () dP
  rintro y0_1 _ h0
  cases y0_1
  replace h0:=cf h0
  refine tc aA 3 (.mk ?_)
  refine PO [0,1,3,0,15,31,0,127,255,0,512,1536,0,7680,15872,0,65024,130560,0,0,0,0,3932160,0,0,33554431,67108863,134217727,134217727,134217727,134217727,0,0,6710886399,15569256447,33285996543,68719476735] (λi k=>bif Nat.beq i 0 then (Nat.beq k 1) else bif Nat.beq i 1 then (Nat.beq k 1) else bif Nat.beq i 2 then (Nat.beq k 1) else bif Nat.beq i 9 then (Nat.beq k 1) else bif Nat.beq i 10 then (Nat.beq k 1) else bif Nat.beq i 11 then (Nat.beq k 1) else bif Nat.beq i 18 then (Nat.beq k 1) else bif Nat.beq i 33 then (Nat.beq k 4) else bif Nat.beq i 34 then (Nat.beq k 5) else false) (λi=>bif Nat.beq i 31 then (some 4) else bif Nat.beq i 32 then (some 5) else bif Nat.beq i 33 then (some 4) else bif Nat.beq i 34 then (some 5) else none) mixed (by kernel_rfl) ?_;intro C K hK
  refine iF rfl (λH hH=>iC rfl XM rfl (.pt ((hH _ rfl).trans rfl) rfl rfl) (.pt _ _ _ _ _)) ?_
  refine iF rfl (λH hH=>iC rfl J3 rfl (.pt ((hH _ rfl).trans rfl) rfl rfl) (.pt _ _ _ _ _)) ?_
  refine iF rfl (λH hH=>gQ rfl zK rfl (.pt ((hH _ rfl).trans rfl) rfl rfl) rfl) ?_
  refine iF rfl (λH hH=>iE rfl rfl) ?_
  obtain ⟨x15,e15,h0⟩:=fE h0
  refine iF rfl (λH hH=>mM rfl Tryz.underlying23 lT rfl rfl e15) ?_
  refine iF rfl (λH hH=>gQ rfl lT rfl (.pp _) rfl) ?_
  refine iF rfl (λH hH=>iE rfl rfl) ?_
  obtain ⟨x16,e16,h0⟩:=fE h0
  refine iF rfl (λH hH=>mM rfl Tryz.underlying22 dM rfl rfl e16) ?_
  refine iF rfl (λH hH=>gQ rfl dM rfl (.pp _) rfl) ?_
  refine iF rfl (λH hH=>iC rfl XM rfl (.pt ((hH _ rfl).trans rfl) rfl rfl) (.pt _ _ _ _ _)) ?_
  refine iF rfl (λH hH=>iC rfl OX rfl (.pt ((hH _ rfl).trans rfl) rfl rfl) (.pt _ _ _ _ _)) ?_
  refine iF rfl (λH hH=>gQ rfl zK rfl (.pt ((hH _ rfl).trans rfl) rfl rfl) rfl) ?_
  refine iF rfl (λH hH=>iE rfl rfl) ?_
  obtain ⟨x17,e17,h0⟩:=fE h0
  refine iF rfl (λH hH=>mM rfl Tryz.underlying23 lT rfl rfl e17) ?_
  refine iF rfl (λH hH=>gQ rfl lT rfl (.pp _) rfl) ?_
  refine iF rfl (λH hH=>iE rfl rfl) ?_
  obtain ⟨x18,e18,h0⟩:=fE h0
  refine iF rfl (λH hH=>mM rfl Tryz.underlying22 dM rfl rfl e18) ?_
  refine iF rfl (λH hH=>gQ rfl dM rfl (.pp _) rfl) ?_
  refine iF rfl (λH hH=>gQ rfl lX rfl (.pt ((hH _ rfl).trans rfl) rfl rfl) rfl) ?_
  refine iF rfl (λH hH=>iE rfl rfl) ?_
  refine iF rfl (λH hH=>iE rfl rfl) ?_
  refine iF rfl (λH hH=>iE rfl rfl) ?_
  obtain ⟨x19,e19,h0⟩:=fE h0
  refine iF rfl (λH hH=>oC rfl rfl (.cons rfl (.cons rfl (.cons rfl (.cons rfl .nil)))) wZ (dG.refl _) (vW e19)) ?_
  refine iF rfl (λH hH=>iE rfl rfl) ?_
  refine iF rfl (λH hH=>iE rfl rfl) ?_
  obtain ⟨x20,e20,h0⟩:=fE h0
  refine iF rfl (λH hH=>oC rfl rfl (.cons rfl (.cons rfl (.cons rfl (.cons rfl (.cons rfl .nil))))) aPZ (dG.refl _) (aSH e20)) ?_
  refine iF rfl (λH hH=>iE rfl rfl) ?_
  refine iF rfl (λH hH=>CQ rfl rfl rfl) ?_
  refine iF rfl (λH hH=>CQ rfl rfl rfl) ?_
  refine iF rfl (λH hH=>CQ rfl rfl rfl) ?_
  refine iF rfl (λH hH=>CQ rfl rfl rfl) ?_
  refine rX rfl rfl (λH hH=>GN 4 rfl qE rfl) ?_;generalize C+31=v21
  refine rX rfl rfl (λH hH=>GN 5 rfl z69 rfl) ?_;generalize C+32=v22
  refine FN rfl rfl rfl (λH hH=>iP (ob':=(⟨99,4,true,true,v21,[[aH 3 aF.av x20.1.aI,int x20.1.bC.a0,int x20.1.bC.a1,int x20.1.bC.a2]]⟩:cO)) (iL rfl gL rfl rfl ((hH _ rfl).trans rfl) rfl rfl rfl rfl rfl rfl) rfl) ?_
  refine FN rfl rfl rfl (λH hH=>iP (ob':=(⟨69,3,true,true,v22,[[int x20.2.1.aT,int x20.2.1.Value,int x20.2.1.bO]]⟩:cO)) (iL rfl tF rfl rfl ((hH _ rfl).trans rfl) rfl rfl rfl rfl rfl rfl) rfl) ?_
  obtain ⟨x23,e23,h0⟩:=iI h0
  refine iF rfl (λH hH=>fT (y:=aZ x23) (kK rfl rfl) (congrArg aZ e23)) ?_
  refine iF rfl (λH hH=>kK rfl rfl) ?_
  refine RE (hK _ ?_)
  refine tc aA 4 (.mk ?_)
  refine nb aA h0 λx24 h0=>?_
  refine tr aA 1 (.mk ?_)
  cases x24
  replace h0:=cf h0
  refine tc aA 3 (.mk ?_)
  refine pR [0,0,0,0,0,31,0,0,63,383,1023,2047] (rl [(0,[1]),(4,[4]),(6,[5])] []) (rl [(8,[5]),(9,[])] [1,4,5]) (rl [(8,false),(9,false)] true) [0,1,2,3,4,5,6,7,8,9,10,11] mixed (by kernel_rfl) ?_;intro K hK
  refine eL lX ?_
  iterate 3 refine eM ?_
  refine eL gL ?_
  obtain ⟨x25,e25,h0⟩:=fE h0
  refine eP (λH hH=>oC rfl rfl (.cons rfl (.cons rfl (.cons rfl (.cons rfl (.cons rfl .nil))))) BU (dG.refl _) (CY e25)) ?_
  refine eL tF ?_
  refine eM ?_
  refine uD rfl rfl rfl rfl (eG.iA (iP (ob':=(⟨32,10,true,true,v8,[(aB.av x25)]⟩:cO)) (iL rfl lX rfl rfl rfl rfl rfl rfl rfl rfl rfl) rfl) (λ_ h=>h) (λ_ _=>trivial)) (by rintro _ _ ⟨rfl,rfl⟩;exact ⟨rfl,trivial⟩) ?_;rintro _ _ ⟨rfl,rfl⟩
  refine uD rfl rfl rfl rfl (eG.iA (iP (ob':=(⟨69,3,true,true,v9,[[int x20.2.1.aT,int x20.2.1.Value,int x20.2.1.bO]]⟩:cO)) (iL rfl tF rfl rfl rfl rfl rfl rfl rfl rfl rfl) rfl) (λ_ h=>h) (λ_ _=>trivial)) (by rintro _ _ ⟨rfl,rfl⟩;exact trivial) ?_;rintro _ _ ⟨rfl,rfl⟩
  iterate 2 refine eA ?_
  refine oK (hK _ ?_)
  obtain rfl:=fV h0
  refine wR hret (rC lX (rC tF (rT (rT .nil)))) ?_
  exact .refl _
  replace h0:=ct h0
  refine tc aA 6 (.mk ?_)
  refine sS ⟨32,10,true,true,v8,[(aB.av a1)]⟩ lX ?_
  refine sS ⟨69,3,true,true,v9,[[int 0,int 0,int 0]]⟩ tF ?_
  refine tr aA 3 (.mk ?_)
  obtain rfl:=fV h0
  refine wR hret (rC lX (rC tF (rT (rT .nil)))) ?_
  exact .refl _
  replace h0:=ct h0
  refine tc aA 5 (.mk ?_)
  refine sS ⟨32,10,true,true,v8,[(aB.av a1)]⟩ lX ?_
  refine sS ⟨69,3,true,true,v9,[[int 0,int 0,int 0]]⟩ tF ?_
  refine tr aA 3 (.mk ?_)
  obtain rfl:=fV h0
  refine wR hret (rC lX (rC tF (rT (rT .nil)))) ?_
  exact .refl _
def Y5 (n:Nat) (a1:aB) (a2:bJ):WT Tryz.prog (.b (aB×Int)) :=
 .al 1<|.al 2<|.al 3<|.cl 16 (pK a1 a2.E a2.Item) vN vB λx6=>.bB 18 (decide (x6≠0)) λx7=>.ifs [18] x7 (.ret ((a1:aB),x6)) (.ln 23 fA.av a1.dS<|.bB 24 (decide ((a1.dS.length:Int)>=40)) λx8=>.ifs [24] x8 (.ret ((a1:aB),6)) (.cl 36 (uS n a1 a2.E a2.Item a2.Loc 0 a2.aT) CB DF λx9=>.al 4<|.al 5<|.bB 42 (decide (x9.2.2.2≠0)) λx12=>.ifs [42] x12 (.ret ((a1:aB),x9.2.2.2)) (.bI 54 (bE (0-a2.bM)) λx13=>.bI 61 (bE (0-x9.2.1.Value)) λx14=>.to 63 (aH 2 aN.av ([(⟨3,a2.bM⟩:aN),(⟨4,x13⟩:aN),(⟨5,x9.2.1.Value⟩:aN),(⟨0,x14⟩:aN)]:List aN))<|.cl 64 (lS n x9.1 a2.E ([(⟨3,a2.bM⟩:aN),(⟨4,x13⟩:aN),(⟨5,x9.2.1.Value⟩:aN),(⟨0,x14⟩:aN)]:List aN)) qU qK λx15=>.bB 68 (decide (x15.2≠0)) λx16=>.ifs [68] x16 (.ret ((a1:aB),x15.2)) (.cl 80 (nA n x15.1 a2.E a2.Item (⟨0,0,0,0,0,x9.2.1.Value,0,0,0,0,0⟩:cB)) wE wY λx17=>.bB 84 (decide (x17.2≠0)) λx18=>.ifs [84] x18 (.ret ((a1:aB),x17.2)) (.dr [(0,[4]),(1,[4]),(3,[2]),(4,[2]),(5,[2]),(6,[2]),(7,[2]),(8,[2]),(9,[2]),(10,[2]),(11,[5]),(12,[5]),(13,[5]),(14,[5]),(15,[1]),(16,[1]),(17,[2]),(18,[2]),(26,[4])] [(2,[1,2,5]),(25,[]),(27,[])] [1,2,4,5] [2,25,27] [0,1,3,4,5,6,7,8,9,10,11,12,13,14,15,16,17,18,19,20,21,22,23,24,2,25,26,27] (.jC 106 aP.av gE aP.fB a1.bA a2.E λx19=>.bB 109 (x9.2.2.1) λx20=>.to 111 (aH 9 fA.av ([(⟨a2.E,a2.Item,a2.Loc,a2.aT,0,x9.2.1.Value,x9.2.1.bO,x19.fQ,x20⟩:fA)]:List fA))<|.as (x17.1.dS.length<=68719476736) inferInstance<|.ge 89 6<|.bl (x17.1.dS++([(⟨a2.E,a2.Item,a2.Loc,a2.aT,0,x9.2.1.Value,x9.2.1.bO,x19.fQ,x20⟩:fA)]:List fA):List fA) λx23=>.as (x23.length<=68719476736) inferInstance<|.ge 112 0<|.ret (((⟨x17.1.bF,x17.1.bA,x17.1.bX,x23,x17.1.dH,x17.1.Done⟩:aB):aB),0)))))))
def K9 (n:Nat) (a1:aB) (a2:bJ):Option (aB×Int):=(Y5 n a1 a2).run
theorem aLZ {n a1 a2 r} (h0:K9 n a1 a2=some r):PP Tryz.prog 142 [.agg (aB.av a1),.agg (bJ.av a2)] (λy=>y=.bD [.agg (aB.av r.1),int r.2]) :=
 bY mixed aA (λr:aB×Int=>.bD [.agg (aB.av r.1),int r.2]) h0 Tryz.func142 (λr=>.bD (gK ((λ(a:aB)=>PV.agg (aB.dR a)) (r.1)) (bQ (r.2)))) 100000 au
def DZ (a1:aS) (a2:Int) (a3:Int):Option (aS×Int) :=
(show Option ((Unit)⊕(aS×Int)) from
(show Option (Bool) from
bnd (decide (a2<0)) λx8 =>
cond x8 (some (true:Bool)) (bnd (decide (a2>=3)) λx9 =>
cond x9 (some (true:Bool)) (bnd (decide (a3<1)) λx10 =>
some (x10:Bool)))).bind <| λy0_1 =>
cond y0_1 (esc (some ((a1:aS),(1:Int)))) (bnd (decide (a2=0)) λx11 =>
cond x11 (bnd (decide (a3>a1.bC.a0)) λx18 =>
cond x18 (esc (some ((a1:aS),(5:Int)))) (brk ())) (bnd (decide (a2=1)) λx12 =>
cond x12 (bnd (decide (a3>a1.bC.a1)) λx16 =>
cond x16 (esc (some ((a1:aS),(5:Int)))) (brk ())) (gV (a2=2)<|
bnd (decide (a3>a1.bC.a2)) λx14 =>
cond x14 (esc (some ((a1:aS),(5:Int)))) (brk ()))))).bind <| sel <| λ_ =>
bnd (decide (a2=0)) λx21 =>
cond x21 (bnd (bE (a1.bC.a0-a3)) λx26 =>
some (((⟨a1.aI,(⟨x26,a1.bC.a1,a1.bC.a2⟩:l9)⟩:aS):aS),(0:Int))) (bnd (decide (a2=1)) λx22 =>
cond x22 (bnd (bE (a1.bC.a1-a3)) λx25 =>
some (((⟨a1.aI,(⟨a1.bC.a0,x25,a1.bC.a2⟩:l9)⟩:aS):aS),(0:Int))) (gV (a2=2)<|
bnd (bE (a1.bC.a2-a3)) λx24 =>
some (((⟨a1.aI,(⟨a1.bC.a0,a1.bC.a1,x24⟩:l9)⟩:aS):aS),(0:Int))))
theorem aHP {a1:aS} {a2:Int} {a3:Int} {r:aS×Int} (h0:DZ a1 a2 a3=some r):PP Tryz.prog 170 [.agg (aS.av a1),int a2,int a3] (λy=>y=.bD [.agg (aS.av r.1),int r.2]):=by
  unfold DZ at h0
  refine oN (R0:=λy H=>Cv (lH H) y (.bD [.agg (aS.av r.1),int r.2])) ?_ (λy H hc=>⟨_,rfl,.bD (gK ((λ(a:aS)=>PV.agg (aS.dR a)) (r.1)) (bQ (r.2))),hc⟩)
  refine lN (c:=_) Tryz.func170 rfl rfl ?_;intro Q hret hnorm
  refine tc aA 2 (.mk ?_)
  refine sB 1 λv4=>?_
  refine sA 2 qE λv5=>?_
  refine tr aA 3 (.mk ?_)
  refine fH h0 [1,2,3,6,7] [1,2] (λ(a:Unit) (k:Unit)=>[]) (λa k=>[]) ⟨λj6 h1 h0=>?_,?_⟩
  refine tc aA 2 (.mk ?_)
  refine jn h1 [1,2,3,6,7] [1,2] (λ(a:Bool) (k:Unit)=>[(8,aZ a)]) (λa k=>[]) ⟨λj7 h2=>?_,?_⟩
  refine tc aA 2 (.mk ?_)
  refine nb aA h2 λx8 h2=>?_
  refine tr aA 1 (.mk ?_)
  cases x8
  replace h2:=cf h2
  refine tr aA 1 (.mk ?_)
  refine nb aA h2 λx9 h2=>?_
  refine tr aA 2 (.mk ?_)
  cases x9
  replace h2:=cf h2
  refine tr aA 1 (.mk ?_)
  refine nb aA h2 λx10 h2=>?_
  refine tr aA 3 (.mk ?_)
  exact lf h2 () dP
  replace h2:=ct h2
  refine tr aA 5 (.mk ?_)
  exact lf h2 () dP
  replace h2:=ct h2
  refine tr aA 9 (.mk ?_)
  exact lf h2 () dP
  rintro y0_1 _ h1
  cases y0_1
  replace h1:=cf h1
  refine tc aA 6 (.mk ?_)
  obtain ⟨x11,e11,h1⟩:=iI h1
  cases x11
  replace h1:=cf h1
  obtain ⟨x12,e12,h1⟩:=iI h1
  cases x12
  replace h1:=cf h1
  obtain ⟨AA,h1⟩:=iR h1
  refine kU 22 (int 2) rfl (congrArg int AA) ?_
  refine sY (fT (y:=.pt 1 v4 0 3) (iJ rfl Tryz.underlying97 dM rfl rfl rfl rfl rfl (by decide)) rfl) ?_
  refine tr aA 1 (.mk ?_)
  refine nb aA h1 λx14 h1=>?_
  refine tr aA 2 (.mk ?_)
  cases x14
  replace h1:=cf h1
  refine tc aA 3 (.mk ?_)
  exact oW h1 () dP
  replace h1:=ct h1
  refine tc aA 4 (.mk ?_)
  refine sS ⟨99,4,true,true,v5,[[aH 3 aF.av a1.aI,int a1.bC.a0,int a1.bC.a1,int a1.bC.a2]]⟩ gL ?_
  refine tr aA 2 (.mk ?_)
  obtain ⟨c15,hX,hj⟩:=oG h1;subst hj;replace h0:=hX.trans (nZ h0)
  obtain rfl:=fV h0
  refine wR hret (rC gL (rT .nil)) ?_
  exact .refl _
  replace h1:=ct h1
  refine kU 22 (int 1) rfl (congrArg int (of_decide_eq_true e12)) ?_
  refine sY (fT (y:=.pt 1 v4 0 2) (iJ rfl Tryz.underlying97 dM rfl rfl rfl rfl rfl (by decide)) rfl) ?_
  refine tr aA 1 (.mk ?_)
  refine nb aA h1 λx16 h1=>?_
  refine tr aA 2 (.mk ?_)
  cases x16
  replace h1:=cf h1
  refine tc aA 3 (.mk ?_)
  exact oW h1 () dP
  replace h1:=ct h1
  refine tc aA 4 (.mk ?_)
  refine sS ⟨99,4,true,true,v5,[[aH 3 aF.av a1.aI,int a1.bC.a0,int a1.bC.a1,int a1.bC.a2]]⟩ gL ?_
  refine tr aA 2 (.mk ?_)
  obtain ⟨c17,hX,hj⟩:=oG h1;subst hj;replace h0:=hX.trans (nZ h0)
  obtain rfl:=fV h0
  refine wR hret (rC gL (rT .nil)) ?_
  exact .refl _
  replace h1:=ct h1
  refine kU 22 (int 0) rfl (congrArg int (of_decide_eq_true e11)) ?_
  refine sY (fT (y:=.pt 1 v4 0 1) (iJ rfl Tryz.underlying97 dM rfl rfl rfl rfl rfl (by decide)) rfl) ?_
  refine tr aA 1 (.mk ?_)
  refine nb aA h1 λx18 h1=>?_
  refine tr aA 2 (.mk ?_)
  cases x18
  replace h1:=cf h1
  refine tc aA 3 (.mk ?_)
  exact oW h1 () dP
  replace h1:=ct h1
  refine tc aA 4 (.mk ?_)
  refine sS ⟨99,4,true,true,v5,[[aH 3 aF.av a1.aI,int a1.bC.a0,int a1.bC.a1,int a1.bC.a2]]⟩ gL ?_
  refine tr aA 2 (.mk ?_)
  obtain ⟨c19,hX,hj⟩:=oG h1;subst hj;replace h0:=hX.trans (nZ h0)
  obtain rfl:=fV h0
  refine wR hret (rC gL (rT .nil)) ?_
  exact .refl _
  replace h1:=ct h1
  refine tc aA 4 (.mk ?_)
  refine sS ⟨99,4,true,true,v5,[[aH 3 aF.av a1.aI,int a1.bC.a0,int a1.bC.a1,int a1.bC.a2]]⟩ gL ?_
  refine tr aA 2 (.mk ?_)
  obtain ⟨c20,hX,hj⟩:=oG h1;subst hj;replace h0:=hX.trans (nZ h0)
  obtain rfl:=fV h0
  refine wR hret (rC gL (rT .nil)) ?_
  exact .refl _
  rintro _ _ h0
  refine tc aA 5 (.mk ?_)
  obtain ⟨x21,e21,h0⟩:=iI h0
  cases x21
  replace h0:=cf h0
  obtain ⟨x22,e22,h0⟩:=iI h0
  cases x22
  replace h0:=cf h0
  obtain ⟨p23,h0⟩:=iR h0
  refine kU 29 (int 2) rfl (congrArg int p23) ?_
  refine sY (fT (y:=.pt 1 v4 0 3) (iJ rfl Tryz.underlying97 dM rfl rfl rfl rfl rfl (by decide)) rfl) ?_
  refine tr aA 2 (.mk ?_)
  refine ni aA h0 λx24 h0=>?_
  refine tr aA 1 (.mk ?_)
  refine kU 28 (int 2) rfl (congrArg int p23) ?_
  refine sY (fT (y:=.pt 1 v4 0 3) (iJ rfl Tryz.underlying97 dM rfl rfl rfl rfl rfl (by decide)) rfl) ?_
  refine sS ⟨99,4,true,true,v4,[[aH 3 aF.av a1.aI,int a1.bC.a0,int a1.bC.a1,int x24]]⟩ dM ?_
  refine tr aA 4 (.mk ?_)
  refine sS ⟨99,4,true,true,v5,[[aH 3 aF.av a1.aI,int a1.bC.a0,int a1.bC.a1,int x24]]⟩ gL ?_
  refine tr aA 2 (.mk ?_)
  obtain rfl:=fV h0
  refine wR hret (rC gL (rT .nil)) ?_
  exact .refl _
  replace h0:=ct h0
  refine kU 29 (int 1) rfl (congrArg int (of_decide_eq_true e22)) ?_
  refine sY (fT (y:=.pt 1 v4 0 2) (iJ rfl Tryz.underlying97 dM rfl rfl rfl rfl rfl (by decide)) rfl) ?_
  refine tr aA 2 (.mk ?_)
  refine ni aA h0 λx25 h0=>?_
  refine tr aA 1 (.mk ?_)
  refine kU 28 (int 1) rfl (congrArg int (of_decide_eq_true e22)) ?_
  refine sY (fT (y:=.pt 1 v4 0 2) (iJ rfl Tryz.underlying97 dM rfl rfl rfl rfl rfl (by decide)) rfl) ?_
  refine sS ⟨99,4,true,true,v4,[[aH 3 aF.av a1.aI,int a1.bC.a0,int x25,int a1.bC.a2]]⟩ dM ?_
  refine tr aA 4 (.mk ?_)
  refine sS ⟨99,4,true,true,v5,[[aH 3 aF.av a1.aI,int a1.bC.a0,int x25,int a1.bC.a2]]⟩ gL ?_
  refine tr aA 2 (.mk ?_)
  obtain rfl:=fV h0
  refine wR hret (rC gL (rT .nil)) ?_
  exact .refl _
  replace h0:=ct h0
  refine kU 29 (int 0) rfl (congrArg int (of_decide_eq_true e21)) ?_
  refine sY (fT (y:=.pt 1 v4 0 1) (iJ rfl Tryz.underlying97 dM rfl rfl rfl rfl rfl (by decide)) rfl) ?_
  refine tr aA 2 (.mk ?_)
  refine ni aA h0 λx26 h0=>?_
  refine tr aA 1 (.mk ?_)
  refine kU 28 (int 0) rfl (congrArg int (of_decide_eq_true e21)) ?_
  refine sY (fT (y:=.pt 1 v4 0 1) (iJ rfl Tryz.underlying97 dM rfl rfl rfl rfl rfl (by decide)) rfl) ?_
  refine sS ⟨99,4,true,true,v4,[[aH 3 aF.av a1.aI,int x26,int a1.bC.a1,int a1.bC.a2]]⟩ dM ?_
  refine tr aA 4 (.mk ?_)
  refine sS ⟨99,4,true,true,v5,[[aH 3 aF.av a1.aI,int x26,int a1.bC.a1,int a1.bC.a2]]⟩ gL ?_
  refine tr aA 2 (.mk ?_)
  obtain rfl:=fV h0
  refine wR hret (rC gL (rT .nil)) ?_
  exact .refl _
def VI (a1:aB) (a2:Int) (a3:fA):WT Tryz.prog (.b (aB)) :=
 .al 1<|.al 2<|.al 3<|.as (a1.dS.length<=68719476736) inferInstance<|.ge 10 4<|.bo (ix a1.dS a2) λx9=>.gv 14<|.bl (a1.dS.set (Int.toNat a2) a3:List fA) λx10=>.ge 1002004 0<|.ret (((⟨a1.bF,a1.bA,a1.bX,x10,a1.dH,a1.Done⟩:aB):aB))
def FE (a1:aB) (a2:Int) (a3:fA):Option (aB):=(VI a1 a2 a3).run
theorem aB4 {a1 a2 a3 r} (h0:FE a1 a2 a3=some r):PP Tryz.prog 171 [.agg (aB.av a1),int a2,.agg (fA.av a3)] (λy=>y=.agg (aB.av r)) :=
 bY mixed aA (λr:aB=>.agg (aB.av r)) h0 Tryz.func171 (λr=>(λ(a:aB)=>PV.agg (aB.dR a)) r) 100000 au
def aEK (n:Nat) (a1:aB) (a2:bJ):WT Tryz.prog (.b (aB×Int)) :=
 .al 1<|.al 2<|.al 3<|.jn 0 [2,3,4,5] [1,2,3] [] (λ_ (a:Bool)=>[(30,aZ a)]) (λ_ _=>[]) (.bB 22 (decide (a2.Ref<0)) λx6=>.ifs [22] x6 (.ret true) (.ln 28 fA.av a1.dS<|.bB 29 (decide (a2.Ref>=(a1.dS.length:Int))) λx7=>.ret x7)) (λy0_1=>.ifs [30] y0_1 (.ret ((a1:aB),4)) (.ix 36 fA.av a1.dS a2.Ref λx8=>.al 4<|.cl 43 (pK a1 x8.fU x8.Item) vN vB λx10=>.bB 45 (decide (x10≠0)) λx11=>.ifs [45] x11 (.ret ((a1:aB),x10)) (.bI 52 (bE (x8.aT-x8.jB)) λx12=>.bB 56 (decide (a2.aT>x12)) λx13=>.ifs [56] x13 (.ret ((a1:aB),5)) (.bI 63 (bE (0-a2.bM)) λx14=>.ge 65 5<|.al 6<|.bI 71 (bE (x8.jB+a2.aT)) λx17=>.jn 0 [2,3,4,5,6,8,9,10] [1,2,3,4,5,6] [] (λ_ (a:Bool)=>[(86,aZ a)]) (λ_ _=>[]) (.dr [(0,[4]),(1,[4]),(3,[4]),(4,[4]),(5,[1]),(6,[1]),(7,[4]),(8,[4])] [] [1,4] [] [0,1,2,3,4,5,6,7,8,9,10,11,12,13] (.bB 75 (x8.qF) λx18=>.ifs [75] x18 (.jC 82 aP.av gE aP.fB a1.bA x8.fU λx19=>.bB 85 (decide (x8.oP=x19.fQ)) λx20=>.ret x20) (.ret false))) (λy1_1=>.ifs [86] y1_1 (.dr [(0,[1]),(1,[4]),(2,[4]),(3,[4]),(4,[4]),(5,[4]),(6,[4]),(8,[2]),(9,[2])] [(15,[])] [1,2,4] [14,15] [0,1,2,3,4,5,6,7,8,9,10,11,12,13,14,15,16] (.cl 95 (rG a1 x8.fU x8.Item x8.Loc) wZ vW λx21=>.cl 98 (DZ x21 0 a2.aT) aEZ aHP λx22=>.al 7<|.bB 102 (decide (x22.2≠0)) λx24=>.ifs [102] x24 (.ret ((a1:aB),x22.2)) (.kS 5<|.dr [(0,[1]),(1,[4]),(2,[4]),(3,[4]),(4,[4]),(5,[4]),(6,[4]),(7,[7]),(9,[4]),(10,[4]),(12,[5])] [(17,[])] [1,4,5,7] [16,17] [0,1,2,3,4,5,6,7,8,9,10,11,12,13,14,15,16,17,18] (.cl 114 (wI a1 x8.fU x8.Item x8.Loc x22.1) BU CY λx25=>.cl 118 (lS n x25 x8.fU ([(⟨4,a2.bM⟩:aN),(⟨3,x14⟩:aN)]:List aN)) qU qK λx26=>.al 8<|.bB 122 (decide (x26.2≠0)) λx28=>.ifs [122] x28 (.ret ((a1:aB),x26.2)) (.cl 129 (FE x26.1 a2.Ref (⟨x8.fU,x8.Item,x8.Loc,x8.aT,x17,x8.rD,x8.bO,x8.oP,x8.qF⟩:fA)) XZ aB4 λx29=>.ret ((x29:aB),0)))))) (.dr [(0,[4]),(1,[4]),(2,[2]),(3,[2]),(6,[4]),(7,[4]),(8,[2]),(9,[2])] [] [2,4] [] [0,1,2,3,4,5,6,7,8,9,10,11,12,13] (.cl 135 (qR n x8.rD a2.aT x12) vI uP λx30=>.cl 141 (qR n x8.bO a2.aT x12) vI uP λx31=>.cl 155 (qO n a1 x8.fU x8.Item x8.Loc (⟨a2.aT,x30,x31⟩:aF)) EY FR λx32=>.al 9<|.bB 161 (decide (x32.2.2.2≠0)) λx34=>.ifs [161] x34 (.ret ((a1:aB),x32.2.2.2)) (.dr [(0,[9]),(1,[4]),(2,[4])] [(13,[]),(17,[])] [4,9] [12,13,17] [0,1,2,3,4,5,6,7,8,9,10,11,12,13,14,15,16,17,18] (.bI 174 (bE (0-x30)) λx35=>.to 176 (aH 2 aN.av ([(⟨0,x32.2.1⟩:aN),(⟨6,x32.2.2.1⟩:aN),(⟨5,x35⟩:aN)]:List aN))<|.bl (([(⟨4,a2.bM⟩:aN),(⟨3,x14⟩:aN)]:List aN)++([(⟨0,x32.2.1⟩:aN),(⟨6,x32.2.2.1⟩:aN),(⟨5,x35⟩:aN)]:List aN):List aN) λx36=>.as (x36.length<=68719476736) inferInstance<|.ge 177 0<|.bo (lS n x32.1 x8.fU x36) λx39=>.ge 178 0<|.bB 182 (decide (x39.2≠0)) λx40=>.ifs [182] x40 (.ret ((a1:aB),x39.2)) (.cl 193 (nA n x39.1 x8.fU x8.Item (⟨0,0,0,0,x32.2.1,0,0,0,0,0,0⟩:cB)) wE wY λx41=>.bB 197 (decide (x41.2≠0)) λx42=>.ifs [197] x42 (.ret ((a1:aB),x41.2)) (.dr [(0,[4]),(1,[4]),(4,[4]),(5,[4]),(8,[6]),(10,[6])] [(9,[4]),(11,[])] [4,6] [9,11] [0,1,2,3,4,5,6,7,8,9,10,11] (.bI 203 (bE (x8.rD-x30)) λx43=>.bI 207 (bE (x8.bO-x31)) λx44=>.cl 214 (FE x41.1 a2.Ref (⟨x8.fU,x8.Item,x8.Loc,x8.aT,x17,x43,x44,x8.oP,x8.qF⟩:fA)) XZ aB4 λx45=>.ret ((x45:aB),0)))))))))))))
def MG (n:Nat) (a1:aB) (a2:bJ):Option (aB×Int):=(aEK n a1 a2).run
theorem aU7 {n:Nat} {a1:aB} {a2:bJ} {r:aB×Int} (h0:MG n a1 a2=some r):PP Tryz.prog 143 [.agg (aB.av a1),.agg (bJ.av a2)] (λy=>y=.bD [.agg (aB.av r.1),int r.2]):=by
 refine bY mixed aA (λ(r:aB×Int)=>.bD [.agg (aB.av r.1),int r.2]) h0 Tryz.func143 (λr=>.bD (gK ((λ(a:aB)=>PV.agg (aB.dR a)) (r.1)) (bQ (r.2)))) 100000 ?_
 intro v3
 intro v4
 intro v5
 refine .mk ?_ ?_
 refine .mk λx6=>?_
 refine .mk .mk ?_
 refine .mk ?_
 refine .mk λx7=>?_
 exact .mk
 intro _ _
 refine .mk .mk ?_
 refine .mk λx8 e8=>?_
 intro v9
 refine .mk λx10 e10=>?_
 refine .mk λx11=>?_
 refine .mk .mk ?_
 refine .mk λx12=>?_
 refine .mk λx13=>?_
 refine .mk .mk ?_
 refine .mk λx14=>?_
 refine .mk _ ⟨λ_=>yL (ps:=[(0,_),(1,_)]) 5 [[int 4,int a2.bM],[int 3,int x14]] .any rfl Tryz.underlying73 vQ (.cons rfl (.cons rfl .nil)) (by kernel_rfl) rfl rfl rfl,λ_ _ _=>trivial⟩ ?_
 rintro _ _ ⟨v15,-,rfl,rfl⟩
 intro v16
 refine .mk λx17=>?_
 refine .mk ?_ ?_
 refine .mk ?_
 refine .mk λx18=>?_
 refine .mk ?_ ?_
 refine .mk λx19 e19=>?_
 refine .mk λx20=>?_
 exact .mk
 exact .mk
 intro _ _
 refine .mk ?_ ?_
 refine .mk ?_
 refine .mk λx21 e21=>?_
 refine .mk λx22 e22=>?_
 intro v23
 refine .mk λx24=>?_
 refine .mk .mk ?_
 refine .mk ?_
 refine .mk λx25 e25=>?_
 refine .mk (λx26 e26=>?_) rfl (λH hH=>(.cons (.refl _) (.cons (.refl _) (.cons (gY (ob:=(⟨72,2,false,true,v15,([(⟨4,a2.bM⟩:aN),(⟨3,x14⟩:aN)]:List aN).map aN.av⟩:cO)) ((hH 5 (by decide)).trans rfl) rfl rfl rfl rfl (Eq.symm rfl)) .nil))))
 intro v27
 refine .mk λx28=>?_
 refine .mk .mk ?_
 refine .mk λx29 e29=>?_
 exact .mk
 refine .mk ?_
 refine .mk λx30 e30=>?_
 refine .mk λx31 e31=>?_
 refine .mk λx32 e32=>?_
 intro v33
 refine .mk λx34=>?_
 refine .mk .mk ?_
 refine .mk ?_
 refine .mk λx35=>?_
 refine .mk (λH hH _=>fT (y:=aH 2 aN.av ([(⟨0,x32.2.1⟩:aN),(⟨6,x32.2.2.1⟩:aN),(⟨5,x35⟩:aN)]:List aN)) (jP (ps:=[(0,_),(1,_),(2,_)]) (rows:=[[int 0,int x32.2.1],[int 6,int x32.2.2.1],[int 5,int x35]]) rfl Tryz.underlying73 vQ (.cons rfl (.cons rfl (.cons rfl .nil))) (by kernel_rfl) rfl rfl rfl) rfl) ?_
 refine .mk λx36 e36=>?_
 refine .mk λp37=>?_
 refine .mk _ ⟨λ_=>lV (g:=aN.av) (l:=([(⟨4,a2.bM⟩:aN),(⟨3,x14⟩:aN)]:List aN)) (m:=([(⟨0,x32.2.1⟩:aN),(⟨6,x32.2.2.1⟩:aN),(⟨5,x35⟩:aN)]:List aN)) .any rfl Tryz.underlying73 vQ TG rfl rfl rfl rfl rfl rfl rfl rfl rfl rfl (Eq.symm rfl) (.refl _) (λ_=>rfl) e36 p37,by rintro _ _ ⟨v38,-,rfl,rfl⟩;exact ⟨rfl,rfl,trivial⟩⟩ ?_
 rintro _ _ ⟨v38,-,rfl,rfl⟩
 refine .mk λx39 e39=>?_
 refine .mk _ ⟨λ_=>eG.kS 5 rfl (eG.iA (oC rfl rfl (.cons rfl (.cons rfl (.cons rfl .nil))) qU (.cons (.refl _) (.cons (.refl _) (.cons (gY rfl rfl rfl rfl rfl (Eq.symm rfl)) .nil))) (qK e39)) (λ_ h=>h) (λ_ h=>h.elim)),by rintro _ _ ⟨rfl,rfl⟩;exact trivial⟩ ?_
 rintro _ _ ⟨rfl,rfl⟩
 refine .mk λx40=>?_
 refine .mk .mk ?_
 refine .mk λx41 e41=>?_
 refine .mk λx42=>?_
 refine .mk .mk ?_
 refine .mk ?_
 refine .mk λx43=>?_
 refine .mk λx44=>?_
 refine .mk λx45 e45=>?_
 exact .mk
def aBL (n:Nat) (a1:aB) (a2:bJ):WT Tryz.prog (.b (aB×Int)) :=
 .al 1<|.al 2<|.al 3<|.bB 9 (decide (a2.Kind=4)) λx6=>.ifs [9] x6 (.cl 12 (K9 n a1 a2) aPX aLZ λx7=>.ret ((x7.1:aB),x7.2)) (.bB 16 (decide (a2.Kind=5)) λx8=>.ifs [16] x8 (.cl 19 (MG n a1 a2) aUU aU7 λx9=>.ret ((x9.1:aB),x9.2)) (.ret ((a1:aB),1)))
def LA (n:Nat) (a1:aB) (a2:bJ):Option (aB×Int):=(aBL n a1 a2).run
theorem aS7 {n a1 a2 r} (h0:LA n a1 a2=some r):PP Tryz.prog 100 [.agg (aB.av a1),.agg (bJ.av a2)] (λy=>y=.bD [.agg (aB.av r.1),int r.2]) :=
 bY mixed aA (λr:aB×Int=>.bD [.agg (aB.av r.1),int r.2]) h0 Tryz.func100 (λr=>.bD (gK ((λ(a:aB)=>PV.agg (aB.dR a)) (r.1)) (bQ (r.2)))) 100000 au
def aD6 (n:Nat) (a1:aB) (a2:aB) (a3:Int) (a4:Int) (a5:List aN) (a6:cB):WT Tryz.prog (.b (aB×Int)) :=
 .al 1<|.al 2<|.al 3<|.al 4<|.cl 19 (lS n a2 a3 a5) qU qK λx11=>.bB 23 (decide (x11.2≠0)) λx12=>.ifs [23] x12 (.ret ((a1:aB),x11.2)) (.cl 31 (nA n x11.1 a3 a4 a6) wE wY λx13=>.bB 35 (decide (x13.2≠0)) λx14=>.ifs [35] x14 (.ret ((a1:aB),x13.2)) (.ret ((x13.1:aB),0)))
def xO (n:Nat) (a1:aB) (a2:aB) (a3:Int) (a4:Int) (a5:List aN) (a6:cB):Option (aB×Int):=(aD6 n a1 a2 a3 a4 a5 a6).run
theorem G5 {n a1 a2 a3 a4 a5 a6 r} (h0:xO n a1 a2 a3 a4 a5 a6=some r):PP Tryz.prog 173 [.agg (aB.av a1),.agg (aB.av a2),int a3,int a4,aH 2 aN.av a5,.agg (cB.av a6)] (λy=>y=.bD [.agg (aB.av r.1),int r.2]) :=
 bY mixed aA (λr:aB×Int=>.bD [.agg (aB.av r.1),int r.2]) h0 Tryz.func173 (λr=>.bD (gK ((λ(a:aB)=>PV.agg (aB.dR a)) (r.1)) (bQ (r.2)))) 100000 au
end
end Go.Pv
