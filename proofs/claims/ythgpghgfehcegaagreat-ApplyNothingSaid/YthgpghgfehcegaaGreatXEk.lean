import Derived.Test.YthgpghgfehcegaaGreatXEj
set_option linter.unusedVariables false
set_option linter.unusedSimpArgs false
namespace Go.Pv
open Go.Proofs
set_option maxRecDepth 100000
set_option maxHeartbeats 4000000
noncomputable section
def aLH (n:Nat) (a1:aA) (a2:aS):WB (aA×Int) :=
 .al 1<|.al 2<|.al 3<|.jn 0 [2,3,4,5] [1,2,3] [] (λ_ (a:Bool)=>[(23,aF a)]) (λ_ _=>[]) (.bB 15 (decide (a2.Ref<0)) λx6=>.ifs [15] x6 (.ret true) (.ln 21 dB.av a1.bY<|.bB 22 (decide (a2.Ref>=(a1.bY.length:Int))) λx7=>.ret x7)) (λy0_1=>.ifs [23] y0_1 (.ret ((a1:aA),4)) (.ix 29 dB.av a1.bY a2.Ref λx8=>.al 4<|.cl 36 (lH a1 x8.To x8.Item) aBK mU λx10=>.bB 38 (decide (x10≠0)) λx11=>.ifs [38] x11 (.ret ((a1:aA),x10)) (.bB 45 (decide (a2.aQ>x8.aQ)) λx12=>.ifs [45] x12 (.ret ((a1:aA),5)) (.dr [(0,[4]),(1,[4]),(2,[2]),(3,[2]),(4,[4]),(5,[4]),(7,[4]),(8,[4]),(9,[2]),(10,[2]),(11,[4]),(12,[4])] [] [2,4] [] [0,1,2,3,4,5,6,7,8,9,10,11,12,13,14,15] (.cl 53 (mX n x8.Value a2.aQ x8.aQ) yR nU λx13=>.cl 60 (mX n x8.bO a2.aQ x8.aQ) yR nU λx14=>.cl 74 (uU n a1 x8.To x8.Item a2.Loc (⟨a2.aQ,x13,x14⟩:aB)) aIG yA λx15=>.bB 80 (decide (x15.2.2.2≠0)) λx16=>.ifs [80] x16 (.ret ((x15.1:aA),x15.2.2.2)) (.dr [(0,[1]),(1,[4]),(2,[4])] [(17,[])] [1,4] [17] [0,1,2,3,4,5,6,7,8,9,10,11,12,13,14,15,16,17,18] (.cl 88 (nR 0 x15.2.1) kQ pE λx17=>.cl 90 (nR 6 x15.2.2.1) kQ pE λx18=>.bI 92 (aI (0-x13)) λx19=>.cl 93 (nR 12 x19) kQ pE λx20=>.to 94 (aD 2 aH.av ([x17,x18,x20]:List aH))<|.to 96 (aD 2 gG.av ([(⟨x8.To,([x17,x18,x20]:List aH)⟩:gG)]:List gG))<|.cl 97 (EC n x15.1 ([(⟨x8.To,([x17,x18,x20]:List aH)⟩:gG)]:List gG)) PO SG λx21=>.bB 101 (decide (x21.2≠0)) λx22=>.ifs [101] x22 (.ret ((x21.1:aA),x21.2)) (.cl 112 (qD x21.1 x8.To x8.Item (⟨0,0,0,x15.2.1,0,0,0,0,0,0,0⟩:bM)) XZ sO λx23=>.bB 116 (decide (x23.2≠0)) λx24=>.ifs [116] x24 (.ret ((x23.1:aA),x23.2)) (.as (x23.1.bY.length<=68719476736) inferInstance<|.ge 121 5<|.dr [(0,[1]),(1,[1]),(2,[2]),(3,[2]),(4,[1]),(5,[1]),(6,[2]),(7,[2]),(8,[1]),(9,[1]),(10,[2]),(11,[2]),(12,[4]),(13,[4]),(14,[2]),(15,[2]),(17,[4]),(18,[4]),(21,[4]),(22,[4]),(25,[5]),(26,[5]),(28,[5]),(29,[5]),(31,[5]),(32,[5])] [(27,[1,2,4]),(30,[1,2,4]),(33,[])] [1,2,4,5] [27,30,33] [0,1,2,3,4,5,6,7,8,9,10,11,12,13,14,15,16,17,18,19,20,21,22,23,24,25,26,27,28,29,30,31,32,33] (.bI 139 (aI (x8.aQ-a2.aQ)) λx27=>.bI 143 (aI (x8.Value-x13)) λx28=>.bI 147 (aI (x8.bO-x14)) λx29=>.bo (ix x23.1.bY a2.Ref) λx30=>.gv 148<|.gv 149<|.bl (x23.1.bY.set (Int.toNat a2.Ref) ((⟨x30.aR1,x30.To,x30.Item,x27,x30.Value,x30.bO⟩:dB):dB):List dB) λx31=>.ge 1020027 0<|.gv 150<|.gv 151<|.bl (x31.set (Int.toNat a2.Ref) ((⟨x30.aR1,x30.To,x30.Item,x27,x28,x30.bO⟩:dB):dB):List dB) λx32=>.ge 1020030 0<|.gv 152<|.gv 153<|.bl (x32.set (Int.toNat a2.Ref) ((⟨x30.aR1,x30.To,x30.Item,x27,x28,x29⟩:dB):dB):List dB) λx33=>.ge 1020033 0<|.ret (((⟨x23.1.bA,x23.1.aW,x23.1.bP,x23.1.bU,x33,x23.1.Done⟩:aA):aA),0)))))))))))
def T9 (n:Nat) (a1:aA) (a2:aS):Option (aA×Int):=(aLH n a1 a2).run
theorem aJM {n a1 a2}:PZ (T9 n a1 a2) 91 [.agg (aA.av a1),.agg (aS.av a2)] (λr=>.aU [.agg (aA.av r.1),int r.2]):=wq Tryz.func91
def aEK (n:Nat) (a1:aA) (a2:aS):WB (aA×Int) :=
 .al 1<|.al 2<|.al 3<|.al 4<|.jn 1 [2,4,5,6] [1,3] [] (λ_ (a:Int×aA)=>[(7,int a.1)]) (λ_ a=>[.kp 4 [(aA.av a.2)]]) (.bB 12 (decide (a2.Kind=12)) λx7=>.ifs [12] x7 (.cl 16 (KJ n a1 a2) P4 Y8 λx8=>.ret ((x8.2:Int),x8.1)) (.bB 20 (decide (a2.Kind=13)) λx9=>.ifs [20] x9 (.cl 24 (T9 n a1 a2) aMD aJM λx10=>.ret ((x10.2:Int),x10.1)) (.ret ((1:Int),a1)))) (pw λy0_1 y0_2=>.bB 28 (decide (y0_1≠0)) λx11=>.ifs [28] x11 (.ret ((a1:aA),y0_1)) (.ret ((y0_2:aA),0)))
def L9 (n:Nat) (a1:aA) (a2:aS):Option (aA×Int):=(aEK n a1 a2).run
theorem X6 {n a1 a2}:PZ (L9 n a1 a2) 46 [.agg (aA.av a1),.agg (aS.av a2)] (λr=>.aU [.agg (aA.av r.1),int r.2]):=wq Tryz.func46
def aOR (a1:aA) (a2:aS):WB (aA×Int) :=
 .al 1<|.al 2<|.al 3<|.bB 10 (decide (a2.Kind≠10)) λx6=>.ifs [10] x6 (.ret ((a1:aA),1)) (.cl 17 (lH a1 a2.E a2.Item) aBK mU λx7=>.bB 19 (decide (x7≠0)) λx8=>.ifs [19] x8 (.ret ((a1:aA),x7)) (.dr [(0,[2]),(1,[2]),(2,[1]),(3,[1]),(4,[2]),(5,[2])] [] [1,2] [] [0,1,2,3,4,5,6,7,8,9,10] (.gI 28 aP.av gE aP.bW a1.aW a2.E λx9=>.ln 31 fI x9.dO<|.bB 32 (decide (a2.Item>=(x9.dO.length:Int))) λx10=>.ifs [32] x10 (.ret ((a1:aA),4)) (.as (a1.aW.length<=68719476736) inferInstance<|.ge 36 4<|.bo (ix a1.aW a2.E) λx13=>.gv 42<|.gv 45<|.gv 46<|.gv 47<|.as (x13.dO.length<=68719476736) inferInstance<|.ge 48 5<|.gv 49<|.gv 50<|.ge 1010008 0<|.dr [(1,[4]),(2,[4]),(3,[4]),(4,[2]),(5,[2]),(6,[2]),(7,[2]),(8,[5])] [(9,[])] [2,4,5] [9] [0,1,2,3,4,5,6,7,8,9] (.gv 52<|.gv 53<|.gv 54<|.bo (ix x13.dO a2.Item) λx16=>.gv 59<|.bl (x13.dO.set (Int.toNat a2.Item) (a2.bD:Int):List Int) λx17=>.ge 1011009 0<|.ret (((⟨a1.bA,(a1.aW.set (Int.toNat a2.E) (⟨x13.dS,x13.Closed,x13.dD,x13.dU,x13.dI,x17,x13.Down,x13.eT⟩:aP)),a1.bP,a1.bU,a1.bY,a1.Done⟩:aA):aA),0))))))
def LU (a1:aA) (a2:aS):Option (aA×Int):=(aOR a1 a2).run
theorem aFR {a1 a2}:PZ (LU a1 a2) 47 [.agg (aA.av a1),.agg (aS.av a2)] (λr=>.aU [.agg (aA.av r.1),int r.2]):=wq Tryz.func47
def aFD (n:Nat) (a1:aA) (a2:aS):WB (aA×Int) :=
 .al 1<|.al 2<|.al 3<|.inl 11 aLJ Tryz.func27 [1,2,3] [] (B:=(Unit)⊕(Unit)⊕(Unit)⊕(Unit)⊕(Unit)⊕(Unit)⊕(Unit)⊕(Unit)) (λu10=>Sum.elim (λa=>.dW 92 (.fn (.func 41) [] [])) (Sum.elim (λa=>.dW 92 (.fn (.func 42) [] [])) (Sum.elim (λa=>.dW 92 (.fn (.func 43) [] [])) (Sum.elim (λa=>.dW 92 (.fn (.func 44) [] [])) (Sum.elim (λa=>.dW 92 (.fn (.func 45) [] [])) (Sum.elim (λa=>.dW 92 (.fn (.func 46) [] [])) (Sum.elim (λa=>.dW 92 (.fn (.func 47) [] [])) (λa=>.sc .nilIface)))))))) (λu10=>Sum.elim (λa=>[]) (Sum.elim (λa=>[]) (Sum.elim (λa=>[]) (Sum.elim (λa=>[]) (Sum.elim (λa=>[]) (Sum.elim (λa=>[]) (Sum.elim (λa=>[]) (λa=>[])))))))) (.bB 5 (decide (a2.Kind=1)) λx6=>.ifs [5] x6 (.gv 6<|.ret (.inl ())) (.bB 8 (decide (a2.Kind=4)) λx7=>.jn 0 [2,3] [1,2,3] [] (λ_ (a:Bool)=>[(7,aF a)]) (λ_ _=>[]) (.ifs [7,8] x7 (.ret true) (.bB 9 (decide (a2.Kind=5)) λx8=>.ret x8)) (λy0_1=>.ifs [7] y0_1 (.gv 10<|.ret (.inr (.inl ()))) (.bB 12 (decide (a2.Kind=6)) λx9=>.jn 0 [2,3] [1,2,3] [] (λ_ (a:Bool)=>[(11,aF a)]) (λ_ _=>[]) (.ifs [11,12] x9 (.ret true) (.bB 13 (decide (a2.Kind=7)) λx10=>.ifs [13] x10 (.ret true) (.bB 14 (decide (a2.Kind=8)) λx11=>.ifs [14] x11 (.ret true) (.bB 15 (decide (a2.Kind=9)) λx12=>.ret x12)))) (λy1_1=>.ifs [11] y1_1 (.gv 16<|.ret (.inr (.inr (.inl ())))) (.bB 18 (decide (a2.Kind=2)) λx13=>.jn 0 [2,3] [1,2,3] [] (λ_ (a:Bool)=>[(17,aF a)]) (λ_ _=>[]) (.ifs [17,18] x13 (.ret true) (.bB 19 (decide (a2.Kind=3)) λx14=>.ret x14)) (λy2_1=>.ifs [17] y2_1 (.gv 20<|.ret (.inr (.inr (.inr (.inl ()))))) (.bB 22 (decide (a2.Kind=11)) λx15=>.ifs [22] x15 (.gv 23<|.ret (.inr (.inr (.inr (.inr (.inl ())))))) (.bB 25 (decide (a2.Kind=12)) λx16=>.jn 0 [2,3] [1,2,3] [] (λ_ (a:Bool)=>[(24,aF a)]) (λ_ _=>[]) (.ifs [24,25] x16 (.ret true) (.bB 26 (decide (a2.Kind=13)) λx17=>.ret x17)) (λy3_1=>.ifs [24] y3_1 (.gv 27<|.ret (.inr (.inr (.inr (.inr (.inr (.inl ()))))))) (.bB 29 (decide (a2.Kind=10)) λx18=>.ifs [29] x18 (.gv 30<|.ret (.inr (.inr (.inr (.inr (.inr (.inr (.inl ())))))))) (.ret (.inr (.inr (.inr (.inr (.inr (.inr (.inr ()))))))))))))))))))) (Sum.elim (λ_=>.jn 0 [2,3,4,5,6] [1,2,3] [] (λ_ (a:Bool)=>[(18,aF a)]) (λ_ _=>[]) (.cl 13 (nJ n a2) aJF (λ_=>qP) λx19=>.bB 14 (!x19) λx20=>.ifs [14] x20 (.ret true) (.gv 17<|.ret false)) (λy12_1=>.ifs [18] y12_1 (.ret ((a1:aA),1)) (.iv 24 aRO IX Tryz.func277 [1,2,3] [] (λ_ (a:aA×Int)=>.aU [.agg (aA.av a.1),int a.2]) (λ_ _=>[]) (.al 8<|.al 9<|.al 10<|.cl 11 (VK n a1 a2) KC aK7 λx24=>.ret ((x24.1:aA),x24.2)) (pw λy14_1 y14_2=>.al 7<|.bB 28 (decide (y14_2≠0)) λx26=>.ifs [28] x26 (.ret ((a1:aA),y14_2)) (.bI 33 (aI (y14_1.Done+1)) λx27=>.bl (if 288230376151711744<x27 then 288230376151711744 else x27:Int) λx28=>.gv 34<|.ret (((⟨y14_1.bA,y14_1.aW,y14_1.bP,y14_1.bU,y14_1.bY,x28⟩:aA):aA),0)))))) (Sum.elim (λ_=>.jn 0 [2,3,4,5,6] [1,2,3] [] (λ_ (a:Bool)=>[(18,aF a)]) (λ_ _=>[]) (.cl 13 (nJ n a2) aJF (λ_=>qP) λx29=>.bB 14 (!x29) λx30=>.ifs [14] x30 (.ret true) (.gv 17<|.ret false)) (λy12_1=>.ifs [18] y12_1 (.ret ((a1:aA),1)) (.iv 24 aRO IX Tryz.func277 [1,2,3] [] (λ_ (a:aA×Int)=>.aU [.agg (aA.av a.1),int a.2]) (λ_ _=>[]) (.al 14<|.al 15<|.al 16<|.cl 11 (N7 n a1 a2) aIB aOK λx34=>.ret ((x34.1:aA),x34.2)) (pw λy16_1 y16_2=>.al 7<|.bB 28 (decide (y16_2≠0)) λx36=>.ifs [28] x36 (.ret ((a1:aA),y16_2)) (.bI 33 (aI (y16_1.Done+1)) λx37=>.bl (if 288230376151711744<x37 then 288230376151711744 else x37:Int) λx38=>.gv 34<|.ret (((⟨y16_1.bA,y16_1.aW,y16_1.bP,y16_1.bU,y16_1.bY,x38⟩:aA):aA),0)))))) (Sum.elim (λ_=>.jn 0 [2,3,4,5,6] [1,2,3] [] (λ_ (a:Bool)=>[(18,aF a)]) (λ_ _=>[]) (.cl 13 (nJ n a2) aJF (λ_=>qP) λx39=>.bB 14 (!x39) λx40=>.ifs [14] x40 (.ret true) (.gv 17<|.ret false)) (λy12_1=>.ifs [18] y12_1 (.ret ((a1:aA),1)) (.iv 24 aRO IX Tryz.func277 [1,2,3] [] (λ_ (a:aA×Int)=>.aU [.agg (aA.av a.1),int a.2]) (λ_ _=>[]) (.al 25<|.al 26<|.al 27<|.inl 11 aOH Tryz.func43 [1,2,3,25,26,27] [] (λ_ (a:aA×Int)=>.aU [.agg (aA.av a.1),int a.2]) (λ_ _=>[]) (.al 28<|.al 29<|.al 30<|.dr [(1,[29]),(2,[29])] [(8,[])] [29] [7,8] [0,1,2,3,4,5,6,7,8,9] (.gv 12<|.wt 14<|.sp [14] a2.Kind 6 (.gv 15<|.al 31<|.cl 26 (lH a1 a2.E a2.Item) aBK mU λx67=>.bB 28 (decide (x67≠0)) λx68=>.ifs [28] x68 (.ret ((a1:aA),x67)) (.cl 36 (OL n a1 a2) sW aC4 λx69=>.al 32<|.bB 40 (decide (x69.2≠0)) λx71=>.ifs [40] x71 (.ret ((a1:aA),x69.2)) (.ret ((x69.1:aA),0)))) (.sp [14] a2.Kind 7 (.gv 15<|.al 31<|.cl 26 (lH a1 a2.E a2.Item) aBK mU λx61=>.bB 28 (decide (x61≠0)) λx62=>.ifs [28] x62 (.ret ((a1:aA),x61)) (.cl 36 (OB n a1 a2) nY aNB λx63=>.al 32<|.bB 40 (decide (x63.2≠0)) λx65=>.ifs [40] x65 (.ret ((a1:aA),x63.2)) (.ret ((x63.1:aA),0)))) (.sp [14] a2.Kind 8 (.gv 15<|.al 31<|.cl 26 (lH a1 a2.E a2.Item) aBK mU λx55=>.bB 28 (decide (x55≠0)) λx56=>.ifs [28] x56 (.ret ((a1:aA),x55)) (.cl 36 (U9 n a1 a2) yO aHY λx57=>.al 32<|.bB 40 (decide (x57.2≠0)) λx59=>.ifs [40] x59 (.ret ((a1:aA),x57.2)) (.ret ((x57.1:aA),0)))) (.sp [14] a2.Kind 9 (.gv 15<|.al 31<|.cl 26 (lH a1 a2.E a2.Item) aBK mU λx49=>.bB 28 (decide (x49≠0)) λx50=>.ifs [28] x50 (.ret ((a1:aA),x49)) (.cl 36 (O3 n a1 a2) aCO aJH λx51=>.al 32<|.bB 40 (decide (x51.2≠0)) λx53=>.ifs [40] x53 (.ret ((a1:aA),x51.2)) (.ret ((x51.1:aA),0)))) (.as (a2.Kind≠6/\a2.Kind≠7/\a2.Kind≠8/\a2.Kind≠9) inferInstance<|.gv 15<|.al 31<|.ret ((a1:aA),1))))))) (pw λy19_1 y19_2=>.ret ((y19_1:aA),y19_2))) (pw λy20_1 y20_2=>.al 7<|.bB 28 (decide (y20_2≠0)) λx73=>.ifs [28] x73 (.ret ((a1:aA),y20_2)) (.bI 33 (aI (y20_1.Done+1)) λx74=>.bl (if 288230376151711744<x74 then 288230376151711744 else x74:Int) λx75=>.gv 34<|.ret (((⟨y20_1.bA,y20_1.aW,y20_1.bP,y20_1.bU,y20_1.bY,x75⟩:aA):aA),0)))))) (Sum.elim (λ_=>.jn 0 [2,3,4,5,6] [1,2,3] [] (λ_ (a:Bool)=>[(18,aF a)]) (λ_ _=>[]) (.cl 13 (nJ n a2) aJF (λ_=>qP) λx76=>.bB 14 (!x76) λx77=>.ifs [14] x77 (.ret true) (.gv 17<|.ret false)) (λy12_1=>.ifs [18] y12_1 (.ret ((a1:aA),1)) (.iv 24 aRO IX Tryz.func277 [1,2,3] [] (λ_ (a:aA×Int)=>.aU [.agg (aA.av a.1),int a.2]) (λ_ _=>[]) (.al 36<|.al 37<|.al 38<|.cl 11 (SA n a1 a2) mI ZB λx81=>.ret ((x81.1:aA),x81.2)) (pw λy22_1 y22_2=>.al 7<|.bB 28 (decide (y22_2≠0)) λx83=>.ifs [28] x83 (.ret ((a1:aA),y22_2)) (.bI 33 (aI (y22_1.Done+1)) λx84=>.bl (if 288230376151711744<x84 then 288230376151711744 else x84:Int) λx85=>.gv 34<|.ret (((⟨y22_1.bA,y22_1.aW,y22_1.bP,y22_1.bU,y22_1.bY,x85⟩:aA):aA),0)))))) (Sum.elim (λ_=>.jn 0 [2,3,4,5,6] [1,2,3] [] (λ_ (a:Bool)=>[(18,aF a)]) (λ_ _=>[]) (.cl 13 (nJ n a2) aJF (λ_=>qP) λx86=>.bB 14 (!x86) λx87=>.ifs [14] x87 (.ret true) (.gv 17<|.ret false)) (λy12_1=>.ifs [18] y12_1 (.ret ((a1:aA),1)) (.iv 24 aRO IX Tryz.func277 [1,2,3] [] (λ_ (a:aA×Int)=>.aU [.agg (aA.av a.1),int a.2]) (λ_ _=>[]) (.al 42<|.al 43<|.al 44<|.cl 11 (JP n a1 a2) aJ3 aMA λx91=>.ret ((x91.1:aA),x91.2)) (pw λy24_1 y24_2=>.al 7<|.bB 28 (decide (y24_2≠0)) λx93=>.ifs [28] x93 (.ret ((a1:aA),y24_2)) (.bI 33 (aI (y24_1.Done+1)) λx94=>.bl (if 288230376151711744<x94 then 288230376151711744 else x94:Int) λx95=>.gv 34<|.ret (((⟨y24_1.bA,y24_1.aW,y24_1.bP,y24_1.bU,y24_1.bY,x95⟩:aA):aA),0)))))) (Sum.elim (λ_=>.jn 0 [2,3,4,5,6] [1,2,3] [] (λ_ (a:Bool)=>[(18,aF a)]) (λ_ _=>[]) (.cl 13 (nJ n a2) aJF (λ_=>qP) λx96=>.bB 14 (!x96) λx97=>.ifs [14] x97 (.ret true) (.gv 17<|.ret false)) (λy12_1=>.ifs [18] y12_1 (.ret ((a1:aA),1)) (.iv 24 aRO IX Tryz.func277 [1,2,3] [] (λ_ (a:aA×Int)=>.aU [.agg (aA.av a.1),int a.2]) (λ_ _=>[]) (.al 48<|.al 49<|.al 50<|.cl 11 (L9 n a1 a2) aJT X6 λx101=>.ret ((x101.1:aA),x101.2)) (pw λy26_1 y26_2=>.al 7<|.bB 28 (decide (y26_2≠0)) λx103=>.ifs [28] x103 (.ret ((a1:aA),y26_2)) (.bI 33 (aI (y26_1.Done+1)) λx104=>.bl (if 288230376151711744<x104 then 288230376151711744 else x104:Int) λx105=>.gv 34<|.ret (((⟨y26_1.bA,y26_1.aW,y26_1.bP,y26_1.bU,y26_1.bY,x105⟩:aA):aA),0)))))) (Sum.elim (λ_=>.jn 0 [2,3,4,5,6] [1,2,3] [] (λ_ (a:Bool)=>[(18,aF a)]) (λ_ _=>[]) (.cl 13 (nJ n a2) aJF (λ_=>qP) λx106=>.bB 14 (!x106) λx107=>.ifs [14] x107 (.ret true) (.gv 17<|.ret false)) (λy12_1=>.ifs [18] y12_1 (.ret ((a1:aA),1)) (.iv 24 aRO IX Tryz.func277 [1,2,3] [] (λ_ (a:aA×Int)=>.aU [.agg (aA.av a.1),int a.2]) (λ_ _=>[]) (.al 54<|.al 55<|.al 56<|.cl 11 (LU a1 a2) y9 aFR λx111=>.ret ((x111.1:aA),x111.2)) (pw λy28_1 y28_2=>.al 7<|.bB 28 (decide (y28_2≠0)) λx113=>.ifs [28] x113 (.ret ((a1:aA),y28_2)) (.bI 33 (aI (y28_1.Done+1)) λx114=>.bl (if 288230376151711744<x114 then 288230376151711744 else x114:Int) λx115=>.gv 34<|.ret (((⟨y28_1.bA,y28_1.aW,y28_1.bP,y28_1.bU,y28_1.bY,x115⟩:aA):aA),0)))))) (λ_=>.jn 0 [2,3,4,5,6] [1,2,3] [] (λ_ (a:Unit)=>[(18,aF true)]) (λ_ _=>[]) (.cl 13 (nJ n a2) aJF (λ_=>qP) λx116=>.bB 14 (!x116) λx117=>.ifs [14] x117 (.ret ()) (.gv 17<|.ret ())) (λ_=>.ret ((a1:aA),1))))))))))
def lF (n:Nat) (a1:aA) (a2:aS):Option (aA×Int):=(aFD n a1 a2).run
theorem xR {n a1 a2}:PZ (lF n a1 a2) 15 [.agg (aA.av a1),.agg (aS.av a2)] (λr=>.aU [.agg (aA.av r.1),int r.2]):=by
 refine wm Tryz.func15 ?_
 intro v3
 intro v4
 intro v5
 refine .mk ?_ ?_
 refine .mk λx6=>?_
 refine .mk ?_ ?_
 refine .mk _ (bE (qR rfl Tryz.underlying92 (by intro _ h;cases h) rfl)) ?_
 exact .mk
 refine .mk λx7=>?_
 refine .mk ?_ ?_
 refine .mk .mk ?_
 refine .mk λx8=>?_
 exact .mk
 intro _ _
 refine .mk ?_ ?_
 refine .mk _ (bE (qR rfl Tryz.underlying92 (by intro _ h;cases h) rfl)) ?_
 exact .mk
 refine .mk λx9=>?_
 refine .mk ?_ ?_
 refine .mk .mk ?_
 refine .mk λx10=>?_
 refine .mk .mk ?_
 refine .mk λx11=>?_
 refine .mk .mk ?_
 refine .mk λx12=>?_
 exact .mk
 intro _ _
 refine .mk ?_ ?_
 refine .mk _ (bE (qR rfl Tryz.underlying92 (by intro _ h;cases h) rfl)) ?_
 exact .mk
 refine .mk λx13=>?_
 refine .mk ?_ ?_
 refine .mk .mk ?_
 refine .mk λx14=>?_
 exact .mk
 intro _ _
 refine .mk ?_ ?_
 refine .mk _ (bE (qR rfl Tryz.underlying92 (by intro _ h;cases h) rfl)) ?_
 exact .mk
 refine .mk λx15=>?_
 refine .mk ?_ ?_
 refine .mk _ (bE (qR rfl Tryz.underlying92 (by intro _ h;cases h) rfl)) ?_
 exact .mk
 refine .mk λx16=>?_
 refine .mk ?_ ?_
 refine .mk .mk ?_
 refine .mk λx17=>?_
 exact .mk
 intro _ _
 refine .mk ?_ ?_
 refine .mk _ (bE (qR rfl Tryz.underlying92 (by intro _ h;cases h) rfl)) ?_
 exact .mk
 refine .mk λx18=>?_
 refine .mk ?_ ?_
 refine .mk _ (bE (qR rfl Tryz.underlying92 (by intro _ h;cases h) rfl)) ?_
 exact .mk
 exact .mk
 rintro (_ | _ | _ | _ | _ | _ | _ | _) _
 refine .mk trivial ?_
 refine .mk ?_ ?_
 refine .mk λx19 e19=>?_
 refine .mk λx20=>?_
 refine .mk .mk ?_
 refine .mk _ (bE (qU rfl Tryz.underlying65 rfl rfl)) ?_
 exact .mk
 intro _ _
 refine .mk .mk ?_
 refine .mk ?_ ?_
 intro v21
 intro v22
 intro v23
 refine .mk λx24 e24=>?_
 exact .mk
 intro _ _
 refine .mk trivial ?_
 intro v25
 refine .mk λx26=>?_
 refine .mk .mk ?_
 refine .mk λx27=>?_
 refine .mk λx28 e28=>?_
 refine .mk _ (bE (aQR rfl rfl rfl e28)) ?_
 exact .mk
 refine .mk trivial ?_
 refine .mk ?_ ?_
 refine .mk λx29 e29=>?_
 refine .mk λx30=>?_
 refine .mk .mk ?_
 refine .mk _ (bE (qU rfl Tryz.underlying65 rfl rfl)) ?_
 exact .mk
 intro _ _
 refine .mk .mk ?_
 refine .mk ?_ ?_
 intro v31
 intro v32
 intro v33
 refine .mk λx34 e34=>?_
 exact .mk
 intro _ _
 refine .mk trivial ?_
 intro v35
 refine .mk λx36=>?_
 refine .mk .mk ?_
 refine .mk λx37=>?_
 refine .mk λx38 e38=>?_
 refine .mk _ (bE (aQR rfl rfl rfl e38)) ?_
 exact .mk
 refine .mk trivial ?_
 refine .mk ?_ ?_
 refine .mk λx39 e39=>?_
 refine .mk λx40=>?_
 refine .mk .mk ?_
 refine .mk _ (bE (qU rfl Tryz.underlying65 rfl rfl)) ?_
 exact .mk
 intro _ _
 refine .mk .mk ?_
 refine .mk ?_ ?_
 intro v41
 intro v42
 intro v43
 refine .mk ?_ ?_
 intro v44
 intro v45
 intro v46
 refine .mk ?_
 refine .mk _ (λH hH _=>xQ rfl rfl .nil aKU (bK.refl _) a1J) ?_
 refine .mk ?_ ?_
 refine .mk _ (λH hH _=>DF (j:=0) rfl Tryz.underlying126 Tryz.underlying3 rfl rfl rfl rfl) ?_
 intro v66
 refine .mk λx67 e67=>?_
 refine .mk λx68=>?_
 refine .mk .mk ?_
 refine .mk λx69 e69=>?_
 intro v70
 refine .mk λx71=>?_
 refine .mk .mk ?_
 exact .mk
 refine .mk ?_ ?_
 refine .mk _ (λH hH _=>DF (j:=1) rfl Tryz.underlying126 Tryz.underlying3 rfl rfl rfl rfl) ?_
 intro v60
 refine .mk λx61 e61=>?_
 refine .mk λx62=>?_
 refine .mk .mk ?_
 refine .mk λx63 e63=>?_
 intro v64
 refine .mk λx65=>?_
 refine .mk .mk ?_
 exact .mk
 refine .mk ?_ ?_
 refine .mk _ (λH hH _=>DF (j:=2) rfl Tryz.underlying126 Tryz.underlying3 rfl rfl rfl rfl) ?_
 intro v54
 refine .mk λx55 e55=>?_
 refine .mk λx56=>?_
 refine .mk .mk ?_
 refine .mk λx57 e57=>?_
 intro v58
 refine .mk λx59=>?_
 refine .mk .mk ?_
 exact .mk
 refine .mk ?_ ?_
 refine .mk _ (λH hH _=>DF (j:=3) rfl Tryz.underlying126 Tryz.underlying3 rfl rfl rfl rfl) ?_
 intro v48
 refine .mk λx49 e49=>?_
 refine .mk λx50=>?_
 refine .mk .mk ?_
 refine .mk λx51 e51=>?_
 intro v52
 refine .mk λx53=>?_
 refine .mk .mk ?_
 exact .mk
 refine .mk λpk3=>?_
 refine .mk _ (λH hH _=>aLL rfl Tryz.underlying126 Tryz.underlying3 rfl rfl (aFV pk3) aXK) ?_
 intro v47
 exact .mk
 intro _ _
 refine .mk trivial ?_
 exact .mk
 intro _ _
 refine .mk trivial ?_
 intro v72
 refine .mk λx73=>?_
 refine .mk .mk ?_
 refine .mk λx74=>?_
 refine .mk λx75 e75=>?_
 refine .mk _ (bE (aQR rfl rfl rfl e75)) ?_
 exact .mk
 refine .mk trivial ?_
 refine .mk ?_ ?_
 refine .mk λx76 e76=>?_
 refine .mk λx77=>?_
 refine .mk .mk ?_
 refine .mk _ (bE (qU rfl Tryz.underlying65 rfl rfl)) ?_
 exact .mk
 intro _ _
 refine .mk .mk ?_
 refine .mk ?_ ?_
 intro v78
 intro v79
 intro v80
 refine .mk λx81 e81=>?_
 exact .mk
 intro _ _
 refine .mk trivial ?_
 intro v82
 refine .mk λx83=>?_
 refine .mk .mk ?_
 refine .mk λx84=>?_
 refine .mk λx85 e85=>?_
 refine .mk _ (bE (aQR rfl rfl rfl e85)) ?_
 exact .mk
 refine .mk trivial ?_
 refine .mk ?_ ?_
 refine .mk λx86 e86=>?_
 refine .mk λx87=>?_
 refine .mk .mk ?_
 refine .mk _ (bE (qU rfl Tryz.underlying65 rfl rfl)) ?_
 exact .mk
 intro _ _
 refine .mk .mk ?_
 refine .mk ?_ ?_
 intro v88
 intro v89
 intro v90
 refine .mk λx91 e91=>?_
 exact .mk
 intro _ _
 refine .mk trivial ?_
 intro v92
 refine .mk λx93=>?_
 refine .mk .mk ?_
 refine .mk λx94=>?_
 refine .mk λx95 e95=>?_
 refine .mk _ (bE (aQR rfl rfl rfl e95)) ?_
 exact .mk
 refine .mk trivial ?_
 refine .mk ?_ ?_
 refine .mk λx96 e96=>?_
 refine .mk λx97=>?_
 refine .mk .mk ?_
 refine .mk _ (bE (qU rfl Tryz.underlying65 rfl rfl)) ?_
 exact .mk
 intro _ _
 refine .mk .mk ?_
 refine .mk ?_ ?_
 intro v98
 intro v99
 intro v100
 refine .mk λx101 e101=>?_
 exact .mk
 intro _ _
 refine .mk trivial ?_
 intro v102
 refine .mk λx103=>?_
 refine .mk .mk ?_
 refine .mk λx104=>?_
 refine .mk λx105 e105=>?_
 refine .mk _ (bE (aQR rfl rfl rfl e105)) ?_
 exact .mk
 refine .mk trivial ?_
 refine .mk ?_ ?_
 refine .mk λx106 e106=>?_
 refine .mk λx107=>?_
 refine .mk .mk ?_
 refine .mk _ (bE (qU rfl Tryz.underlying65 rfl rfl)) ?_
 exact .mk
 intro _ _
 refine .mk .mk ?_
 refine .mk ?_ ?_
 intro v108
 intro v109
 intro v110
 refine .mk λx111 e111=>?_
 exact .mk
 intro _ _
 refine .mk trivial ?_
 intro v112
 refine .mk λx113=>?_
 refine .mk .mk ?_
 refine .mk λx114=>?_
 refine .mk λx115 e115=>?_
 refine .mk _ (bE (aQR rfl rfl rfl e115)) ?_
 exact .mk
 refine .mk trivial ?_
 refine .mk ?_ ?_
 refine .mk λx116 e116=>?_
 refine .mk λx117=>?_
 refine .mk .mk ?_
 refine .mk _ (bE (U0 rfl Tryz.underlying65 rfl rfl)) ?_
 exact .mk
 intro _ _
 exact .mk
def aJY (n:Nat) (a1:aA) (a2:List aS):WB (aA×(List Int)) :=
 .al 1<|.al 2<|.ln 12 aS.av a2<|.jn 0 [2,4,5] [2] [6] (λu2 (a:aA×(List Int))=>[(6,.sl 6 (u2 6) 0 a.2.length)]) (λ_ a=>[.kp 1 [(aA.av a.1)],.nw 6 39 1 (a.2.map fI)]) (.no 6 6 39 1<|.lp [2,4,5,11,12] [2] [6] (λu3 (a:Int×aA×(List Int))=>[(6,.sl 6 (u3 6) 0 a.2.2.length),(13,int a.1)]) (λ_ a=>[.kp 1 [(aA.av a.2.1)],.nw 6 39 1 (a.2.2.map fI)]) n ((0:Int),a1,(([]:List Int):List Int)) (pw λy0_2 q0=>(pw λy0_3 y0_4=>.bB 14 (decide (y0_2<(a2.length:Int))) λx6=>.ifs [14] x6 (.ix 15 aS.av a2 y0_2 λx7=>.al 3<|.cl 20 (lF n y0_3 x7) aA1 xR λx9=>.al 4<|.dr [(0,[4])] [(5,[])] [4] [4,5] [0,1,2,3,4,5,6] (.to 26 (aD 1 fI ([x9.2]:List Int))<|.bl (y0_4++([x9.2]:List Int):List Int) λx11=>.as (x11.length<=68719476736) inferInstance<|.ge 27 0<|.bI 28 (aI (y0_2+1)) λx14=>.brk ((x14:Int),x9.1,x11))) (.esc (.ret ((y0_3:aA),y0_4)))) q0)) (pw λy1_2 y1_3=>.ret ((y1_2:aA),y1_3))
def TN (n:Nat) (a1:aA) (a2:List aS):Option (aA×(List Int)):=(aJY n a1 a2).run
theorem aHK {n a1 a2}:PZ (TN n a1 a2) 7 [.agg (aA.av a1),aD 9 aS.av a2] (λr=>.aU [.agg (aA.av r.1),aD 1 fI r.2]):=wq Tryz.func7
def aMY (n:Nat) (a1:List Int) (a2:List Int):WB (Bool) :=
 .ln 7 fI a1<|.ln 9 fI a2<|.bB 10 (decide ((a1.length:Int)≠(a2.length:Int))) λx3=>.ifs [10] x3 (.ret ((false:Bool))) (.dF 2 [4] [] [] (λ_ (a:Unit)=>[]) (λ_ _=>[]) (.lp [0,1,4] [] [] (λ_ (a:Int)=>[(5,int a)]) (λ_ _=>[]) n 0 (λy0_1=>.ln 13 fI a1<|.bB 14 (decide (y0_1<(a1.length:Int))) λx4=>.ifs [14] x4 (.dr [] [] [] [] [0,1,2,3,4,5,6,7,8] (.ix 19 fI a1 y0_1 λx5=>.ix 23 fI a2 y0_1 λx6=>.bB 25 (decide (x5≠x6)) λx7=>.ifs [25] x7 (.esc (.esc (.ret ((false:Bool))))) (.bI 16 (aI (y0_1+1)) λx8=>.brk x8))) (.esc (.brk ())))) (λ_=>.ret ((true:Bool))))
def UI (n:Nat) (a1:List Int) (a2:List Int):Option (Bool):=(aMY n a1 a2).run
theorem aN3 {n a1 a2}:PZ (UI n a1 a2) 29 [aD 1 fI a1,aD 1 fI a2] aF:=wq Tryz.func29
def aV3 (n:Nat) (a1:List (List Int)) (a2:List (List Int)):WB (Bool) :=
 .ln 7 (fL 1 fI) a1<|.ln 9 (fL 1 fI) a2<|.bB 10 (decide ((a1.length:Int)≠(a2.length:Int))) λx3=>.ifs [10] x3 (.ret ((false:Bool))) (.dF 2 [4] [] [] (λ_ (a:Unit)=>[]) (λ_ _=>[]) (.lp [0,1,4] [] [] (λ_ (a:Int)=>[(5,int a)]) (λ_ _=>[]) n 0 (λy0_1=>.ln 13 (fL 1 fI) a1<|.bB 14 (decide (y0_1<(a1.length:Int))) λx4=>.ifs [14] x4 (.dr [] [] [] [] [0,1,2,3,4,5,6,7,8,9] (.ix 19 (fL 1 fI) a1 y0_1 λx5=>.ix 23 (fL 1 fI) a2 y0_1 λx6=>.cl 25 (UI n x5 x6) aHV aN3 λx7=>.bB 26 (!x7) λx8=>.ifs [26] x8 (.esc (.esc (.ret ((false:Bool))))) (.bI 16 (aI (y0_1+1)) λx9=>.brk x9))) (.esc (.brk ())))) (λ_=>.ret ((true:Bool))))
def aSK (n:Nat) (a1:List (List Int)) (a2:List (List Int)):Option (Bool):=(aV3 n a1 a2).run
theorem aVG {n a1 a2}:PZ (aSK n a1 a2) 30 [aD 1 (fL 1 fI) a1,aD 1 (fL 1 fI) a2] aF:=wq Tryz.func30
def aWR (n:Nat) (a1:eZ) (a2:eZ):WB (Bool) :=
 .al 1<|.al 2<|.jn 0 [] [] [] (λ_ (a:Bool)=>[(4,aF a)]) (λ_ _=>[]) (.bB 9 (decide (a1.eH=a2.eH)) λx5=>.ifs [9] x5 (.bB 15 (decide (a1.fA=a2.fA)) λx6=>.ifs [15] x6 (.cl 22 (UI n a1.cB a2.cB) aHV aN3 λx7=>.ifs [22] x7 (.cl 29 (aSK n a1.Methods a2.Methods) rW aVG λx8=>.ifs [29] x8 (.cl 36 (aSK n a1.dN a2.dN) rW aVG λx9=>.ret x9) (.ret false)) (.ret false)) (.ret false)) (.ret false)) (λy0_1=>.ret ((y0_1:Bool)))
def aST (n:Nat) (a1:eZ) (a2:eZ):Option (Bool):=(aWR n a1 a2).run
theorem aZ6 {n a1 a2}:PZ (aST n a1 a2) 16 [.agg (eZ.av a1),.agg (eZ.av a2)] aF:=wq Tryz.func16
def aWO (n:Nat) (a1:aA) (a2:aA):WB (Bool) :=
 .al 1<|.al 2<|.jn 0 [2,3,4] [1,2] [] (λ_ (a:Bool)=>[(32,aF a)]) (λ_ _=>[]) (.ln 10 bH.av a1.bP<|.ln 13 bH.av a2.bP<|.bB 14 (decide ((a1.bP.length:Int)≠(a2.bP.length:Int))) λx5=>.ifs [14] x5 (.ret true) (.ln 18 bS.av a1.bU<|.ln 21 bS.av a2.bU<|.bB 22 (decide ((a1.bU.length:Int)≠(a2.bU.length:Int))) λx6=>.ifs [22] x6 (.ret true) (.ln 27 dB.av a1.bY<|.ln 30 dB.av a2.bY<|.bB 31 (decide ((a1.bY.length:Int)≠(a2.bY.length:Int))) λx7=>.ret x7))) (λy0_1=>.ifs [32] y0_1 (.ret ((false:Bool))) (.dF 2 [2,3,4] [1,2] [] (λ_ (a:Unit)=>[]) (λ_ _=>[]) (.lp [2,3,4] [1,2] [] (λ_ (a:Int)=>[(5,int a)]) (λ_ _=>[]) n 0 (λy1_1=>.ln 36 bH.av a1.bP<|.bB 37 (decide (y1_1<(a1.bP.length:Int))) λx8=>.ifs [37] x8 (.dr [(0,[1]),(1,[1]),(5,[2]),(6,[2])] [] [1,2] [] [0,1,2,3,4,5,6,7,8,9,10] (.ix 43 bH.av a1.bP y1_1 λx9=>.ix 48 bH.av a2.bP y1_1 λx10=>.bl (!decide ((x9:bH)=x10):Bool) λx11=>.gv 50<|.ifs [50] x11 (.esc (.esc (.ret ((false:Bool))))) (.bI 39 (aI (y1_1+1)) λx12=>.brk x12))) (.esc (.brk ())))) (λ_=>.dF 1 [2,3,4] [1,2] [] (λ_ (a:Unit)=>[]) (λ_ _=>[]) (.lp [2,3,4] [1,2] [] (λ_ (a:Int)=>[(6,int a)]) (λ_ _=>[]) n 0 (λy3_1=>.ln 54 bS.av a1.bU<|.bB 55 (decide (y3_1<(a1.bU.length:Int))) λx13=>.ifs [55] x13 (.dr [(0,[1]),(1,[1]),(5,[2]),(6,[2])] [] [1,2] [] [0,1,2,3,4,5,6,7,8,9,10] (.ix 61 bS.av a1.bU y3_1 λx14=>.ix 66 bS.av a2.bU y3_1 λx15=>.bl (!decide ((x14:bS)=x15):Bool) λx16=>.gv 68<|.ifs [68] x16 (.esc (.esc (.ret ((false:Bool))))) (.bI 57 (aI (y3_1+1)) λx17=>.brk x17))) (.esc (.brk ())))) (λ_=>.dF 1 [4] [] [] (λ_ (a:Unit)=>[]) (λ_ _=>[]) (.lp [2,3,4] [1,2] [] (λ_ (a:Int)=>[(7,int a)]) (λ_ _=>[]) n 0 (λy5_1=>.ln 72 dB.av a1.bY<|.bB 73 (decide (y5_1<(a1.bY.length:Int))) λx18=>.ifs [73] x18 (.dr [(0,[1]),(1,[1]),(5,[2]),(6,[2])] [] [1,2] [] [0,1,2,3,4,5,6,7,8,9,10] (.ix 79 dB.av a1.bY y5_1 λx19=>.ix 84 dB.av a2.bY y5_1 λx20=>.bl (!decide ((x19:dB)=x20):Bool) λx21=>.gv 86<|.ifs [86] x21 (.esc (.esc (.ret ((false:Bool))))) (.bI 75 (aI (y5_1+1)) λx22=>.brk x22))) (.esc (.brk ())))) (λ_=>.ret ((true:Bool)))))))
def aTC (n:Nat) (a1:aA) (a2:aA):Option (Bool):=(aWO n a1 a2).run
theorem aYU {n a1 a2}:PZ (aTC n a1 a2) 17 [.agg (aA.av a1),.agg (aA.av a2)] aF:=by
 refine wm Tryz.func17 ?_
 intro v3
 intro v4
 refine .mk ?_ ?_
 refine .mk ?_
 refine .mk ?_
 refine .mk λx5=>?_
 refine .mk .mk ?_
 refine .mk ?_
 refine .mk ?_
 refine .mk λx6=>?_
 refine .mk .mk ?_
 refine .mk ?_
 refine .mk ?_
 refine .mk λx7=>?_
 exact .mk
 intro _ _
 refine .mk .mk ?_
 refine .mk ?_ ?_
 refine .mk ?_
 intro _ _
 refine .mk ?_
 refine .mk λx8=>?_
 refine .mk ?_ ?_
 refine .mk ?_
 refine .mk λx9 e9=>?_
 refine .mk λx10 e10=>?_
 refine .mk λx11 e11=>?_
 refine .mk _ (λH hH _=>aT9 (r':=x11) rfl a0N rfl rfl (.cons (.int Tryz.underlying3) fC (.cons (.int Tryz.underlying3) fC (.cons (.int Tryz.underlying3) fC (.cons (.int Tryz.underlying3) fC (.cons (.int Tryz.underlying3) fC (.cons (.int Tryz.underlying3) fC (.cons (.int Tryz.underlying3) fC (.cons (.int Tryz.underlying3) fC (.nil _))))))))) ((congrArg Bool.not (bH.eqv (x9:bH) (x10:bH))).trans e11)) ?_
 refine .mk .mk ?_
 refine .mk λx12=>?_
 exact .mk
 exact .mk
 intro _ _
 refine .mk ?_ ?_
 refine .mk ?_
 intro _ _
 refine .mk ?_
 refine .mk λx13=>?_
 refine .mk ?_ ?_
 refine .mk ?_
 refine .mk λx14 e14=>?_
 refine .mk λx15 e15=>?_
 refine .mk λx16 e16=>?_
 refine .mk _ (λH hH _=>aT9 (r':=x16) rfl a04 rfl rfl (.cons (.int Tryz.underlying3) fC (.cons (.int Tryz.underlying3) fC (.cons (.int Tryz.underlying3) fC (.cons (.int Tryz.underlying3) fC (.cons (.int Tryz.underlying3) fC (.cons (.int Tryz.underlying3) fC (.cons (.int Tryz.underlying3) fC (.cons (.int Tryz.underlying3) fC (.cons (.bool Tryz.underlying4) rE (.nil _)))))))))) ((congrArg Bool.not (bS.eqv (x14:bS) (x15:bS))).trans e16)) ?_
 refine .mk .mk ?_
 refine .mk λx17=>?_
 exact .mk
 exact .mk
 intro _ _
 refine .mk ?_ ?_
 refine .mk ?_
 intro _ _
 refine .mk ?_
 refine .mk λx18=>?_
 refine .mk ?_ ?_
 refine .mk ?_
 refine .mk λx19 e19=>?_
 refine .mk λx20 e20=>?_
 refine .mk λx21 e21=>?_
 refine .mk _ (λH hH _=>aT9 (r':=x21) rfl a2U rfl rfl (.cons (.int Tryz.underlying3) fC (.cons (.int Tryz.underlying3) fC (.cons (.int Tryz.underlying3) fC (.cons (.int Tryz.underlying3) fC (.cons (.int Tryz.underlying3) fC (.cons (.int Tryz.underlying3) fC (.nil _))))))) ((congrArg Bool.not (dB.eqv (x19:dB) (x20:dB))).trans e21)) ?_
 refine .mk .mk ?_
 refine .mk λx22=>?_
 exact .mk
 exact .mk
 intro _ _
 exact .mk
def aVI (a1:aB) (a2:aB):WB (Bool) :=
 .al 1<|.al 2<|.jn 0 [] [] [] (λ_ (a:Bool)=>[(4,aF a)]) (λ_ _=>[]) (.bB 9 (decide (a1.aQ=a2.aQ)) λx5=>.ifs [9] x5 (.bB 15 (decide (a1.Value=a2.Value)) λx6=>.ifs [15] x6 (.bB 22 (decide (a1.bO=a2.bO)) λx7=>.ret x7) (.ret false)) (.ret false)) (λy0_1=>.ret ((y0_1:Bool)))
def aSW (a1:aB) (a2:aB):Option (Bool):=(aVI a1 a2).run
theorem a3D {a1 a2}:PZ (aSW a1 a2) 95 [.agg (aB.av a1),.agg (aB.av a2)] aF:=wq Tryz.func95
def aVK (n:Nat) (a1:List aB) (a2:List aB):WB (Bool) :=
 .ln 7 aB.av a1<|.ln 9 aB.av a2<|.bB 10 (decide ((a1.length:Int)≠(a2.length:Int))) λx3=>.ifs [10] x3 (.ret ((false:Bool))) (.dF 2 [4] [] [] (λ_ (a:Unit)=>[]) (λ_ _=>[]) (.lp [0,1,4] [] [] (λ_ (a:Int)=>[(5,int a)]) (λ_ _=>[]) n 0 (λy0_1=>.ln 13 aB.av a1<|.bB 14 (decide (y0_1<(a1.length:Int))) λx4=>.ifs [14] x4 (.dr [] [] [] [] [0,1,2,3,4,5,6,7,8,9] (.ix 19 aB.av a1 y0_1 λx5=>.ix 23 aB.av a2 y0_1 λx6=>.cl 25 (aSW x5 x6) zQ a3D λx7=>.bB 26 (!x7) λx8=>.ifs [26] x8 (.esc (.esc (.ret ((false:Bool))))) (.bI 16 (aI (y0_1+1)) λx9=>.brk x9))) (.esc (.brk ())))) (λ_=>.ret ((true:Bool))))
def aS8 (n:Nat) (a1:List aB) (a2:List aB):Option (Bool):=(aVK n a1 a2).run
theorem aX9 {n a1 a2}:PZ (aS8 n a1 a2) 53 [aD 3 aB.av a1,aD 3 aB.av a2] aF:=wq Tryz.func53
def aUU (n:Nat) (a1:aM) (a2:aM):WB (Bool) :=
 .al 1<|.al 2<|.jn 0 [] [] [] (λ_ (a:Bool)=>[(4,aF a)]) (λ_ _=>[]) (.cl 9 (aS8 n a1.cO a2.cO) aID aX9 λx5=>.ifs [9] x5 (.gv 12<|.gv 15<|.bB 17 (decide (a1.bF.a0=a2.bF.a0)) λx6=>.ifs [17] x6 (.gv 21<|.gv 24<|.bB 26 (decide (a1.bF.a1=a2.bF.a1)) λx7=>.ifs [26] x7 (.gv 30<|.gv 33<|.bB 35 (decide (a1.bF.a2=a2.bF.a2)) λx8=>.ret x8) (.ret false)) (.ret false)) (.ret false)) (λy0_1=>.ret ((y0_1:Bool)))
def aSY (n:Nat) (a1:aM) (a2:aM):Option (Bool):=(aUU n a1 a2).run
theorem aX3 {n a1 a2}:PZ (aSY n a1 a2) 31 [.agg (aM.av a1),.agg (aM.av a2)] aF:=wq Tryz.func31
def aEM (a1:bM):WB (jJ) :=
 .al 1<|.al 2<|.gv 25<|.ret (((⟨a1.Open,a1.jC,a1.iV,a1.iW,a1.iQ,a1.jA,a1.iY,a1.iU,a1.iT,a1.iZ,a1.jD⟩:jJ):jJ))
def IY (a1:bM):Option (jJ):=(aEM a1).run
theorem OZ {a1}:PZ (IY a1) 32 [.agg (bM.av a1)] (λr=>.agg (jJ.av r)):=by
 refine wm Tryz.func32 ?_
 intro v2
 intro v3
 refine .mk _ (bE (qJ (cs:=[int a1.Open,int a1.jC,int a1.iV,int a1.iW,int a1.iQ,int a1.jA,int a1.iY,int a1.iU,int a1.iT,int a1.iZ,int a1.jD]) (ps:=[(0,_),(1,_),(2,_),(3,_),(4,_),(5,_),(6,_),(7,_),(8,_),(9,_),(10,_)]) rfl Tryz.underlying80 fC z80 rfl (.cons rfl (.cons rfl (.cons rfl (.cons rfl (.cons rfl (.cons rfl (.cons rfl (.cons rfl (.cons rfl (.cons rfl (.cons rfl .nil))))))))))) (by kernel_rfl))) ?_
 exact .mk
def aTT (F:aP->aP->Option (Bool)) (hF:∀ {a1:aP} {a2:aP},PZ (F a1 a2) 18 [.agg [int a1.dS,aF a1.Closed,aD 4 aM.av a1.dD,aD 1 fI a1.dU,aD 11 bM.av a1.dI,aD 1 fI a1.dO,aD 1 fI a1.Down,aD 8 aP.av a1.eT],.agg [int a2.dS,aF a2.Closed,aD 4 aM.av a2.dD,aD 1 fI a2.dU,aD 11 bM.av a2.dI,aD 1 fI a2.dO,aD 1 fI a2.Down,aD 8 aP.av a2.eT]] aF) (n:Nat) (a1:aP) (a2:aP):WB (Bool) :=
 .al 1<|.al 2<|.jn 0 [2,3,4] [1,2] [] (λ_ (a:Bool)=>[(46,aF a)]) (λ_ _=>[]) (.bB 12 (decide (a1.dS≠a2.dS)) λx5=>.ifs [12] x5 (.ret true) (.bl (decide (a1.Closed≠a2.Closed):Bool) λx6=>.gv 18<|.ifs [18] x6 (.ret true) (.ln 23 aM.av a1.dD<|.ln 26 aM.av a2.dD<|.bB 27 (decide ((a1.dD.length:Int)≠(a2.dD.length:Int))) λx7=>.ifs [27] x7 (.ret true) (.ln 32 bM.av a1.dI<|.ln 35 bM.av a2.dI<|.bB 36 (decide ((a1.dI.length:Int)≠(a2.dI.length:Int))) λx8=>.ifs [36] x8 (.ret true) (.ln 41 aP.av a1.eT<|.ln 44 aP.av a2.eT<|.bB 45 (decide ((a1.eT.length:Int)≠(a2.eT.length:Int))) λx9=>.ret x9))))) (λy0_1=>.ifs [46] y0_1 (.ret ((false:Bool))) (.dF 2 [2,3,4] [1,2] [] (λ_ (a:Unit)=>[]) (λ_ _=>[]) (.lp [2,3,4] [1,2] [] (λ_ (a:Int)=>[(5,int a)]) (λ_ _=>[]) n 0 (λy1_1=>.ln 50 aM.av a1.dD<|.bB 51 (decide (y1_1<(a1.dD.length:Int))) λx10=>.ifs [51] x10 (.dr [(0,[1]),(1,[1]),(5,[2]),(6,[2])] [] [1,2] [] [0,1,2,3,4,5,6,7,8,9,10,11] (.ix 57 aM.av a1.dD y1_1 λx11=>.ix 62 aM.av a2.dD y1_1 λx12=>.cl 64 (aSY n x11 x12) uG aX3 λx13=>.bB 65 (!x13) λx14=>.ifs [65] x14 (.esc (.esc (.ret ((false:Bool))))) (.bI 53 (aI (y1_1+1)) λx15=>.brk x15))) (.esc (.brk ())))) (λ_=>.dF 1 [2,3,4] [1,2] [] (λ_ (a:Unit)=>[]) (λ_ _=>[]) (.lp [2,3,4] [1,2] [] (λ_ (a:Int)=>[(6,int a)]) (λ_ _=>[]) n 0 (λy3_1=>.ln 69 bM.av a1.dI<|.bB 70 (decide (y3_1<(a1.dI.length:Int))) λx16=>.ifs [70] x16 (.dr [(0,[1]),(1,[1]),(6,[2]),(7,[2])] [] [1,2] [] [0,1,2,3,4,5,6,7,8,9,10,11,12] (.ix 76 bM.av a1.dI y3_1 λx17=>.cl 78 (IY x17) sQ OZ λx18=>.ix 82 bM.av a2.dI y3_1 λx19=>.cl 84 (IY x19) sQ OZ λx20=>.bl (!decide ((x18:jJ)=(x20:jJ)):Bool) λx21=>.gv 85<|.ifs [85] x21 (.esc (.esc (.ret ((false:Bool))))) (.bI 72 (aI (y3_1+1)) λx22=>.brk x22))) (.esc (.brk ())))) (λ_=>.dF 1 [2,3,4] [1,2] [] (λ_ (a:Unit)=>[]) (λ_ _=>[]) (.lp [2,3,4] [1,2] [] (λ_ (a:Int)=>[(7,int a)]) (λ_ _=>[]) n 0 (λy5_1=>.ln 89 aP.av a1.eT<|.bB 90 (decide (y5_1<(a1.eT.length:Int))) λx23=>.ifs [90] x23 (.dr [(0,[1]),(1,[1]),(5,[2]),(6,[2])] [] [1,2] [] [0,1,2,3,4,5,6,7,8,9,10,11] (.gI 96 aP.av gE aP.bW a1.eT y5_1 λx24=>.gI 101 aP.av gE aP.bW a2.eT y5_1 λx25=>.cl 103 (F x24 x25) ZV hF λx26=>.bB 104 (!x26) λx27=>.ifs [104] x27 (.esc (.esc (.ret ((false:Bool))))) (.bI 92 (aI (y5_1+1)) λx28=>.brk x28))) (.esc (.brk ())))) (λ_=>.jn 0 [] [] [] (λ_ (a:Bool)=>[(4,aF a)]) (λ_ _=>[]) (.cl 109 (UI n a1.dU a2.dU) aHV aN3 λx29=>.ifs [109] x29 (.cl 115 (UI n a1.dO a2.dO) aHV aN3 λx30=>.ifs [115] x30 (.cl 122 (UI n a1.Down a2.Down) aHV aN3 λx31=>.ret x31) (.ret false)) (.ret false)) (λy7_1=>.ret ((y7_1:Bool))))))))
noncomputable def aSV:Nat->{ F:aP->aP->Option (Bool) // ∀ {a1:aP} {a2:aP},PZ (F a1 a2) 18 [.agg [int a1.dS,aF a1.Closed,aD 4 aM.av a1.dD,aD 1 fI a1.dU,aD 11 bM.av a1.dI,aD 1 fI a1.dO,aD 1 fI a1.Down,aD 8 aP.av a1.eT],.agg [int a2.dS,aF a2.Closed,aD 4 aM.av a2.dD,aD 1 fI a2.dU,aD 11 bM.av a2.dI,aD 1 fI a2.dO,aD 1 fI a2.Down,aD 8 aP.av a2.eT]] aF }
 | 0=>⟨λ_ _=>none,λ_ h=>nomatch h⟩
 | n+1=>⟨λa1 a2=>(aTT (aSV n).1 (aSV n).2 n a1 a2).run,wq Tryz.func18⟩
noncomputable def aSN (n:Nat) (a1:aP) (a2:aP):Option (Bool):=(aSV n).1 a1 a2
theorem aU6 {n a1 a2}:PZ (aSN n a1 a2) 18 [.agg [int a1.dS,aF a1.Closed,aD 4 aM.av a1.dD,aD 1 fI a1.dU,aD 11 bM.av a1.dI,aD 1 fI a1.dO,aD 1 fI a1.Down,aD 8 aP.av a1.eT],.agg [int a2.dS,aF a2.Closed,aD 4 aM.av a2.dD,aD 1 fI a2.dU,aD 11 bM.av a2.dI,aD 1 fI a2.dO,aD 1 fI a2.Down,aD 8 aP.av a2.eT]] aF:=(aSV n).2
theorem a1K {n:Nat} {a1:aP} {a2:aP}:aSN (n+1) a1 a2=(aTT (aSN n) aU6 n a1 a2).run:=rfl
def aVN (n:Nat) (a1:aA) (a2:aA):WB (Bool) :=
 .al 1<|.al 2<|.jn 0 [2,3,4] [1,2] [] (λ_ (a:Bool)=>[(33,aF a)]) (λ_ _=>[]) (.cl 10 (aST n a1.bA a2.bA) aFL aZ6 λx5=>.bB 11 (!x5) λx6=>.ifs [11] x6 (.ret true) (.ln 15 aP.av a1.aW<|.ln 18 aP.av a2.aW<|.bB 19 (decide ((a1.aW.length:Int)≠(a2.aW.length:Int))) λx7=>.ifs [19] x7 (.ret true) (.bB 26 (decide (a1.Done≠a2.Done)) λx8=>.ifs [26] x8 (.ret true) (.cl 31 (aTC n a1 a2) UN aYU λx9=>.bB 32 (!x9) λx10=>.ret x10)))) (λy0_1=>.ifs [33] y0_1 (.ret ((false:Bool))) (.dF 2 [4] [] [] (λ_ (a:Unit)=>[]) (λ_ _=>[]) (.lp [2,3,4] [1,2] [] (λ_ (a:Int)=>[(5,int a)]) (λ_ _=>[]) n 0 (λy1_1=>.ln 37 aP.av a1.aW<|.bB 38 (decide (y1_1<(a1.aW.length:Int))) λx11=>.ifs [38] x11 (.dr [(0,[1]),(1,[1]),(5,[2]),(6,[2])] [] [1,2] [] [0,1,2,3,4,5,6,7,8,9,10,11] (.gI 44 aP.av gE aP.bW a1.aW y1_1 λx12=>.gI 49 aP.av gE aP.bW a2.aW y1_1 λx13=>.cl 51 (aSN n x12 x13) ZV aU6 λx14=>.bB 52 (!x14) λx15=>.ifs [52] x15 (.esc (.esc (.ret ((false:Bool))))) (.bI 40 (aI (y1_1+1)) λx16=>.brk x16))) (.esc (.brk ())))) (λ_=>.ret ((true:Bool)))))
def aTK (n:Nat) (a1:aA) (a2:aA):Option (Bool):=(aVN n a1 a2).run
theorem a0M {n a1 a2}:PZ (aTK n a1 a2) 8 [.agg (aA.av a1),.agg (aA.av a2)] aF:=wq Tryz.func8
end
end Go.Pv
