import Derived.Test.YtihfgehjjbnffaaGreatXUk
set_option linter.unusedVariables false
set_option linter.unusedSimpArgs false
namespace Go.Pv
open Go.Proofs
set_option maxRecDepth 100000
set_option maxHeartbeats 4000000
noncomputable section
def aBM (n:Nat) (a1:aA) (a2:bQ):WB (aA×Int) :=
 .al 1<|.al 2<|.al 3<|.jn 0 [2,3,4,5] [1,2,3] [] (λ_ (a:Bool)=>[(23,aI a)]) (λ_ _=>[]) (.bB 15 (decide (a2.Ref<0)) λx6=>.ifs [15] x6 (.ret true) (.ln 21 dD.av a1.bL<|.bB 22 (decide (a2.Ref>=(a1.bL.length:Int))) λx7=>.ret x7)) (λy0_1=>.ifs [23] y0_1 (.ret ((a1:aA),4)) (.ix 29 dD.av a1.bL a2.Ref λx8=>.al 4<|.cl 36 (nW a1 x8.To x8.Item) pE pG λx10=>.bB 38 (decide (x10≠0)) λx11=>.ifs [38] x11 (.ret ((a1:aA),x10)) (.bB 45 (decide (a2.aS>x8.aS)) λx12=>.ifs [45] x12 (.ret ((a1:aA),5)) (.dr [(0,[4]),(1,[4]),(2,[2]),(3,[2]),(4,[4]),(5,[4]),(7,[4]),(8,[4]),(9,[2]),(10,[2]),(11,[4]),(12,[4])] [] [2,4] [] [0,1,2,3,4,5,6,7,8,9,10,11,12,13,14,15] (.cl 53 (oO n x8.Value a2.aS x8.aS) qZ rR λx13=>.cl 60 (oO n x8.bE a2.aS x8.aS) qZ rR λx14=>.cl 74 (uZ n a1 x8.To x8.Item a2.Loc (⟨a2.aS,x13,x14⟩:aM)) EZ FT λx15=>.bB 80 (decide (x15.2.2.2≠0)) λx16=>.ifs [80] x16 (.ret ((x15.1:aA),x15.2.2.2)) (.dr [(0,[1]),(1,[4]),(2,[4])] [(17,[])] [1,4] [17] [0,1,2,3,4,5,6,7,8,9,10,11,12,13,14,15,16,17,18] (.cl 88 (rG 0 x15.2.1) wH wS λx17=>.cl 90 (rG 6 x15.2.2.1) wH wS λx18=>.bI 92 (bA (0-x13)) λx19=>.cl 93 (rG 12 x19) wH wS λx20=>.to 94 (aH 2 aQ.av ([x17,x18,x20]:List aQ))<|.to 96 (aH 2 jU.av ([(⟨x8.To,([x17,x18,x20]:List aQ)⟩:jU)]:List jU))<|.cl 97 (BD n x15.1 ([(⟨x8.To,([x17,x18,x20]:List aQ)⟩:jU)]:List jU)) XB ZJ λx21=>.bB 101 (decide (x21.2≠0)) λx22=>.ifs [101] x22 (.ret ((x21.1:aA),x21.2)) (.cl 112 (nZ x21.1 x8.To x8.Item (⟨0,0,0,x15.2.1,0,0,0,0,0,0,0⟩:dL)) tJ tT λx23=>.bB 116 (decide (x23.2≠0)) λx24=>.ifs [116] x24 (.ret ((x23.1:aA),x23.2)) (.as (x23.1.bL.length<=68719476736) inferInstance<|.ge 121 5<|.dr [(0,[1]),(1,[1]),(2,[2]),(3,[2]),(4,[1]),(5,[1]),(6,[2]),(7,[2]),(8,[1]),(9,[1]),(10,[2]),(11,[2]),(12,[4]),(13,[4]),(14,[2]),(15,[2]),(17,[4]),(18,[4]),(21,[4]),(22,[4]),(25,[5]),(26,[5]),(28,[5]),(29,[5]),(31,[5]),(32,[5])] [(27,[1,2,4]),(30,[1,2,4]),(33,[])] [1,2,4,5] [27,30,33] [0,1,2,3,4,5,6,7,8,9,10,11,12,13,14,15,16,17,18,19,20,21,22,23,24,25,26,27,28,29,30,31,32,33] (.bI 139 (bA (x8.aS-a2.aS)) λx27=>.bI 143 (bA (x8.Value-x13)) λx28=>.bI 147 (bA (x8.bE-x14)) λx29=>.bo (ix x23.1.bL a2.Ref) λx30=>.gv 148<|.gv 149<|.bl (x23.1.bL.set (Int.toNat a2.Ref) ((⟨x30.yH,x30.To,x30.Item,x27,x30.Value,x30.bE⟩:dD):dD):List dD) λx31=>.ge 1020027 0<|.gv 150<|.gv 151<|.bl (x31.set (Int.toNat a2.Ref) ((⟨x30.yH,x30.To,x30.Item,x27,x28,x30.bE⟩:dD):dD):List dD) λx32=>.ge 1020030 0<|.gv 152<|.gv 153<|.bl (x32.set (Int.toNat a2.Ref) ((⟨x30.yH,x30.To,x30.Item,x27,x28,x29⟩:dD):dD):List dD) λx33=>.ge 1020033 0<|.ret (((⟨x23.1.bF,x23.1.aW,x23.1.dG,x23.1.dO,x33,x23.1.Done⟩:aA):aA),0)))))))))))
def OS (n:Nat) (a1:aA) (a2:bQ):Option (aA×Int):=(aBM n a1 a2).run
theorem aWG {n a1 a2}:PZ (OS n a1 a2) 148 [.agg (aA.av a1),.agg (bQ.av a2)] (λr=>.bD [.agg (aA.av r.1),int r.2]):=wq Tryz.func148
def PY (n:Nat) (a1:aA) (a2:bQ):WB (aA×Int) :=
 .al 1<|.al 2<|.al 3<|.al 4<|.jn 1 [2,4,5,6] [1,3] [] (λ_ (a:Int×aA)=>[(7,int a.1)]) (λ_ a=>[.kp 4 [(aA.av a.2)]]) (.bB 12 (decide (a2.Kind=12)) λx7=>.ifs [12] x7 (.cl 16 (UI n a1 a2) aNI aI4 λx8=>.ret ((x8.2:Int),x8.1)) (.bB 20 (decide (a2.Kind=13)) λx9=>.ifs [20] x9 (.cl 24 (OS n a1 a2) aNV aWG λx10=>.ret ((x10.2:Int),x10.1)) (.ret ((1:Int),a1)))) (pw λy0_1 y0_2=>.bB 28 (decide (y0_1≠0)) λx11=>.ifs [28] x11 (.ret ((a1:aA),y0_1)) (.ret ((y0_2:aA),0)))
def wL (n:Nat) (a1:aA) (a2:bQ):Option (aA×Int):=(PY n a1 a2).run
theorem aXD {n a1 a2}:PZ (wL n a1 a2) 92 [.agg (aA.av a1),.agg (bQ.av a2)] (λr=>.bD [.agg (aA.av r.1),int r.2]):=wq Tryz.func92
def aSS (a1:aA) (a2:bQ):WB (aA×Int) :=
 .al 1<|.al 2<|.al 3<|.bB 10 (decide (a2.Kind≠10)) λx6=>.ifs [10] x6 (.ret ((a1:aA),1)) (.cl 17 (nW a1 a2.E a2.Item) pE pG λx7=>.bB 19 (decide (x7≠0)) λx8=>.ifs [19] x8 (.ret ((a1:aA),x7)) (.dr [(0,[2]),(1,[2]),(2,[1]),(3,[1]),(4,[2]),(5,[2])] [] [1,2] [] [0,1,2,3,4,5,6,7,8,9,10] (.iF 28 aP.av gE aP.dA a1.aW a2.E λx9=>.ln 31 fI x9.eH<|.bB 32 (decide (a2.Item>=(x9.eH.length:Int))) λx10=>.ifs [32] x10 (.ret ((a1:aA),4)) (.as (a1.aW.length<=68719476736) inferInstance<|.ge 36 4<|.bo (ix a1.aW a2.E) λx13=>.gv 42<|.gv 45<|.gv 46<|.gv 47<|.as (x13.eH.length<=68719476736) inferInstance<|.ge 48 5<|.gv 49<|.gv 50<|.ge 1010008 0<|.dr [(1,[4]),(2,[4]),(3,[4]),(4,[2]),(5,[2]),(6,[2]),(7,[2]),(8,[5])] [(9,[])] [2,4,5] [9] [0,1,2,3,4,5,6,7,8,9] (.gv 52<|.gv 53<|.gv 54<|.bo (ix x13.eH a2.Item) λx16=>.gv 59<|.bl (x13.eH.set (Int.toNat a2.Item) (a2.bO:Int):List Int) λx17=>.ge 1011009 0<|.ret (((⟨a1.bF,(a1.aW.set (Int.toNat a2.E) (⟨x13.fD,x13.Closed,x13.cK,x13.dM,x13.d9,x17,x13.Down,x13.gK⟩:aP)),a1.dG,a1.dO,a1.bL,a1.Done⟩:aA):aA),0))))))
def W9 (a1:aA) (a2:bQ):Option (aA×Int):=(aSS a1 a2).run
theorem aNS {a1 a2}:PZ (W9 a1 a2) 93 [.agg (aA.av a1),.agg (bQ.av a2)] (λr=>.bD [.agg (aA.av r.1),int r.2]):=wq Tryz.func93
def aAW (n:Nat) (a1:aA) (a2:bQ):WB (aA×Int) :=
 .al 1<|.al 2<|.al 3<|.inl 11 aO9 Tryz.func48 [1,2,3] [] (B:=(Unit)⊕(Unit)⊕(Unit)⊕(Unit)⊕(Unit)⊕(Unit)⊕(Unit)⊕(Unit)) (λu10=>Sum.elim (λa=>.gB 170 (.fn (.func 87) [] [])) (Sum.elim (λa=>.gB 170 (.fn (.func 88) [] [])) (Sum.elim (λa=>.gB 170 (.fn (.func 89) [] [])) (Sum.elim (λa=>.gB 170 (.fn (.func 90) [] [])) (Sum.elim (λa=>.gB 170 (.fn (.func 91) [] [])) (Sum.elim (λa=>.gB 170 (.fn (.func 92) [] [])) (Sum.elim (λa=>.gB 170 (.fn (.func 93) [] [])) (λa=>.sc .nilIface)))))))) (λu10=>Sum.elim (λa=>[]) (Sum.elim (λa=>[]) (Sum.elim (λa=>[]) (Sum.elim (λa=>[]) (Sum.elim (λa=>[]) (Sum.elim (λa=>[]) (Sum.elim (λa=>[]) (λa=>[])))))))) (.bB 5 (decide (a2.Kind=1)) λx6=>.ifs [5] x6 (.gv 6<|.ret (.inl ())) (.bB 8 (decide (a2.Kind=4)) λx7=>.jn 0 [2,3] [1,2,3] [] (λ_ (a:Bool)=>[(7,aI a)]) (λ_ _=>[]) (.ifs [7,8] x7 (.ret true) (.bB 9 (decide (a2.Kind=5)) λx8=>.ret x8)) (λy0_1=>.ifs [7] y0_1 (.gv 10<|.ret (.inr (.inl ()))) (.bB 12 (decide (a2.Kind=6)) λx9=>.jn 0 [2,3] [1,2,3] [] (λ_ (a:Bool)=>[(11,aI a)]) (λ_ _=>[]) (.ifs [11,12] x9 (.ret true) (.bB 13 (decide (a2.Kind=7)) λx10=>.ifs [13] x10 (.ret true) (.bB 14 (decide (a2.Kind=8)) λx11=>.ifs [14] x11 (.ret true) (.bB 15 (decide (a2.Kind=9)) λx12=>.ret x12)))) (λy1_1=>.ifs [11] y1_1 (.gv 16<|.ret (.inr (.inr (.inl ())))) (.bB 18 (decide (a2.Kind=2)) λx13=>.jn 0 [2,3] [1,2,3] [] (λ_ (a:Bool)=>[(17,aI a)]) (λ_ _=>[]) (.ifs [17,18] x13 (.ret true) (.bB 19 (decide (a2.Kind=3)) λx14=>.ret x14)) (λy2_1=>.ifs [17] y2_1 (.gv 20<|.ret (.inr (.inr (.inr (.inl ()))))) (.bB 22 (decide (a2.Kind=11)) λx15=>.ifs [22] x15 (.gv 23<|.ret (.inr (.inr (.inr (.inr (.inl ())))))) (.bB 25 (decide (a2.Kind=12)) λx16=>.jn 0 [2,3] [1,2,3] [] (λ_ (a:Bool)=>[(24,aI a)]) (λ_ _=>[]) (.ifs [24,25] x16 (.ret true) (.bB 26 (decide (a2.Kind=13)) λx17=>.ret x17)) (λy3_1=>.ifs [24] y3_1 (.gv 27<|.ret (.inr (.inr (.inr (.inr (.inr (.inl ()))))))) (.bB 29 (decide (a2.Kind=10)) λx18=>.ifs [29] x18 (.gv 30<|.ret (.inr (.inr (.inr (.inr (.inr (.inr (.inl ())))))))) (.ret (.inr (.inr (.inr (.inr (.inr (.inr (.inr ()))))))))))))))))))) (Sum.elim (λ_=>.jn 0 [2,3,4,5,6] [1,2,3] [] (λ_ (a:Bool)=>[(18,aI a)]) (λ_ _=>[]) (.cl 13 (qB n a2) vT (λ_=>wD) λx19=>.bB 14 (!x19) λx20=>.ifs [14] x20 (.ret true) (.gv 17<|.ret false)) (λy12_1=>.ifs [18] y12_1 (.ret ((a1:aA),1)) (.iv 24 zJ yT Tryz.func261 [1,2,3] [] (λ_ (a:aA×Int)=>.bD [.agg (aA.av a.1),int a.2]) (λ_ _=>[]) (.al 8<|.al 9<|.al 10<|.cl 11 (AP n a1 a2) aN3 aLY λx24=>.ret ((x24.1:aA),x24.2)) (pw λy14_1 y14_2=>.al 7<|.bB 28 (decide (y14_2≠0)) λx26=>.ifs [28] x26 (.ret ((a1:aA),y14_2)) (.bI 33 (bA (y14_1.Done+1)) λx27=>.bl (if 288230376151711744<x27 then 288230376151711744 else x27:Int) λx28=>.gv 34<|.ret (((⟨y14_1.bF,y14_1.aW,y14_1.dG,y14_1.dO,y14_1.bL,x28⟩:aA):aA),0)))))) (Sum.elim (λ_=>.jn 0 [2,3,4,5,6] [1,2,3] [] (λ_ (a:Bool)=>[(18,aI a)]) (λ_ _=>[]) (.cl 13 (qB n a2) vT (λ_=>wD) λx29=>.bB 14 (!x29) λx30=>.ifs [14] x30 (.ret true) (.gv 17<|.ret false)) (λy12_1=>.ifs [18] y12_1 (.ret ((a1:aA),1)) (.iv 24 zJ yT Tryz.func261 [1,2,3] [] (λ_ (a:aA×Int)=>.bD [.agg (aA.av a.1),int a.2]) (λ_ _=>[]) (.al 14<|.al 15<|.al 16<|.cl 11 (yV n a1 a2) aJP aL4 λx34=>.ret ((x34.1:aA),x34.2)) (pw λy16_1 y16_2=>.al 7<|.bB 28 (decide (y16_2≠0)) λx36=>.ifs [28] x36 (.ret ((a1:aA),y16_2)) (.bI 33 (bA (y16_1.Done+1)) λx37=>.bl (if 288230376151711744<x37 then 288230376151711744 else x37:Int) λx38=>.gv 34<|.ret (((⟨y16_1.bF,y16_1.aW,y16_1.dG,y16_1.dO,y16_1.bL,x38⟩:aA):aA),0)))))) (Sum.elim (λ_=>.jn 0 [2,3,4,5,6] [1,2,3] [] (λ_ (a:Bool)=>[(18,aI a)]) (λ_ _=>[]) (.cl 13 (qB n a2) vT (λ_=>wD) λx39=>.bB 14 (!x39) λx40=>.ifs [14] x40 (.ret true) (.gv 17<|.ret false)) (λy12_1=>.ifs [18] y12_1 (.ret ((a1:aA),1)) (.iv 24 zJ yT Tryz.func261 [1,2,3] [] (λ_ (a:aA×Int)=>.bD [.agg (aA.av a.1),int a.2]) (λ_ _=>[]) (.al 25<|.al 26<|.al 27<|.inl 11 aS0 Tryz.func89 [1,2,3,25,26,27] [] (λ_ (a:aA×Int)=>.bD [.agg (aA.av a.1),int a.2]) (λ_ _=>[]) (.al 28<|.al 29<|.al 30<|.dr [(1,[29]),(2,[29])] [(8,[])] [29] [7,8] [0,1,2,3,4,5,6,7,8,9] (.gv 12<|.wt 14<|.sp [14] a2.Kind 6 (.gv 15<|.al 31<|.cl 26 (nW a1 a2.E a2.Item) pE pG λx67=>.bB 28 (decide (x67≠0)) λx68=>.ifs [28] x68 (.ret ((a1:aA),x67)) (.cl 36 (MN n a1 a2) aB5 aBU λx69=>.al 32<|.bB 40 (decide (x69.2≠0)) λx71=>.ifs [40] x71 (.ret ((a1:aA),x69.2)) (.ret ((x69.1:aA),0)))) (.sp [14] a2.Kind 7 (.gv 15<|.al 31<|.cl 26 (nW a1 a2.E a2.Item) pE pG λx61=>.bB 28 (decide (x61≠0)) λx62=>.ifs [28] x62 (.ret ((a1:aA),x61)) (.cl 36 (N9 n a1 a2) ZU aDJ λx63=>.al 32<|.bB 40 (decide (x63.2≠0)) λx65=>.ifs [40] x65 (.ret ((a1:aA),x63.2)) (.ret ((x63.1:aA),0)))) (.sp [14] a2.Kind 8 (.gv 15<|.al 31<|.cl 26 (nW a1 a2.E a2.Item) pE pG λx55=>.bB 28 (decide (x55≠0)) λx56=>.ifs [28] x56 (.ret ((a1:aA),x55)) (.cl 36 (Q9 n a1 a2) aGD WM λx57=>.al 32<|.bB 40 (decide (x57.2≠0)) λx59=>.ifs [40] x59 (.ret ((a1:aA),x57.2)) (.ret ((x57.1:aA),0)))) (.sp [14] a2.Kind 9 (.gv 15<|.al 31<|.cl 26 (nW a1 a2.E a2.Item) pE pG λx49=>.bB 28 (decide (x49≠0)) λx50=>.ifs [28] x50 (.ret ((a1:aA),x49)) (.cl 36 (OK n a1 a2) aBJ ZD λx51=>.al 32<|.bB 40 (decide (x51.2≠0)) λx53=>.ifs [40] x53 (.ret ((a1:aA),x51.2)) (.ret ((x51.1:aA),0)))) (.as (a2.Kind≠6/\a2.Kind≠7/\a2.Kind≠8/\a2.Kind≠9) inferInstance<|.gv 15<|.al 31<|.ret ((a1:aA),1))))))) (pw λy19_1 y19_2=>.ret ((y19_1:aA),y19_2))) (pw λy20_1 y20_2=>.al 7<|.bB 28 (decide (y20_2≠0)) λx73=>.ifs [28] x73 (.ret ((a1:aA),y20_2)) (.bI 33 (bA (y20_1.Done+1)) λx74=>.bl (if 288230376151711744<x74 then 288230376151711744 else x74:Int) λx75=>.gv 34<|.ret (((⟨y20_1.bF,y20_1.aW,y20_1.dG,y20_1.dO,y20_1.bL,x75⟩:aA):aA),0)))))) (Sum.elim (λ_=>.jn 0 [2,3,4,5,6] [1,2,3] [] (λ_ (a:Bool)=>[(18,aI a)]) (λ_ _=>[]) (.cl 13 (qB n a2) vT (λ_=>wD) λx76=>.bB 14 (!x76) λx77=>.ifs [14] x77 (.ret true) (.gv 17<|.ret false)) (λy12_1=>.ifs [18] y12_1 (.ret ((a1:aA),1)) (.iv 24 zJ yT Tryz.func261 [1,2,3] [] (λ_ (a:aA×Int)=>.bD [.agg (aA.av a.1),int a.2]) (λ_ _=>[]) (.al 36<|.al 37<|.al 38<|.cl 11 (aDH n a1 a2) aJU aXT λx81=>.ret ((x81.1:aA),x81.2)) (pw λy22_1 y22_2=>.al 7<|.bB 28 (decide (y22_2≠0)) λx83=>.ifs [28] x83 (.ret ((a1:aA),y22_2)) (.bI 33 (bA (y22_1.Done+1)) λx84=>.bl (if 288230376151711744<x84 then 288230376151711744 else x84:Int) λx85=>.gv 34<|.ret (((⟨y22_1.bF,y22_1.aW,y22_1.dG,y22_1.dO,y22_1.bL,x85⟩:aA):aA),0)))))) (Sum.elim (λ_=>.jn 0 [2,3,4,5,6] [1,2,3] [] (λ_ (a:Bool)=>[(18,aI a)]) (λ_ _=>[]) (.cl 13 (qB n a2) vT (λ_=>wD) λx86=>.bB 14 (!x86) λx87=>.ifs [14] x87 (.ret true) (.gv 17<|.ret false)) (λy12_1=>.ifs [18] y12_1 (.ret ((a1:aA),1)) (.iv 24 zJ yT Tryz.func261 [1,2,3] [] (λ_ (a:aA×Int)=>.bD [.agg (aA.av a.1),int a.2]) (λ_ _=>[]) (.al 42<|.al 43<|.al 44<|.cl 11 (UR n a1 a2) aX7 aSY λx91=>.ret ((x91.1:aA),x91.2)) (pw λy24_1 y24_2=>.al 7<|.bB 28 (decide (y24_2≠0)) λx93=>.ifs [28] x93 (.ret ((a1:aA),y24_2)) (.bI 33 (bA (y24_1.Done+1)) λx94=>.bl (if 288230376151711744<x94 then 288230376151711744 else x94:Int) λx95=>.gv 34<|.ret (((⟨y24_1.bF,y24_1.aW,y24_1.dG,y24_1.dO,y24_1.bL,x95⟩:aA):aA),0)))))) (Sum.elim (λ_=>.jn 0 [2,3,4,5,6] [1,2,3] [] (λ_ (a:Bool)=>[(18,aI a)]) (λ_ _=>[]) (.cl 13 (qB n a2) vT (λ_=>wD) λx96=>.bB 14 (!x96) λx97=>.ifs [14] x97 (.ret true) (.gv 17<|.ret false)) (λy12_1=>.ifs [18] y12_1 (.ret ((a1:aA),1)) (.iv 24 zJ yT Tryz.func261 [1,2,3] [] (λ_ (a:aA×Int)=>.bD [.agg (aA.av a.1),int a.2]) (λ_ _=>[]) (.al 48<|.al 49<|.al 50<|.cl 11 (wL n a1 a2) aOU aXD λx101=>.ret ((x101.1:aA),x101.2)) (pw λy26_1 y26_2=>.al 7<|.bB 28 (decide (y26_2≠0)) λx103=>.ifs [28] x103 (.ret ((a1:aA),y26_2)) (.bI 33 (bA (y26_1.Done+1)) λx104=>.bl (if 288230376151711744<x104 then 288230376151711744 else x104:Int) λx105=>.gv 34<|.ret (((⟨y26_1.bF,y26_1.aW,y26_1.dG,y26_1.dO,y26_1.bL,x105⟩:aA):aA),0)))))) (Sum.elim (λ_=>.jn 0 [2,3,4,5,6] [1,2,3] [] (λ_ (a:Bool)=>[(18,aI a)]) (λ_ _=>[]) (.cl 13 (qB n a2) vT (λ_=>wD) λx106=>.bB 14 (!x106) λx107=>.ifs [14] x107 (.ret true) (.gv 17<|.ret false)) (λy12_1=>.ifs [18] y12_1 (.ret ((a1:aA),1)) (.iv 24 zJ yT Tryz.func261 [1,2,3] [] (λ_ (a:aA×Int)=>.bD [.agg (aA.av a.1),int a.2]) (λ_ _=>[]) (.al 54<|.al 55<|.al 56<|.cl 11 (W9 a1 a2) aIZ aNS λx111=>.ret ((x111.1:aA),x111.2)) (pw λy28_1 y28_2=>.al 7<|.bB 28 (decide (y28_2≠0)) λx113=>.ifs [28] x113 (.ret ((a1:aA),y28_2)) (.bI 33 (bA (y28_1.Done+1)) λx114=>.bl (if 288230376151711744<x114 then 288230376151711744 else x114:Int) λx115=>.gv 34<|.ret (((⟨y28_1.bF,y28_1.aW,y28_1.dG,y28_1.dO,y28_1.bL,x115⟩:aA):aA),0)))))) (λ_=>.jn 0 [2,3,4,5,6] [1,2,3] [] (λ_ (a:Unit)=>[(18,aI true)]) (λ_ _=>[]) (.cl 13 (qB n a2) vT (λ_=>wD) λx116=>.bB 14 (!x116) λx117=>.ifs [14] x117 (.ret ()) (.gv 17<|.ret ())) (λ_=>.ret ((a1:aA),1))))))))))
def FL (n:Nat) (a1:aA) (a2:bQ):Option (aA×Int):=(aAW n a1 a2).run
theorem aV4 {n a1 a2}:PZ (FL n a1 a2) 19 [.agg (aA.av a1),.agg (bQ.av a2)] (λr=>.bD [.agg (aA.av r.1),int r.2]):=by
 refine wm Tryz.func19 ?_
 intro v3
 intro v4
 intro v5
 refine .mk ?_ ?_
 refine .mk λx6=>?_
 refine .mk ?_ ?_
 refine .mk _ (bK (rQ rfl Tryz.underlying170 (by intro _ h;cases h) rfl)) ?_
 exact .mk
 refine .mk λx7=>?_
 refine .mk ?_ ?_
 refine .mk .mk ?_
 refine .mk λx8=>?_
 exact .mk
 intro _ _
 refine .mk ?_ ?_
 refine .mk _ (bK (rQ rfl Tryz.underlying170 (by intro _ h;cases h) rfl)) ?_
 exact .mk
 refine .mk λx9=>?_
 refine .mk ?_ ?_
 refine .mk .mk ?_
 refine .mk λx10=>?_
 refine .mk .mk ?_
 refine .mk λx11=>?_
 refine .mk .mk ?_
 refine .mk λx12=>?_
 exact .mk
 intro _ _
 refine .mk ?_ ?_
 refine .mk _ (bK (rQ rfl Tryz.underlying170 (by intro _ h;cases h) rfl)) ?_
 exact .mk
 refine .mk λx13=>?_
 refine .mk ?_ ?_
 refine .mk .mk ?_
 refine .mk λx14=>?_
 exact .mk
 intro _ _
 refine .mk ?_ ?_
 refine .mk _ (bK (rQ rfl Tryz.underlying170 (by intro _ h;cases h) rfl)) ?_
 exact .mk
 refine .mk λx15=>?_
 refine .mk ?_ ?_
 refine .mk _ (bK (rQ rfl Tryz.underlying170 (by intro _ h;cases h) rfl)) ?_
 exact .mk
 refine .mk λx16=>?_
 refine .mk ?_ ?_
 refine .mk .mk ?_
 refine .mk λx17=>?_
 exact .mk
 intro _ _
 refine .mk ?_ ?_
 refine .mk _ (bK (rQ rfl Tryz.underlying170 (by intro _ h;cases h) rfl)) ?_
 exact .mk
 refine .mk λx18=>?_
 refine .mk ?_ ?_
 refine .mk _ (bK (rQ rfl Tryz.underlying170 (by intro _ h;cases h) rfl)) ?_
 exact .mk
 exact .mk
 rintro (_ | _ | _ | _ | _ | _ | _ | _) _
 refine .mk trivial ?_
 refine .mk ?_ ?_
 refine .mk λx19 e19=>?_
 refine .mk λx20=>?_
 refine .mk .mk ?_
 refine .mk _ (bK (rX rfl Tryz.underlying123 rfl rfl)) ?_
 exact .mk
 intro _ _
 refine .mk .mk ?_
 refine .mk ?_ ?_
 intro v21
 intro v22
 intro v23
 refine .mk λx24 e24=>?_
 exact .mk
 intro _ _
 refine .mk trivial ?_
 intro v25
 refine .mk λx26=>?_
 refine .mk .mk ?_
 refine .mk λx27=>?_
 refine .mk λx28 e28=>?_
 refine .mk _ (bK (qN rfl rfl rfl e28)) ?_
 exact .mk
 refine .mk trivial ?_
 refine .mk ?_ ?_
 refine .mk λx29 e29=>?_
 refine .mk λx30=>?_
 refine .mk .mk ?_
 refine .mk _ (bK (rX rfl Tryz.underlying123 rfl rfl)) ?_
 exact .mk
 intro _ _
 refine .mk .mk ?_
 refine .mk ?_ ?_
 intro v31
 intro v32
 intro v33
 refine .mk λx34 e34=>?_
 exact .mk
 intro _ _
 refine .mk trivial ?_
 intro v35
 refine .mk λx36=>?_
 refine .mk .mk ?_
 refine .mk λx37=>?_
 refine .mk λx38 e38=>?_
 refine .mk _ (bK (qN rfl rfl rfl e38)) ?_
 exact .mk
 refine .mk trivial ?_
 refine .mk ?_ ?_
 refine .mk λx39 e39=>?_
 refine .mk λx40=>?_
 refine .mk .mk ?_
 refine .mk _ (bK (rX rfl Tryz.underlying123 rfl rfl)) ?_
 exact .mk
 intro _ _
 refine .mk .mk ?_
 refine .mk ?_ ?_
 intro v41
 intro v42
 intro v43
 refine .mk ?_ ?_
 intro v44
 intro v45
 intro v46
 refine .mk ?_
 refine .mk _ (λH hH _=>uN rfl rfl .nil aIB (bT.refl _) aJ5) ?_
 refine .mk ?_ ?_
 refine .mk _ (λH hH _=>NL (j:=0) rfl Tryz.underlying224 Tryz.underlying3 rfl rfl rfl rfl) ?_
 intro v66
 refine .mk λx67 e67=>?_
 refine .mk λx68=>?_
 refine .mk .mk ?_
 refine .mk λx69 e69=>?_
 intro v70
 refine .mk λx71=>?_
 refine .mk .mk ?_
 exact .mk
 refine .mk ?_ ?_
 refine .mk _ (λH hH _=>NL (j:=1) rfl Tryz.underlying224 Tryz.underlying3 rfl rfl rfl rfl) ?_
 intro v60
 refine .mk λx61 e61=>?_
 refine .mk λx62=>?_
 refine .mk .mk ?_
 refine .mk λx63 e63=>?_
 intro v64
 refine .mk λx65=>?_
 refine .mk .mk ?_
 exact .mk
 refine .mk ?_ ?_
 refine .mk _ (λH hH _=>NL (j:=2) rfl Tryz.underlying224 Tryz.underlying3 rfl rfl rfl rfl) ?_
 intro v54
 refine .mk λx55 e55=>?_
 refine .mk λx56=>?_
 refine .mk .mk ?_
 refine .mk λx57 e57=>?_
 intro v58
 refine .mk λx59=>?_
 refine .mk .mk ?_
 exact .mk
 refine .mk ?_ ?_
 refine .mk _ (λH hH _=>NL (j:=3) rfl Tryz.underlying224 Tryz.underlying3 rfl rfl rfl rfl) ?_
 intro v48
 refine .mk λx49 e49=>?_
 refine .mk λx50=>?_
 refine .mk .mk ?_
 refine .mk λx51 e51=>?_
 intro v52
 refine .mk λx53=>?_
 refine .mk .mk ?_
 exact .mk
 refine .mk λpk3=>?_
 refine .mk _ (λH hH _=>aKM rfl Tryz.underlying224 Tryz.underlying3 rfl rfl (aPI pk3) aP1) ?_
 intro v47
 exact .mk
 intro _ _
 refine .mk trivial ?_
 exact .mk
 intro _ _
 refine .mk trivial ?_
 intro v72
 refine .mk λx73=>?_
 refine .mk .mk ?_
 refine .mk λx74=>?_
 refine .mk λx75 e75=>?_
 refine .mk _ (bK (qN rfl rfl rfl e75)) ?_
 exact .mk
 refine .mk trivial ?_
 refine .mk ?_ ?_
 refine .mk λx76 e76=>?_
 refine .mk λx77=>?_
 refine .mk .mk ?_
 refine .mk _ (bK (rX rfl Tryz.underlying123 rfl rfl)) ?_
 exact .mk
 intro _ _
 refine .mk .mk ?_
 refine .mk ?_ ?_
 intro v78
 intro v79
 intro v80
 refine .mk λx81 e81=>?_
 exact .mk
 intro _ _
 refine .mk trivial ?_
 intro v82
 refine .mk λx83=>?_
 refine .mk .mk ?_
 refine .mk λx84=>?_
 refine .mk λx85 e85=>?_
 refine .mk _ (bK (qN rfl rfl rfl e85)) ?_
 exact .mk
 refine .mk trivial ?_
 refine .mk ?_ ?_
 refine .mk λx86 e86=>?_
 refine .mk λx87=>?_
 refine .mk .mk ?_
 refine .mk _ (bK (rX rfl Tryz.underlying123 rfl rfl)) ?_
 exact .mk
 intro _ _
 refine .mk .mk ?_
 refine .mk ?_ ?_
 intro v88
 intro v89
 intro v90
 refine .mk λx91 e91=>?_
 exact .mk
 intro _ _
 refine .mk trivial ?_
 intro v92
 refine .mk λx93=>?_
 refine .mk .mk ?_
 refine .mk λx94=>?_
 refine .mk λx95 e95=>?_
 refine .mk _ (bK (qN rfl rfl rfl e95)) ?_
 exact .mk
 refine .mk trivial ?_
 refine .mk ?_ ?_
 refine .mk λx96 e96=>?_
 refine .mk λx97=>?_
 refine .mk .mk ?_
 refine .mk _ (bK (rX rfl Tryz.underlying123 rfl rfl)) ?_
 exact .mk
 intro _ _
 refine .mk .mk ?_
 refine .mk ?_ ?_
 intro v98
 intro v99
 intro v100
 refine .mk λx101 e101=>?_
 exact .mk
 intro _ _
 refine .mk trivial ?_
 intro v102
 refine .mk λx103=>?_
 refine .mk .mk ?_
 refine .mk λx104=>?_
 refine .mk λx105 e105=>?_
 refine .mk _ (bK (qN rfl rfl rfl e105)) ?_
 exact .mk
 refine .mk trivial ?_
 refine .mk ?_ ?_
 refine .mk λx106 e106=>?_
 refine .mk λx107=>?_
 refine .mk .mk ?_
 refine .mk _ (bK (rX rfl Tryz.underlying123 rfl rfl)) ?_
 exact .mk
 intro _ _
 refine .mk .mk ?_
 refine .mk ?_ ?_
 intro v108
 intro v109
 intro v110
 refine .mk λx111 e111=>?_
 exact .mk
 intro _ _
 refine .mk trivial ?_
 intro v112
 refine .mk λx113=>?_
 refine .mk .mk ?_
 refine .mk λx114=>?_
 refine .mk λx115 e115=>?_
 refine .mk _ (bK (qN rfl rfl rfl e115)) ?_
 exact .mk
 refine .mk trivial ?_
 refine .mk ?_ ?_
 refine .mk λx116 e116=>?_
 refine .mk λx117=>?_
 refine .mk .mk ?_
 refine .mk _ (bK (OF rfl Tryz.underlying123 rfl rfl)) ?_
 exact .mk
 intro _ _
 exact .mk
def aC8 (n:Nat) (a1:aA) (a2:bQ):WB (aA×Int) :=
 .al 1<|.al 2<|.al 3<|.cl 9 (qB n a2) vT (λ_=>wD) λx6=>.bB 10 (!x6) λx7=>.ifs [10] x7 (.ret ((a1:aA),1)) (.al 4<|.dU 1 [2,4,5,6] [1,3] [] (λ_ (a:Int×aA)=>[(7,int a.1)]) (λ_ a=>[.kp 4 [(aA.av a.2)]]) (.bB 21 (decide (a2.Kind=14)) λx9=>.ifs [21] x9 (.cl 26 (xM n a1 a2.E) aBI aBC λx10=>.brk ((x10.2:Int),x10.1)) (.bB 30 (decide (a2.Kind=15)) λx11=>.ifs [30] x11 (.cl 35 (WQ n a1 a2.E) aRU aQV λx12=>.brk ((x12.2:Int),x12.1)) (.bB 39 (decide (a2.Kind=16)) λx13=>.ifs [39] x13 (.cl 44 (aEQ n a1 a2.E) aI8 aO4 λx14=>.brk ((x14.2:Int),x14.1)) (.cl 17 (FL n a1 a2) aI9 aV4 λx15=>.esc (.ret ((x15.1:aA),x15.2)))))) (pw λy0_1 y0_2=>.bB 48 (decide (y0_1≠0)) λx16=>.ifs [48] x16 (.ret ((a1:aA),y0_1)) (.bI 53 (bA (y0_2.Done+1)) λx17=>.ret (((⟨y0_2.bF,y0_2.aW,y0_2.dG,y0_2.dO,y0_2.bL,x17⟩:aA):aA),0))))
def rP (n:Nat) (a1:aA) (a2:bQ):Option (aA×Int):=(aC8 n a1 a2).run
theorem OJ {n a1 a2}:PZ (rP n a1 a2) 8 [.agg (aA.av a1),.agg (bQ.av a2)] (λr=>.bD [.agg (aA.av r.1),int r.2]):=wq Tryz.func8
def aDD (a1:aP):WB (Bool) :=
 .al 1<|.bB 5 (!a1.Closed) λx3=>.ret ((x3:Bool))
def QT (a1:aP):Option (Bool):=(aDD a1).run
theorem aME {a1}:PZ (QT a1) 57 [.agg [int a1.fD,aI a1.Closed,aH 4 aT.av a1.cK,aH 1 fI a1.dM,aH 11 dL.av a1.d9,aH 1 fI a1.eH,aH 1 fI a1.Down,aH 8 aP.av a1.gK]] aI:=wq Tryz.func57
def aA9 (n:Nat) (a1:aA):WB (Int) :=
 .al 1<|.inl 5 aDX Tryz.func56 [1] [] (λ_ (a:Bool)=>aI a) (λ_ _=>[]) (.inl 7 aB8 Tryz.func103 [1] [] (λ_ (a:Int)=>int a) (λ_ _=>[]) (.ln 7 aP.av a1.aW<|.dU 0 [4] [1] [] (λ_ (a:Unit)=>[]) (λ_ _=>[]) (.lp [0,1,4,7] [1] [] (λ_ (a:Int)=>[(8,int a)]) (λ_ _=>[]) n 0 (λy0_1=>.bB 9 (decide (y0_1<(a1.aW.length:Int))) λx3=>.ifs [9] x3 (.iF 14 aP.av gE aP.dA a1.aW y0_1 λx4=>.cl 16 (QT x4) aLC aME λx5=>.ifs [16] x5 (.esc (.esc (.ret y0_1))) (.bI 18 (bA (y0_1+1)) λx6=>.brk x6)) (.esc (.brk ())))) (λ_=>.ret (-1))) (λy2_1=>.bB 8 (decide (y2_1>=0)) λx7=>.ret x7)) (λy3_1=>.ifs [5] y3_1 (.ret ((8:Int))) (.inl 9 aDX Tryz.func56 [1] [] (λ_ (a:Bool)=>aI a) (λ_ _=>[]) (.inl 7 aB8 Tryz.func103 [1] [] (λ_ (a:Int)=>int a) (λ_ _=>[]) (.ln 7 aP.av a1.aW<|.dU 0 [4] [1] [] (λ_ (a:Unit)=>[]) (λ_ _=>[]) (.lp [0,1,4,7] [1] [] (λ_ (a:Int)=>[(8,int a)]) (λ_ _=>[]) n 0 (λy4_1=>.bB 9 (decide (y4_1<(a1.aW.length:Int))) λx8=>.ifs [9] x8 (.iF 14 aP.av gE aP.dA a1.aW y4_1 λx9=>.inl 16 aQT Tryz.func58 [1] [] (λ_ (a:Bool)=>aI a) (λ_ _=>[]) (.al 2<|.dr [(0,[2]),(1,[2]),(2,[1]),(3,[1])] [] [1,2] [] [0,1,2,3,4,5,6,7,8] (.iF 8 aP.av gE aP.dA a1.aW 0 λx11=>.bB 11 (decide (x9.fD≠x11.fD)) λx12=>.ret x12)) (λy5_1=>.ifs [16] y5_1 (.esc (.esc (.ret y4_1))) (.bI 18 (bA (y4_1+1)) λx13=>.brk x13))) (.esc (.brk ())))) (λ_=>.ret (-1))) (λy7_1=>.bB 8 (decide (y7_1>=0)) λx14=>.ret x14)) (λy8_1=>.ifs [9] y8_1 (.ret ((9:Int))) (.ret ((0:Int))))))
def MM (n:Nat) (a1:aA):Option (Int):=(aA9 n a1).run
theorem aUP {n a1}:PZ (MM n a1) 24 [.agg (aA.av a1)] int:=wq Tryz.func24
def aEJ (n:Nat) (a1:aA) (a2:Int):WB (jG×Int) :=
 .al 1<|.al 2<|.al 3<|.ln 22 aP.av a1.aW<|.jn 0 [2,3,4,5] [1,2,3] [8,9,10] (λu2 (a:(List Int)×(List Int)×(List Int))=>[(6,.sl 8 (u2 8) 0 a.1.length),(7,.sl 9 (u2 9) 0 a.2.1.length),(8,.sl 10 (u2 10) 0 a.2.2.length)]) (λ_ a=>[.nw 8 3 1 (a.1.map fI),.nw 9 3 1 (a.2.1.map fI),.nw 10 3 1 (a.2.2.map fI)]) (.no 6 8 3 1<|.no 7 9 3 1<|.no 8 10 3 1<|.lp [2,3,4,5,22] [1,2,3] [8,9,10] (λu3 (a:Int×(List Int)×(List Int)×(List Int))=>[(6,.sl 8 (u3 8) 0 a.2.1.length),(7,.sl 9 (u3 9) 0 a.2.2.1.length),(8,.sl 10 (u3 10) 0 a.2.2.2.length),(23,int a.1)]) (λ_ a=>[.nw 8 3 1 (a.2.1.map fI),.nw 9 3 1 (a.2.2.1.map fI),.nw 10 3 1 (a.2.2.2.map fI)]) n ((0:Int),(([]:List Int):List Int),(([]:List Int):List Int),(([]:List Int):List Int)) (pw λy0_4 q0=>(pw λy0_5 q1=>(pw λy0_6 y0_7=>.bB 24 (decide (y0_4<(a1.aW.length:Int))) λx9=>.ifs [24] x9 (.cl 29 (wM n a1 y0_4 a2) B9 CW λx10=>.al 4<|.dr [(1,[4]),(2,[4]),(6,[4]),(7,[4]),(11,[4]),(12,[4])] [(14,[])] [4] [4,9,14] [0,1,2,3,5,6,7,8,10,11,12,13,4,9,14,15,16,17] (.to 33 (aH 1 fI ([x10.aS]:List Int))<|.to 38 (aH 1 fI ([x10.Value]:List Int))<|.to 43 (aH 1 fI ([x10.bE]:List Int))<|.bl (y0_5++([x10.aS]:List Int):List Int) λx12=>.as (x12.length<=68719476736) inferInstance<|.ge 34 0<|.bl (y0_6++([x10.Value]:List Int):List Int) λx15=>.as (x15.length<=68719476736) inferInstance<|.ge 39 0<|.bl (y0_7++([x10.bE]:List Int):List Int) λx18=>.as (x18.length<=68719476736) inferInstance<|.ge 44 0<|.bI 45 (bA (y0_4+1)) λx21=>.brk ((x21:Int),x12,x15,x18))) (.esc (.ret ((y0_5:List Int),y0_6,y0_7)))) q1) q0)) (pw λy1_4 q0=>(pw λy1_5 y1_6=>.ln 48 dD.av a1.bL<|.jn 0 [2,3,4,5] [1,2,3] [8,9,10] (λu8 (a:(List Int)×(List Int)×(List Int))=>[(6,.sl 8 (u8 8) 0 a.1.length),(7,.sl 9 (u8 9) 0 a.2.1.length),(8,.sl 10 (u8 10) 0 a.2.2.length)]) (λ_ a=>[.nw 8 3 1 (a.1.map fI),.nw 9 3 1 (a.2.1.map fI),.nw 10 3 1 (a.2.2.map fI)]) (.lp [2,3,4,5,47,48] [1,2,3] [8,9,10] (λu11 (a:Int×(List Int)×(List Int)×(List Int))=>[(6,.sl 8 (u11 8) 0 a.2.1.length),(7,.sl 9 (u11 9) 0 a.2.2.1.length),(8,.sl 10 (u11 10) 0 a.2.2.2.length),(49,int a.1)]) (λ_ a=>[.nw 8 3 1 (a.2.1.map fI),.nw 9 3 1 (a.2.2.1.map fI),.nw 10 3 1 (a.2.2.2.map fI)]) n ((0:Int),y1_4,y1_5,y1_6) (pw λy2_4 q0=>(pw λy2_5 q1=>(pw λy2_6 y2_7=>.bB 50 (decide (y2_4<(a1.bL.length:Int))) λx22=>.ifs [50] x22 (.jn 1 [2,3,4,5,47,48,49] [1,2,3] [8,9,10] (λu12 (a:(List Int)×(List Int)×(List Int))=>[(6,.sl 8 (u12 8) 0 a.1.length),(7,.sl 9 (u12 9) 0 a.2.1.length),(8,.sl 10 (u12 10) 0 a.2.2.length)]) (λ_ a=>[.nw 8 3 1 (a.1.map fI),.nw 9 3 1 (a.2.1.map fI),.nw 10 3 1 (a.2.2.map fI)]) (.ix 51 dD.av a1.bL y2_4 λx23=>.al 11<|.bB 56 (decide (x23.Item=a2)) λx25=>.ifs [56] x25 (.dr [(1,[11]),(2,[11]),(6,[11]),(7,[11]),(11,[11]),(12,[11])] [(14,[])] [11] [4,9,14] [0,1,2,3,5,6,7,8,10,11,12,13,4,9,14,15,16,17] (.to 60 (aH 1 fI ([x23.aS]:List Int))<|.to 65 (aH 1 fI ([x23.Value]:List Int))<|.to 70 (aH 1 fI ([x23.bE]:List Int))<|.bl (y2_5++([x23.aS]:List Int):List Int) λx26=>.as (x26.length<=68719476736) inferInstance<|.ge 61 0<|.bl (y2_6++([x23.Value]:List Int):List Int) λx29=>.as (x29.length<=68719476736) inferInstance<|.ge 66 0<|.bl (y2_7++([x23.bE]:List Int):List Int) λx32=>.as (x32.length<=68719476736) inferInstance<|.ge 71 0<|.ret ((x26:List Int),x29,x32))) (.ret ((y2_5:List Int),y2_6,y2_7))) (pw λy3_4 q0=>(pw λy3_5 y3_6=>.bI 72 (bA (y2_4+1)) λx35=>.brk ((x35:Int),y3_4,y3_5,y3_6)) q0)) (.esc (.ret ((y2_5:List Int),y2_6,y2_7)))) q1) q0)) (pw λy4_4 q0=>(pw λy4_5 y4_6=>.al 12<|.inl 77 YU Tryz.func59 [1,2,3,8,9,10,12] [] (λ_ (a:Int×Int)=>.bD [int a.1,int a.2]) (λ_ _=>[]) (.ln 10 aP.av a1.aW<|.jn 0 [4,5] [1,2,3,8,9,10,12] [16] (λu33 (a:(List Int))=>[(6,.sl 16 (u33 16) 0 a.length)]) (λ_ a=>[.nw 16 3 1 (a.map fI)]) (.no 6 16 3 1<|.lp [1,4,5,9,10] [1,2,3,8,9,10,12] [16] (λu40 (a:Int×(List Int))=>[(6,.sl 16 (u40 16) 0 a.2.length),(11,int a.1)]) (λ_ a=>[.nw 16 3 1 (a.2.map fI)]) n ((0:Int),(([]:List Int):List Int)) (pw λy5_2 y5_3=>.bB 12 (decide (y5_2<(a1.aW.length:Int))) λx38=>.ifs [12] x38 (.iF 14 aP.av gE aP.dA a1.aW y5_2 λx39=>.al 13<|.inl 20 aUT Tryz.func60 [1,2,3,8,9,10,12,13,16] [] (λ_ (a:Int)=>int a) (λ_ _=>[]) (.al 14<|.ln 9 fI x39.Down<|.bB 10 (decide (a2>=(x39.Down.length:Int))) λx42=>.ifs [10] x42 (.ret 0) (.ix 14 fI x39.Down a2 λx43=>.ret x43)) (λy6_1=>.to 21 (aH 1 fI ([y6_1]:List Int))<|.bl (y5_3++([y6_1]:List Int):List Int) λx44=>.as (x44.length<=68719476736) inferInstance<|.ge 22 0<|.bI 23 (bA (y5_2+1)) λx47=>.brk ((x47:Int),x44))) (.esc (.ret y5_3)))) (λy7_2=>.jF 25 (kN n y7_2) nM nO (λ_=>rfl) λx48=>.ret ((x48.1:Int),x48.2))) (pw λy8_1 y8_2=>.gv 91<|.jn 0 [4,5,13] [3] [] (λ_ (a:Int×jG)=>[(15,int a.1)]) (λ_ a=>[.kp 12 [[int a.2.aS,int a.2.Value,int a.2.bE,int a.2.Down]]]) (.un 24 (.kB 94 true<|.gv 95<|.al 17<|.jF 100 (kN n y4_4) nM nO (λ_=>rfl) λx50=>.bl (if x50.2>y8_2 then x50.2 else y8_2:Int) λx51=>.gv 108<|.kI 110 1<|.kB 94 true<|.gv 95<|.al 18<|.jF 100 (kN n y4_5) nM nO (λ_=>rfl) λx53=>.bl (if x53.2>x51 then x53.2 else x51:Int) λx54=>.gv 108<|.kI 110 2<|.kB 94 true<|.gv 95<|.al 19<|.jF 100 (kN n y4_6) nM nO (λ_=>rfl) λx56=>.bl (if x56.2>x54 then x56.2 else x54:Int) λx57=>.gv 108<|.kI 110 3<|.kB 94 false<|.ret ((x57:Int),((⟨x50.1,x53.1,x56.1,y8_1⟩:jG):jG)))) (pw λy10_1 y10_2=>.ret ((y10_2:jG),y10_1)))) q0)) q0)
def IE (n:Nat) (a1:aA) (a2:Int):Option (jG×Int):=(aEJ n a1 a2).run
theorem aXQ {n a1 a2}:PZ (IE n a1 a2) 25 [.agg (aA.av a1),int a2] (λr=>.bD [.agg (jG.av r.1),int r.2]):=by
 refine wm Tryz.func25 ?_
 intro v3
 intro v4
 intro v5
 refine .mk ?_
 refine .mk ?_ ?_
 intro v6
 intro v7
 intro v8
 refine .mk ?_
 rintro ⟨y0_4,y0_5,y0_6,y0_7⟩ _
 refine .mk λx9=>?_
 refine .mk ?_ ?_
 refine .mk λx10 e10=>?_
 intro v11
 refine .mk ?_
 refine .mk (λH hH _=>dK (y:=aH 1 fI ([x10.aS]:List Int)) (gM (ps:=[(0,_)]) (rows:=[[int x10.aS]]) rfl Tryz.underlying22 iH (.cons rfl .nil) (by kernel_rfl) rfl rfl rfl) rfl) ?_
 refine .mk (λH hH _=>dK (y:=aH 1 fI ([x10.Value]:List Int)) (gM (ps:=[(0,_)]) (rows:=[[int x10.Value]]) rfl Tryz.underlying22 iH (.cons rfl .nil) (by kernel_rfl) rfl rfl rfl) rfl) ?_
 refine .mk (λH hH _=>dK (y:=aH 1 fI ([x10.bE]:List Int)) (gM (ps:=[(0,_)]) (rows:=[[int x10.bE]]) rfl Tryz.underlying22 iH (.cons rfl .nil) (by kernel_rfl) rfl rfl rfl) rfl) ?_
 refine .mk λx12 e12=>?_
 refine .mk λp13=>?_
 refine .mk _ ⟨λ_=>kQ (g:=fI) (l:=y0_5) (m:=([x10.aS]:List Int)) .any rfl Tryz.underlying22 iH lT rfl rfl rfl rfl rfl rfl rfl rfl rfl rfl (Eq.symm rfl) (.refl _) (λ_=>rfl) e12 p13,by rintro _ _ ⟨v14,-,rfl,rfl⟩;exact ⟨rfl,trivial⟩⟩ ?_
 rintro _ _ ⟨v14,-,rfl,rfl⟩
 refine .mk λx15 e15=>?_
 refine .mk λp16=>?_
 refine .mk _ ⟨λ_=>kQ (g:=fI) (l:=y0_6) (m:=([x10.Value]:List Int)) .any rfl Tryz.underlying22 iH lT rfl rfl rfl rfl rfl rfl rfl rfl rfl rfl (Eq.symm rfl) (.refl _) (λ_=>rfl) e15 p16,by rintro _ _ ⟨v17,-,rfl,rfl⟩;exact ⟨rfl,trivial⟩⟩ ?_
 rintro _ _ ⟨v17,-,rfl,rfl⟩
 refine .mk λx18 e18=>?_
 refine .mk λp19=>?_
 refine .mk _ ⟨λ_=>kQ (g:=fI) (l:=y0_7) (m:=([x10.bE]:List Int)) .any rfl Tryz.underlying22 iH lT rfl rfl rfl rfl rfl rfl rfl rfl rfl rfl (Eq.symm rfl) (.refl _) (λ_=>rfl) e18 p19,by rintro _ _ ⟨v20,-,rfl,rfl⟩;exact trivial⟩ ?_
 rintro _ _ ⟨v20,-,rfl,rfl⟩
 refine .mk λx21=>?_
 exact .mk
 exact .mk
 intro _ _
 refine .mk ?_
 refine .mk ?_ ?_
 refine .mk ?_
 rintro ⟨y2_4,y2_5,y2_6,y2_7⟩ _
 refine .mk λx22=>?_
 refine .mk ?_ ?_
 refine .mk ?_ ?_
 refine .mk λx23 e23=>?_
 intro v24
 refine .mk λx25=>?_
 refine .mk ?_ ?_
 refine .mk ?_
 refine .mk (λH hH _=>dK (y:=aH 1 fI ([x23.aS]:List Int)) (gM (ps:=[(0,_)]) (rows:=[[int x23.aS]]) rfl Tryz.underlying22 iH (.cons rfl .nil) (by kernel_rfl) rfl rfl rfl) rfl) ?_
 refine .mk (λH hH _=>dK (y:=aH 1 fI ([x23.Value]:List Int)) (gM (ps:=[(0,_)]) (rows:=[[int x23.Value]]) rfl Tryz.underlying22 iH (.cons rfl .nil) (by kernel_rfl) rfl rfl rfl) rfl) ?_
 refine .mk (λH hH _=>dK (y:=aH 1 fI ([x23.bE]:List Int)) (gM (ps:=[(0,_)]) (rows:=[[int x23.bE]]) rfl Tryz.underlying22 iH (.cons rfl .nil) (by kernel_rfl) rfl rfl rfl) rfl) ?_
 refine .mk λx26 e26=>?_
 refine .mk λp27=>?_
 refine .mk _ ⟨λ_=>kQ (g:=fI) (l:=y2_5) (m:=([x23.aS]:List Int)) .any rfl Tryz.underlying22 iH lT rfl rfl rfl rfl rfl rfl rfl rfl rfl rfl (Eq.symm rfl) (.refl _) (λ_=>rfl) e26 p27,by rintro _ _ ⟨v28,-,rfl,rfl⟩;exact ⟨rfl,trivial⟩⟩ ?_
 rintro _ _ ⟨v28,-,rfl,rfl⟩
 refine .mk λx29 e29=>?_
 refine .mk λp30=>?_
 refine .mk _ ⟨λ_=>kQ (g:=fI) (l:=y2_6) (m:=([x23.Value]:List Int)) .any rfl Tryz.underlying22 iH lT rfl rfl rfl rfl rfl rfl rfl rfl rfl rfl (Eq.symm rfl) (.refl _) (λ_=>rfl) e29 p30,by rintro _ _ ⟨v31,-,rfl,rfl⟩;exact ⟨rfl,trivial⟩⟩ ?_
 rintro _ _ ⟨v31,-,rfl,rfl⟩
 refine .mk λx32 e32=>?_
 refine .mk λp33=>?_
 refine .mk _ ⟨λ_=>kQ (g:=fI) (l:=y2_7) (m:=([x23.bE]:List Int)) .any rfl Tryz.underlying22 iH lT rfl rfl rfl rfl rfl rfl rfl rfl rfl rfl (Eq.symm rfl) (.refl _) (λ_=>rfl) e32 p33,by rintro _ _ ⟨v34,-,rfl,rfl⟩;exact trivial⟩ ?_
 rintro _ _ ⟨v34,-,rfl,rfl⟩
 exact .mk
 exact .mk
 intro _ _
 refine .mk λx35=>?_
 exact .mk
 exact .mk
 rintro ⟨y4_4,y4_5,y4_6⟩ u8
 intro v36
 refine .mk ?_ ?_
 refine .mk ?_
 refine .mk ?_ ?_
 intro v37
 refine .mk ?_
 rintro ⟨y5_2,y5_3⟩ _
 refine .mk λx38=>?_
 refine .mk ?_ ?_
 refine .mk λx39 e39=>?_
 intro v40
 refine .mk ?_ ?_
 intro v41
 refine .mk ?_
 refine .mk λx42=>?_
 refine .mk .mk ?_
 refine .mk λx43 e43=>?_
 exact .mk
 intro y6_1 _
 refine .mk trivial ?_
 refine .mk (bK (dK (y:=aH 1 fI ([y6_1]:List Int)) (gM (ps:=[(0,_)]) (rows:=[[int y6_1]]) rfl Tryz.underlying22 iH (.cons rfl .nil) (by kernel_rfl) rfl rfl rfl) rfl)) ?_
 refine .mk λx44 e44=>?_
 refine .mk λp45=>?_
 refine .mk _ ⟨λ_=>kQ (g:=fI) (l:=y5_3) (m:=([y6_1]:List Int)) .any rfl Tryz.underlying22 iH lT rfl rfl rfl rfl rfl rfl rfl rfl rfl rfl (Eq.symm rfl) (.refl _) (λ_=>rfl) e44 p45,λ_ _ _=>trivial⟩ ?_
 rintro _ _ ⟨v46,-,rfl,rfl⟩
 refine .mk λx47=>?_
 exact .mk
 exact .mk
 intro _ _
 refine .mk (λx48 e48=>?_) rfl (by rintro _ rfl;exact (.cons (dZ rfl rfl rfl rfl rfl (Eq.symm rfl)) .nil))
 exact .mk
 intro _ _
 refine .mk trivial ?_
 refine .mk _ (bK (gM (ps:=[(0,_),(1,_),(2,_)]) (rows:=[[.pt 12 v36 0 0,.sl 8 (u8 8) 0 y4_4.length],[.pt 12 v36 0 1,.sl 9 (u8 9) 0 y4_5.length],[.pt 12 v36 0 2,.sl 10 (u8 10) 0 y4_6.length]]) rfl Tryz.underlying141 aQN (.cons rfl (.cons rfl (.cons rfl .nil))) (by kernel_rfl) rfl rfl rfl)) ?_
 refine .mk ?_ ?_
 refine .mk ?_
 refine .mk _ (bK (lK (j:=0) rfl Tryz.underlying141 UO rfl rfl rfl (.list rfl))) ?_
 intro v49
 refine .mk (λx50 e50=>?_) rfl (by rintro _ rfl;exact (.cons (dZ rfl rfl rfl rfl rfl (Eq.symm rfl)) .nil))
 refine .mk λx51 e51=>?_
 refine .mk _ (bK (yS rfl rfl rfl e51)) ?_
 refine .mk ?_
 refine .mk ?_
 refine .mk _ (bK (lK (j:=1) rfl Tryz.underlying141 UO rfl rfl rfl (.list rfl))) ?_
 intro v52
 refine .mk (λx53 e53=>?_) rfl (by rintro _ rfl;exact (.cons (dZ rfl rfl rfl rfl rfl (Eq.symm rfl)) .nil))
 refine .mk λx54 e54=>?_
 refine .mk _ (bK (yS rfl rfl rfl e54)) ?_
 refine .mk ?_
 refine .mk ?_
 refine .mk _ (bK (lK (j:=2) rfl Tryz.underlying141 UO rfl rfl rfl (.list rfl))) ?_
 intro v55
 refine .mk (λx56 e56=>?_) rfl (by rintro _ rfl;exact (.cons (dZ rfl rfl rfl rfl rfl (Eq.symm rfl)) .nil))
 refine .mk λx57 e57=>?_
 refine .mk _ (bK (yS rfl rfl rfl e57)) ?_
 refine .mk ?_
 refine .mk ?_
 exact .mk
 intro _ _
 exact .mk
def XO (n:Nat) (a1:aA) (a2:Int):WB (Int×Int) :=
 .al 1<|.al 2<|.inl 9 YU Tryz.func59 [1,2] [] (λ_ (a:Int×Int)=>.bD [int a.1,int a.2]) (λ_ _=>[]) (.ln 10 aP.av a1.aW<|.jn 0 [4,5] [1,2] [6] (λu21 (a:(List Int))=>[(6,.sl 6 (u21 6) 0 a.length)]) (λ_ a=>[.nw 6 3 1 (a.map fI)]) (.no 6 6 3 1<|.lp [1,4,5,9,10] [1,2] [6] (λu28 (a:Int×(List Int))=>[(6,.sl 6 (u28 6) 0 a.2.length),(11,int a.1)]) (λ_ a=>[.nw 6 3 1 (a.2.map fI)]) n ((0:Int),(([]:List Int):List Int)) (pw λy0_2 y0_3=>.bB 12 (decide (y0_2<(a1.aW.length:Int))) λx6=>.ifs [12] x6 (.iF 14 aP.av gE aP.dA a1.aW y0_2 λx7=>.al 3<|.inl 20 aRY Tryz.func67 [1,2,3,6] [] (λ_ (a:Int)=>int a) (λ_ _=>[]) (.al 4<|.ln 9 fI x7.dM<|.bB 10 (decide (a2>=(x7.dM.length:Int))) λx10=>.ifs [10] x10 (.ret 0) (.ix 14 fI x7.dM a2 λx11=>.ret x11)) (λy1_1=>.to 21 (aH 1 fI ([y1_1]:List Int))<|.bl (y0_3++([y1_1]:List Int):List Int) λx12=>.as (x12.length<=68719476736) inferInstance<|.ge 22 0<|.bI 23 (bA (y0_2+1)) λx15=>.brk ((x15:Int),x12))) (.esc (.ret y0_3)))) (λy2_2=>.jF 25 (kN n y2_2) nM nO (λ_=>rfl) λx16=>.ret ((x16.1:Int),x16.2))) (pw λy3_1 y3_2=>.ret ((y3_1:Int),y3_2))
def G5 (n:Nat) (a1:aA) (a2:Int):Option (Int×Int):=(XO n a1 a2).run
theorem aC0 {n a1 a2}:PZ (G5 n a1 a2) 27 [.agg (aA.av a1),int a2] (λr=>.bD [int r.1,int r.2]):=wq Tryz.func27
def aB1 (a1:Int) (a2:dD):WB (Int) :=
 .al 1<|.ret ((a2.bE:Int))
def WE (a1:Int) (a2:dD):Option (Int):=(aB1 a1 a2).run
theorem aUB {a1 a2}:PZ (WE a1 a2) 63 [int a1,.agg (dD.av a2)] int:=wq Tryz.func63
def WV (a1:Int) (a2:aQ):WB (Int) :=
 .al 1<|.ret ((a2.bO:Int))
def RD (a1:Int) (a2:aQ):Option (Int):=(WV a1 a2).run
theorem aRX {a1 a2}:PZ (RD a1 a2) 65 [int a1,.agg (aQ.av a2)] int:=wq Tryz.func65
end
end Go.Pv
