import Derived.Test.YtihfgehjjbnffaaGreatXUi
set_option linter.unusedVariables false
set_option linter.unusedSimpArgs false
namespace Go.Pv
open Go.Proofs
set_option maxRecDepth 100000
set_option maxHeartbeats 4000000
noncomputable section
def aGK (n:Nat) (a1:aA) (a2:bQ):WB (aA×Int) :=
 .al 1<|.al 2<|.al 3<|.al 4<|.dU 3 [2,3,4,5,6] [1,3] [] (λ_ (a:bQ×dV)=>[]) (λ_ a=>[.kp 2 [(bQ.av a.1)],.kp 4 [[int a.2.fG,int a.2.Item,int a.2.Loc,int a.2.aS,int a.2.jJ,int a.2.yD,int a.2.bE,int a.2.qT,aI a.2.qW]]]) (.bB 13 (decide (a2.Kind=5)) λx7=>.ifs [13] x7 (.jn 2 [2,3,4,5,6] [1,2,3,4] [] (λ_ (a:Bool)=>[(26,aI a)]) (λ_ _=>[]) (.bB 18 (decide (a2.Ref<0)) λx8=>.ifs [18] x8 (.ret true) (.ln 24 dV.av a1.dO<|.bB 25 (decide (a2.Ref>=(a1.dO.length:Int))) λx9=>.ret x9)) (λy0_1=>.ifs [26] y0_1 (.esc (.ret ((a1:aA),4))) (.ix 32 dV.av a1.dO a2.Ref λx10=>.dr [(0,[4]),(1,[4]),(2,[4]),(3,[4]),(4,[4]),(5,[4]),(6,[2]),(8,[2]),(10,[2])] [(7,[4]),(9,[4]),(11,[])] [2,4] [7,9,11] [0,1,2,3,4,5,6,7,8,9,10,11] (.brk (((⟨a2.Kind,x10.fG,x10.Item,x10.Loc,a2.To,a2.aS,a2.bO,a2.Ref,a2.dQ⟩:bQ):bQ),x10))))) (.bB 15 (decide (a2.Kind=4)) λx11=>.ifs [15] x11 (.brk ((a2:bQ),((⟨0,0,0,0,0,0,0,0,false⟩:dV):dV))) (.esc (.ret ((a1:aA),1))))) (pw λy1_1 y1_2=>.cl 48 (nW a1 y1_1.E y1_1.Item) pE pG λx12=>.bB 50 (decide (x12≠0)) λx13=>.ifs [50] x13 (.ret ((a1:aA),x12)) (.al 5<|.jn 0 [2,4,5,8] [1,3] [] (λ_ (a:Int×aA)=>[(9,int a.1)]) (λ_ a=>[.kp 5 [(aA.av a.2)]]) (.bB 65 (decide (y1_1.Kind=4)) λx15=>.ifs [65] x15 (.cl 69 (R4 n a1 y1_1) aMX aVK λx16=>.ret ((x16.2:Int),x16.1)) (.bI 79 (bA (y1_2.aS-y1_2.jJ)) λx17=>.bB 80 (decide (y1_1.aS>x17)) λx18=>.ifs [80] x18 (.ret ((5:Int),a1)) (.jn 1 [2,3,4,5,6,8,9] [1,2,3,4,5] [] (λ_ (a:Bool)=>[(81,aI a)]) (λ_ _=>[]) (.dr [(0,[4]),(1,[4]),(3,[4]),(4,[4]),(5,[1]),(6,[1]),(7,[2]),(8,[2])] [] [1,2,4] [] [0,1,2,3,4,5,6,7,8,9,10,11,12,13,14] (.bB 84 (y1_2.qW) λx19=>.ifs [84] x19 (.iF 91 aP.av gE aP.dA a1.aW y1_1.E λx20=>.bB 94 (decide (y1_2.qT=x20.fD)) λx21=>.ret x21) (.ret false))) (λy2_1=>.ifs [81] y2_1 (.cl 99 (XN n a1 y1_1) aPN aJF λx22=>.ret ((x22.2:Int),x22.1)) (.cl 59 (aDP n a1 y1_1 y1_2) aJ1 aKP λx23=>.ret ((x23.2:Int),x23.1)))))) (pw λy3_1 y3_2=>.bB 103 (decide (y3_1≠0)) λx24=>.ifs [103] x24 (.ret ((a1:aA),y3_1)) (.ret ((y3_2:aA),0)))))
def yV (n:Nat) (a1:aA) (a2:bQ):Option (aA×Int):=(aGK n a1 a2).run
theorem aL4 {n a1 a2}:PZ (yV n a1 a2) 88 [.agg (aA.av a1),.agg (bQ.av a2)] (λr=>.bD [.agg (aA.av r.1),int r.2]):=wq Tryz.func88
def aIX (n:Nat) (a1:dH) (a2:Int):WB (Int) :=
 .al 1<|.cl 10 (oO n a1.Value a2 a1.aS) qZ rR λx4=>.ret ((x4:Int))
def aD4 (n:Nat) (a1:dH) (a2:Int):Option (Int):=(aIX n a1 a2).run
theorem aTC {n a1 a2}:PZ (aD4 n a1 a2) 186 [.agg (dH.av a1),int a2] int:=wq Tryz.func186
def aV9 (n:Nat) (a1:dH) (a2:Int):WB (Int) :=
 .al 1<|.bB 8 (decide (a2=a1.Open)) λx4=>.ifs [8] x4 (.ret ((a1.pV:Int))) (.cl 16 (oO n a1.pV a2 a1.Open) qZ rR λx5=>.ret ((x5:Int)))
def aA1 (n:Nat) (a1:dH) (a2:Int):Option (Int):=(aV9 n a1 a2).run
theorem aJZ {n a1 a2}:PZ (aA1 n a1 a2) 213 [.agg (dH.av a1),int a2] int:=wq Tryz.func213
def aM7 (n:Nat) (a1:dH) (a2:Int):WB (Int) :=
 .al 1<|.cl 10 (aA1 n a1 a2) aRA aJZ λx4=>.ret ((x4:Int))
def QD (n:Nat) (a1:dH) (a2:Int):Option (Int):=(aM7 n a1 a2).run
theorem aCA {n a1 a2}:PZ (QD n a1 a2) 184 [.agg (dH.av a1),int a2] int:=wq Tryz.func184
def aWX (a1:Int) (a2:Int):WB (aQ) :=
 .al 1<|.ret (((⟨a1,a2⟩:aQ):aQ))
def zG (a1:Int) (a2:Int):Option (aQ):=(aWX a1 a2).run
theorem C5 {a1 a2}:PZ (zG a1 a2) 185 [int a1,int a2] (λr=>.agg (aQ.av r)):=wq Tryz.func185
def aTS (n:Nat) (a1:aA) (a2:bQ):WB (aA×Int) :=
 .al 1<|.al 2<|.al 3<|.jn 0 [2,3,4,5] [1,2,3] [] (λ_ (a:Bool)=>[(18,aI a)]) (λ_ _=>[]) (.bB 13 (decide (a2.Kind≠2)) λx6=>.ifs [13] x6 (.bB 17 (decide (a2.Kind≠3)) λx7=>.ret x7) (.ret false)) (λy0_1=>.ifs [18] y0_1 (.ret ((a1:aA),1)) (.jn 1 [2,3,4,5] [1,2,3] [] (λ_ (a:Bool)=>[(30,aI a)]) (λ_ _=>[]) (.bB 22 (decide (a2.Ref<0)) λx8=>.ifs [22] x8 (.ret true) (.ln 28 dH.av a1.dG<|.bB 29 (decide (a2.Ref>=(a1.dG.length:Int))) λx9=>.ret x9)) (λy1_1=>.ifs [30] y1_1 (.ret ((a1:aA),4)) (.ix 36 dH.av a1.dG a2.Ref λx10=>.al 4<|.cl 43 (nW a1 x10.fG x10.Item) pE pG λx12=>.bB 45 (decide (x12≠0)) λx13=>.ifs [45] x13 (.ret ((a1:aA),x12)) (.bB 50 (decide (a2.Kind=3)) λx14=>.ifs [50] x14 (.inl 55 aL7 Tryz.func142 [1,2,3] [] (λ_ (a:aA×Int×dH)=>.bD [.agg (aA.av a.1),int a.2.1]) (λ_ a=>[.kp 4 [[int a.2.2.fG,int a.2.2.Item,int a.2.2.Loc,int a.2.2.aS,int a.2.2.Value,int a.2.2.Open,int a.2.2.pV,int a.2.2.jJ]]]) (.al 5<|.al 6<|.al 7<|.dr [(0,[6]),(1,[6]),(3,[4]),(4,[4]),(5,[4]),(7,[4]),(8,[4]),(9,[4])] [] [4,6] [] [0,1,2,3,4,5,6,7,8,9,10,11,12] (.bI 24 (bA (x10.aS-x10.jJ)) λx18=>.bB 25 (decide (a2.aS>x18)) λx19=>.ifs [25] x19 (.ret ((a1:aA),5,x10)) (.jn 1 [2,3,4,6,7] [1,2,3,4,5,6,7] [] (λ_ (a:Bool)=>[(27,aI a)]) (λ_ _=>[]) (.dr [(1,[4]),(2,[4]),(3,[4]),(7,[4]),(8,[4]),(9,[4]),(10,[6]),(11,[6])] [] [4,6] [] [0,1,2,3,4,5,6,7,8,9,10,11,12,13,14] (.bB 32 (decide (x10.Open>0)) λx20=>.ifs [32] x20 (.bB 40 (decide (x10.Open<a2.aS)) λx21=>.ret x21) (.ret false))) (λy2_1=>.ifs [27] y2_1 (.ret ((a1:aA),9,x10)) (.dr [(0,[5]),(2,[4]),(3,[4]),(4,[4]),(6,[4]),(7,[4]),(8,[4]),(10,[4]),(11,[4]),(12,[4]),(13,[6]),(14,[6])] [(22,[]),(23,[])] [4,5,6] [21,22,23] [0,1,2,3,4,5,6,7,8,9,10,11,12,13,14,15,16,17,18,19,20,21,22,23,24,25] (.cl 59 (o5 n a1 x10.fG x10.Item x10.Loc 3 a2.aS) yP zU λx22=>.al 8<|.bB 9 (x22.2.2.1) λx24=>.bB 65 (decide (x22.2.2.2≠0)) λx25=>.ifs [65] x25 (.ret ((x22.1:aA),x22.2.2.2,x10)) (.dr [(1,[4]),(2,[4]),(3,[6]),(4,[6])] [] [4,6] [] [0,1,2,3,4,5,6,7] (.cl 73 (aD4 n x10 a2.aS) aH7 aTC λx26=>.bB 78 (decide (x10.Open>0)) λx27=>.jn 0 [2,3,4,6,7,8] [1,2,3,5,6,7,8] [] (λ_ (a:Int×Int×dH)=>[(11,int a.1),(12,int a.2.1)]) (λ_ a=>[.kp 4 [[int a.2.2.fG,int a.2.2.Item,int a.2.2.Loc,int a.2.2.aS,int a.2.2.Value,int a.2.2.Open,int a.2.2.pV,int a.2.2.jJ]]]) (.ifs [78] x27 (.dr [(1,[4]),(2,[4]),(3,[6]),(4,[6])] [] [4,6] [] [0,1,2,3,4,5,6,7] (.cl 84 (QD n x10 a2.aS) aCC aCA λx28=>.dr [(3,[4]),(4,[4]),(5,[4]),(6,[6]),(7,[6]),(10,[4]),(11,[4]),(12,[4]),(15,[4]),(16,[4]),(18,[4]),(19,[4])] [(17,[]),(20,[])] [4,6] [17,20] [0,1,2,3,4,5,6,7,8,9,10,11,12,13,14,15,16,17,18,19,20] (.bI 93 (bA (x10.Open-a2.aS)) λx29=>.bI 99 (bA (x10.pV-x28)) λx30=>.ret ((x28:Int),1,((⟨x10.fG,x10.Item,x10.Loc,x10.aS,x10.Value,x29,x30,x10.jJ⟩:dH):dH))))) (.ret ((x26:Int),2,x10))) (pw λy3_1 q0=>(pw λy3_2 y3_3=>.dr [(1,[4]),(2,[4]),(3,[4]),(4,[6]),(5,[6]),(7,[4]),(8,[4])] [(9,[])] [4,6] [9] [0,1,2,3,4,5,6,7,8,9] (.bI 110 (bA (y3_3.jJ+a2.aS)) λx31=>.dr [(0,[5]),(2,[4]),(3,[4]),(4,[4]),(8,[8]),(9,[8]),(13,[8]),(14,[8])] [(22,[])] [4,5,8] [22] [0,1,2,3,4,5,6,7,8,9,10,11,12,13,14,15,16,17,18,19,20,21,22,23] (.cl 121 (zG y3_2 y3_1) D7 C5 λx32=>.bI 125 (bA (x22.2.1.Value-y3_1)) λx33=>.cl 126 (zG 6 x33) D7 C5 λx34=>.bI 129 (bA (0-x22.2.1.Value)) λx35=>.cl 130 (zG 0 x35) D7 C5 λx36=>.to 131 (aH 2 aQ.av ([x32,x34,x36]:List aQ))<|.cl 132 (nP n x22.1 y3_3.fG ([x32,x34,x36]:List aQ)) vC tY λx37=>.bB 136 (decide (x37.2≠0)) λx38=>.ifs [136] x38 (.ret ((x37.1:aA),x37.2,((⟨y3_3.fG,y3_3.Item,y3_3.Loc,y3_3.aS,y3_3.Value,y3_3.Open,y3_3.pV,x31⟩:dH):dH))) (.dr [(0,[5]),(2,[4]),(3,[4]),(4,[4]),(6,[4]),(7,[4]),(8,[4]),(9,[8]),(10,[8])] [(15,[])] [4,5,8] [15] [0,1,2,3,4,5,6,7,8,9,10,11,12,13,14,15,16] (.cl 151 (nZ x37.1 y3_3.fG y3_3.Item (⟨0,0,0,0,0,0,0,x22.2.1.Value,0,0,0⟩:dL)) tJ tT λx39=>.ret ((x39.1:aA),x39.2,((⟨y3_3.fG,y3_3.Item,y3_3.Loc,y3_3.aS,y3_3.Value,y3_3.Open,y3_3.pV,x31⟩:dH):dH))))))) q0))))))))) (pw λy4_1 q0=>(pw λy4_2 y4_3=>.al 9<|.bB 59 (decide (y4_2≠0)) λx41=>.ifs [59] x41 (.ret ((a1:aA),y4_2)) (.as (y4_1.dG.length<=68719476736) inferInstance<|.ge 64 10<|.bo (ix y4_1.dG a2.Ref) λx44=>.gv 71<|.bl (y4_1.dG.set (Int.toNat a2.Ref) y4_3:List dH) λx45=>.ge 1016006 0<|.ret (((⟨y4_1.bF,y4_1.aW,x45,y4_1.dO,y4_1.bL,y4_1.Done⟩:aA):aA),0))) q0)) (.inl 55 aWR Tryz.func141 [1,2,3] [] (λ_ (a:aA×Int×dH)=>.bD [.agg (aA.av a.1),int a.2.1]) (λ_ a=>[.kp 4 [[int a.2.2.fG,int a.2.2.Item,int a.2.2.Loc,int a.2.2.aS,int a.2.2.Value,int a.2.2.Open,int a.2.2.pV,int a.2.2.jJ]]]) (.al 11<|.al 12<|.al 13<|.dr [(0,[12]),(1,[12]),(3,[4]),(4,[4]),(5,[4])] [] [4,12] [] [0,1,2,3,4,5,6] (.bB 16 (decide (a2.aS>x10.Open)) λx49=>.ifs [16] x49 (.ret ((a1:aA),5,x10)) (.dr [(1,[4]),(2,[4]),(3,[12]),(4,[12])] [] [4,12] [] [0,1,2,3,4,5,6] (.cl 23 (QD n x10 a2.aS) aCC aCA λx50=>.dr [(0,[11]),(2,[4]),(3,[4]),(4,[4]),(7,[12]),(8,[12]),(12,[12]),(13,[12])] [(21,[])] [4,11,12] [21] [0,1,2,3,4,5,6,7,8,9,10,11,12,13,14,15,16,17,18,19,20,21,22] (.cl 31 (zG 1 x50) D7 C5 λx51=>.bI 35 (bA (a2.bO-x50)) λx52=>.cl 36 (zG 6 x52) D7 C5 λx53=>.bI 39 (bA (0-a2.bO)) λx54=>.cl 40 (zG 2 x54) D7 C5 λx55=>.to 41 (aH 2 aQ.av ([x51,x53,x55]:List aQ))<|.cl 42 (nP n a1 x10.fG ([x51,x53,x55]:List aQ)) vC tY λx56=>.dr [(3,[4]),(4,[4]),(5,[4]),(6,[12]),(7,[12]),(10,[4]),(11,[4]),(12,[4]),(15,[4]),(16,[4]),(18,[4]),(19,[4])] [(17,[]),(20,[])] [4,12] [17,20] [0,1,2,3,4,5,6,7,8,9,10,11,12,13,14,15,16,17,18,19,20] (.bI 53 (bA (x10.Open-a2.aS)) λx57=>.bI 59 (bA (x10.pV-x50)) λx58=>.ret ((x56.1:aA),x56.2,((⟨x10.fG,x10.Item,x10.Loc,x10.aS,x10.Value,x57,x58,x10.jJ⟩:dH):dH)))))))) (pw λy4_1 q0=>(pw λy4_2 y4_3=>.al 9<|.bB 59 (decide (y4_2≠0)) λx60=>.ifs [59] x60 (.ret ((a1:aA),y4_2)) (.as (y4_1.dG.length<=68719476736) inferInstance<|.ge 64 10<|.bo (ix y4_1.dG a2.Ref) λx63=>.gv 71<|.bl (y4_1.dG.set (Int.toNat a2.Ref) y4_3:List dH) λx64=>.ge 1016006 0<|.ret (((⟨y4_1.bF,y4_1.aW,x64,y4_1.dO,y4_1.bL,y4_1.Done⟩:aA):aA),0))) q0)))))))
def aDH (n:Nat) (a1:aA) (a2:bQ):Option (aA×Int):=(aTS n a1 a2).run
theorem aXT {n a1 a2}:PZ (aDH n a1 a2) 90 [.agg (aA.av a1),.agg (bQ.av a2)] (λr=>.bD [.agg (aA.av r.1),int r.2]):=wq Tryz.func90
def aL3 (n:Nat) (a1:Int) (a2:aT):WB (Bool) :=
 .al 1<|.inl 10 V8 Tryz.func34 [1] [] (B:=(Unit)⊕(Unit)⊕(Unit)⊕(Unit)⊕(Unit)) (λu2=>Sum.elim (λa=>.gB 156 (.agg [])) (Sum.elim (λa=>.gB 157 (.agg [])) (Sum.elim (λa=>.gB 158 (.agg [])) (Sum.elim (λa=>.gB 160 (.agg [int 0])) (λa=>.sc .nilIface))))) (λu2=>Sum.elim (λa=>[]) (Sum.elim (λa=>[]) (Sum.elim (λa=>[]) (Sum.elim (λa=>[]) (λa=>[]))))) (.bB 7 (decide (a1=1)) λx4=>.ifs [7] x4 (.gv 9<|.ret (.inl ())) (.bB 11 (decide (a1=2)) λx5=>.ifs [11] x5 (.gv 13<|.ret (.inr (.inl ()))) (.bB 15 (decide (a1=3)) λx6=>.ifs [15] x6 (.gv 17<|.ret (.inr (.inr (.inl ())))) (.bB 19 (decide (a1=4)) λx7=>.ifs [19] x7 (.gv 22<|.ret (.inr (.inr (.inr (.inl ()))))) (.ret (.inr (.inr (.inr (.inr ()))))))))) (Sum.elim (λ_=>.jn 0 [3,4,5] [1] [] (λ_ (a:Bool)=>[(28,aI a)]) (λ_ _=>[]) (.gv 12<|.cl 16 (uL n a2.bJ) GN GU λx8=>.bB 17 (!x8) λx9=>.ifs [17] x9 (.ret true) (.bB 21 (decide (a1≠1)) λx10=>.ifs [21] x10 (.ln 25 aM.av a2.bJ<|.bB 26 (decide ((a2.bJ.length:Int)>1)) λx11=>.ret x11) (.ret false))) (λy5_1=>.ifs [28] y5_1 (.ret ((false:Bool))) (.cl 30 (vM n a2) yG yL λx12=>.dU 1 [4] [] [] (λ_ (a:Unit)=>[]) (λ_ _=>[]) (.lp [4,5,33] [] [] (λ_ (a:Int×Int)=>[(6,int a.1),(34,int a.2)]) (λ_ _=>[]) n ((x12.aS:Int),0) (pw λy6_1 y6_2=>.bB 35 (decide (y6_2<3)) λx13=>.ifs [35] x13 (.bo (ix ([a2.bR.a0,a2.bR.a1,a2.bR.a2]:List Int) y6_2) λx14=>.gv 36<|.jn 0 [4,5,6,8,33,34] [] [] (λ_ (a:Bool)=>[(52,aI a)]) (λ_ _=>[]) (.bB 38 (decide (x14<0)) λx15=>.ifs [38] x15 (.ret true) (.bB 42 (decide (x14>y6_1)) λx16=>.ifs [42] x16 (.ret true) (.bB 46 (decide (x14>0)) λx17=>.ifs [46] x17 (.inl 49 xJ Tryz.func36 [] [] (λ_ (a:Unit)=>aI false) (λ_ _=>[]) (.gv 7<|.al 2<|.ret ()) (λ_=>.ret true)) (.ret false)))) (λy8_1=>.ifs [52] y8_1 (.esc (.esc (.ret ((false:Bool))))) (.bI 55 (bA (y6_1-x14)) λx19=>.bI 56 (bA (y6_2+1)) λx20=>.brk ((x19:Int),x20)))) (.esc (.brk ())))) (λ_=>.ret ((true:Bool)))))) (Sum.elim (λ_=>.jn 0 [3,4,5] [1] [] (λ_ (a:Bool)=>[(28,aI a)]) (λ_ _=>[]) (.gv 12<|.cl 16 (uL n a2.bJ) GN GU λx21=>.bB 17 (!x21) λx22=>.ifs [17] x22 (.ret true) (.bB 21 (decide (a1≠1)) λx23=>.ifs [21] x23 (.ln 25 aM.av a2.bJ<|.bB 26 (decide ((a2.bJ.length:Int)>1)) λx24=>.ret x24) (.ret false))) (λy5_1=>.ifs [28] y5_1 (.ret ((false:Bool))) (.cl 30 (vM n a2) yG yL λx25=>.dU 1 [4] [] [] (λ_ (a:Unit)=>[]) (λ_ _=>[]) (.lp [4,5,33] [] [] (λ_ (a:Int×Int)=>[(6,int a.1),(34,int a.2)]) (λ_ _=>[]) n ((x25.aS:Int),0) (pw λy6_1 y6_2=>.bB 35 (decide (y6_2<3)) λx26=>.ifs [35] x26 (.bo (ix ([a2.bR.a0,a2.bR.a1,a2.bR.a2]:List Int) y6_2) λx27=>.gv 36<|.jn 0 [4,5,6,8,33,34] [] [] (λ_ (a:Bool)=>[(52,aI a)]) (λ_ _=>[]) (.bB 38 (decide (x27<0)) λx28=>.ifs [38] x28 (.ret true) (.bB 42 (decide (x27>y6_1)) λx29=>.ifs [42] x29 (.ret true) (.bB 46 (decide (x27>0)) λx30=>.ifs [46] x30 (.inl 49 xJ Tryz.func36 [] [] (λ_ (a:Unit)=>aI false) (λ_ _=>[]) (.gv 7<|.al 2<|.ret ()) (λ_=>.ret true)) (.ret false)))) (λy8_1=>.ifs [52] y8_1 (.esc (.esc (.ret ((false:Bool))))) (.bI 55 (bA (y6_1-x27)) λx32=>.bI 56 (bA (y6_2+1)) λx33=>.brk ((x32:Int),x33)))) (.esc (.brk ())))) (λ_=>.ret ((true:Bool)))))) (Sum.elim (λ_=>.jn 0 [3,4,5] [1] [] (λ_ (a:Bool)=>[(28,aI a)]) (λ_ _=>[]) (.gv 12<|.cl 16 (uL n a2.bJ) GN GU λx34=>.bB 17 (!x34) λx35=>.ifs [17] x35 (.ret true) (.bB 21 (decide (a1≠1)) λx36=>.ifs [21] x36 (.ln 25 aM.av a2.bJ<|.bB 26 (decide ((a2.bJ.length:Int)>1)) λx37=>.ret x37) (.ret false))) (λy5_1=>.ifs [28] y5_1 (.ret ((false:Bool))) (.cl 30 (vM n a2) yG yL λx38=>.dU 1 [4] [] [] (λ_ (a:Unit)=>[]) (λ_ _=>[]) (.lp [4,5,33] [] [] (λ_ (a:Int×Int)=>[(6,int a.1),(34,int a.2)]) (λ_ _=>[]) n ((x38.aS:Int),0) (pw λy6_1 y6_2=>.bB 35 (decide (y6_2<3)) λx39=>.ifs [35] x39 (.bo (ix ([a2.bR.a0,a2.bR.a1,a2.bR.a2]:List Int) y6_2) λx40=>.gv 36<|.jn 0 [4,5,6,8,33,34] [] [] (λ_ (a:Bool)=>[(52,aI a)]) (λ_ _=>[]) (.bB 38 (decide (x40<0)) λx41=>.ifs [38] x41 (.ret true) (.bB 42 (decide (x40>y6_1)) λx42=>.ifs [42] x42 (.ret true) (.bB 46 (decide (x40>0)) λx43=>.ifs [46] x43 (.inl 49 xJ Tryz.func36 [] [] (λ_ (a:Unit)=>aI true) (λ_ _=>[]) (.gv 7<|.al 2<|.ret ()) (λ_=>.ret false)) (.ret false)))) (λy8_1=>.ifs [52] y8_1 (.esc (.esc (.ret ((false:Bool))))) (.bI 55 (bA (y6_1-x40)) λx45=>.bI 56 (bA (y6_2+1)) λx46=>.brk ((x45:Int),x46)))) (.esc (.brk ())))) (λ_=>.ret ((true:Bool)))))) (Sum.elim (λ_=>.jn 0 [3,4,5] [1] [] (λ_ (a:Bool)=>[(28,aI a)]) (λ_ _=>[]) (.gv 12<|.cl 16 (uL n a2.bJ) GN GU λx47=>.bB 17 (!x47) λx48=>.ifs [17] x48 (.ret true) (.bB 21 (decide (a1≠1)) λx49=>.ifs [21] x49 (.ln 25 aM.av a2.bJ<|.bB 26 (decide ((a2.bJ.length:Int)>1)) λx50=>.ret x50) (.ret false))) (λy5_1=>.ifs [28] y5_1 (.ret ((false:Bool))) (.cl 30 (vM n a2) yG yL λx51=>.dU 1 [4] [] [] (λ_ (a:Unit)=>[]) (λ_ _=>[]) (.lp [4,5,33] [] [] (λ_ (a:Int×Int)=>[(6,int a.1),(34,int a.2)]) (λ_ _=>[]) n ((x51.aS:Int),0) (pw λy6_1 y6_2=>.bB 35 (decide (y6_2<3)) λx52=>.ifs [35] x52 (.bo (ix ([a2.bR.a0,a2.bR.a1,a2.bR.a2]:List Int) y6_2) λx53=>.gv 36<|.jn 0 [4,5,6,8,33,34] [] [] (λ_ (a:Bool)=>[(52,aI a)]) (λ_ _=>[]) (.bB 38 (decide (x53<0)) λx54=>.ifs [38] x54 (.ret true) (.bB 42 (decide (x53>y6_1)) λx55=>.ifs [42] x55 (.ret true) (.bB 46 (decide (x53>0)) λx56=>.ifs [46] x56 (.inl 49 xJ Tryz.func36 [] [] (λ_ (a:Unit)=>aI false) (λ_ _=>[]) (.gv 7<|.al 2<|.ret ()) (λ_=>.ret true)) (.ret false)))) (λy8_1=>.ifs [52] y8_1 (.esc (.esc (.ret ((false:Bool))))) (.bI 55 (bA (y6_1-x53)) λx58=>.bI 56 (bA (y6_2+1)) λx59=>.brk ((x58:Int),x59)))) (.esc (.brk ())))) (λ_=>.ret ((true:Bool)))))) (λ_=>.gv 12<|.ret ((false:Bool)))))))
def PO (n:Nat) (a1:Int) (a2:aT):Option (Bool):=(aL3 n a1 a2).run
theorem aCZ {n a1 a2}:PZ (PO n a1 a2) 172 [int a1,.agg (aT.av a2)] aI:=by
 refine wm Tryz.func172 ?_
 intro v3
 refine .mk ?_ ?_
 refine .mk λx4=>?_
 refine .mk ?_ ?_
 refine .mk _ (bK (rQ rfl Tryz.underlying156 (by intro _ h;cases h) rfl)) ?_
 exact .mk
 refine .mk λx5=>?_
 refine .mk ?_ ?_
 refine .mk _ (bK (rQ rfl Tryz.underlying157 (by intro _ h;cases h) rfl)) ?_
 exact .mk
 refine .mk λx6=>?_
 refine .mk ?_ ?_
 refine .mk _ (bK (rQ rfl Tryz.underlying158 (by intro _ h;cases h) rfl)) ?_
 exact .mk
 refine .mk λx7=>?_
 refine .mk ?_ ?_
 refine .mk _ (bK (rQ rfl Tryz.underlying160 (by intro _ h;cases h) rfl)) ?_
 exact .mk
 exact .mk
 rintro (_ | _ | _ | _ | _) _
 refine .mk trivial ?_
 refine .mk ?_ ?_
 refine .mk _ (bK (rX rfl Tryz.underlying93 rfl rfl)) ?_
 refine .mk λx8 e8=>?_
 refine .mk λx9=>?_
 refine .mk .mk ?_
 refine .mk λx10=>?_
 refine .mk ?_ ?_
 refine .mk ?_
 refine .mk λx11=>?_
 exact .mk
 exact .mk
 intro _ _
 refine .mk .mk ?_
 refine .mk λx12 e12=>?_
 refine .mk ?_ ?_
 refine .mk ?_
 intro _ _
 refine .mk λx13=>?_
 refine .mk ?_ ?_
 refine .mk λx14 e14=>?_
 refine .mk _ (bK (xD (g:=fI) (l:=([a2.bR.a0,a2.bR.a1,a2.bR.a2]:List Int)) (v:=x14) (w:=int x14) rfl Tryz.underlying58 dP rfl rfl rfl e14 (λ_=>rfl) hw1)) ?_
 refine .mk ?_ ?_
 refine .mk λx15=>?_
 refine .mk .mk ?_
 refine .mk λx16=>?_
 refine .mk .mk ?_
 refine .mk λx17=>?_
 refine .mk ?_ ?_
 refine .mk ?_ ?_
 refine .mk _ (bK (KD rfl Tryz.underlying158 rfl rfl rfl RO)) ?_
 intro v18
 exact .mk
 intro _ _
 refine .mk trivial ?_
 exact .mk
 exact .mk
 intro _ _
 refine .mk .mk ?_
 refine .mk λx19=>?_
 refine .mk λx20=>?_
 exact .mk
 exact .mk
 intro _ _
 exact .mk
 refine .mk trivial ?_
 refine .mk ?_ ?_
 refine .mk _ (bK (rX rfl Tryz.underlying93 rfl rfl)) ?_
 refine .mk λx21 e21=>?_
 refine .mk λx22=>?_
 refine .mk .mk ?_
 refine .mk λx23=>?_
 refine .mk ?_ ?_
 refine .mk ?_
 refine .mk λx24=>?_
 exact .mk
 exact .mk
 intro _ _
 refine .mk .mk ?_
 refine .mk λx25 e25=>?_
 refine .mk ?_ ?_
 refine .mk ?_
 intro _ _
 refine .mk λx26=>?_
 refine .mk ?_ ?_
 refine .mk λx27 e27=>?_
 refine .mk _ (bK (xD (g:=fI) (l:=([a2.bR.a0,a2.bR.a1,a2.bR.a2]:List Int)) (v:=x27) (w:=int x27) rfl Tryz.underlying58 dP rfl rfl rfl e27 (λ_=>rfl) hw1)) ?_
 refine .mk ?_ ?_
 refine .mk λx28=>?_
 refine .mk .mk ?_
 refine .mk λx29=>?_
 refine .mk .mk ?_
 refine .mk λx30=>?_
 refine .mk ?_ ?_
 refine .mk ?_ ?_
 refine .mk _ (bK (KD rfl Tryz.underlying158 rfl rfl rfl RO)) ?_
 intro v31
 exact .mk
 intro _ _
 refine .mk trivial ?_
 exact .mk
 exact .mk
 intro _ _
 refine .mk .mk ?_
 refine .mk λx32=>?_
 refine .mk λx33=>?_
 exact .mk
 exact .mk
 intro _ _
 exact .mk
 refine .mk trivial ?_
 refine .mk ?_ ?_
 refine .mk _ (bK (rX rfl Tryz.underlying93 rfl rfl)) ?_
 refine .mk λx34 e34=>?_
 refine .mk λx35=>?_
 refine .mk .mk ?_
 refine .mk λx36=>?_
 refine .mk ?_ ?_
 refine .mk ?_
 refine .mk λx37=>?_
 exact .mk
 exact .mk
 intro _ _
 refine .mk .mk ?_
 refine .mk λx38 e38=>?_
 refine .mk ?_ ?_
 refine .mk ?_
 intro _ _
 refine .mk λx39=>?_
 refine .mk ?_ ?_
 refine .mk λx40 e40=>?_
 refine .mk _ (bK (xD (g:=fI) (l:=([a2.bR.a0,a2.bR.a1,a2.bR.a2]:List Int)) (v:=x40) (w:=int x40) rfl Tryz.underlying58 dP rfl rfl rfl e40 (λ_=>rfl) hw1)) ?_
 refine .mk ?_ ?_
 refine .mk λx41=>?_
 refine .mk .mk ?_
 refine .mk λx42=>?_
 refine .mk .mk ?_
 refine .mk λx43=>?_
 refine .mk ?_ ?_
 refine .mk ?_ ?_
 refine .mk _ (bK (aEX rfl Tryz.underlying158 rfl rfl)) ?_
 intro v44
 exact .mk
 intro _ _
 refine .mk trivial ?_
 exact .mk
 exact .mk
 intro _ _
 refine .mk .mk ?_
 refine .mk λx45=>?_
 refine .mk λx46=>?_
 exact .mk
 exact .mk
 intro _ _
 exact .mk
 refine .mk trivial ?_
 refine .mk ?_ ?_
 refine .mk _ (bK (rX rfl Tryz.underlying93 rfl rfl)) ?_
 refine .mk λx47 e47=>?_
 refine .mk λx48=>?_
 refine .mk .mk ?_
 refine .mk λx49=>?_
 refine .mk ?_ ?_
 refine .mk ?_
 refine .mk λx50=>?_
 exact .mk
 exact .mk
 intro _ _
 refine .mk .mk ?_
 refine .mk λx51 e51=>?_
 refine .mk ?_ ?_
 refine .mk ?_
 intro _ _
 refine .mk λx52=>?_
 refine .mk ?_ ?_
 refine .mk λx53 e53=>?_
 refine .mk _ (bK (xD (g:=fI) (l:=([a2.bR.a0,a2.bR.a1,a2.bR.a2]:List Int)) (v:=x53) (w:=int x53) rfl Tryz.underlying58 dP rfl rfl rfl e53 (λ_=>rfl) hw1)) ?_
 refine .mk ?_ ?_
 refine .mk λx54=>?_
 refine .mk .mk ?_
 refine .mk λx55=>?_
 refine .mk .mk ?_
 refine .mk λx56=>?_
 refine .mk ?_ ?_
 refine .mk ?_ ?_
 refine .mk _ (bK (KD rfl Tryz.underlying158 rfl rfl rfl RO)) ?_
 intro v57
 exact .mk
 intro _ _
 refine .mk trivial ?_
 exact .mk
 exact .mk
 intro _ _
 refine .mk .mk ?_
 refine .mk λx58=>?_
 refine .mk λx59=>?_
 exact .mk
 exact .mk
 intro _ _
 exact .mk
 refine .mk trivial ?_
 refine .mk _ (bK (OF rfl Tryz.underlying93 rfl rfl)) ?_
 exact .mk
def aPF (n:Nat) (a1:Int) (a2:aT) (a3:Int):WB (aT×Int) :=
 .al 1<|.al 2<|.inl 18 pF Tryz.func35 [1,2] [5] (λu4 (a:Unit)=>.agg [.sl 5 (u4 5) 0 a2.bJ.length,int a2.bR.a0,int a2.bR.a1,int a2.bR.a2]) (λ_ _=>[.nw 5 38 3 (a2.bJ.map aM.av)]) (.al 3<|.al 4<|.dr [(0,[3]),(1,[3]),(2,[3])] [(4,[]),(5,[])] [3] [3,4,5] [0,1,2,3,4,5] (.as (a2.bJ.length<=68719476736) inferInstance<|.ge 6 5<|.inl 7 vL Tryz.func80 [1,2,3,4,5] [] (λu5 (a:Unit)=>.agg [.sl 5 (u5 5) 0 a2.bJ.length,int a2.bR.a0,int a2.bR.a1,int a2.bR.a2]) (λ_ _=>[]) (.al 6<|.al 7<|.ret ()) (λ_=>.ret ()))) (λ_=>.jn 0 [0,2,4,6,7] [1,2,5] [] (λ_ (a:Bool)=>[(24,aI a)]) (λ_ _=>[]) (.bB 20 (decide (a3<0)) λx12=>.ifs [20] x12 (.ret true) (.bB 23 (decide (a1=4)) λx13=>.ret x13)) (λy2_1=>.ifs [24] y2_1 (.ret ((a2:aT),1)) (.bB 30 (decide ((a2.bJ.length:Int)=0)) λx14=>.ifs [30] x14 (.ret ((a2:aT),5)) (.inl 33 pF Tryz.func35 [1,2] [10] (λu10 (a:Unit)=>.agg [.sl 10 (u10 10) 0 a2.bJ.length,int a2.bR.a0,int a2.bR.a1,int a2.bR.a2]) (λ_ _=>[.fz 5 (a2.bJ.map aM.av),.nw 10 38 3 (a2.bJ.map aM.av)]) (.al 8<|.al 9<|.dr [(0,[8]),(1,[8]),(2,[8])] [(4,[]),(5,[])] [8] [3,4,5] [0,1,2,3,4,5] (.as (a2.bJ.length<=68719476736) inferInstance<|.ge 6 10<|.inl 7 vL Tryz.func80 [1,2,5,8,9,10] [] (λu11 (a:Unit)=>.agg [.sl 10 (u11 10) 0 a2.bJ.length,int a2.bR.a0,int a2.bR.a1,int a2.bR.a2]) (λ_ _=>[]) (.al 11<|.al 12<|.ret ()) (λ_=>.ret ()))) (λ_=>.al 13<|.cl 35 (vM n a2) yG yL λx22=>.dU 1 [0,4,6,7,9] [1,2,5] [] (λ_ (a:(List aM))=>[]) (λu19 a=>[.kp 10 (a.map aM.av),.kp 13 [[.sl 10 (u19 10) 0 a.length,int a2.bR.a0,int a2.bR.a1,int a2.bR.a2]]]) (.lp [0,2,4,6,7,8,9,10,40] [1,2,5] [] (λu22 (a:Int×Int×(List aM))=>[(11,int a.1),(39,.sl 10 (u22 10) 0 a.2.2.length),(41,int a.2.1)]) (λu22 a=>[.kp 10 (a.2.2.map aM.av),.kp 13 [[.sl 10 (u22 10) 0 a.2.2.length,int a2.bR.a0,int a2.bR.a1,int a2.bR.a2]]]) n ((a3:Int),0,(a2.bJ:List aM)) (pw λy5_1 q0=>(pw λy5_2 y5_3=>.bB 42 (decide (y5_2<(a2.bJ.length:Int))) λx23=>.ifs [42] x23 (.bo (ix y5_3 y5_2) λx24=>.gv 44<|.gv 45<|.al 14<|.bI 49 (bA ((a2.bJ.length:Int)-1)) λx26=>.bB 50 (decide (y5_2<x26)) λx27=>.jn 0 [0,2,4,6,7,8,9,10,11,12,13,39,40,41] [1,2,5,10,13,14] [] (λ_ (a:Int)=>[(14,int a)]) (λ_ _=>[]) (.ifs [50] x27 (.cl 55 (oO n a3 x24.aS x22.aS) qZ rR λx28=>.ret x28) (.ret y5_1)) (λy6_1=>.cl 60 (mG x24.Value y6_1) pP oW λx29=>.bB 64 (decide (x29.2≠0)) λx30=>.ifs [64] x30 (.esc (.esc (.ret ((a2:aT),x29.2)))) (.gv 71<|.gv 72<|.bl (y5_3.set (Int.toNat y5_2) ((⟨x24.aS,x29.1,x24.bE⟩:aM):aM):List aM) λx31=>.ge 1018006 0<|.bI 75 (bA (y5_1-y6_1)) λx32=>.bI 76 (bA (y5_2+1)) λx33=>.brk ((x32:Int),x33,x31)))) (.esc (.brk y5_3))) q0)) (λy7_1=>.jF 79 (PO n a1 (⟨y7_1,a2.bR⟩:aT)) aHY aCZ (λ_=>rfl) λx34=>.bB 80 (!x34) λx35=>.ifs [80] x35 (.ret ((a2:aT),2)) (.ret (((⟨y7_1,a2.bR⟩:aT):aT),0))))))))
def aBE (n:Nat) (a1:Int) (a2:aT) (a3:Int):Option (aT×Int):=(aPF n a1 a2 a3).run
theorem aSZ {n a1 a2 a3}:PZ (aBE n a1 a2 a3) 189 [int a1,.agg (aT.av a2),int a3] (λr=>.bD [.agg (aT.av r.1),int r.2]):=by
 refine wm Tryz.func189 ?_
 intro v4
 intro v5
 refine .mk ?_ ?_
 intro v6
 intro v7
 refine .mk ?_
 refine .mk λp8=>?_
 refine .mk _ ⟨λ_=>eO rfl rfl (.cons rfl .nil) xI (jD (yA.pc (id:=5) (l:=a2.bJ) rfl p8) (.cons (.refl _) .nil)),by rintro _ _ ⟨v9,rfl,rfl⟩;exact ⟨rfl,trivial⟩⟩ ?_
 rintro _ _ ⟨v9,rfl,rfl⟩
 refine .mk ?_ ?_
 intro v10
 intro v11
 exact .mk
 intro _ _
 refine .mk trivial ?_
 exact .mk
 intro _ _
 refine .mk trivial ?_
 refine .mk ?_ ?_
 refine .mk λx12=>?_
 refine .mk .mk ?_
 refine .mk λx13=>?_
 exact .mk
 intro _ _
 refine .mk ?_ ?_
 exact .mk (bT.bD (.cons (bT.agg (.cons (dZ rfl rfl rfl rfl rfl (Eq.symm rfl)) (.cons (.refl _) (.cons (.refl _) (.cons (.refl _) .nil))))) (.cons (.refl _) .nil)))
 refine .mk λx14=>?_
 refine .mk ?_ ?_
 exact .mk (bT.bD (.cons (bT.agg (.cons (dZ rfl rfl rfl rfl rfl (Eq.symm rfl)) (.cons (.refl _) (.cons (.refl _) (.cons (.refl _) .nil))))) (.cons (.refl _) .nil)))
 refine .mk ?_ ?_
 intro v15
 intro v16
 refine .mk ?_
 refine .mk λp17=>?_
 refine .mk _ ⟨λ_=>bY.jK 5 rfl (eO rfl rfl (.cons rfl .nil) xI (jD (yA.pc (id:=10) (l:=a2.bJ) rfl p17) (.cons (dZ rfl rfl rfl rfl rfl (Eq.symm rfl)) .nil))),by rintro _ _ ⟨v18,rfl,rfl⟩;exact ⟨rfl,trivial⟩⟩ ?_
 rintro _ _ ⟨v18,rfl,rfl⟩
 refine .mk ?_ ?_
 intro v19
 intro v20
 exact .mk
 intro _ _
 refine .mk trivial ?_
 exact .mk
 intro _ _
 refine .mk trivial ?_
 intro v21
 refine .mk (λx22 e22=>?_) rfl (by rintro _ rfl;exact (.cons (bT.agg (.cons (dZ rfl rfl rfl rfl rfl (Eq.symm rfl)) (.cons (.refl _) (.cons (.refl _) (.cons (.refl _) .nil))))) .nil))
 refine .mk ?_ ?_
 refine .mk ?_
 rintro ⟨y5_1,y5_2,y5_3⟩ _
 refine .mk λx23=>?_
 refine .mk ?_ ?_
 refine .mk λx24 e24=>?_
 refine .mk _ (bK (eY rfl Tryz.underlying57 kD rfl rfl rfl rfl rfl (Eq.symm rfl) (List.length_map _) e24)) ?_
 refine .mk _ (bK (fU rfl kD rfl (.pt rfl rfl (dN e24)) rfl)) ?_
 intro v25
 refine .mk λx26=>?_
 refine .mk λx27=>?_
 refine .mk ?_ ?_
 refine .mk ?_ ?_
 refine .mk λx28 e28=>?_
 exact .mk
 exact .mk
 intro _ _
 refine .mk λx29 e29=>?_
 refine .mk λx30=>?_
 refine .mk ?_ ?_
 exact .mk (bT.bD (.cons (bT.agg (.cons (dZ rfl rfl rfl rfl rfl (Eq.symm rfl)) (.cons (.refl _) (.cons (.refl _) (.cons (.refl _) .nil))))) (.cons (.refl _) .nil)))
 refine .mk _ (bK (eY rfl Tryz.underlying57 kD rfl rfl rfl rfl rfl (Eq.symm rfl) (List.length_map _) e24)) ?_
 refine .mk _ (bK (fZ rfl xE rfl (.pt rfl rfl (dN e24)) (.pt _ _ _ _ _))) ?_
 refine .mk λx31 e31=>?_
 have fx31:=iE e24 e31;have lx31:=iD e31 (rfl:y5_3.length=y5_3.length)
 refine .mk _ ⟨λ_=>bY.eX (fH (ob':=(⟨38,3,true,true,_,x31.map aM.av⟩:bH)) (fC rfl dP rfl rfl rfl rfl rfl (dN e24) rfl rfl rfl) (iC (jB e31))) (λ_ h=>h) (λ_ _=>trivial),λ_ _ _=>trivial⟩ ?_
 rintro _ _ ⟨rfl,rfl⟩
 refine .mk λx32=>?_
 refine .mk λx33=>?_
 exact .mk ⟨⟨⟨_,rfl,(.refl _)⟩,⟨_,rfl,(kJ (Eq.symm lx31))⟩,⟨_,rfl,(.refl _)⟩,⟨_,rfl,(.refl _)⟩,⟨_,rfl,(.refl _)⟩,⟨_,rfl,(.refl _)⟩,⟨_,rfl,(.refl _)⟩,⟨_,rfl,(.refl _)⟩,⟨_,rfl,(.refl _)⟩,⟨_,rfl,(.refl _)⟩,⟨_,rfl,(.refl _)⟩,⟨_,rfl,(.refl _)⟩,trivial⟩,⟨⟨_,rfl,(.refl _)⟩,⟨_,rfl,⟨rfl,(.cons (.cons (kJ (Eq.symm lx31)) (.cons (.refl _) (.cons (.refl _) (.cons (.refl _) .nil)))) .nil)⟩⟩,⟨_,rfl,(.refl _)⟩,⟨_,rfl,(.refl _)⟩,⟨_,rfl,(.refl _)⟩,trivial⟩⟩
 exact .mk
 intro _ _
 refine .mk (λx34 e34=>?_) rfl (by rintro _ rfl;exact (.cons (.refl _) (.cons (bT.agg (.cons (dZ rfl rfl rfl rfl rfl (Eq.symm rfl)) (.cons (.refl _) (.cons (.refl _) (.cons (.refl _) .nil))))) .nil)))
 refine .mk λx35=>?_
 refine .mk ?_ ?_
 exact .mk (bT.bD (.cons (bT.agg (.cons (dZ rfl rfl rfl rfl rfl (Eq.symm rfl)) (.cons (.refl _) (.cons (.refl _) (.cons (.refl _) .nil))))) (.cons (.refl _) .nil)))
 exact .mk (bT.bD (.cons (bT.agg (.cons (dZ rfl rfl rfl rfl rfl (Eq.symm rfl)) (.cons (.refl _) (.cons (.refl _) (.cons (.refl _) .nil))))) (.cons (.refl _) .nil)))
def aLB (n:Nat) (a1:aA) (a2:dH) (a3:Int):WB (aA×Int×Int) :=
 .al 1<|.al 2<|.al 3<|.cl 22 (nW a1 a2.fG a2.Item) pE pG λx7=>.bB 24 (decide (x7≠0)) λx8=>.ifs [24] x8 (.ret ((a1:aA),0,x7)) (.dr [(0,[1]),(1,[1]),(2,[1]),(3,[2]),(4,[2]),(7,[2]),(8,[2])] [] [1,2] [] [0,1,2,3,4,5,6,7,8,9,10,11] (.ix 32 (fL 1 fI) a1.bF.Methods a2.fG λx9=>.ix 36 fI x9 a2.Item λx10=>.cl 45 (uQ a1 a2.fG a2.Item a2.Loc) G8 EI λx11=>.al 4<|.bB 47 (decide (x10≠4)) λx13=>.ifs [47] x13 (.dr [(1,[2]),(2,[2]),(3,[2]),(4,[2]),(6,[4]),(10,[2]),(11,[2])] [] [2,4] [] [0,1,2,3,4,5,6,7,8,9,10,11,12,13] (.bI 53 (bA (a2.aS-a2.jJ)) λx14=>.cl 55 (vM n x11) yG yL λx15=>.bl (if x15.aS<x14 then x15.aS else x14:Int) λx16=>.gv 57<|.cl 60 (oO n a3 x16 a2.aS) qZ rR λx17=>.bB 62 (decide (x17>0)) λx18=>.ifs [62] x18 (.cl 67 (aBE n x10 x11 x17) aN9 aSZ λx19=>.al 5<|.bB 71 (decide (x19.2≠0)) λx21=>.ifs [71] x21 (.ret ((a1:aA),0,x19.2)) (.as (a1.aW.length<=68719476736) inferInstance<|.ge 76 6<|.bo (ix a1.aW a2.fG) λx24=>.gv 82<|.gv 85<|.gv 86<|.gv 87<|.as (x24.cK.length<=68719476736) inferInstance<|.ge 88 7<|.gv 89<|.gv 90<|.ge 1015008 0<|.dr [(1,[6]),(2,[6]),(3,[6]),(4,[2]),(5,[2]),(7,[2]),(8,[2]),(10,[5]),(11,[7])] [(12,[])] [2,5,6,7] [12] [0,1,2,3,4,5,6,7,8,9,10,11,12] (.gv 92<|.gv 93<|.gv 94<|.bI 97 (bA (a2.Item*2)) λx27=>.bI 100 (bA (x27+a2.Loc)) λx28=>.bo (ix x24.cK x28) λx29=>.gv 102<|.bl (x24.cK.set (Int.toNat x28) x19.1:List aT) λx30=>.ge 1016012 0<|.jK 6<|.jK 7<|.cl 111 (nZ (⟨a1.bF,(a1.aW.set (Int.toNat a2.fG) (⟨x24.fD,x24.Closed,x30,x24.dM,x24.d9,x24.eH,x24.Down,x24.gK⟩:aP)),a1.dG,a1.dO,a1.bL,a1.Done⟩:aA) a2.fG a2.Item (⟨0,0,x17,0,0,0,0,0,0,0,0⟩:dL)) tJ tT λx31=>.ret ((x31.1:aA),x17,x31.2)))) (.cl 111 (nZ a1 a2.fG a2.Item (⟨0,0,x17,0,0,0,0,0,0,0,0⟩:dL)) tJ tT λx32=>.ret ((x32.1:aA),x17,x32.2)))) (.kB 62 false<|.cl 111 (nZ a1 a2.fG a2.Item (⟨0,0,0,0,0,0,0,0,0,0,0⟩:dL)) tJ tT λx33=>.ret ((x33.1:aA),0,x33.2))))
def YX (n:Nat) (a1:aA) (a2:dH) (a3:Int):Option (aA×Int×Int):=(aLB n a1 a2 a3).run
theorem aOA {n a1 a2 a3}:PZ (YX n a1 a2 a3) 145 [.agg (aA.av a1),.agg (dH.av a2),int a3] (λr=>.bD [.agg (aA.av r.1),int r.2.1,int r.2.2]):=wq Tryz.func145
def aNX (a1:Int) (a2:Int):WB (aQ) :=
 .al 1<|.ret (((⟨a1,a2⟩:aQ):aQ))
def J4 (a1:Int) (a2:Int):Option (aQ):=(aNX a1 a2).run
theorem TH {a1 a2}:PZ (J4 a1 a2) 146 [int a1,int a2] (λr=>.agg (aQ.av r)):=wq Tryz.func146
end
end Go.Pv
