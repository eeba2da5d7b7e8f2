import Derived.Test.YtfamehgkphejnaaGreatXTi
set_option linter.unusedVariables false
set_option linter.unusedSimpArgs false
namespace Go.Pv
open Go.Proofs
set_option maxRecDepth 100000
set_option maxHeartbeats 4000000
noncomputable section
def WU (n:Nat) (a1:aA) (a2:aS):WB (aA×Int) :=
 .al 1<|.al 2<|.al 3<|.al 4<|.dF 3 [2,3,4,5,6] [1,3] [] (λ_ (a:aS×bS)=>[]) (λ_ a=>[.kp 2 [(aS.av a.1)],.kp 4 [[int a.2.dG,int a.2.Item,int a.2.Loc,int a.2.aQ,int a.2.fF,int a.2.qV,int a.2.bO,int a.2.jW,aF a.2.jY]]]) (.bB 13 (decide (a2.Kind=5)) λx7=>.ifs [13] x7 (.jn 2 [2,3,4,5,6] [1,2,3,4] [] (λ_ (a:Bool)=>[(26,aF a)]) (λ_ _=>[]) (.bB 18 (decide (a2.Ref<0)) λx8=>.ifs [18] x8 (.ret true) (.ln 24 bS.av a1.bU<|.bB 25 (decide (a2.Ref>=(a1.bU.length:Int))) λx9=>.ret x9)) (λy0_1=>.ifs [26] y0_1 (.esc (.ret ((a1:aA),4))) (.ix 32 bS.av a1.bU a2.Ref λx10=>.dr [(0,[4]),(1,[4]),(2,[4]),(3,[4]),(4,[4]),(5,[4]),(6,[2]),(8,[2]),(10,[2])] [(7,[4]),(9,[4]),(11,[])] [2,4] [7,9,11] [0,1,2,3,4,5,6,7,8,9,10,11] (.brk (((⟨a2.Kind,x10.dG,x10.Item,x10.Loc,a2.To,a2.aQ,a2.bD,a2.Ref,a2.bT⟩:aS):aS),x10))))) (.bB 15 (decide (a2.Kind=4)) λx11=>.ifs [15] x11 (.brk ((a2:aS),((⟨0,0,0,0,0,0,0,0,false⟩:bS):bS))) (.esc (.ret ((a1:aA),1))))) (pw λy1_1 y1_2=>.cl 48 (lH a1 y1_1.E y1_1.Item) l8 mU λx12=>.bB 50 (decide (x12≠0)) λx13=>.ifs [50] x13 (.ret ((a1:aA),x12)) (.al 5<|.jn 0 [2,4,5,8] [1,3] [] (λ_ (a:Int×aA)=>[(9,int a.1)]) (λ_ a=>[.kp 5 [(aA.av a.2)]]) (.bB 65 (decide (y1_1.Kind=4)) λx15=>.ifs [65] x15 (.cl 69 (OX n a1 y1_1) zM aHA λx16=>.ret ((x16.2:Int),x16.1)) (.bI 79 (aI (y1_2.aQ-y1_2.fF)) λx17=>.bB 80 (decide (y1_1.aQ>x17)) λx18=>.ifs [80] x18 (.ret ((5:Int),a1)) (.jn 1 [2,3,4,5,6,8,9] [1,2,3,4,5] [] (λ_ (a:Bool)=>[(81,aF a)]) (λ_ _=>[]) (.dr [(0,[4]),(1,[4]),(3,[4]),(4,[4]),(5,[1]),(6,[1]),(7,[2]),(8,[2])] [] [1,2,4] [] [0,1,2,3,4,5,6,7,8,9,10,11,12,13,14] (.bB 84 (y1_2.jY) λx19=>.ifs [84] x19 (.gI 91 aP.av gE aP.bW a1.aW y1_1.E λx20=>.bB 94 (decide (y1_2.jW=x20.Now)) λx21=>.ret x21) (.ret false))) (λy2_1=>.ifs [81] y2_1 (.cl 99 (a5M n a1 y1_1) C4 aMZ λx22=>.ret ((x22.2:Int),x22.1)) (.cl 59 (NA n a1 y1_1 y1_2) VP aET λx23=>.ret ((x23.2:Int),x23.1)))))) (pw λy3_1 y3_2=>.bB 103 (decide (y3_1≠0)) λx24=>.ifs [103] x24 (.ret ((a1:aA),y3_1)) (.ret ((y3_2:aA),0)))))
def N7 (n:Nat) (a1:aA) (a2:aS):Option (aA×Int):=(WU n a1 a2).run
theorem aOK {n a1 a2}:PZ (N7 n a1 a2) 59 [.agg (aA.av a1),.agg (aS.av a2)] (λr=>.aU [.agg (aA.av r.1),int r.2]):=wq Tryz.func59
def aNK (n:Nat) (a1:bH) (a2:Int):WB (Int) :=
 .al 1<|.cl 10 (mX n a1.Value a2 a1.aQ) aKR nU λx4=>.ret ((x4:Int))
def OV (n:Nat) (a1:bH) (a2:Int):Option (Int):=(aNK n a1 a2).run
theorem aMQ {n a1 a2}:PZ (OV n a1 a2) 163 [.agg (bH.av a1),int a2] int:=wq Tryz.func163
def aI4 (n:Nat) (a1:bH) (a2:Int):WB (Int) :=
 .al 1<|.bB 8 (decide (a2=a1.Open)) λx4=>.ifs [8] x4 (.ret ((a1.jV:Int))) (.cl 16 (mX n a1.jV a2 a1.Open) aKR nU λx5=>.ret ((x5:Int)))
def PW (n:Nat) (a1:bH) (a2:Int):Option (Int):=(aI4 n a1 a2).run
theorem aB1 {n a1 a2}:PZ (PW n a1 a2) 197 [.agg (bH.av a1),int a2] int:=wq Tryz.func197
def aKF (n:Nat) (a1:bH) (a2:Int):WB (Int) :=
 .al 1<|.cl 10 (PW n a1 a2) aCX aB1 λx4=>.ret ((x4:Int))
def GA (n:Nat) (a1:bH) (a2:Int):Option (Int):=(aKF n a1 a2).run
theorem TY {n a1 a2}:PZ (GA n a1 a2) 161 [.agg (bH.av a1),int a2] int:=wq Tryz.func161
def aCV (a1:Int) (a2:Int):WB (aH) :=
 .al 1<|.ret (((⟨a1,a2⟩:aH):aH))
def rU (a1:Int) (a2:Int):Option (aH):=(aCV a1 a2).run
theorem vR {a1 a2}:PZ (rU a1 a2) 162 [int a1,int a2] (λr=>.agg (aH.av r)):=wq Tryz.func162
def aI0 (n:Nat) (a1:aA) (a2:aS):WB (aA×Int) :=
 .al 1<|.al 2<|.al 3<|.jn 0 [2,3,4,5] [1,2,3] [] (λ_ (a:Bool)=>[(18,aF a)]) (λ_ _=>[]) (.bB 13 (decide (a2.Kind≠2)) λx6=>.ifs [13] x6 (.bB 17 (decide (a2.Kind≠3)) λx7=>.ret x7) (.ret false)) (λy0_1=>.ifs [18] y0_1 (.ret ((a1:aA),1)) (.jn 1 [2,3,4,5] [1,2,3] [] (λ_ (a:Bool)=>[(30,aF a)]) (λ_ _=>[]) (.bB 22 (decide (a2.Ref<0)) λx8=>.ifs [22] x8 (.ret true) (.ln 28 bH.av a1.bP<|.bB 29 (decide (a2.Ref>=(a1.bP.length:Int))) λx9=>.ret x9)) (λy1_1=>.ifs [30] y1_1 (.ret ((a1:aA),4)) (.ix 36 bH.av a1.bP a2.Ref λx10=>.al 4<|.cl 43 (lH a1 x10.dG x10.Item) l8 mU λx12=>.bB 45 (decide (x12≠0)) λx13=>.ifs [45] x13 (.ret ((a1:aA),x12)) (.bB 50 (decide (a2.Kind=3)) λx14=>.ifs [50] x14 (.inl 55 ZZ Tryz.func109 [1,2,3] [] (λ_ (a:aA×Int×bH)=>.aU [.agg (aA.av a.1),int a.2.1]) (λ_ a=>[.kp 4 [[int a.2.2.dG,int a.2.2.Item,int a.2.2.Loc,int a.2.2.aQ,int a.2.2.Value,int a.2.2.Open,int a.2.2.jV,int a.2.2.fF]]]) (.al 5<|.al 6<|.al 7<|.dr [(0,[6]),(1,[6]),(3,[4]),(4,[4]),(5,[4]),(7,[4]),(8,[4]),(9,[4])] [] [4,6] [] [0,1,2,3,4,5,6,7,8,9,10,11,12] (.bI 24 (aI (x10.aQ-x10.fF)) λx18=>.bB 25 (decide (a2.aQ>x18)) λx19=>.ifs [25] x19 (.ret ((a1:aA),5,x10)) (.jn 1 [2,3,4,6,7] [1,2,3,4,5,6,7] [] (λ_ (a:Bool)=>[(27,aF a)]) (λ_ _=>[]) (.dr [(1,[4]),(2,[4]),(3,[4]),(7,[4]),(8,[4]),(9,[4]),(10,[6]),(11,[6])] [] [4,6] [] [0,1,2,3,4,5,6,7,8,9,10,11,12,13,14] (.bB 32 (decide (x10.Open>0)) λx20=>.ifs [32] x20 (.bB 40 (decide (x10.Open<a2.aQ)) λx21=>.ret x21) (.ret false))) (λy2_1=>.ifs [27] y2_1 (.ret ((a1:aA),9,x10)) (.dr [(0,[5]),(2,[4]),(3,[4]),(4,[4]),(6,[4]),(7,[4]),(8,[4]),(10,[4]),(11,[4]),(12,[4]),(13,[6]),(14,[6])] [(22,[]),(23,[])] [4,5,6] [21,22,23] [0,1,2,3,4,5,6,7,8,9,10,11,12,13,14,15,16,17,18,19,20,21,22,23,24,25] (.cl 59 (rR n a1 x10.dG x10.Item x10.Loc 3 a2.aQ) aA0 wP λx22=>.al 8<|.bB 9 (x22.2.2.1) λx24=>.bB 65 (decide (x22.2.2.2≠0)) λx25=>.ifs [65] x25 (.ret ((x22.1:aA),x22.2.2.2,x10)) (.dr [(1,[4]),(2,[4]),(3,[6]),(4,[6])] [] [4,6] [] [0,1,2,3,4,5,6,7] (.cl 73 (OV n x10 a2.aQ) z8 aMQ λx26=>.bB 78 (decide (x10.Open>0)) λx27=>.jn 0 [2,3,4,6,7,8] [1,2,3,5,6,7,8] [] (λ_ (a:Int×Int×bH)=>[(11,int a.1),(12,int a.2.1)]) (λ_ a=>[.kp 4 [[int a.2.2.dG,int a.2.2.Item,int a.2.2.Loc,int a.2.2.aQ,int a.2.2.Value,int a.2.2.Open,int a.2.2.jV,int a.2.2.fF]]]) (.ifs [78] x27 (.dr [(1,[4]),(2,[4]),(3,[6]),(4,[6])] [] [4,6] [] [0,1,2,3,4,5,6,7] (.cl 84 (GA n x10 a2.aQ) PO TY λx28=>.dr [(3,[4]),(4,[4]),(5,[4]),(6,[6]),(7,[6]),(10,[4]),(11,[4]),(12,[4]),(15,[4]),(16,[4]),(18,[4]),(19,[4])] [(17,[]),(20,[])] [4,6] [17,20] [0,1,2,3,4,5,6,7,8,9,10,11,12,13,14,15,16,17,18,19,20] (.bI 93 (aI (x10.Open-a2.aQ)) λx29=>.bI 99 (aI (x10.jV-x28)) λx30=>.ret ((x28:Int),1,((⟨x10.dG,x10.Item,x10.Loc,x10.aQ,x10.Value,x29,x30,x10.fF⟩:bH):bH))))) (.ret ((x26:Int),2,x10))) (pw λy3_1 q0=>(pw λy3_2 y3_3=>.dr [(1,[4]),(2,[4]),(3,[4]),(4,[6]),(5,[6]),(7,[4]),(8,[4])] [(9,[])] [4,6] [9] [0,1,2,3,4,5,6,7,8,9] (.bI 110 (aI (y3_3.fF+a2.aQ)) λx31=>.dr [(0,[5]),(2,[4]),(3,[4]),(4,[4]),(8,[8]),(9,[8]),(13,[8]),(14,[8])] [(22,[])] [4,5,8] [22] [0,1,2,3,4,5,6,7,8,9,10,11,12,13,14,15,16,17,18,19,20,21,22,23] (.cl 121 (rU y3_2 y3_1) kQ vR λx32=>.bI 125 (aI (x22.2.1.Value-y3_1)) λx33=>.cl 126 (rU 6 x33) kQ vR λx34=>.bI 129 (aI (0-x22.2.1.Value)) λx35=>.cl 130 (rU 0 x35) kQ vR λx36=>.to 131 (aD 2 aH.av ([x32,x34,x36]:List aH))<|.cl 132 (oN n x22.1 y3_3.dG ([x32,x34,x36]:List aH)) sH qN λx37=>.bB 136 (decide (x37.2≠0)) λx38=>.ifs [136] x38 (.ret ((x37.1:aA),x37.2,((⟨y3_3.dG,y3_3.Item,y3_3.Loc,y3_3.aQ,y3_3.Value,y3_3.Open,y3_3.jV,x31⟩:bH):bH))) (.dr [(0,[5]),(2,[4]),(3,[4]),(4,[4]),(6,[4]),(7,[4]),(8,[4]),(9,[8]),(10,[8])] [(15,[])] [4,5,8] [15] [0,1,2,3,4,5,6,7,8,9,10,11,12,13,14,15,16] (.cl 151 (qD x37.1 y3_3.dG y3_3.Item (⟨0,0,0,0,0,0,0,x22.2.1.Value,0,0,0⟩:bM)) MQ sO λx39=>.ret ((x39.1:aA),x39.2,((⟨y3_3.dG,y3_3.Item,y3_3.Loc,y3_3.aQ,y3_3.Value,y3_3.Open,y3_3.jV,x31⟩:bH):bH))))))) q0))))))))) (pw λy4_1 q0=>(pw λy4_2 y4_3=>.al 9<|.bB 59 (decide (y4_2≠0)) λx41=>.ifs [59] x41 (.ret ((a1:aA),y4_2)) (.as (y4_1.bP.length<=68719476736) inferInstance<|.ge 64 10<|.bo (ix y4_1.bP a2.Ref) λx44=>.gv 71<|.bl (y4_1.bP.set (Int.toNat a2.Ref) y4_3:List bH) λx45=>.ge 1016006 0<|.ret (((⟨y4_1.bA,y4_1.aW,x45,y4_1.bU,y4_1.bY,y4_1.Done⟩:aA):aA),0))) q0)) (.inl 55 aE1 Tryz.func108 [1,2,3] [] (λ_ (a:aA×Int×bH)=>.aU [.agg (aA.av a.1),int a.2.1]) (λ_ a=>[.kp 4 [[int a.2.2.dG,int a.2.2.Item,int a.2.2.Loc,int a.2.2.aQ,int a.2.2.Value,int a.2.2.Open,int a.2.2.jV,int a.2.2.fF]]]) (.al 11<|.al 12<|.al 13<|.dr [(0,[12]),(1,[12]),(3,[4]),(4,[4]),(5,[4])] [] [4,12] [] [0,1,2,3,4,5,6] (.bB 16 (decide (a2.aQ>x10.Open)) λx49=>.ifs [16] x49 (.ret ((a1:aA),5,x10)) (.dr [(1,[4]),(2,[4]),(3,[12]),(4,[12])] [] [4,12] [] [0,1,2,3,4,5,6] (.cl 23 (GA n x10 a2.aQ) PO TY λx50=>.dr [(0,[11]),(2,[4]),(3,[4]),(4,[4]),(7,[12]),(8,[12]),(12,[12]),(13,[12])] [(21,[])] [4,11,12] [21] [0,1,2,3,4,5,6,7,8,9,10,11,12,13,14,15,16,17,18,19,20,21,22] (.cl 31 (rU 1 x50) kQ vR λx51=>.bI 35 (aI (a2.bD-x50)) λx52=>.cl 36 (rU 6 x52) kQ vR λx53=>.bI 39 (aI (0-a2.bD)) λx54=>.cl 40 (rU 2 x54) kQ vR λx55=>.to 41 (aD 2 aH.av ([x51,x53,x55]:List aH))<|.cl 42 (oN n a1 x10.dG ([x51,x53,x55]:List aH)) sH qN λx56=>.dr [(3,[4]),(4,[4]),(5,[4]),(6,[12]),(7,[12]),(10,[4]),(11,[4]),(12,[4]),(15,[4]),(16,[4]),(18,[4]),(19,[4])] [(17,[]),(20,[])] [4,12] [17,20] [0,1,2,3,4,5,6,7,8,9,10,11,12,13,14,15,16,17,18,19,20] (.bI 53 (aI (x10.Open-a2.aQ)) λx57=>.bI 59 (aI (x10.jV-x50)) λx58=>.ret ((x56.1:aA),x56.2,((⟨x10.dG,x10.Item,x10.Loc,x10.aQ,x10.Value,x57,x58,x10.fF⟩:bH):bH)))))))) (pw λy4_1 q0=>(pw λy4_2 y4_3=>.al 9<|.bB 59 (decide (y4_2≠0)) λx60=>.ifs [59] x60 (.ret ((a1:aA),y4_2)) (.as (y4_1.bP.length<=68719476736) inferInstance<|.ge 64 10<|.bo (ix y4_1.bP a2.Ref) λx63=>.gv 71<|.bl (y4_1.bP.set (Int.toNat a2.Ref) y4_3:List bH) λx64=>.ge 1016006 0<|.ret (((⟨y4_1.bA,y4_1.aW,x64,y4_1.bU,y4_1.bY,y4_1.Done⟩:aA):aA),0))) q0)))))))
def SA (n:Nat) (a1:aA) (a2:aS):Option (aA×Int):=(aI0 n a1 a2).run
theorem ZB {n a1 a2}:PZ (SA n a1 a2) 61 [.agg (aA.av a1),.agg (aS.av a2)] (λr=>.aU [.agg (aA.av r.1),int r.2]):=wq Tryz.func61
def aWX (n:Nat) (a1:Int) (a2:aM):WB (Bool) :=
 .al 1<|.inl 10 aAT Tryz.func174 [1] [] (B:=(Unit)⊕(Unit)⊕(Unit)⊕(Unit)⊕(Unit)) (λu2=>Sum.elim (λa=>.dW 259 (.agg [])) (Sum.elim (λa=>.dW 260 (.agg [])) (Sum.elim (λa=>.dW 261 (.agg [])) (Sum.elim (λa=>.dW 263 (.agg [int 0])) (λa=>.sc .nilIface))))) (λu2=>Sum.elim (λa=>[]) (Sum.elim (λa=>[]) (Sum.elim (λa=>[]) (Sum.elim (λa=>[]) (λa=>[]))))) (.bB 7 (decide (a1=1)) λx4=>.ifs [7] x4 (.gv 9<|.ret (.inl ())) (.bB 11 (decide (a1=2)) λx5=>.ifs [11] x5 (.gv 13<|.ret (.inr (.inl ()))) (.bB 15 (decide (a1=3)) λx6=>.ifs [15] x6 (.gv 17<|.ret (.inr (.inr (.inl ())))) (.bB 19 (decide (a1=4)) λx7=>.ifs [19] x7 (.gv 22<|.ret (.inr (.inr (.inr (.inl ()))))) (.ret (.inr (.inr (.inr (.inr ()))))))))) (Sum.elim (λ_=>.jn 0 [3,4,5] [1] [] (λ_ (a:Bool)=>[(28,aF a)]) (λ_ _=>[]) (.gv 12<|.cl 16 (L5 n a2.cO) YS aN0 λx8=>.bB 17 (!x8) λx9=>.ifs [17] x9 (.ret true) (.bB 21 (decide (a1≠1)) λx10=>.ifs [21] x10 (.ln 25 aB.av a2.cO<|.bB 26 (decide ((a2.cO.length:Int)>1)) λx11=>.ret x11) (.ret false))) (λy5_1=>.ifs [28] y5_1 (.ret ((false:Bool))) (.cl 30 (IZ n a2) aBS T7 λx12=>.dF 1 [4] [] [] (λ_ (a:Unit)=>[]) (λ_ _=>[]) (.lp [4,5,33] [] [] (λ_ (a:Int×Int)=>[(6,int a.1),(34,int a.2)]) (λ_ _=>[]) n ((x12.aQ:Int),0) (pw λy6_1 y6_2=>.bB 35 (decide (y6_2<3)) λx13=>.ifs [35] x13 (.bo (ix ([a2.bF.a0,a2.bF.a1,a2.bF.a2]:List Int) y6_2) λx14=>.gv 36<|.jn 0 [4,5,6,8,33,34] [] [] (λ_ (a:Bool)=>[(52,aF a)]) (λ_ _=>[]) (.bB 38 (decide (x14<0)) λx15=>.ifs [38] x15 (.ret true) (.bB 42 (decide (x14>y6_1)) λx16=>.ifs [42] x16 (.ret true) (.bB 46 (decide (x14>0)) λx17=>.ifs [46] x17 (.inl 49 AT Tryz.func176 [] [] (λ_ (a:Unit)=>aF false) (λ_ _=>[]) (.gv 7<|.al 2<|.ret ()) (λ_=>.ret true)) (.ret false)))) (λy8_1=>.ifs [52] y8_1 (.esc (.esc (.ret ((false:Bool))))) (.bI 55 (aI (y6_1-x14)) λx19=>.bI 56 (aI (y6_2+1)) λx20=>.brk ((x19:Int),x20)))) (.esc (.brk ())))) (λ_=>.ret ((true:Bool)))))) (Sum.elim (λ_=>.jn 0 [3,4,5] [1] [] (λ_ (a:Bool)=>[(28,aF a)]) (λ_ _=>[]) (.gv 12<|.cl 16 (L5 n a2.cO) YS aN0 λx21=>.bB 17 (!x21) λx22=>.ifs [17] x22 (.ret true) (.bB 21 (decide (a1≠1)) λx23=>.ifs [21] x23 (.ln 25 aB.av a2.cO<|.bB 26 (decide ((a2.cO.length:Int)>1)) λx24=>.ret x24) (.ret false))) (λy5_1=>.ifs [28] y5_1 (.ret ((false:Bool))) (.cl 30 (IZ n a2) aBS T7 λx25=>.dF 1 [4] [] [] (λ_ (a:Unit)=>[]) (λ_ _=>[]) (.lp [4,5,33] [] [] (λ_ (a:Int×Int)=>[(6,int a.1),(34,int a.2)]) (λ_ _=>[]) n ((x25.aQ:Int),0) (pw λy6_1 y6_2=>.bB 35 (decide (y6_2<3)) λx26=>.ifs [35] x26 (.bo (ix ([a2.bF.a0,a2.bF.a1,a2.bF.a2]:List Int) y6_2) λx27=>.gv 36<|.jn 0 [4,5,6,8,33,34] [] [] (λ_ (a:Bool)=>[(52,aF a)]) (λ_ _=>[]) (.bB 38 (decide (x27<0)) λx28=>.ifs [38] x28 (.ret true) (.bB 42 (decide (x27>y6_1)) λx29=>.ifs [42] x29 (.ret true) (.bB 46 (decide (x27>0)) λx30=>.ifs [46] x30 (.inl 49 AT Tryz.func176 [] [] (λ_ (a:Unit)=>aF false) (λ_ _=>[]) (.gv 7<|.al 2<|.ret ()) (λ_=>.ret true)) (.ret false)))) (λy8_1=>.ifs [52] y8_1 (.esc (.esc (.ret ((false:Bool))))) (.bI 55 (aI (y6_1-x27)) λx32=>.bI 56 (aI (y6_2+1)) λx33=>.brk ((x32:Int),x33)))) (.esc (.brk ())))) (λ_=>.ret ((true:Bool)))))) (Sum.elim (λ_=>.jn 0 [3,4,5] [1] [] (λ_ (a:Bool)=>[(28,aF a)]) (λ_ _=>[]) (.gv 12<|.cl 16 (L5 n a2.cO) YS aN0 λx34=>.bB 17 (!x34) λx35=>.ifs [17] x35 (.ret true) (.bB 21 (decide (a1≠1)) λx36=>.ifs [21] x36 (.ln 25 aB.av a2.cO<|.bB 26 (decide ((a2.cO.length:Int)>1)) λx37=>.ret x37) (.ret false))) (λy5_1=>.ifs [28] y5_1 (.ret ((false:Bool))) (.cl 30 (IZ n a2) aBS T7 λx38=>.dF 1 [4] [] [] (λ_ (a:Unit)=>[]) (λ_ _=>[]) (.lp [4,5,33] [] [] (λ_ (a:Int×Int)=>[(6,int a.1),(34,int a.2)]) (λ_ _=>[]) n ((x38.aQ:Int),0) (pw λy6_1 y6_2=>.bB 35 (decide (y6_2<3)) λx39=>.ifs [35] x39 (.bo (ix ([a2.bF.a0,a2.bF.a1,a2.bF.a2]:List Int) y6_2) λx40=>.gv 36<|.jn 0 [4,5,6,8,33,34] [] [] (λ_ (a:Bool)=>[(52,aF a)]) (λ_ _=>[]) (.bB 38 (decide (x40<0)) λx41=>.ifs [38] x41 (.ret true) (.bB 42 (decide (x40>y6_1)) λx42=>.ifs [42] x42 (.ret true) (.bB 46 (decide (x40>0)) λx43=>.ifs [46] x43 (.inl 49 AT Tryz.func176 [] [] (λ_ (a:Unit)=>aF true) (λ_ _=>[]) (.gv 7<|.al 2<|.ret ()) (λ_=>.ret false)) (.ret false)))) (λy8_1=>.ifs [52] y8_1 (.esc (.esc (.ret ((false:Bool))))) (.bI 55 (aI (y6_1-x40)) λx45=>.bI 56 (aI (y6_2+1)) λx46=>.brk ((x45:Int),x46)))) (.esc (.brk ())))) (λ_=>.ret ((true:Bool)))))) (Sum.elim (λ_=>.jn 0 [3,4,5] [1] [] (λ_ (a:Bool)=>[(28,aF a)]) (λ_ _=>[]) (.gv 12<|.cl 16 (L5 n a2.cO) YS aN0 λx47=>.bB 17 (!x47) λx48=>.ifs [17] x48 (.ret true) (.bB 21 (decide (a1≠1)) λx49=>.ifs [21] x49 (.ln 25 aB.av a2.cO<|.bB 26 (decide ((a2.cO.length:Int)>1)) λx50=>.ret x50) (.ret false))) (λy5_1=>.ifs [28] y5_1 (.ret ((false:Bool))) (.cl 30 (IZ n a2) aBS T7 λx51=>.dF 1 [4] [] [] (λ_ (a:Unit)=>[]) (λ_ _=>[]) (.lp [4,5,33] [] [] (λ_ (a:Int×Int)=>[(6,int a.1),(34,int a.2)]) (λ_ _=>[]) n ((x51.aQ:Int),0) (pw λy6_1 y6_2=>.bB 35 (decide (y6_2<3)) λx52=>.ifs [35] x52 (.bo (ix ([a2.bF.a0,a2.bF.a1,a2.bF.a2]:List Int) y6_2) λx53=>.gv 36<|.jn 0 [4,5,6,8,33,34] [] [] (λ_ (a:Bool)=>[(52,aF a)]) (λ_ _=>[]) (.bB 38 (decide (x53<0)) λx54=>.ifs [38] x54 (.ret true) (.bB 42 (decide (x53>y6_1)) λx55=>.ifs [42] x55 (.ret true) (.bB 46 (decide (x53>0)) λx56=>.ifs [46] x56 (.inl 49 AT Tryz.func176 [] [] (λ_ (a:Unit)=>aF false) (λ_ _=>[]) (.gv 7<|.al 2<|.ret ()) (λ_=>.ret true)) (.ret false)))) (λy8_1=>.ifs [52] y8_1 (.esc (.esc (.ret ((false:Bool))))) (.bI 55 (aI (y6_1-x53)) λx58=>.bI 56 (aI (y6_2+1)) λx59=>.brk ((x58:Int),x59)))) (.esc (.brk ())))) (λ_=>.ret ((true:Bool)))))) (λ_=>.gv 12<|.ret ((false:Bool)))))))
def aS4 (n:Nat) (a1:Int) (a2:aM):Option (Bool):=(aWX n a1 a2).run
theorem aYJ {n a1 a2}:PZ (aS4 n a1 a2) 127 [int a1,.agg (aM.av a2)] aF:=by
 refine wm Tryz.func127 ?_
 intro v3
 refine .mk ?_ ?_
 refine .mk λx4=>?_
 refine .mk ?_ ?_
 refine .mk _ (bE (qR rfl Tryz.underlying259 (by intro _ h;cases h) rfl)) ?_
 exact .mk
 refine .mk λx5=>?_
 refine .mk ?_ ?_
 refine .mk _ (bE (qR rfl Tryz.underlying260 (by intro _ h;cases h) rfl)) ?_
 exact .mk
 refine .mk λx6=>?_
 refine .mk ?_ ?_
 refine .mk _ (bE (qR rfl Tryz.underlying261 (by intro _ h;cases h) rfl)) ?_
 exact .mk
 refine .mk λx7=>?_
 refine .mk ?_ ?_
 refine .mk _ (bE (qR rfl Tryz.underlying263 (by intro _ h;cases h) rfl)) ?_
 exact .mk
 exact .mk
 rintro (_ | _ | _ | _ | _) _
 refine .mk trivial ?_
 refine .mk ?_ ?_
 refine .mk _ (bE (qU rfl Tryz.underlying238 rfl rfl)) ?_
 refine .mk λx8 e8=>?_
 refine .mk λx9=>?_
 refine .mk .mk ?_
 refine .mk λx10=>?_
 refine .mk ?_ ?_
 refine .mk ?_
 refine .mk λx11=>?_
 exact .mk
 exact .mk
 intro _ _
 refine .mk .mk ?_
 refine .mk λx12 e12=>?_
 refine .mk ?_ ?_
 refine .mk ?_
 intro _ _
 refine .mk λx13=>?_
 refine .mk ?_ ?_
 refine .mk λx14 e14=>?_
 refine .mk _ (bE (uR (g:=fI) (l:=([a2.bF.a0,a2.bF.a1,a2.bF.a2]:List Int)) (v:=x14) (w:=int x14) rfl Tryz.underlying75 fC rfl rfl rfl e14 (λ_=>rfl) hw1)) ?_
 refine .mk ?_ ?_
 refine .mk λx15=>?_
 refine .mk .mk ?_
 refine .mk λx16=>?_
 refine .mk .mk ?_
 refine .mk λx17=>?_
 refine .mk ?_ ?_
 refine .mk ?_ ?_
 refine .mk _ (bE (YF rfl Tryz.underlying261 rfl rfl rfl a6V)) ?_
 intro v18
 exact .mk
 intro _ _
 refine .mk trivial ?_
 exact .mk
 exact .mk
 intro _ _
 refine .mk .mk ?_
 refine .mk λx19=>?_
 refine .mk λx20=>?_
 exact .mk
 exact .mk
 intro _ _
 exact .mk
 refine .mk trivial ?_
 refine .mk ?_ ?_
 refine .mk _ (bE (qU rfl Tryz.underlying238 rfl rfl)) ?_
 refine .mk λx21 e21=>?_
 refine .mk λx22=>?_
 refine .mk .mk ?_
 refine .mk λx23=>?_
 refine .mk ?_ ?_
 refine .mk ?_
 refine .mk λx24=>?_
 exact .mk
 exact .mk
 intro _ _
 refine .mk .mk ?_
 refine .mk λx25 e25=>?_
 refine .mk ?_ ?_
 refine .mk ?_
 intro _ _
 refine .mk λx26=>?_
 refine .mk ?_ ?_
 refine .mk λx27 e27=>?_
 refine .mk _ (bE (uR (g:=fI) (l:=([a2.bF.a0,a2.bF.a1,a2.bF.a2]:List Int)) (v:=x27) (w:=int x27) rfl Tryz.underlying75 fC rfl rfl rfl e27 (λ_=>rfl) hw1)) ?_
 refine .mk ?_ ?_
 refine .mk λx28=>?_
 refine .mk .mk ?_
 refine .mk λx29=>?_
 refine .mk .mk ?_
 refine .mk λx30=>?_
 refine .mk ?_ ?_
 refine .mk ?_ ?_
 refine .mk _ (bE (YF rfl Tryz.underlying261 rfl rfl rfl a6V)) ?_
 intro v31
 exact .mk
 intro _ _
 refine .mk trivial ?_
 exact .mk
 exact .mk
 intro _ _
 refine .mk .mk ?_
 refine .mk λx32=>?_
 refine .mk λx33=>?_
 exact .mk
 exact .mk
 intro _ _
 exact .mk
 refine .mk trivial ?_
 refine .mk ?_ ?_
 refine .mk _ (bE (qU rfl Tryz.underlying238 rfl rfl)) ?_
 refine .mk λx34 e34=>?_
 refine .mk λx35=>?_
 refine .mk .mk ?_
 refine .mk λx36=>?_
 refine .mk ?_ ?_
 refine .mk ?_
 refine .mk λx37=>?_
 exact .mk
 exact .mk
 intro _ _
 refine .mk .mk ?_
 refine .mk λx38 e38=>?_
 refine .mk ?_ ?_
 refine .mk ?_
 intro _ _
 refine .mk λx39=>?_
 refine .mk ?_ ?_
 refine .mk λx40 e40=>?_
 refine .mk _ (bE (uR (g:=fI) (l:=([a2.bF.a0,a2.bF.a1,a2.bF.a2]:List Int)) (v:=x40) (w:=int x40) rfl Tryz.underlying75 fC rfl rfl rfl e40 (λ_=>rfl) hw1)) ?_
 refine .mk ?_ ?_
 refine .mk λx41=>?_
 refine .mk .mk ?_
 refine .mk λx42=>?_
 refine .mk .mk ?_
 refine .mk λx43=>?_
 refine .mk ?_ ?_
 refine .mk ?_ ?_
 refine .mk _ (bE (aHG rfl Tryz.underlying261 rfl rfl)) ?_
 intro v44
 exact .mk
 intro _ _
 refine .mk trivial ?_
 exact .mk
 exact .mk
 intro _ _
 refine .mk .mk ?_
 refine .mk λx45=>?_
 refine .mk λx46=>?_
 exact .mk
 exact .mk
 intro _ _
 exact .mk
 refine .mk trivial ?_
 refine .mk ?_ ?_
 refine .mk _ (bE (qU rfl Tryz.underlying238 rfl rfl)) ?_
 refine .mk λx47 e47=>?_
 refine .mk λx48=>?_
 refine .mk .mk ?_
 refine .mk λx49=>?_
 refine .mk ?_ ?_
 refine .mk ?_
 refine .mk λx50=>?_
 exact .mk
 exact .mk
 intro _ _
 refine .mk .mk ?_
 refine .mk λx51 e51=>?_
 refine .mk ?_ ?_
 refine .mk ?_
 intro _ _
 refine .mk λx52=>?_
 refine .mk ?_ ?_
 refine .mk λx53 e53=>?_
 refine .mk _ (bE (uR (g:=fI) (l:=([a2.bF.a0,a2.bF.a1,a2.bF.a2]:List Int)) (v:=x53) (w:=int x53) rfl Tryz.underlying75 fC rfl rfl rfl e53 (λ_=>rfl) hw1)) ?_
 refine .mk ?_ ?_
 refine .mk λx54=>?_
 refine .mk .mk ?_
 refine .mk λx55=>?_
 refine .mk .mk ?_
 refine .mk λx56=>?_
 refine .mk ?_ ?_
 refine .mk ?_ ?_
 refine .mk _ (bE (YF rfl Tryz.underlying261 rfl rfl rfl a6V)) ?_
 intro v57
 exact .mk
 intro _ _
 refine .mk trivial ?_
 exact .mk
 exact .mk
 intro _ _
 refine .mk .mk ?_
 refine .mk λx58=>?_
 refine .mk λx59=>?_
 exact .mk
 exact .mk
 intro _ _
 exact .mk
 refine .mk trivial ?_
 refine .mk _ (bE (U0 rfl Tryz.underlying238 rfl rfl)) ?_
 exact .mk
def aVY (n:Nat) (a1:Int) (a2:aM) (a3:Int):WB (aM×Int) :=
 .al 1<|.al 2<|.inl 18 aCQ Tryz.func189 [1,2] [5] (λu4 (a:Unit)=>.agg [.sl 5 (u4 5) 0 a2.cO.length,int a2.bF.a0,int a2.bF.a1,int a2.bF.a2]) (λ_ _=>[.nw 5 86 3 (a2.cO.map aB.av)]) (.al 3<|.al 4<|.dr [(0,[3]),(1,[3]),(2,[3])] [(4,[]),(5,[])] [3] [3,4,5] [0,1,2,3,4,5] (.as (a2.cO.length<=68719476736) inferInstance<|.ge 6 5<|.inl 7 aKP Tryz.func207 [1,2,3,4,5] [] (λu5 (a:Unit)=>.agg [.sl 5 (u5 5) 0 a2.cO.length,int a2.bF.a0,int a2.bF.a1,int a2.bF.a2]) (λ_ _=>[]) (.al 6<|.al 7<|.ret ()) (λ_=>.ret ()))) (λ_=>.jn 0 [0,2,4,6,7] [1,2,5] [] (λ_ (a:Bool)=>[(24,aF a)]) (λ_ _=>[]) (.bB 20 (decide (a3<0)) λx12=>.ifs [20] x12 (.ret true) (.bB 23 (decide (a1=4)) λx13=>.ret x13)) (λy2_1=>.ifs [24] y2_1 (.ret ((a2:aM),1)) (.bB 30 (decide ((a2.cO.length:Int)=0)) λx14=>.ifs [30] x14 (.ret ((a2:aM),5)) (.inl 33 aCQ Tryz.func189 [1,2] [10] (λu10 (a:Unit)=>.agg [.sl 10 (u10 10) 0 a2.cO.length,int a2.bF.a0,int a2.bF.a1,int a2.bF.a2]) (λ_ _=>[.fz 5 (a2.cO.map aB.av),.nw 10 86 3 (a2.cO.map aB.av)]) (.al 8<|.al 9<|.dr [(0,[8]),(1,[8]),(2,[8])] [(4,[]),(5,[])] [8] [3,4,5] [0,1,2,3,4,5] (.as (a2.cO.length<=68719476736) inferInstance<|.ge 6 10<|.inl 7 aKP Tryz.func207 [1,2,5,8,9,10] [] (λu11 (a:Unit)=>.agg [.sl 10 (u11 10) 0 a2.cO.length,int a2.bF.a0,int a2.bF.a1,int a2.bF.a2]) (λ_ _=>[]) (.al 11<|.al 12<|.ret ()) (λ_=>.ret ()))) (λ_=>.al 13<|.cl 35 (IZ n a2) aBS T7 λx22=>.dF 1 [0,4,6,7,9] [1,2,5] [] (λ_ (a:(List aB))=>[]) (λu19 a=>[.kp 10 (a.map aB.av),.kp 13 [[.sl 10 (u19 10) 0 a.length,int a2.bF.a0,int a2.bF.a1,int a2.bF.a2]]]) (.lp [0,2,4,6,7,8,9,10,40] [1,2,5] [] (λu22 (a:Int×Int×(List aB))=>[(11,int a.1),(39,.sl 10 (u22 10) 0 a.2.2.length),(41,int a.2.1)]) (λu22 a=>[.kp 10 (a.2.2.map aB.av),.kp 13 [[.sl 10 (u22 10) 0 a.2.2.length,int a2.bF.a0,int a2.bF.a1,int a2.bF.a2]]]) n ((a3:Int),0,(a2.cO:List aB)) (pw λy5_1 q0=>(pw λy5_2 y5_3=>.bB 42 (decide (y5_2<(a2.cO.length:Int))) λx23=>.ifs [42] x23 (.bo (ix y5_3 y5_2) λx24=>.gv 44<|.gv 45<|.al 14<|.bI 49 (aI ((a2.cO.length:Int)-1)) λx26=>.bB 50 (decide (y5_2<x26)) λx27=>.jn 0 [0,2,4,6,7,8,9,10,11,12,13,39,40,41] [1,2,5,10,13,14] [] (λ_ (a:Int)=>[(14,int a)]) (λ_ _=>[]) (.ifs [50] x27 (.cl 55 (mX n a3 x24.aQ x22.aQ) aKR nU λx28=>.ret x28) (.ret y5_1)) (λy6_1=>.cl 60 (kG x24.Value y6_1) aJL kJ λx29=>.bB 64 (decide (x29.2≠0)) λx30=>.ifs [64] x30 (.esc (.esc (.ret ((a2:aM),x29.2)))) (.gv 71<|.gv 72<|.bl (y5_3.set (Int.toNat y5_2) ((⟨x24.aQ,x29.1,x24.bO⟩:aB):aB):List aB) λx31=>.ge 1018006 0<|.bI 75 (aI (y5_1-y6_1)) λx32=>.bI 76 (aI (y5_2+1)) λx33=>.brk ((x32:Int),x33,x31)))) (.esc (.brk y5_3))) q0)) (λy7_1=>.gK 79 (aS4 n a1 (⟨y7_1,a2.bF⟩:aM)) QW aYJ (λ_=>rfl) λx34=>.bB 80 (!x34) λx35=>.ifs [80] x35 (.ret ((a2:aM),2)) (.ret (((⟨y7_1,a2.bF⟩:aM):aM),0))))))))
def aSZ (n:Nat) (a1:Int) (a2:aM) (a3:Int):Option (aM×Int):=(aVY n a1 a2 a3).run
theorem aXR {n a1 a2 a3}:PZ (aSZ n a1 a2 a3) 166 [int a1,.agg (aM.av a2),int a3] (λr=>.aU [.agg (aM.av r.1),int r.2]):=by
 refine wm Tryz.func166 ?_
 intro v4
 intro v5
 refine .mk ?_ ?_
 intro v6
 intro v7
 refine .mk ?_
 refine .mk λp8=>?_
 refine .mk _ ⟨λ_=>d9 rfl rfl (.cons rfl .nil) aHH (iK (a3T.pc (id:=5) (l:=a2.cO) rfl p8) (.cons (.refl _) .nil)),by rintro _ _ ⟨v9,rfl,rfl⟩;exact ⟨rfl,trivial⟩⟩ ?_
 rintro _ _ ⟨v9,rfl,rfl⟩
 refine .mk ?_ ?_
 intro v10
 intro v11
 exact .mk
 intro _ _
 refine .mk trivial ?_
 exact .mk
 intro _ _
 refine .mk trivial ?_
 refine .mk ?_ ?_
 refine .mk λx12=>?_
 refine .mk .mk ?_
 refine .mk λx13=>?_
 exact .mk
 intro _ _
 refine .mk ?_ ?_
 exact .mk (bK.aU (.cons (bK.agg (.cons (dH rfl rfl rfl rfl rfl (Eq.symm rfl)) (.cons (.refl _) (.cons (.refl _) (.cons (.refl _) .nil))))) (.cons (.refl _) .nil)))
 refine .mk λx14=>?_
 refine .mk ?_ ?_
 exact .mk (bK.aU (.cons (bK.agg (.cons (dH rfl rfl rfl rfl rfl (Eq.symm rfl)) (.cons (.refl _) (.cons (.refl _) (.cons (.refl _) .nil))))) (.cons (.refl _) .nil)))
 refine .mk ?_ ?_
 intro v15
 intro v16
 refine .mk ?_
 refine .mk λp17=>?_
 refine .mk _ ⟨λ_=>bQ.fO 5 rfl (d9 rfl rfl (.cons rfl .nil) aHH (iK (a3T.pc (id:=10) (l:=a2.cO) rfl p17) (.cons (dH rfl rfl rfl rfl rfl (Eq.symm rfl)) .nil))),by rintro _ _ ⟨v18,rfl,rfl⟩;exact ⟨rfl,trivial⟩⟩ ?_
 rintro _ _ ⟨v18,rfl,rfl⟩
 refine .mk ?_ ?_
 intro v19
 intro v20
 exact .mk
 intro _ _
 refine .mk trivial ?_
 exact .mk
 intro _ _
 refine .mk trivial ?_
 intro v21
 refine .mk (λx22 e22=>?_) rfl (by rintro _ rfl;exact (.cons (bK.agg (.cons (dH rfl rfl rfl rfl rfl (Eq.symm rfl)) (.cons (.refl _) (.cons (.refl _) (.cons (.refl _) .nil))))) .nil))
 refine .mk ?_ ?_
 refine .mk ?_
 rintro ⟨y5_1,y5_2,y5_3⟩ _
 refine .mk λx23=>?_
 refine .mk ?_ ?_
 refine .mk λx24 e24=>?_
 refine .mk _ (bE (aP4 rfl Tryz.underlying74 aSL rfl rfl rfl rfl rfl (Eq.symm rfl) (List.length_map _) e24)) ?_
 refine .mk _ (bE (dV rfl aSL rfl (.pt rfl rfl (cZ e24)) rfl)) ?_
 intro v25
 refine .mk λx26=>?_
 refine .mk λx27=>?_
 refine .mk ?_ ?_
 refine .mk ?_ ?_
 refine .mk λx28 e28=>?_
 exact .mk
 exact .mk
 intro _ _
 refine .mk λx29 e29=>?_
 refine .mk λx30=>?_
 refine .mk ?_ ?_
 exact .mk (bK.aU (.cons (bK.agg (.cons (dH rfl rfl rfl rfl rfl (Eq.symm rfl)) (.cons (.refl _) (.cons (.refl _) (.cons (.refl _) .nil))))) (.cons (.refl _) .nil)))
 refine .mk _ (bE (aP4 rfl Tryz.underlying74 aSL rfl rfl rfl rfl rfl (Eq.symm rfl) (List.length_map _) e24)) ?_
 refine .mk _ (bE (dK rfl a3K rfl (.pt rfl rfl (cZ e24)) (.pt _ _ _ _ _))) ?_
 refine .mk λx31 e31=>?_
 have fx31:=aQC e24 e31;have lx31:=fH e31 (rfl:y5_3.length=y5_3.length)
 refine .mk _ ⟨λ_=>bQ.dM (eO (ob':=(⟨86,3,true,true,_,x31.map aB.av⟩:bC)) (dZ rfl fC rfl rfl rfl rfl rfl (cZ e24) rfl rfl rfl) (eU (iI e31))) (λ_ h=>h) (λ_ _=>trivial),λ_ _ _=>trivial⟩ ?_
 rintro _ _ ⟨rfl,rfl⟩
 refine .mk λx32=>?_
 refine .mk λx33=>?_
 exact .mk ⟨⟨⟨_,rfl,(.refl _)⟩,⟨_,rfl,(nC (Eq.symm lx31))⟩,⟨_,rfl,(.refl _)⟩,⟨_,rfl,(.refl _)⟩,⟨_,rfl,(.refl _)⟩,⟨_,rfl,(.refl _)⟩,⟨_,rfl,(.refl _)⟩,⟨_,rfl,(.refl _)⟩,⟨_,rfl,(.refl _)⟩,⟨_,rfl,(.refl _)⟩,⟨_,rfl,(.refl _)⟩,⟨_,rfl,(.refl _)⟩,trivial⟩,⟨⟨_,rfl,(.refl _)⟩,⟨_,rfl,⟨rfl,(.cons (.cons (nC (Eq.symm lx31)) (.cons (.refl _) (.cons (.refl _) (.cons (.refl _) .nil)))) .nil)⟩⟩,⟨_,rfl,(.refl _)⟩,⟨_,rfl,(.refl _)⟩,⟨_,rfl,(.refl _)⟩,trivial⟩⟩
 exact .mk
 intro _ _
 refine .mk (λx34 e34=>?_) rfl (by rintro _ rfl;exact (.cons (.refl _) (.cons (bK.agg (.cons (dH rfl rfl rfl rfl rfl (Eq.symm rfl)) (.cons (.refl _) (.cons (.refl _) (.cons (.refl _) .nil))))) .nil)))
 refine .mk λx35=>?_
 refine .mk ?_ ?_
 exact .mk (bK.aU (.cons (bK.agg (.cons (dH rfl rfl rfl rfl rfl (Eq.symm rfl)) (.cons (.refl _) (.cons (.refl _) (.cons (.refl _) .nil))))) (.cons (.refl _) .nil)))
 exact .mk (bK.aU (.cons (bK.agg (.cons (dH rfl rfl rfl rfl rfl (Eq.symm rfl)) (.cons (.refl _) (.cons (.refl _) (.cons (.refl _) .nil))))) (.cons (.refl _) .nil)))
def aVQ (n:Nat) (a1:aA) (a2:bH) (a3:Int):WB (aA×Int×Int) :=
 .al 1<|.al 2<|.al 3<|.cl 22 (lH a1 a2.dG a2.Item) l8 mU λx7=>.bB 24 (decide (x7≠0)) λx8=>.ifs [24] x8 (.ret ((a1:aA),0,x7)) (.dr [(0,[1]),(1,[1]),(2,[1]),(3,[2]),(4,[2]),(7,[2]),(8,[2])] [] [1,2] [] [0,1,2,3,4,5,6,7,8,9,10,11] (.ix 32 (fL 1 fI) a1.bA.Methods a2.dG λx9=>.ix 36 fI x9 a2.Item λx10=>.cl 45 (yG a1 a2.dG a2.Item a2.Loc) zQ BV λx11=>.al 4<|.bB 47 (decide (x10≠4)) λx13=>.ifs [47] x13 (.dr [(1,[2]),(2,[2]),(3,[2]),(4,[2]),(6,[4]),(10,[2]),(11,[2])] [] [2,4] [] [0,1,2,3,4,5,6,7,8,9,10,11,12,13] (.bI 53 (aI (a2.aQ-a2.fF)) λx14=>.cl 55 (IZ n x11) aBS T7 λx15=>.bl (if x15.aQ<x14 then x15.aQ else x14:Int) λx16=>.gv 57<|.cl 60 (mX n a3 x16 a2.aQ) aKR nU λx17=>.bB 62 (decide (x17>0)) λx18=>.ifs [62] x18 (.cl 67 (aSZ n x10 x11 x17) NQ aXR λx19=>.al 5<|.bB 71 (decide (x19.2≠0)) λx21=>.ifs [71] x21 (.ret ((a1:aA),0,x19.2)) (.as (a1.aW.length<=68719476736) inferInstance<|.ge 76 6<|.bo (ix a1.aW a2.dG) λx24=>.gv 82<|.gv 85<|.gv 86<|.gv 87<|.as (x24.dD.length<=68719476736) inferInstance<|.ge 88 7<|.gv 89<|.gv 90<|.ge 1015008 0<|.dr [(1,[6]),(2,[6]),(3,[6]),(4,[2]),(5,[2]),(7,[2]),(8,[2]),(10,[5]),(11,[7])] [(12,[])] [2,5,6,7] [12] [0,1,2,3,4,5,6,7,8,9,10,11,12] (.gv 92<|.gv 93<|.gv 94<|.bI 97 (aI (a2.Item*2)) λx27=>.bI 100 (aI (x27+a2.Loc)) λx28=>.bo (ix x24.dD x28) λx29=>.gv 102<|.bl (x24.dD.set (Int.toNat x28) x19.1:List aM) λx30=>.ge 1016012 0<|.fO 6<|.fO 7<|.cl 111 (qD (⟨a1.bA,(a1.aW.set (Int.toNat a2.dG) (⟨x24.Now,x24.Closed,x30,x24.dU,x24.dI,x24.dO,x24.Down,x24.eT⟩:aP)),a1.bP,a1.bU,a1.bY,a1.Done⟩:aA) a2.dG a2.Item (⟨0,0,x17,0,0,0,0,0,0,0,0⟩:bM)) MQ sO λx31=>.ret ((x31.1:aA),x17,x31.2)))) (.cl 111 (qD a1 a2.dG a2.Item (⟨0,0,x17,0,0,0,0,0,0,0,0⟩:bM)) MQ sO λx32=>.ret ((x32.1:aA),x17,x32.2)))) (.kB 62 false<|.cl 111 (qD a1 a2.dG a2.Item (⟨0,0,0,0,0,0,0,0,0,0,0⟩:bM)) MQ sO λx33=>.ret ((x33.1:aA),0,x33.2))))
def aSS (n:Nat) (a1:aA) (a2:bH) (a3:Int):Option (aA×Int×Int):=(aVQ n a1 a2 a3).run
theorem aY2 {n a1 a2 a3}:PZ (aSS n a1 a2 a3) 112 [.agg (aA.av a1),.agg (bH.av a2),int a3] (λr=>.aU [.agg (aA.av r.1),int r.2.1,int r.2.2]):=wq Tryz.func112
def aXD (a1:Int) (a2:Int):WB (aH) :=
 .al 1<|.ret (((⟨a1,a2⟩:aH):aH))
def aR9 (a1:Int) (a2:Int):Option (aH):=(aXD a1 a2).run
theorem aTS {a1 a2}:PZ (aR9 a1 a2) 113 [int a1,int a2] (λr=>.agg (aH.av r)):=wq Tryz.func113
end
end Go.Pv
