import Derived.Test.YtgoihillpibdjaaGreatX90f
set_option linter.unusedVariables false
set_option linter.unusedSimpArgs false
namespace Go.Pv
open Go.Proofs
set_option maxRecDepth 100000
set_option maxHeartbeats 4000000
noncomputable section
def YZ (n:Nat) (a1:aA):WB (Bool) :=
 .al 1<|.dr [(0,[1]),(1,[1]),(2,[1]),(4,[1]),(5,[1]),(6,[1])] [] [1] [] [0,1,2,3,4,5,6,7,8,9,10] (.bI 14 (aW (a1.bJ.gD-1)) λx3=>.ln 18 fI a1.bJ.cB<|.bI 19 (aW ((a1.bJ.cB.length:Int)-1)) λx4=>.eZ 1 [1,2,3,4] [1] [] (λ_ (a:Unit)=>[]) (λ_ _=>[]) (.lp [1,2,3,4] [1] [] (λ_ (a:Int)=>[(5,int a)]) (λ_ _=>[]) n 0 (λy0_1=>.ln 23 eU.av a1.cZ<|.bB 24 (decide (y0_1<(a1.cZ.length:Int))) λx5=>.ifs [24] x5 (.ix 30 eU.av a1.cZ y0_1 λx6=>.al 2<|.jn 0 [1,2,3,4,5] [1] [] (λ_ (a:Bool)=>[(83,bD a)]) (λ_ _=>[]) (.cl 35 (jQ x6.fT x3) j6 j5 λx8=>.bB 36 (!x8) λx9=>.ifs [36] x9 (.ret true) (.cl 41 (jQ x6.Item x4) j6 j5 λx10=>.bB 42 (!x10) λx11=>.ifs [42] x11 (.ret true) (.cl 47 (jQ x6.Loc 1) j6 j5 λx12=>.bB 48 (!x12) λx13=>.ifs [48] x13 (.ret true) (.cl 53 (jQ x6.aI 288230376151711744) j6 j5 λx14=>.bB 54 (!x14) λx15=>.ifs [54] x15 (.ret true) (.cl 59 (jQ x6.Value 288230376151711744) j6 j5 λx16=>.bB 60 (!x16) λx17=>.ifs [60] x17 (.ret true) (.cl 67 (jQ x6.Open x6.aI) j6 j5 λx18=>.bB 68 (!x18) λx19=>.ifs [68] x19 (.ret true) (.cl 73 (jQ x6.jR 288230376151711744) j6 j5 λx20=>.bB 74 (!x20) λx21=>.ifs [74] x21 (.ret true) (.cl 81 (jQ x6.iP x6.aI) j6 j5 λx22=>.bB 82 (!x22) λx23=>.ret x23)))))))) (λy1_1=>.ifs [83] y1_1 (.esc (.esc (.ret ((false:Bool))))) (.bI 26 (aW (y0_1+1)) λx24=>.brk x24))) (.esc (.brk ())))) (λ_=>.eZ 1 [1,2,3,4] [1] [] (λ_ (a:Unit)=>[]) (λ_ _=>[]) (.lp [1,2,3,4] [1] [] (λ_ (a:Int)=>[(7,int a)]) (λ_ _=>[]) n 0 (λy3_1=>.ln 87 eH.av a1.dY<|.bB 88 (decide (y3_1<(a1.dY.length:Int))) λx25=>.ifs [88] x25 (.ix 94 eH.av a1.dY y3_1 λx26=>.al 3<|.jn 0 [1,2,3,4,7] [1] [] (λ_ (a:Bool)=>[(146,bD a)]) (λ_ _=>[]) (.cl 99 (jQ x26.fT x3) j6 j5 λx28=>.bB 100 (!x28) λx29=>.ifs [100] x29 (.ret true) (.cl 105 (jQ x26.Item x4) j6 j5 λx30=>.bB 106 (!x30) λx31=>.ifs [106] x31 (.ret true) (.cl 111 (jQ x26.Loc 1) j6 j5 λx32=>.bB 112 (!x32) λx33=>.ifs [112] x33 (.ret true) (.cl 117 (jQ x26.aI 288230376151711744) j6 j5 λx34=>.bB 118 (!x34) λx35=>.ifs [118] x35 (.ret true) (.cl 125 (jQ x26.iP x26.aI) j6 j5 λx36=>.bB 126 (!x36) λx37=>.ifs [126] x37 (.ret true) (.cl 131 (jQ x26.qH 288230376151711744) j6 j5 λx38=>.bB 132 (!x38) λx39=>.ifs [132] x39 (.ret true) (.cl 137 (nU x26.bN) sF qO λx40=>.bB 138 (!x40) λx41=>.ifs [138] x41 (.ret true) (.bI 143 (aW (x26.nP-1)) λx42=>.cl 144 (jQ x42 11) j6 j5 λx43=>.bB 145 (!x43) λx44=>.ret x44)))))))) (λy4_1=>.ifs [146] y4_1 (.esc (.esc (.ret ((false:Bool))))) (.bI 90 (aW (y3_1+1)) λx45=>.brk x45))) (.esc (.brk ())))) (λ_=>.eZ 1 [1,2] [1] [] (λ_ (a:Unit)=>[]) (λ_ _=>[]) (.lp [1,2,3,4] [1] [] (λ_ (a:Int)=>[(9,int a)]) (λ_ _=>[]) n 0 (λy6_1=>.ln 150 fU.av a1.dJ<|.bB 151 (decide (y6_1<(a1.dJ.length:Int))) λx46=>.ifs [151] x46 (.ix 157 fU.av a1.dJ y6_1 λx47=>.al 4<|.jn 0 [1,2,3,4,9] [1] [] (λ_ (a:Bool)=>[(195,bD a)]) (λ_ _=>[]) (.cl 162 (jQ x47.sW x3) j6 j5 λx49=>.bB 163 (!x49) λx50=>.ifs [163] x50 (.ret true) (.cl 168 (jQ x47.To x3) j6 j5 λx51=>.bB 169 (!x51) λx52=>.ifs [169] x52 (.ret true) (.cl 175 (jQ x47.Item x4) j6 j5 λx53=>.bB 176 (!x53) λx54=>.ifs [176] x54 (.ret true) (.cl 181 (jQ x47.aI 288230376151711744) j6 j5 λx55=>.bB 182 (!x55) λx56=>.ifs [182] x56 (.ret true) (.cl 187 (jQ x47.Value 288230376151711744) j6 j5 λx57=>.bB 188 (!x57) λx58=>.ifs [188] x58 (.ret true) (.cl 193 (nU x47.bN) sF qO λx59=>.bB 194 (!x59) λx60=>.ret x60)))))) (λy7_1=>.ifs [195] y7_1 (.esc (.esc (.ret ((false:Bool))))) (.bI 153 (aW (y6_1+1)) λx61=>.brk x61))) (.esc (.brk ())))) (λ_=>.jn 0 [] [] [] (λ_ (a:Bool)=>[(2,bD a)]) (λ_ _=>[]) (.ln 198 eU.av a1.cZ<|.bB 199 (decide ((a1.cZ.length:Int)<=40)) λx62=>.ifs [199] x62 (.ln 203 eH.av a1.dY<|.bB 204 (decide ((a1.dY.length:Int)<=40)) λx63=>.ifs [204] x63 (.ln 209 fU.av a1.dJ<|.bB 210 (decide ((a1.dJ.length:Int)<=40)) λx64=>.ret x64) (.ret false)) (.ret false)) (λy9_1=>.ret ((y9_1:Bool)))))))
def NE (n:Nat) (a1:aA):Option (Bool):=(YZ n a1).run
theorem aK7 {n a1}:PZ (NE n a1) 80 [.agg (aA.av a1)] bD:=wq Tryz.func80
def aCY (n:Nat) (a1:List Int) (a2:Int) (a3:Int):WB (Bool) :=
 .ln 9 fI a1<|.bB 11 (decide ((a1.length:Int)≠a2)) λx4=>.ifs [11] x4 (.ret ((false:Bool))) (.eZ 2 [6] [] [] (λ_ (a:Unit)=>[]) (λ_ _=>[]) (.lp [0,1,2,6] [] [] (λ_ (a:Int)=>[(7,int a)]) (λ_ _=>[]) n 0 (λy0_1=>.bB 14 (decide (y0_1<a2)) λx5=>.ifs [14] x5 (.jn 2 [0,1,2,6,7] [] [] (λ_ (a:Bool)=>[(29,bD a)]) (λ_ _=>[]) (.ix 19 fI a1 y0_1 λx6=>.bB 22 (decide (x6<a3)) λx7=>.ifs [22] x7 (.ret true) (.ix 26 fI a1 y0_1 λx8=>.bB 28 (decide (x8>288230376151711744)) λx9=>.ret x9)) (λy1_1=>.ifs [29] y1_1 (.esc (.esc (.ret ((false:Bool))))) (.bI 16 (aW (y0_1+1)) λx10=>.brk x10))) (.esc (.brk ())))) (λ_=>.ret ((true:Bool))))
def C5 (n:Nat) (a1:List Int) (a2:Int) (a3:Int):Option (Bool):=(aCY n a1 a2 a3).run
theorem RL {n a1 a2 a3}:PZ (C5 n a1 a2 a3) 121 [aN 1 fI a1,int a2,int a3] bD:=wq Tryz.func121
def aIU (n:Nat) (a1:Int) (a2:aQ):WB (Bool) :=
 .al 1<|.jn 0 [0,3,4] [1] [] (λ_ (a:Bool)=>[(28,bD a)]) (λ_ _=>[]) (.bB 8 (decide (a1<1)) λx4=>.ifs [8] x4 (.ret true) (.bB 11 (decide (a1>4)) λx5=>.ifs [11] x5 (.ret true) (.cl 16 (zI n a2.aG) JV L4 λx6=>.bB 17 (!x6) λx7=>.ifs [17] x7 (.ret true) (.bB 21 (decide (a1≠1)) λx8=>.ifs [21] x8 (.ln 25 aB.av a2.aG<|.bB 26 (decide ((a2.aG.length:Int)>1)) λx9=>.ret x9) (.ret false))))) (λy0_1=>.ifs [28] y0_1 (.ret ((false:Bool))) (.cl 30 (vD n a2) zZ BP λx10=>.eZ 1 [4] [] [] (λ_ (a:Unit)=>[]) (λ_ _=>[]) (.lp [0,3,4] [1] [] (λ_ (a:Int×Int)=>[(5,int a.1),(6,int a.2)]) (λ_ _=>[]) n ((x10.aI:Int),0) (pw λy1_1 y1_2=>.bB 33 (decide (y1_2<3)) λx11=>.ifs [33] x11 (.eZ 1 [0,3,4] [1] [] (λ_ (a:Int×Int)=>[(5,int a.1),(6,int a.2)]) (λ_ _=>[]) (.jn 1 [0,3,4,5] [1] [] (λ_ (a:Int×Bool)=>[(6,int a.1),(59,bD a.2)]) (λ_ _=>[]) (.sp [6,32] y1_2 0 (.gv 38<|.bB 40 (decide (a2.bH.a0<0)) λx20=>.ifs [40] x20 (.ret ((0:Int),true)) (.gv 44<|.bB 47 (decide (a2.bH.a0>y1_1)) λx21=>.ifs [47] x21 (.ret ((0:Int),true)) (.bB 51 (decide (a1≠3)) λx22=>.ifs [51] x22 (.gv 55<|.bB 57 (decide (a2.bH.a0≠0)) λx23=>.ret ((0:Int),x23)) (.ret ((0:Int),false))))) (.sp [6,32] y1_2 1 (.gv 38<|.bB 40 (decide (a2.bH.a1<0)) λx16=>.ifs [40] x16 (.ret ((1:Int),true)) (.gv 44<|.bB 47 (decide (a2.bH.a1>y1_1)) λx17=>.ifs [47] x17 (.ret ((1:Int),true)) (.bB 51 (decide (a1≠3)) λx18=>.ifs [51] x18 (.gv 55<|.bB 57 (decide (a2.bH.a1≠0)) λx19=>.ret ((1:Int),x19)) (.ret ((1:Int),false))))) (.sa [6,32] y1_2 2 (.gv 38<|.bB 40 (decide (a2.bH.a2<0)) λx12=>.ifs [40] x12 (.ret ((2:Int),true)) (.gv 44<|.bB 47 (decide (a2.bH.a2>y1_1)) λx13=>.ifs [47] x13 (.ret ((2:Int),true)) (.bB 51 (decide (a1≠3)) λx14=>.ifs [51] x14 (.gv 55<|.bB 57 (decide (a2.bH.a2≠0)) λx15=>.ret ((2:Int),x15)) (.ret ((2:Int),false)))))))) (pw λy2_1 y2_2=>.ifs [59] y2_2 (.esc (.esc (.esc (.ret ((false:Bool)))))) (.sp [6] y2_1 0 (.gv 63<|.bI 65 (aW (y1_1-a2.bH.a0)) λx26=>.brk ((x26:Int),0)) (.sp [6] y2_1 1 (.gv 63<|.bI 65 (aW (y1_1-a2.bH.a1)) λx25=>.brk ((x25:Int),1)) (.sa [6] y2_1 2 (.gv 63<|.bI 65 (aW (y1_1-a2.bH.a2)) λx24=>.brk ((x24:Int),2))))))) (pw λy3_1 y3_2=>.bI 35 (aW (y3_2+1)) λx27=>.brk ((y3_1:Int),x27))) (.esc (.brk ())))) (λ_=>.ret ((true:Bool)))))
def NG (n:Nat) (a1:Int) (a2:aQ):Option (Bool):=(aIU n a1 a2).run
theorem aUK {n a1 a2}:PZ (NG n a1 a2) 122 [int a1,.agg (aQ.av a2)] bD:=wq Tryz.func122
def RI (F:fG->Int->aP->Bool->Option (Bool)) (hF:∀ {a1:fG} {a2:Int} {a3:aP} {a4:Bool},PZ (F a1 a2 a3 a4) 81 [.agg (fG.av a1),int a2,.agg [int a3.fO,bD a3.Closed,aN 4 aQ.av a3.bS,aN 1 fI a3.dK,aN 11 cK.av a3.dH,aN 1 fI a3.fZ,aN 1 fI a3.Down,aN 8 aP.av a3.fP],bD a4] bD) (n:Nat) (a1:fG) (a2:Int) (a3:aP) (a4:Bool):WB (Bool) :=
 .al 1<|.al 2<|.ln 16 fI a1.cB<|.jn 0 [1,3,4,6,8,9] [1,2] [] (λ_ (a:Bool)=>[(61,bD a)]) (λ_ _=>[]) (.bB 19 (decide (a3.fO<1)) λx7=>.ifs [19] x7 (.ret true) (.bB 25 (decide (a3.fO>a1.gP)) λx8=>.ifs [25] x8 (.ret true) (.ln 30 aQ.av a3.bS<|.bI 32 (aW ((a1.cB.length:Int)*2)) λx9=>.bB 33 (decide ((a3.bS.length:Int)≠x9)) λx10=>.ifs [33] x10 (.ret true) (.ln 38 cK.av a3.dH<|.bB 40 (decide ((a3.dH.length:Int)≠(a1.cB.length:Int))) λx11=>.ifs [40] x11 (.ret true) (.cl 45 (C5 n a3.dK 17 (-288230376151711744)) T8 RL λx12=>.bB 46 (!x12) λx13=>.ifs [46] x13 (.ret true) (.cl 52 (C5 n a3.fZ (a1.cB.length:Int) (-1)) T8 RL λx14=>.bB 53 (!x14) λx15=>.ifs [53] x15 (.ret true) (.cl 59 (C5 n a3.Down (a1.cB.length:Int) 0) T8 RL λx16=>.bB 60 (!x16) λx17=>.ret x17))))))) (λy0_1=>.ifs [61] y0_1 (.ret ((false:Bool))) (.eZ 2 [1,3,4,6,8,9] [1,2] [] (λ_ (a:Unit)=>[]) (λ_ _=>[]) (.lp [1,3,4,6,8,9] [1,2] [] (λ_ (a:Int)=>[(10,int a)]) (λ_ _=>[]) n 0 (λy1_1=>.ln 65 aQ.av a3.bS<|.bB 66 (decide (y1_1<(a3.bS.length:Int))) λx18=>.ifs [66] x18 (.dr [(0,[1]),(1,[1]),(9,[2]),(10,[2])] [] [1,2] [] [0,1,2,3,4,5,6,7,8,9,10,11,12,13,14,15] (.ix 72 (fL 1 fI) a1.Methods a2 λx19=>.bI 75 (aW (y1_1.tdiv 2)) λx20=>.ix 76 fI x19 x20 λx21=>.ix 81 aQ.av a3.bS y1_1 λx22=>.cl 83 (NG n x21 x22) aSQ aUK λx23=>.bB 84 (!x23) λx24=>.ifs [84] x24 (.esc (.esc (.ret ((false:Bool))))) (.bI 68 (aW (y1_1+1)) λx25=>.brk x25))) (.esc (.brk ())))) (λ_=>.eZ 1 [1,3,4,6,8] [1,2] [] (λ_ (a:Unit)=>[]) (λ_ _=>[]) (.lp [1,3,4,6,8,9] [1,2] [] (λ_ (a:Int)=>[(11,int a)]) (λ_ _=>[]) n 0 (λy3_1=>.bB 87 (decide (y3_1<(a1.cB.length:Int))) λx26=>.ifs [87] x26 (.eZ 1 [1,3,4,6,8,9,11] [1,2] [] (λ_ (a:Unit)=>[]) (λ_ _=>[]) (.ix 93 cK.av a3.dH y3_1 λx27=>.cl 95 (vY x27) DV DY λx28=>.al 3<|.eZ 1 [1,3,4,6,8,9,11] [1,2] [] (λ_ (a:Unit)=>[]) (λ_ _=>[]) (.lp [1,3,4,6,8,9,11,12] [1,2,3] [] (λ_ (a:Int)=>[(13,int a)]) (λ_ _=>[]) n 0 (λy4_1=>.bB 97 (decide (y4_1<11)) λx30=>.ifs [97] x30 (.as ((0:Int)<=y4_1/\y4_1<11) inferInstance<|.bo (ix ([x28.a0,x28.a1,x28.a2,x28.a3,x28.a4,x28.a5,x28.a6,x28.a7,x28.a8,x28.a9,x28.mF]:List Int) y4_1) λx32=>.gv 101<|.gv 102<|.cl 103 (nU x32) sF qO λx33=>.bB 104 (!x33) λx34=>.ifs [104] x34 (.esc (.esc (.esc (.esc (.esc (.ret ((false:Bool)))))))) (.bI 99 (aW (y4_1+1)) λx35=>.brk x35)) (.esc (.brk ())))) (λ_=>.brk ())) (λ_=>.bI 89 (aW (y3_1+1)) λx36=>.brk x36)) (.esc (.brk ())))) (λ_=>.ln 107 aP.av a3.fP<|.bB 108 (decide ((a3.fP.length:Int)=0)) λx37=>.ifs [108] x37 (.bB 111 (!a3.Closed) λx38=>.ret ((x38:Bool))) (.jn 1 [] [] [] (λ_ (a:Bool)=>[(8,bD a)]) (λ_ _=>[]) (.dr [(2,[2]),(3,[2]),(6,[2]),(7,[2]),(12,[1]),(14,[2]),(15,[2])] [] [1,2] [] [0,1,2,3,4,5,6,7,8,9,10,11,12,13,14,15,16,17,18,19,20] (.ifs [3] a4 (.bB 117 (a3.Closed) λx39=>.ifs [117] x39 (.ln 120 aP.av a3.fP<|.bB 121 (decide ((a3.fP.length:Int)=1)) λx40=>.ifs [121] x40 (.iG 128 aP.av gE aP.eP a3.fP 0 λx41=>.cl 130 (F a1 a2 x41 false) aEL hF λx42=>.ret x42) (.ret false)) (.ret false)) (.ret false))) (λy8_1=>.ret ((y8_1:Bool))))))))
noncomputable def LD:Nat->{ F:fG->Int->aP->Bool->Option (Bool) // ∀ {a1:fG} {a2:Int} {a3:aP} {a4:Bool},PZ (F a1 a2 a3 a4) 81 [.agg (fG.av a1),int a2,.agg [int a3.fO,bD a3.Closed,aN 4 aQ.av a3.bS,aN 1 fI a3.dK,aN 11 cK.av a3.dH,aN 1 fI a3.fZ,aN 1 fI a3.Down,aN 8 aP.av a3.fP],bD a4] bD }
 | 0=>⟨λ_ _ _ _=>none,λ_ h=>nomatch h⟩
 | n+1=>⟨λa1 a2 a3 a4=>(RI (LD n).1 (LD n).2 n a1 a2 a3 a4).run,wq Tryz.func81⟩
noncomputable def y8 (n:Nat) (a1:fG) (a2:Int) (a3:aP) (a4:Bool):Option (Bool):=(LD n).1 a1 a2 a3 a4
theorem aII {n a1 a2 a3 a4}:PZ (y8 n a1 a2 a3 a4) 81 [.agg (fG.av a1),int a2,.agg [int a3.fO,bD a3.Closed,aN 4 aQ.av a3.bS,aN 1 fI a3.dK,aN 11 cK.av a3.dH,aN 1 fI a3.fZ,aN 1 fI a3.Down,aN 8 aP.av a3.fP],bD a4] bD:=(LD n).2
theorem aJR {n:Nat} {a1:fG} {a2:Int} {a3:aP} {a4:Bool}:y8 (n+1) a1 a2 a3 a4=(RI (y8 n) aII n a1 a2 a3 a4).run:=rfl
def aA6 (n:Nat) (a1:aA):WB (Bool) :=
 .al 1<|.jn 0 [1,2] [1] [] (λ_ (a:Bool)=>[(27,bD a)]) (λ_ _=>[]) (.cl 6 (FD n a1.bJ) ZV aGQ λx3=>.bB 7 (!x3) λx4=>.ifs [7] x4 (.ret true) (.ln 11 aP.av a1.bC<|.bB 15 (decide ((a1.bC.length:Int)≠a1.bJ.gD)) λx5=>.ifs [15] x5 (.ret true) (.cl 20 (jQ a1.Done 288230376151711744) j6 j5 λx6=>.bB 21 (!x6) λx7=>.ifs [21] x7 (.ret true) (.cl 25 (NE n a1) aZA aK7 λx8=>.bB 26 (!x8) λx9=>.ret x9)))) (λy0_1=>.ifs [27] y0_1 (.ret ((false:Bool))) (.eZ 2 [2] [] [] (λ_ (a:Unit)=>[]) (λ_ _=>[]) (.lp [1,2] [1] [] (λ_ (a:Int)=>[(3,int a)]) (λ_ _=>[]) n 0 (λy1_1=>.ln 31 aP.av a1.bC<|.bB 32 (decide (y1_1<(a1.bC.length:Int))) λx10=>.ifs [32] x10 (.dr [(0,[1]),(1,[1]),(3,[1]),(4,[1])] [] [1] [] [0,1,2,3,4,5,6,7,8,9] (.iG 41 aP.av gE aP.eP a1.bC y1_1 λx11=>.cl 43 (y8 n a1.bJ y1_1 x11 true) aEL aII λx12=>.bB 44 (!x12) λx13=>.ifs [44] x13 (.esc (.esc (.ret ((false:Bool))))) (.bI 34 (aW (y1_1+1)) λx14=>.brk x14))) (.esc (.brk ())))) (λ_=>.ret ((true:Bool)))))
def LH (n:Nat) (a1:aA):Option (Bool):=(aA6 n a1).run
theorem aLM {n a1}:PZ (LH n a1) 45 [.agg (aA.av a1)] bD:=wq Tryz.func45
def aE2 (n:Nat) (a1:aA):WB (Bool) :=
 .al 1<|.jn 2 [2] [] [] (λ_ (a:Int)=>[(3,int a)]) (λ_ _=>[]) (.lp [1,2] [1] [] (λ_ (a:Int×Int)=>[(3,int a.1),(4,int a.2)]) (λ_ _=>[]) n ((0:Int),0) (pw λy0_1 y0_2=>.ln 8 aP.av a1.bC<|.bB 9 (decide (y0_2<(a1.bC.length:Int))) λx3=>.ifs [9] x3 (.dr [(1,[1]),(2,[1]),(10,[1]),(11,[1])] [] [1] [] [0,1,2,3,4,5,6,7,8,9,10,11,12,13,14,15,16,17,18,19] (.iG 16 aP.av gE aP.eP a1.bC y0_2 λx4=>.ix 19 fI x4.dK 13 λx5=>.bI 21 (aW (y0_1+x5)) λx6=>.iG 25 aP.av gE aP.eP a1.bC y0_2 λx7=>.ix 28 fI x7.dK 14 λx8=>.bI 30 (aW (x6+x8)) λx9=>.bI 11 (aW (y0_2+1)) λx10=>.brk ((x9:Int),x10))) (.esc (.ret y0_1)))) (λy1_1=>.bB 32 (decide (y1_1=0)) λx11=>.ret ((x11:Bool)))
def GM (n:Nat) (a1:aA):Option (Bool):=(aE2 n a1).run
theorem aTC {n a1}:PZ (GM n a1) 46 [.agg (aA.av a1)] bD:=wq Tryz.func46
def YO (a1:aA) (a2:Int):WB (Bool) :=
 .al 1<|.jn 0 [] [] [] (λ_ (a:Bool)=>[(4,bD a)]) (λ_ _=>[]) (.bB 6 (decide (a2>=0)) λx4=>.ifs [6] x4 (.ln 11 aP.av a1.bC<|.bB 12 (decide (a2<(a1.bC.length:Int))) λx5=>.ret x5) (.ret false)) (λy0_1=>.ret ((y0_1:Bool)))
def uL (a1:aA) (a2:Int):Option (Bool):=(YO a1 a2).run
theorem B8 {a1 a2}:PZ (uL a1 a2) 82 [.agg (aA.av a1),int a2] bD:=wq Tryz.func82
def XE (n:Nat) (a1:aA) (a2:Int):WB (Int) :=
 .al 1<|.jn 2 [4] [] [3] (λu2 (a:(List Int))=>[(5,.sl 3 (u2 3) 0 a.length)]) (λ_ a=>[.nw 3 3 1 (a.map fI)]) (.no 5 3 3 1<|.lp [1,2,4] [1] [3] (λu3 (a:Int×(List Int))=>[(5,.sl 3 (u3 3) 0 a.2.length),(6,int a.1)]) (λ_ a=>[.nw 3 3 1 (a.2.map fI)]) n ((0:Int),(([]:List Int):List Int)) (pw λy0_2 y0_3=>.ln 13 fI a1.bJ.cB<|.bB 14 (decide (y0_2<(a1.bJ.cB.length:Int))) λx5=>.ifs [14] x5 (.cl 21 (xI n a1 a2 y0_2) N7 JB λx6=>.to 23 (aN 1 fI ([x6.Value]:List Int))<|.bl (y0_3++([x6.Value]:List Int):List Int) λx7=>.as (x7.length<=68719476736) inferInstance<|.ge 24 0<|.bI 16 (aW (y0_2+1)) λx10=>.brk ((x10:Int),x7)) (.esc (.ret y0_3)))) (λy1_2=>.jV 27 (nK n y1_2) sJ rV (λ_=>rfl) λx11=>.ret ((x11.1:Int)))
def L9 (n:Nat) (a1:aA) (a2:Int):Option (Int):=(XE n a1 a2).run
theorem aMS {n a1 a2}:PZ (L9 n a1 a2) 83 [.agg (aA.av a1),int a2] int:=wq Tryz.func83
def aJF (n:Nat) (a1:aA) (a2:Int):WB (Bool) :=
 .al 1<|.jn 0 [] [] [] (λ_ (a:Bool)=>[(4,bD a)]) (λ_ _=>[]) (.dr [(0,[1]),(4,[1]),(7,[1]),(8,[1])] [] [1] [] [0,1,2,3,4,5,6,7,8,9,10,11,12,13,14,15,16,17] (.cl 7 (uL a1 a2) zV B8 λx4=>.ifs [7] x4 (.cl 11 (L9 n a1 a2) aKV aMS λx5=>.iG 15 aP.av gE aP.eP a1.bC a2 λx6=>.ix 18 fI x6.dK 0 λx7=>.bB 20 (decide (x5=x7)) λx8=>.ret x8) (.ret false))) (λy0_1=>.ret ((y0_1:Bool)))
def FJ (n:Nat) (a1:aA) (a2:Int):Option (Bool):=(aJF n a1 a2).run
theorem aM6 {n a1 a2}:PZ (FJ n a1 a2) 47 [.agg (aA.av a1),int a2] bD:=wq Tryz.func47
def aG8 (n:Nat) (a1:aA) (a2:Int):WB (Bool) :=
 .al 1<|.jn 2 [1,2,4] [1] [3] (λu6 (a:(List Int))=>[(5,.sl 3 (u6 3) 0 a.length)]) (λ_ a=>[.nw 3 3 1 (a.map fI)]) (.no 5 3 3 1<|.lp [1,2,4] [1] [3] (λu10 (a:Int×(List Int))=>[(5,.sl 3 (u10 3) 0 a.2.length),(6,int a.1)]) (λ_ a=>[.nw 3 3 1 (a.2.map fI)]) n ((0:Int),(([]:List Int):List Int)) (pw λy0_2 y0_3=>.ln 12 eU.av a1.cZ<|.bB 13 (decide (y0_2<(a1.cZ.length:Int))) λx5=>.ifs [13] x5 (.jn 1 [1,2,4,6] [1] [3] (λu11 (a:(List Int))=>[(5,.sl 3 (u11 3) 0 a.length)]) (λ_ a=>[.nw 3 3 1 (a.map fI)]) (.ix 19 eU.av a1.cZ y0_2 λx6=>.bB 23 (decide (x6.fT=a2)) λx7=>.ifs [23] x7 (.ix 28 eU.av a1.cZ y0_2 λx8=>.to 31 (aN 1 fI ([x8.jR]:List Int))<|.bl (y0_3++([x8.jR]:List Int):List Int) λx9=>.as (x9.length<=68719476736) inferInstance<|.ge 32 0<|.ret x9) (.ret y0_3)) (λy1_2=>.bI 15 (aW (y0_2+1)) λx12=>.brk ((x12:Int),y1_2))) (.esc (.ret y0_3)))) (λy2_2=>.jV 35 (nK n y2_2) sJ rV (λ_=>rfl) λx13=>.jn 0 [] [] [] (λ_ (a:Bool)=>[(4,bD a)]) (λ_ _=>[]) (.cl 40 (uL a1 a2) zV B8 λx14=>.ifs [40] x14 (.bB 43 (decide (x13.2=0)) λx15=>.ifs [43] x15 (.iG 50 aP.av gE aP.eP a1.bC a2 λx16=>.ix 53 fI x16.dK 1 λx17=>.bI 55 (aW (0-x17)) λx18=>.bB 56 (decide (x13.1=x18)) λx19=>.ret x19) (.ret false)) (.ret false)) (λy3_1=>.ret ((y3_1:Bool))))
def GX (n:Nat) (a1:aA) (a2:Int):Option (Bool):=(aG8 n a1 a2).run
theorem aUX {n a1 a2}:PZ (GX n a1 a2) 48 [.agg (aA.av a1),int a2] bD:=wq Tryz.func48
def V6 (n:Nat) (a1:aA) (a2:Int):WB (Bool) :=
 .al 1<|.jn 2 [1,2,4] [1] [3] (λu6 (a:(List Int))=>[(5,.sl 3 (u6 3) 0 a.length)]) (λ_ a=>[.nw 3 3 1 (a.map fI)]) (.no 5 3 3 1<|.lp [1,2,4] [1] [3] (λu10 (a:Int×(List Int))=>[(5,.sl 3 (u10 3) 0 a.2.length),(6,int a.1)]) (λ_ a=>[.nw 3 3 1 (a.2.map fI)]) n ((0:Int),(([]:List Int):List Int)) (pw λy0_2 y0_3=>.ln 12 fU.av a1.dJ<|.bB 13 (decide (y0_2<(a1.dJ.length:Int))) λx5=>.ifs [13] x5 (.jn 1 [1,2,4,6] [1] [3] (λu11 (a:(List Int))=>[(5,.sl 3 (u11 3) 0 a.length)]) (λ_ a=>[.nw 3 3 1 (a.map fI)]) (.ix 19 fU.av a1.dJ y0_2 λx6=>.bB 23 (decide (x6.To=a2)) λx7=>.ifs [23] x7 (.ix 28 fU.av a1.dJ y0_2 λx8=>.to 31 (aN 1 fI ([x8.Value]:List Int))<|.bl (y0_3++([x8.Value]:List Int):List Int) λx9=>.as (x9.length<=68719476736) inferInstance<|.ge 32 0<|.ret x9) (.ret y0_3)) (λy1_2=>.bI 15 (aW (y0_2+1)) λx12=>.brk ((x12:Int),y1_2))) (.esc (.ret y0_3)))) (λy2_2=>.jV 35 (nK n y2_2) sJ rV (λ_=>rfl) λx13=>.jn 0 [] [] [] (λ_ (a:Bool)=>[(4,bD a)]) (λ_ _=>[]) (.cl 40 (uL a1 a2) zV B8 λx14=>.ifs [40] x14 (.bB 43 (decide (x13.2=0)) λx15=>.ifs [43] x15 (.iG 50 aP.av gE aP.eP a1.bC a2 λx16=>.ix 53 fI x16.dK 12 λx17=>.bB 55 (decide (x13.1=x17)) λx18=>.ret x18) (.ret false)) (.ret false)) (λy3_1=>.ret ((y3_1:Bool))))
def HV (n:Nat) (a1:aA) (a2:Int):Option (Bool):=(V6 n a1 a2).run
theorem aRX {n a1 a2}:PZ (HV n a1 a2) 49 [.agg (aA.av a1),int a2] bD:=wq Tryz.func49
def ZP (n:Nat) (a1:aA) (a2:Int):WB (Bool) :=
 .al 1<|.cl 9 (uL a1 a2) zV B8 λx4=>.bB 10 (!x4) λx5=>.ifs [10] x5 (.ret ((false:Bool))) (.iG 15 aP.av gE aP.eP a1.bC a2 λx6=>.cl 18 (nK n x6.Down) sJ rV λx7=>.jn 0 [] [] [] (λ_ (a:Bool)=>[(4,bD a)]) (λ_ _=>[]) (.bB 22 (decide (x7.2=0)) λx8=>.ifs [22] x8 (.iG 28 aP.av gE aP.eP a1.bC a2 λx9=>.ix 31 fI x9.dK 11 λx10=>.bI 33 (aW (0-x10)) λx11=>.bB 34 (decide (x7.1=x11)) λx12=>.ret x12) (.ret false)) (λy0_1=>.ret ((y0_1:Bool))))
def FQ (n:Nat) (a1:aA) (a2:Int):Option (Bool):=(ZP n a1 a2).run
theorem aX2 {n a1 a2}:PZ (FQ n a1 a2) 50 [.agg (aA.av a1),int a2] bD:=wq Tryz.func50
def aF4 (n:Nat) (a1:List Int):WB (Int×Int×Int) :=
 .ln 9 fI a1<|.bB 10 (decide ((a1.length:Int)≠17)) λx2=>.ifs [10] x2 (.ret ((0:Int),0,1)) (.eZ 3 [2,3,4] [] [] (λ_ (a:Int×Int)=>[(5,int a.1),(6,int a.2)]) (λ_ _=>[]) (.lp [0,2,3,4] [] [] (λ_ (a:Int×Int×Int)=>[(5,int a.1),(6,int a.2.1),(7,int a.2.2)]) (λ_ _=>[]) n ((0:Int),0,0) (pw λy0_1 q0=>(pw λy0_2 y0_3=>.ln 13 fI a1<|.bB 14 (decide (y0_3<(a1.length:Int))) λx3=>.ifs [14] x3 (.eZ 1 [0,2,3,4,7] [] [] (λ_ (a:Int×Int)=>[(5,int a.1),(6,int a.2)]) (λ_ _=>[]) (.ix 26 fI a1 y0_3 λx4=>.cl 28 (nU x4) sF qO λx5=>.bB 29 (!x5) λx6=>.ifs [29] x6 (.esc (.esc (.esc (.ret ((0:Int),0,2))))) (.ix 33 fI a1 y0_3 λx7=>.bB 35 (decide (x7>0)) λx8=>.ifs [35] x8 (.ix 39 fI a1 y0_3 λx9=>.bI 41 (aW (y0_1+x9)) λx10=>.brk ((x10:Int),y0_2)) (.ix 20 fI a1 y0_3 λx11=>.bI 22 (aW (y0_2-x11)) λx12=>.brk ((y0_1:Int),x12)))) (pw λy1_1 y1_2=>.bI 16 (aW (y0_3+1)) λx13=>.brk ((y1_1:Int),y1_2,x13))) (.esc (.brk ((y0_1:Int),y0_2)))) q0)) (pw λy2_1 y2_2=>.ret ((y2_1:Int),y2_2,0)))
def NW (n:Nat) (a1:List Int):Option (Int×Int×Int):=(aF4 n a1).run
theorem aV6 {n a1}:PZ (NW n a1) 85 [aN 1 fI a1] (λr=>.bT [int r.1,int r.2.1,int r.2.2]):=wq Tryz.func85
def ZR (n:Nat) (a1:aA) (a2:Int):WB (Bool) :=
 .al 1<|.cl 10 (uL a1 a2) zV B8 λx4=>.bB 11 (!x4) λx5=>.ifs [11] x5 (.ret ((false:Bool))) (.iG 16 aP.av gE aP.eP a1.bC a2 λx6=>.cl 19 (NW n x6.dK) aL5 aV6 λx7=>.jn 0 [] [] [] (λ_ (a:Bool)=>[(4,bD a)]) (λ_ _=>[]) (.bB 24 (decide (x7.2.2=0)) λx8=>.ifs [24] x8 (.bB 28 (decide (x7.1=x7.2.1)) λx9=>.ret x9) (.ret false)) (λy0_1=>.ret ((y0_1:Bool))))
def F5 (n:Nat) (a1:aA) (a2:Int):Option (Bool):=(ZR n a1 a2).run
theorem aVL {n a1 a2}:PZ (F5 n a1 a2) 51 [.agg (aA.av a1),int a2] bD:=wq Tryz.func51
def aF0 (n:Nat) (a1:aA) (a2:Int) (a3:Int):WB (Bool) :=
 .al 1<|.jn 0 [1,2,3,6] [1] [] (λ_ (a:Bool)=>[(28,bD a)]) (λ_ _=>[]) (.cl 12 (uL a1 a2) zV B8 λx5=>.bB 13 (!x5) λx6=>.ifs [13] x6 (.ret true) (.bB 16 (decide (a3<0)) λx7=>.ifs [16] x7 (.ret true) (.iG 23 aP.av gE aP.eP a1.bC a2 λx8=>.ln 26 cK.av x8.dH<|.bB 27 (decide (a3>=(x8.dH.length:Int))) λx9=>.ret x9))) (λy0_1=>.ifs [28] y0_1 (.ret ((false:Bool))) (.iG 32 aP.av gE aP.eP a1.bC a2 λx10=>.ix 36 cK.av x10.dH a3 λx11=>.al 2<|.bI 42 (aW (x11.Open+x11.jC)) λx13=>.bI 45 (aW (x13+x11.jE)) λx14=>.bI 48 (aW (x14+x11.jD)) λx15=>.bI 51 (aW (x15+x11.jB)) λx16=>.bI 54 (aW (x16+x11.jH)) λx17=>.bI 59 (aW (x11.iZ+x11.jG)) λx18=>.bI 62 (aW (x18+x11.iX)) λx19=>.bI 65 (aW (x19+x11.iV)) λx20=>.bI 68 (aW (x20+x11.jF)) λx21=>.bI 71 (aW (x17-x21)) λx22=>.cl 75 (xI n a1 a2 a3) N7 JB λx23=>.bB 77 (decide (x22=x23.Value)) λx24=>.ret ((x24:Bool))))
def E8 (n:Nat) (a1:aA) (a2:Int) (a3:Int):Option (Bool):=(aF0 n a1 a2 a3).run
theorem aNB {n a1 a2 a3}:PZ (E8 n a1 a2 a3) 52 [.agg (aA.av a1),int a2,int a3] bD:=wq Tryz.func52
def V3 (n:Nat) (a1:aA):WB (Bool) :=
 .al 1<|.jn 0 [1,2] [1] [] (λ_ (a:Bool)=>[(12,bD a)]) (λ_ _=>[]) (.cl 6 (LH n a1) aXH aLM λx3=>.bB 7 (!x3) λx4=>.ifs [7] x4 (.ret true) (.cl 10 (GM n a1) aL7 aTC λx5=>.bB 11 (!x5) λx6=>.ret x6)) (λy0_1=>.ifs [12] y0_1 (.ret ((false:Bool))) (.eZ 2 [2] [] [] (λ_ (a:Unit)=>[]) (λ_ _=>[]) (.lp [1,2] [1] [] (λ_ (a:Int)=>[(3,int a)]) (λ_ _=>[]) n 0 (λy1_1=>.ln 16 aP.av a1.bC<|.bB 17 (decide (y1_1<(a1.bC.length:Int))) λx7=>.ifs [17] x7 (.eZ 1 [1,2,3] [1] [] (λ_ (a:Unit)=>[]) (λ_ _=>[]) (.jn 1 [1,2,3] [1] [] (λ_ (a:Bool)=>[(47,bD a)]) (λ_ _=>[]) (.cl 22 (FJ n a1 y1_1) aY1 aM6 λx8=>.bB 23 (!x8) λx9=>.ifs [23] x9 (.ret true) (.cl 27 (GX n a1 y1_1) aN7 aUX λx10=>.bB 28 (!x10) λx11=>.ifs [28] x11 (.ret true) (.cl 33 (HV n a1 y1_1) aK9 aRX λx12=>.bB 34 (!x12) λx13=>.ifs [34] x13 (.ret true) (.cl 39 (FQ n a1 y1_1) aTX aX2 λx14=>.bB 40 (!x14) λx15=>.ifs [40] x15 (.ret true) (.cl 45 (F5 n a1 y1_1) aZD aVL λx16=>.bB 46 (!x16) λx17=>.ret x17))))) (λy2_1=>.ifs [47] y2_1 (.esc (.esc (.esc (.ret ((false:Bool)))))) (.eZ 2 [1,2,3] [1] [] (λ_ (a:Unit)=>[]) (λ_ _=>[]) (.lp [1,2,3] [1] [] (λ_ (a:Int)=>[(4,int a)]) (λ_ _=>[]) n 0 (λy3_1=>.ln 52 fI a1.bJ.cB<|.bB 53 (decide (y3_1<(a1.bJ.cB.length:Int))) λx18=>.ifs [53] x18 (.cl 59 (E8 n a1 y1_1 y3_1) aNH aNB λx19=>.bB 60 (!x19) λx20=>.ifs [60] x20 (.esc (.esc (.esc (.esc (.esc (.ret ((false:Bool)))))))) (.bI 55 (aW (y3_1+1)) λx21=>.brk x21)) (.esc (.brk ())))) (λ_=>.brk ())))) (λ_=>.bI 19 (aW (y1_1+1)) λx22=>.brk x22)) (.esc (.brk ())))) (λ_=>.ret ((true:Bool)))))
def FF (n:Nat) (a1:aA):Option (Bool):=(V3 n a1).run
theorem aGC {n a1}:PZ (FF n a1) 24 [.agg (aA.av a1)] bD:=wq Tryz.func24
theorem EY:PP Tryz.prog 29 [] (λy=>y=.mp [6,7,8,9] [.agg [.fn (.func 58) [] []],.agg [.fn (.func 59) [] []],.agg [.fn (.func 60) [] []],.agg [.fn (.func 61) [] []]]):=by
  refine U2 (R0:=λy H=>Cv (qP H) y (.mp [6,7,8,9] [.agg [.fn (.func 58) [] []],.agg [.fn (.func 59) [] []],.agg [.fn (.func 60) [] []],.agg [.fn (.func 61) [] []]])) ?_ (λy H hc=>⟨_,rfl,.mp (by intro x hx;simp only [List.mem_cons,List.not_mem_nil,or_false] at hx;rcases hx with rfl | rfl | rfl | rfl <;> exact .agg (by intro x hx;simp only [List.mem_cons,List.not_mem_nil,or_false] at hx;subst hx;exact .fn (by intro x hx;cases hx) (by intro x hx;cases hx))),hc⟩)
  refine pcw (c:=_) Tryz.func29 rfl rfl ?_;intro Q hret hnorm
  refine tc iL 6 (.mk ?_)
  refine mmk rfl rfl rfl rfl ?_;intro b0
  refine MW rfl rfl rfl (wF (cs:=[.fn (.func 58) [] []]) (ps:=[(0,_)]) rfl NH z66 rfl (.cons rfl .nil) (by kernel_rfl)) ?_
  refine L5 rfl rfl rfl Tryz.underlying68 Tryz.underlying3 rfl rfl rfl rfl ?_
  refine MW rfl rfl rfl (wF (cs:=[.fn (.func 59) [] []]) (ps:=[(0,_)]) rfl NH z66 rfl (.cons rfl .nil) (by kernel_rfl)) ?_
  refine L5 rfl rfl rfl Tryz.underlying68 Tryz.underlying3 rfl rfl rfl rfl ?_
  refine MW rfl rfl rfl (wF (cs:=[.fn (.func 60) [] []]) (ps:=[(0,_)]) rfl NH z66 rfl (.cons rfl .nil) (by kernel_rfl)) ?_
  refine L5 rfl rfl rfl Tryz.underlying68 Tryz.underlying3 rfl rfl rfl rfl ?_
  refine MW rfl rfl rfl (wF (cs:=[.fn (.func 61) [] []]) (ps:=[(0,_)]) rfl NH z66 rfl (.cons rfl .nil) (by kernel_rfl)) ?_
  refine L5 rfl rfl rfl Tryz.underlying68 Tryz.underlying3 rfl rfl rfl rfl ?_
  refine aRO 1 rfl ?_
  refine tr iL 3 (.mk ?_)
  refine wR hret (rT .nil) ?_
  exact .refl _
def aD0 (a1:aA) (a2:Int) (a3:Int):WB (Bool) :=
 .al 1<|.jn 0 [1,3,6] [1] [] (λ_ (a:Bool)=>[(29,bD a)]) (λ_ _=>[]) (.bB 10 (decide (a2<0)) λx5=>.ifs [10] x5 (.ret true) (.ln 15 aP.av a1.bC<|.bB 16 (decide (a2>=(a1.bC.length:Int))) λx6=>.ifs [16] x6 (.ret true) (.bB 20 (decide (a3<0)) λx7=>.ifs [20] x7 (.ret true) (.ln 27 fI a1.bJ.cB<|.bB 28 (decide (a3>=(a1.bJ.cB.length:Int))) λx8=>.ret x8)))) (λy0_1=>.ifs [29] y0_1 (.ret ((false:Bool))) (.dr [(0,[1]),(1,[1]),(5,[1]),(6,[1]),(7,[1])] [] [1] [9,10] [0,1,2,3,4,5,6,7,8,9,10,11] (.iG 33 aP.av gE aP.eP a1.bC a2 λx9=>.ln 38 fI a1.bJ.cB<|.al 2<|.jn 0 [] [] [] (λ_ (a:Bool)=>[(6,bD a)]) (λ_ _=>[]) (.ln 41 aQ.av x9.bS<|.bI 43 (aW ((a1.bJ.cB.length:Int)*2)) λx11=>.bB 44 (decide ((x9.bS.length:Int)>=x11)) λx12=>.ifs [44] x12 (.ln 48 cK.av x9.dH<|.bB 50 (decide ((x9.dH.length:Int)>=(a1.bJ.cB.length:Int))) λx13=>.ifs [50] x13 (.ln 57 (fL 1 fI) a1.bJ.Methods<|.bB 58 (decide (a2<(a1.bJ.Methods.length:Int))) λx14=>.ifs [58] x14 (.ln 65 (fL 1 fI) a1.bJ.gB<|.bB 66 (decide (a2<(a1.bJ.gB.length:Int))) λx15=>.ifs [66] x15 (.ix 73 (fL 1 fI) a1.bJ.Methods a2 λx16=>.ln 75 fI x16<|.bB 77 (decide ((x16.length:Int)>=(a1.bJ.cB.length:Int))) λx17=>.ifs [77] x17 (.ix 84 (fL 1 fI) a1.bJ.gB a2 λx18=>.ln 86 fI x18<|.bB 88 (decide ((x18.length:Int)>=(a1.bJ.cB.length:Int))) λx19=>.ret x19) (.ret false)) (.ret false)) (.ret false)) (.ret false)) (.ret false)) (λy1_1=>.ret ((y1_1:Bool))))))
def DC (a1:aA) (a2:Int) (a3:Int):Option (Bool):=(aD0 a1 a2 a3).run
theorem TK {a1 a2 a3}:PZ (DC a1 a2 a3) 62 [.agg (aA.av a1),int a2,int a3] bD:=wq Tryz.func62
def aFF (a1:aA) (a2:Int) (a3:Int):WB (Int) :=
 .al 1<|.cl 11 (DC a1 a2 a3) UB TK λx5=>.bB 12 (!x5) λx6=>.ifs [12] x6 (.ret ((4:Int))) (.iG 17 aP.av gE aP.eP a1.bC a2 λx7=>.wt 13 <|.ifs [13] x7.Closed (.ret ((7:Int))) (.ret ((0:Int))))
def mI (a1:aA) (a2:Int) (a3:Int):Option (Int):=(aFF a1 a2 a3).run
theorem oI {a1 a2 a3}:PZ (mI a1 a2 a3) 30 [.agg (aA.av a1),int a2,int a3] int:=wq Tryz.func30
def aB1 (a1:Int):WB (Bool) :=
 .jn 1 [] [] [] (λ_ (a:Bool)=>[(2,bD a)]) (λ_ _=>[]) (.bB 4 (decide (a1>=0)) λx2=>.ifs [4] x2 (.bB 7 (decide (a1<=1073741824)) λx3=>.ret x3) (.ret false)) (λy0_1=>.ret ((y0_1:Bool)))
def BC (a1:Int):Option (Bool):=(aB1 a1).run
theorem UJ {a1}:PZ (BC a1) 148 [int a1] bD:=wq Tryz.func148
def XG (a1:Int) (a2:Int):WB (Int×Int) :=
 .bI 11 (wu64 a1) λx3=>.bI 13 (wu64 a2) λx4=>.bI 15 (x3.tmod 4294967296) λx5=>.bI 17 (x4.tmod 4294967296) λx6=>.bI 18 (wu64 (x5*x6)) λx7=>.bI 20 (wu64 (x3.tdiv 4294967296)) λx8=>.bI 22 (x4.tmod 4294967296) λx9=>.bI 23 (wu64 (x8*x9)) λx10=>.bI 25 (x3.tmod 4294967296) λx11=>.bI 27 (wu64 (x4.tdiv 4294967296)) λx12=>.bI 28 (wu64 (x11*x12)) λx13=>.bI 30 (wu64 (x3.tdiv 4294967296)) λx14=>.bI 32 (wu64 (x4.tdiv 4294967296)) λx15=>.bI 33 (wu64 (x14*x15)) λx16=>.gv 34<|.al 1<|.gv 35<|.bI 37 (wu64 (x7.tdiv 4294967296)) λx18=>.gv 38<|.bI 40 (x10.tmod 4294967296) λx19=>.bI 41 (wu64 (x18+x19)) λx20=>.gv 42<|.bI 44 (x13.tmod 4294967296) λx21=>.bI 45 (wu64 (x20+x21)) λx22=>.gv 46<|.gv 48<|.bI 50 (wu64 (x10.tdiv 4294967296)) λx23=>.bI 51 (wu64 (x16+x23)) λx24=>.gv 52<|.bI 54 (wu64 (x13.tdiv 4294967296)) λx25=>.bI 55 (wu64 (x24+x25)) λx26=>.bI 57 (wu64 (x22.tdiv 4294967296)) λx27=>.bI 58 (wu64 (x26+x27)) λx28=>.bI 61 (wu64 (x3*x4)) λx29=>.ret ((x28:Int),x29)
def IT (a1:Int) (a2:Int):Option (Int×Int):=(XG a1 a2).run
theorem aU5 {a1 a2}:PZ (IT a1 a2) 143 [int a1,int a2] (λr=>.bT [.sc (.int .u64 r.1),.sc (.int .u64 r.2)]):=by
 refine wm Tryz.func143 ?_
 refine .mk λx3=>?_
 refine .mk λx4=>?_
 refine .mk λx5=>?_
 refine .mk λx6=>?_
 refine .mk λx7=>?_
 refine .mk λx8=>?_
 refine .mk λx9=>?_
 refine .mk λx10=>?_
 refine .mk λx11=>?_
 refine .mk λx12=>?_
 refine .mk λx13=>?_
 refine .mk λx14=>?_
 refine .mk λx15=>?_
 refine .mk λx16=>?_
 refine .mk _ (fD (FE (cs:=[.sc (.int .u64 x7),.sc (.int .u64 x10),.sc (.int .u64 x13),.sc (.int .u64 x16)]) (ps:=[(0,_),(1,_),(2,_),(3,_)]) rfl Tryz.underlying215 xU aFC rfl (.cons rfl (.cons rfl (.cons rfl (.cons rfl .nil)))) (by kernel_rfl))) ?_
 intro v17
 refine .mk _ (fD (jY (y:=.pt 1 v17 0 0) (xE rfl Tryz.underlying215 xU rfl rfl rfl rfl rfl (by decide)) rfl)) ?_
 refine .mk λx18=>?_
 refine .mk _ (fD (jY (y:=.pt 1 v17 0 1) (xE rfl Tryz.underlying215 xU rfl rfl rfl rfl rfl (by decide)) rfl)) ?_
 refine .mk λx19=>?_
 refine .mk λx20=>?_
 refine .mk _ (fD (jY (y:=.pt 1 v17 0 2) (xE rfl Tryz.underlying215 xU rfl rfl rfl rfl rfl (by decide)) rfl)) ?_
 refine .mk λx21=>?_
 refine .mk λx22=>?_
 refine .mk _ (fD (jY (y:=.pt 1 v17 0 3) (xE rfl Tryz.underlying215 xU rfl rfl rfl rfl rfl (by decide)) rfl)) ?_
 refine .mk _ (fD (jY (y:=.pt 1 v17 0 1) (xE rfl Tryz.underlying215 xU rfl rfl rfl rfl rfl (by decide)) rfl)) ?_
 refine .mk λx23=>?_
 refine .mk λx24=>?_
 refine .mk _ (fD (jY (y:=.pt 1 v17 0 2) (xE rfl Tryz.underlying215 xU rfl rfl rfl rfl rfl (by decide)) rfl)) ?_
 refine .mk λx25=>?_
 refine .mk λx26=>?_
 refine .mk λx27=>?_
 refine .mk λx28=>?_
 refine .mk λx29=>?_
 exact .mk
def aE0 (a1:Int):WB (Int) :=
 .bB 4 (decide (a1>=4294967296)) λx2=>.jn 0 [] [] [] (λ_ (a:Int×Int)=>[(0,.sc (.int .u64 a.1)),(2,int a.2)]) (λ_ _=>[]) (.ifs [4] x2 (.bI 6 (a1.fdiv (2 ^ (min (32:Int).toNat IntKind.u64.bits))) λx3=>.ret ((x3:Int),32)) (.ret ((a1:Int),0))) (pw λy0_1 y0_2=>.bB 8 (decide (y0_1>=65536)) λx4=>.jn 0 [] [] [] (λ_ (a:Int×Int)=>[(0,.sc (.int .u64 a.1)),(2,int a.2)]) (λ_ _=>[]) (.ifs [8] x4 (.bI 10 (y0_1.fdiv (2 ^ (min (16:Int).toNat IntKind.u64.bits))) λx5=>.bI 12 (aW (y0_2+16)) λx6=>.ret ((x5:Int),x6)) (.ret ((y0_1:Int),y0_2))) (pw λy1_1 y1_2=>.bB 14 (decide (y1_1>=256)) λx7=>.jn 0 [] [] [] (λ_ (a:Int×Int)=>[(0,.sc (.int .u64 a.1)),(2,int a.2)]) (λ_ _=>[]) (.ifs [14] x7 (.bI 16 (y1_1.fdiv (2 ^ (min (8:Int).toNat IntKind.u64.bits))) λx8=>.bI 18 (aW (y1_2+8)) λx9=>.ret ((x8:Int),x9)) (.ret ((y1_1:Int),y1_2))) (pw λy2_1 y2_2=>.bI 21 (G5 y2_1) λx10=>.bo (ix ([0,1,2,2,3,3,3,3,4,4,4,4,4,4,4,4,5,5,5,5,5,5,5,5,5,5,5,5,5,5,5,5,6,6,6,6,6,6,6,6,6,6,6,6,6,6,6,6,6,6,6,6,6,6,6,6,6,6,6,6,6,6,6,6,7,7,7,7,7,7,7,7,7,7,7,7,7,7,7,7,7,7,7,7,7,7,7,7,7,7,7,7,7,7,7,7,7,7,7,7,7,7,7,7,7,7,7,7,7,7,7,7,7,7,7,7,7,7,7,7,7,7,7,7,7,7,7,7,8,8,8,8,8,8,8,8,8,8,8,8,8,8,8,8,8,8,8,8,8,8,8,8,8,8,8,8,8,8,8,8,8,8,8,8,8,8,8,8,8,8,8,8,8,8,8,8,8,8,8,8,8,8,8,8,8,8,8,8,8,8,8,8,8,8,8,8,8,8,8,8,8,8,8,8,8,8,8,8,8,8,8,8,8,8,8,8,8,8,8,8,8,8,8,8,8,8,8,8,8,8,8,8,8,8,8,8,8,8,8,8,8,8,8,8,8,8,8,8,8,8,8,8,8,8,8,8]:List UInt8) x10) λx11=>.gv 22<|.bI 23 (aW (x11.toNat:Int)) λx12=>.bI 24 (aW (y2_2+x12)) λx13=>.ret ((x13:Int)))))
def OH (a1:Int):Option (Int):=(aE0 a1).run
theorem aMV {a1}:PZ (OH a1) 198 [.sc (.int .u64 a1)] int:=wq Tryz.func198
def aEF (a1:Int):WB (Int) :=
 .cl 4 (OH a1) aV5 aMV λx2=>.bI 5 (aW (64-x2)) λx3=>.ret ((x3:Int))
def LP (a1:Int):Option (Int):=(aEF a1).run
theorem aLR {a1}:PZ (LP a1) 181 [.sc (.int .u64 a1)] int:=wq Tryz.func181
def U8 (n:Nat) (a1:Int) (a2:Int) (a3:Int):WB (Int×Int) :=
 .bB 20 (decide (a3=0)) λx4=>.ifs [20] x4 (.fl) (.bB 24 (decide (a3<=a1)) λx5=>.ifs [24] x5 (.fl) (.bB 27 (decide (a1=0)) λx6=>.ifs [27] x6 (.dr [] [] [] [] [0,1,2,3,4,5,6,7] (.as (a3≠0) inferInstance<|.bl (wu64 (a2.tdiv a3):Int) λx8=>.gv 30<|.as (a3≠0) inferInstance<|.bl (a2.tmod a3:Int) λx10=>.gv 33<|.ret ((x8:Int),x10))) (.cl 35 (LP a3) aKX aLR λx11=>.bI 36 (wu64 x11) λx12=>.as ((0:Int)<=x12) inferInstance<|.bl (wu64 (a3*(2 ^ (min x12.toNat IntKind.u64.bits))):Int) λx14=>.gv 39<|.bI 41 (x14.fdiv (2 ^ (min (32:Int).toNat IntKind.u64.bits))) λx15=>.bl (wu64 ((BitVec.ofInt IntKind.u64.bits x14 &&& BitVec.ofInt IntKind.u64.bits 4294967295).toNat:Int):Int) λx16=>.gv 43<|.as ((0:Int)<=x12) inferInstance<|.bl (wu64 (a1*(2 ^ (min x12.toNat IntKind.u64.bits))):Int) λx18=>.gv 46<|.bI 49 (wu64 (64-x12)) λx19=>.as ((0:Int)<=x19) inferInstance<|.bl (a2.fdiv (2 ^ (min x19.toNat IntKind.u64.bits)):Int) λx21=>.gv 50<|.bl (wu64 ((BitVec.ofInt IntKind.u64.bits x18 ||| BitVec.ofInt IntKind.u64.bits x21).toNat:Int):Int) λx22=>.gv 51<|.as ((0:Int)<=x12) inferInstance<|.bl (wu64 (a2*(2 ^ (min x12.toNat IntKind.u64.bits))):Int) λx24=>.gv 54<|.bI 56 (x24.fdiv (2 ^ (min (32:Int).toNat IntKind.u64.bits))) λx25=>.bl (wu64 ((BitVec.ofInt IntKind.u64.bits x24 &&& BitVec.ofInt IntKind.u64.bits 4294967295).toNat:Int):Int) λx26=>.gv 58<|.as (x15≠0) inferInstance<|.bl (wu64 (x22.tdiv x15):Int) λx28=>.gv 61<|.bI 65 (wu64 (x28*x15)) λx29=>.bI 66 (wu64 (x22-x29)) λx30=>.jn 0 [2,6,7,8,9,10,11,13,14] [] [] (λ_ (a:Int)=>[(15,.sc (.int .u64 a))]) (λ_ _=>[]) (.lp [2,6,7,8,9,10,11,13,14] [] [] (λ_ (a:Int×Int)=>[(15,.sc (.int .u64 a.1)),(16,.sc (.int .u64 a.2))]) (λ_ _=>[]) n ((x28:Int),x30) (pw λy0_1 y0_2=>.jn 0 [2,6,7,8,9,10,11,13,14,15,16] [] [] (λ_ (a:Bool)=>[(78,bD a)]) (λ_ _=>[]) (.bB 68 (decide (y0_1>=4294967296)) λx31=>.ifs [68] x31 (.ret true) (.bI 72 (wu64 (y0_1*x16)) λx32=>.bI 74 (wu64 (4294967296*y0_2)) λx33=>.bI 76 (wu64 (x33+x25)) λx34=>.bB 77 (decide (x32>x34)) λx35=>.ret x35)) (λy1_1=>.ifs [78] y1_1 (.bI 80 (wu64 (y0_1-1)) λx36=>.bI 83 (wu64 (y0_2+x15)) λx37=>.bB 85 (decide (x37>=4294967296)) λx38=>.ifs [85] x38 (.esc (.ret x36)) (.brk ((x36:Int),x37))) (.esc (.ret y0_1))))) (λy2_1=>.bI 87 (wu64 (x22*4294967296)) λx39=>.bI 89 (wu64 (x39+x25)) λx40=>.bI 92 (wu64 (y2_1*x14)) λx41=>.bI 93 (wu64 (x40-x41)) λx42=>.as (x15≠0) inferInstance<|.bl (wu64 (x42.tdiv x15):Int) λx44=>.gv 96<|.bI 100 (wu64 (x44*x15)) λx45=>.bI 101 (wu64 (x42-x45)) λx46=>.jn 0 [2,6,7,8,14,15,17] [] [] (λ_ (a:Int)=>[(18,.sc (.int .u64 a))]) (λ_ _=>[]) (.lp [2,6,7,8,9,10,14,15,17] [] [] (λ_ (a:Int×Int)=>[(16,.sc (.int .u64 a.1)),(18,.sc (.int .u64 a.2))]) (λ_ _=>[]) n ((x46:Int),x44) (pw λy3_1 y3_2=>.jn 0 [2,6,7,8,9,10,14,15,16,17,18] [] [] (λ_ (a:Bool)=>[(113,bD a)]) (λ_ _=>[]) (.bB 103 (decide (y3_2>=4294967296)) λx47=>.ifs [103] x47 (.ret true) (.bI 107 (wu64 (y3_2*x16)) λx48=>.bI 109 (wu64 (4294967296*y3_1)) λx49=>.bI 111 (wu64 (x49+x26)) λx50=>.bB 112 (decide (x48>x50)) λx51=>.ret x51)) (λy4_1=>.ifs [113] y4_1 (.bI 115 (wu64 (y3_2-1)) λx52=>.bI 118 (wu64 (y3_1+x15)) λx53=>.bB 120 (decide (x53>=4294967296)) λx54=>.ifs [120] x54 (.esc (.ret x52)) (.brk ((x53:Int),x52))) (.esc (.ret y3_2))))) (λy5_1=>.bI 122 (wu64 (y2_1*4294967296)) λx55=>.bI 124 (wu64 (x55+y5_1)) λx56=>.bI 126 (wu64 (x42*4294967296)) λx57=>.bI 128 (wu64 (x57+x26)) λx58=>.bI 131 (wu64 (y5_1*x14)) λx59=>.bI 132 (wu64 (x58-x59)) λx60=>.as ((0:Int)<=x12) inferInstance<|.bl (x60.fdiv (2 ^ (min x12.toNat IntKind.u64.bits)):Int) λx62=>.gv 134<|.ret ((x56:Int),x62))))))
def BS (n:Nat) (a1:Int) (a2:Int) (a3:Int):Option (Int×Int):=(U8 n a1 a2 a3).run
theorem aLT {n a1 a2 a3}:PZ (BS n a1 a2 a3) 144 [.sc (.int .u64 a1),.sc (.int .u64 a2),.sc (.int .u64 a3)] (λr=>.bT [.sc (.int .u64 r.1),.sc (.int .u64 r.2)]):=wq Tryz.func144
def aD9 (n:Nat) (a1:Int) (a2:Int) (a3:Int):WB (Int×Int×Int) :=
 .jn 1 [0,1,2,6,7,8] [] [] (λ_ (a:Bool)=>[(22,bD a)]) (λ_ _=>[]) (.bB 14 (decide (a1<0)) λx4=>.ifs [14] x4 (.ret true) (.bB 17 (decide (a2<0)) λx5=>.ifs [17] x5 (.ret true) (.bB 21 (decide (a3<1)) λx6=>.ret x6))) (λy0_1=>.ifs [22] y0_1 (.ret ((0:Int),0,1)) (.cl 26 (IT a1 a2) aXS aU5 λx7=>.bI 31 (wu64 a3) λx8=>.bB 32 (decide (x7.1>=x8)) λx9=>.ifs [32] x9 (.ret ((0:Int),0,2)) (.bI 37 (wu64 a3) λx10=>.cl 38 (BS n x7.1 x7.2 x10) aN2 aLT λx11=>.bB 42 (decide (x11.1>288230376151711744)) λx12=>.ifs [42] x12 (.ret ((0:Int),0,2)) (.bI 44 (aW x11.1) λx13=>.bI 46 (aW x11.2) λx14=>.ret ((x13:Int),x14,0)))))
def tF (n:Nat) (a1:Int) (a2:Int) (a3:Int):Option (Int×Int×Int):=(aD9 n a1 a2 a3).run
theorem GQ {n a1 a2 a3}:PZ (tF n a1 a2 a3) 101 [int a1,int a2,int a3] (λr=>.bT [int r.1,int r.2.1,int r.2.2]):=wq Tryz.func101
def aGX (n:Nat) (a1:Int) (a2:Int):WB (Int×Int) :=
 .bl (if 0>a2 then 0 else a2:Int) λx3=>.gv 11<|.cl 13 (tF n x3 a1 1) DW GQ λx4=>.ret ((x4.1:Int),x4.2.2)
def AB (n:Nat) (a1:Int) (a2:Int):Option (Int×Int):=(aGX n a1 a2).run
theorem SG {n a1 a2}:PZ (AB n a1 a2) 149 [int a1,int a2] (λr=>.bT [int r.1,int r.2]):=wq Tryz.func149
def WR (n:Nat) (a1:List aB) (a2:Int):WB ((List aB)×Int×Int) :=
 .as (a1.length<=68719476736) inferInstance<|.ge 11 1<|.cl 13 (BC a2) UO UJ λx5=>.bB 14 (!x5) λx6=>.ifs [14] x6 (.ret ((a1:List aB),0,1)) (.bB 18 (decide ((a1.length:Int)=0)) λx7=>.ifs [18] x7 (.ret ((a1:List aB),0,0)) (.bo (ix a1 0) λx8=>.gv 23<|.gv 24<|.gv 25<|.cl 26 (AB n a2 x8.aI) TV SG λx9=>.bB 30 (decide (x9.2≠0)) λx10=>.ifs [30] x10 (.ret ((a1:List aB),0,x9.2)) (.gv 35<|.gv 36<|.gv 37<|.bI 38 (aW (x9.1-x8.Value)) λx11=>.gv 41<|.gv 42<|.bl (a1.set (Int.toNat 0) ((⟨x8.aI,x9.1,x8.bN⟩:aB):aB):List aB) λx12=>.ge 1010004 0<|.ret ((x12:List aB),x11,0))))
def AL (n:Nat) (a1:List aB) (a2:Int):Option ((List aB)×Int×Int):=(WR n a1 a2).run
theorem aQ0 {n a1 a2}:PZ (AL n a1 a2) 107 [aN 3 aB.av a1,int a2] (λr=>.bT [aN 3 aB.av r.1,int r.2.1,int r.2.2]):=wq Tryz.func107
def aJ6 (a1:Int) (a2:Int):WB (aS) :=
 .al 1<|.ret (((⟨a1,a2⟩:aS):aS))
def pJ (a1:Int) (a2:Int):Option (aS):=(aJ6 a1 a2).run
theorem sN {a1 a2}:PZ (pJ a1 a2) 97 [int a1,int a2] (λr=>.agg (aS.av r)):=wq Tryz.func97
def aD1 (a1:Int):WB (Bool) :=
 .jn 1 [] [] [] (λ_ (a:Bool)=>[(2,bD a)]) (λ_ _=>[]) (.bB 4 (decide (a1>=0)) λx2=>.ifs [4] x2 (.bB 7 (decide (a1<17)) λx3=>.ret x3) (.ret false)) (λy0_1=>.ret ((y0_1:Bool)))
def FN (a1:Int):Option (Bool):=(aD1 a1).run
theorem aE5 {a1}:PZ (FN a1) 187 [int a1] bD:=wq Tryz.func187
def ZM (a1:Int):WB (Bool) :=
 .jn 1 [] [] [] (λ_ (a:Bool)=>[(2,bD a)]) (λ_ _=>[]) (.bB 4 (decide (a1>=(-288230376151711744))) λx2=>.ifs [4] x2 (.bB 7 (decide (a1<=288230376151711744)) λx3=>.ret x3) (.ret false)) (λy0_1=>.ret ((y0_1:Bool)))
def FR (a1:Int):Option (Bool):=(ZM a1).run
theorem aB0 {a1}:PZ (FR a1) 188 [int a1] bD:=wq Tryz.func188
def aBA (a1:aS):WB (Bool) :=
 .al 1<|.jn 0 [] [] [] (λ_ (a:Bool)=>[(2,bD a)]) (λ_ _=>[]) (.cl 5 (FN a1.dM) aBT aE5 λx3=>.bB 6 (!x3) λx4=>.ifs [6] x4 (.ret true) (.cl 10 (FR a1.bO) aGF aB0 λx5=>.bB 11 (!x5) λx6=>.ret x6)) (λy0_1=>.ret ((y0_1:Bool)))
def ML (a1:aS):Option (Bool):=(aBA a1).run
theorem aVY {a1}:PZ (ML a1) 186 [.agg (aS.av a1)] bD:=wq Tryz.func186
def aON (a1:aS):WB (Int) :=
 .al 1<|.ret ((a1.dM:Int))
def TG (a1:aS):Option (Int):=(aON a1).run
theorem aIY {a1}:PZ (TG a1) 191 [.agg (aS.av a1)] int:=wq Tryz.func191
def aDU (a1:Int):WB (Bool) :=
 .bB 5 (decide (a1≠a1)) λx2=>.ret ((x2:Bool))
def GD (a1:Int):Option (Bool):=(aDU a1).run
theorem aCT {a1}:PZ (GD a1) 206 [int a1] bD:=wq Tryz.func206
def XT (a1:Int) (a2:Int):WB (Int) :=
 .cl 8 (GD a1) aCI aCT λx3=>.cl 10 (GD a2) aCI aCT λx4=>.ifs [5,8] x3 (.ifs [10] x4 (.ret ((0:Int))) (.ret (((-1):Int)))) (.ifs [10] x4 (.ret ((1:Int))) (.bB 16 (decide (a1<a2)) λx5=>.ifs [16] x5 (.ret (((-1):Int))) (.bB 19 (decide (a1>a2)) λx6=>.ifs [19] x6 (.ret ((1:Int))) (.ret ((0:Int))))))
def OD (a1:Int) (a2:Int):Option (Int):=(XT a1 a2).run
theorem aOA {a1 a2}:PZ (OD a1 a2) 202 [int a1,int a2] int:=wq Tryz.func202
def aAS (a1:Int):WB (Bool) :=
 .jn 1 [] [] [] (λ_ (a:Bool)=>[(2,bD a)]) (λ_ _=>[]) (.bB 4 (decide (a1>=(-288230376151711744))) λx2=>.ifs [4] x2 (.bB 7 (decide (a1<=288230376151711744)) λx3=>.ret x3) (.ret false)) (λy0_1=>.ret ((y0_1:Bool)))
def zG (a1:Int):Option (Bool):=(aAS a1).run
theorem KJ {a1}:PZ (zG a1) 197 [int a1] bD:=wq Tryz.func197
def aCL (a1:Int) (a2:Int):WB (Int×Int) :=
 .jn 1 [0,1,4,5] [] [] (λ_ (a:Bool)=>[(20,bD a)]) (λ_ _=>[]) (.cl 7 (zG a1) LF KJ λx3=>.bB 8 (!x3) λx4=>.ifs [8] x4 (.ret true) (.cl 11 (zG a2) LF KJ λx5=>.bB 12 (!x5) λx6=>.ifs [12] x6 (.ret true) (.bI 17 (aW (a1+a2)) λx7=>.cl 18 (zG x7) LF KJ λx8=>.bB 19 (!x8) λx9=>.ret x9))) (λy0_1=>.ifs [20] y0_1 (.ret ((0:Int),2)) (.bI 23 (aW (a1+a2)) λx10=>.ret ((x10:Int),0)))
def nG (a1:Int) (a2:Int):Option (Int×Int):=(aCL a1 a2).run
theorem oO {a1 a2}:PZ (nG a1 a2) 178 [int a1,int a2] (λr=>.bT [int r.1,int r.2]):=wq Tryz.func178
def aWK (a1:aS):WB (Bool) :=
 .al 1<|.bB 5 (decide (a1.bO=0)) λx3=>.ret ((x3:Bool))
def PI (a1:aS):Option (Bool):=(aWK a1).run
theorem aID {a1}:PZ (PI a1) 193 [.agg (aS.av a1)] bD:=wq Tryz.func193
end
end Go.Pv
