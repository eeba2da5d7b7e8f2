import Derived.Test.YtkgnickfdedbmabGreatXCe
set_option linter.unusedVariables false
set_option linter.unusedSimpArgs false
namespace Go.Pv
open Go.Proofs
set_option maxRecDepth 100000
set_option maxHeartbeats 4000000
noncomputable section
def aGJ (n:Nat) (a1:Int) (a2:aM) (a3:Int):WB (aM×Int) :=
 .al 1<|.al 2<|.ln 16 aB.av a2.cO<|.jn 1 [2,4,6,7,8] [1,2] [] (λ_ (a:Bool)=>[(17,aF a)]) (λ_ _=>[]) (.bB 19 (decide (a3<0)) λx6=>.ifs [19] x6 (.ret true) (.bB 22 (decide (a1=4)) λx7=>.ret x7)) (λy0_1=>.ifs [17] y0_1 (.ret ((a2:aM),1)) (.bB 27 (decide ((a2.cO.length:Int)=0)) λx8=>.ifs [27] x8 (.ret ((a2:aM),5)) (.bB 31 (decide (a3>288230376151711744)) λx9=>.ifs [31] x9 (.ret ((a2:aM),2)) (.as (a2.cO.length<=68719476736) inferInstance<|.ge 35 3<|.cl 37 (vW n a2) yR yT λx12=>.al 4<|.jn 1 [4,6,7] [1,2] [] (λu10 (a:(List aB))=>[(9,.sl 3 (u10 3) 0 a.length)]) (λ_ a=>[.kp 3 (a.map aB.av)]) (.lp [2,4,6,7,8,10] [1,2,4] [] (λu13 (a:Int×Int×(List aB))=>[(9,.sl 3 (u13 3) 0 a.2.2.length),(11,int a.1),(12,int a.2.1)]) (λ_ a=>[.kp 3 (a.2.2.map aB.av)]) n ((a3:Int),0,(a2.cO:List aB)) (pw λy1_1 q0=>(pw λy1_2 y1_3=>.bB 41 (decide (y1_2<(a2.cO.length:Int))) λx14=>.ifs [41] x14 (.bI 47 (aI ((a2.cO.length:Int)-1)) λx15=>.bB 48 (decide (y1_2<x15)) λx16=>.jn 0 [2,4,6,7,8,9,10,11,12] [1,2,3,4] [] (λ_ (a:Int)=>[(13,int a)]) (λ_ _=>[]) (.ifs [48] x16 (.dr [(3,[3]),(4,[3]),(5,[3]),(6,[4]),(7,[4])] [] [3,4] [] [0,1,2,3,4,5,6,7,8,9] (.bo (ix y1_3 y1_2) λx17=>.gv 52<|.gv 53<|.gv 54<|.cl 57 (l9 n a3 x17.aQ x12.aQ) nP nL λx18=>.ret x18)) (.ret y1_1)) (λy2_1=>.bo (ix y1_3 y1_2) λx19=>.gv 62<|.gv 63<|.gv 64<|.bI 66 (aI (x19.Value+y2_1)) λx20=>.bI 69 (aI (y1_1-y2_1)) λx21=>.gv 70<|.gv 71<|.bl (y1_3.set (Int.toNat y1_2) ((⟨x19.aQ,x20,x19.bO⟩:aB):aB):List aB) λx22=>.ge 1016014 0<|.bI 43 (aI (y1_2+1)) λx23=>.brk ((x21:Int),x23,x22))) (.esc (.ret y1_3))) q0)) (λy3_1=>.gK 73 (zL n y3_1) EP IT (λ_=>rfl) λx24=>.bB 74 (!x24) λx25=>.ifs [74] x25 (.ret ((a2:aM),2)) (.ret (((⟨y3_1,a2.bF⟩:aM):aM),0)))))))
def RE (n:Nat) (a1:Int) (a2:aM) (a3:Int):Option (aM×Int):=(aGJ n a1 a2 a3).run
theorem aA6 {n a1 a2 a3}:PZ (RE n a1 a2 a3) 212 [int a1,.agg (aM.av a2),int a3] (λr=>.aU [.agg (aM.av r.1),int r.2]):=wq Tryz.func212
def YW (n:Nat) (a1:aA) (a2:bH) (a3:Int):WB (aA×Int×Int) :=
 .al 1<|.al 2<|.al 3<|.dr [(0,[1]),(1,[1]),(2,[1]),(3,[2]),(4,[2]),(7,[2]),(8,[2])] [] [1,2] [] [0,1,2,3,4,5,6,7,8,9,10,11] (.ix 20 (fL 1 fI) a1.bA.Methods a2.dG λx7=>.ix 24 fI x7 a2.Item λx8=>.cl 33 (nS a1 a2.dG a2.Item a2.Loc) oG oD λx9=>.al 4<|.dr [(1,[2]),(2,[2]),(3,[2]),(4,[2]),(6,[4]),(10,[2]),(11,[2])] [] [2,4] [] [0,1,2,3,4,5,6,7,8,9,10,11,12,13] (.bI 39 (aI (a2.aQ-a2.fF)) λx11=>.cl 41 (vW n x9) yR yT λx12=>.bl (if x12.aQ<x11 then x12.aQ else x11:Int) λx13=>.gv 43<|.cl 46 (l9 n a3 x13 a2.aQ) nP nL λx14=>.jn 0 [3,4,6,7,8,9,10,11] [1,2,3,4] [] (λ_ (a:Bool)=>[(52,aF a)]) (λ_ _=>[]) (.bB 48 (decide (x8=4)) λx15=>.ifs [48] x15 (.ret true) (.bB 51 (decide (x14=0)) λx16=>.ret x16)) (λy0_1=>.ifs [52] y0_1 (.ret ((a1:aA),0,0)) (.cl 58 (RE n x8 x9 x14) aMU aA6 λx17=>.al 5<|.bB 62 (decide (x17.2≠0)) λx19=>.ifs [62] x19 (.ret ((a1:aA),0,x17.2)) (.dr [(0,[1]),(1,[2]),(2,[2]),(3,[2]),(4,[2]),(5,[2]),(6,[2]),(7,[5]),(9,[2]),(10,[2]),(11,[2]),(12,[2])] [(20,[])] [1,2,5] [19,20] [0,1,2,3,4,5,6,7,8,9,10,11,12,13,14,15,16,17,18,19,20,21] (.cl 74 (rO a1 a2.dG a2.Item a2.Loc x17.1) wJ wV λx20=>.cl 81 (nH n x20 a2.dG a2.Item (⟨0,0,x14,0,0,0,0,0,0,0,0⟩:bM)) o6 pF λx21=>.al 6<|.ret ((x21.1:aA),x14,x21.2)))))))
def QG (n:Nat) (a1:aA) (a2:bH) (a3:Int):Option (aA×Int×Int):=(YW n a1 a2 a3).run
theorem WM {n a1 a2 a3}:PZ (QG n a1 a2 a3) 157 [.agg (aA.av a1),.agg (bH.av a2),int a3] (λr=>.aU [.agg (aA.av r.1),int r.2.1,int r.2.2]):=wq Tryz.func157
def aJX (n:Nat) (a1:aA) (a2:aS):WB (aA×Int) :=
 .al 1<|.al 2<|.al 3<|.jn 0 [2,3,4,5] [1,2,3] [] (λ_ (a:Bool)=>[(26,aF a)]) (λ_ _=>[]) (.bB 20 (decide (a2.Kind≠11)) λx6=>.ifs [20] x6 (.ret true) (.ln 24 fI a2.bT<|.bB 25 (decide ((a2.bT.length:Int)=0)) λx7=>.ret x7)) (λy0_1=>.ifs [26] y0_1 (.ret ((a1:aA),1)) (.dF 2 [2,3,4,5] [1,2,3] [] (λ_ (a:Unit)=>[]) (λ_ _=>[]) (.lp [2,3,4,5] [1,2,3] [] (λ_ (a:Int)=>[(6,int a)]) (λ_ _=>[]) n 0 (λy1_1=>.ln 31 fI a2.bT<|.bB 32 (decide (y1_1<(a2.bT.length:Int))) λx8=>.ifs [32] x8 (.jn 2 [2,3,4,5,6] [1,2,3] [] (λ_ (a:Bool)=>[(51,aF a)]) (λ_ _=>[]) (.dr [(0,[2]),(1,[2]),(7,[2]),(8,[2]),(12,[1]),(13,[1])] [] [1,2] [] [0,1,2,3,4,5,6,7,8,9,10,11,12,13,14,15,16] (.ix 38 fI a2.bT y1_1 λx9=>.bB 40 (decide (x9<0)) λx10=>.ifs [40] x10 (.ret true) (.ix 45 fI a2.bT y1_1 λx11=>.ln 49 bH.av a1.bP<|.bB 50 (decide (x11>=(a1.bP.length:Int))) λx12=>.ret x12))) (λy2_1=>.ifs [51] y2_1 (.esc (.esc (.ret ((a1:aA),4)))) (.bI 34 (aI (y1_1+1)) λx13=>.brk x13))) (.esc (.brk ())))) (λ_=>.dr [(0,[1]),(1,[1]),(2,[2]),(3,[2])] [(9,[])] [1,2] [8,9] [0,1,2,3,4,5,6,7,8,9] (.ix 57 fI a2.bT 0 λx14=>.ix 59 bH.av a1.bP x14 λx15=>.al 4<|.dF 1 [2,3,4,5,7] [1,2,3,4] [] (λ_ (a:Unit)=>[]) (λ_ _=>[]) (.lp [2,3,4,5,7] [1,2,3,4] [] (λ_ (a:Int)=>[(8,int a)]) (λ_ _=>[]) n 1 (λy4_1=>.ln 64 fI a2.bT<|.bB 65 (decide (y4_1<(a2.bT.length:Int))) λx17=>.ifs [65] x17 (.dr [(0,[1]),(1,[1]),(2,[2]),(3,[2]),(10,[4]),(11,[4])] [] [1,2,4] [] [0,1,2,3,4,5,6,7,8,9,10,11,12] (.ix 73 fI a2.bT y4_1 λx18=>.ix 75 bH.av a1.bP x18 λx19=>.bB 80 (decide (x19.dG≠x15.dG)) λx20=>.ifs [80] x20 (.esc (.esc (.ret ((a1:aA),1)))) (.bI 67 (aI (y4_1+1)) λx21=>.brk x21))) (.esc (.brk ())))) (λ_=>.cl 87 (lY a1 x15.dG x15.Item) nY nX λx22=>.bB 89 (decide (x22≠0)) λx23=>.ifs [89] x23 (.ret ((a1:aA),x22)) (.dr [(0,[2]),(1,[2]),(2,[1]),(3,[2]),(4,[2]),(5,[2]),(6,[2])] [] [1,2] [] [0,1,2,3,4,5,6,7,8,9,10,11,12,13] (.cl 100 (MS n a1 a2.bT a2.To) aKR aCY λx24=>.cl 101 (TM n a2.bD x24) IA aA2 λx25=>.bB 105 (decide (x25.2≠0)) λx26=>.ifs [105] x26 (.ret ((a1:aA),x25.2)) (.al 5<|.dF 1 [2,3,4,5,7,12] [1,2,3,4] [] (λ_ (a:Int×aA)=>[(13,int a.1)]) (λ_ a=>[.kp 5 [(aA.av a.2)]]) (.lp [2,3,4,5,7,10,12] [1,2,3,4] [] (λ_ (a:Int×Int×aA)=>[(13,int a.1),(14,int a.2.1)]) (λ_ a=>[.kp 5 [(aA.av a.2.2)]]) n ((0:Int),0,a1) (pw λy6_1 q0=>(pw λy6_2 y6_3=>.ln 111 fI x25.1<|.bB 112 (decide (y6_2<(x25.1.length:Int))) λx28=>.ifs [112] x28 (.dr [(0,[5]),(1,[1]),(2,[1]),(3,[2]),(4,[2])] [(20,[])] [1,2,5] [19,20] [0,1,2,3,4,5,6,7,8,9,10,11,12,13,14,15,16,17,18,19,20,21,22] (.ix 122 fI a2.bT y6_2 λx29=>.ix 124 bH.av a1.bP x29 λx30=>.ix 128 fI x25.1 y6_2 λx31=>.cl 130 (QG n y6_3 x30 x31) aB0 WM λx32=>.al 6<|.bB 135 (decide (x32.2.2≠0)) λx34=>.ifs [135] x34 (.esc (.esc (.ret ((a1:aA),x32.2.2)))) (.bI 141 (aI (y6_1+x32.2.1)) λx35=>.bI 114 (aI (y6_2+1)) λx36=>.brk ((x35:Int),x36,x32.1)))) (.esc (.brk ((y6_1:Int),y6_3)))) q0)) (pw λy7_1 y7_2=>.bI 151 (aI (a2.bD-y7_1)) λx37=>.bI 155 (aI (0-a2.bD)) λx38=>.to 157 (aD 2 aH.av ([(⟨0,y7_1⟩:aH),(⟨9,x37⟩:aH),(⟨2,x38⟩:aH)]:List aH))<|.cl 158 (kN n y7_2 x15.dG ([(⟨0,y7_1⟩:aH),(⟨9,x37⟩:aH),(⟨2,x38⟩:aH)]:List aH)) kX lI λx39=>.bB 162 (decide (x39.2≠0)) λx40=>.ifs [162] x40 (.ret ((a1:aA),x39.2)) (.ret ((x39.1:aA),0)))))))))))
def VM (n:Nat) (a1:aA) (a2:aS):Option (aA×Int):=(aJX n a1 a2).run
theorem aON {n a1 a2}:PZ (VM n a1 a2) 84 [.agg (aA.av a1),.agg (aS.av a2)] (λr=>.aU [.agg (aA.av r.1),int r.2]):=wq Tryz.func84
def aG6 (n:Nat) (a1:aA) (a2:aS):WB (aA×Int) :=
 .al 1<|.al 2<|.al 3<|.cl 18 (lY a1 a2.E a2.Item) nY nX λx6=>.bB 20 (decide (x6≠0)) λx7=>.ifs [20] x7 (.ret ((a1:aA),x6)) (.cl 28 (lY a1 a2.To a2.Item) nY nX λx8=>.bB 30 (decide (x8≠0)) λx9=>.ifs [30] x9 (.ret ((a1:aA),x8)) (.ln 35 dB.av a1.bY<|.bB 36 (decide ((a1.bY.length:Int)>=40)) λx10=>.ifs [36] x10 (.ret ((a1:aA),6)) (.cl 48 (tL n a1 a2.E a2.Item a2.Loc 3 a2.aQ) uP uJ λx11=>.al 4<|.al 5<|.bB 54 (decide (x11.2.2.2≠0)) λx14=>.ifs [54] x14 (.ret ((a1:aA),x11.2.2.2)) (.bI 66 (aI (0-a2.bD)) λx15=>.bI 73 (aI (0-x11.2.1.Value)) λx16=>.to 75 (aD 2 aH.av ([(⟨13,a2.bD⟩:aH),(⟨15,x15⟩:aH),(⟨16,x11.2.1.Value⟩:aH),(⟨0,x16⟩:aH)]:List aH))<|.cl 76 (kN n x11.1 a2.E ([(⟨13,a2.bD⟩:aH),(⟨15,x15⟩:aH),(⟨16,x11.2.1.Value⟩:aH),(⟨0,x16⟩:aH)]:List aH)) kX lI λx17=>.bB 80 (decide (x17.2≠0)) λx18=>.ifs [80] x18 (.ret ((a1:aA),x17.2)) (.bI 92 (aI (0-a2.bD)) λx19=>.to 94 (aD 2 aH.av ([(⟨12,a2.bD⟩:aH),(⟨14,x19⟩:aH)]:List aH))<|.cl 95 (kN n x17.1 a2.To ([(⟨12,a2.bD⟩:aH),(⟨14,x19⟩:aH)]:List aH)) kX lI λx20=>.bB 99 (decide (x20.2≠0)) λx21=>.ifs [99] x21 (.ret ((a1:aA),x20.2)) (.cl 111 (nH n x20.1 a2.E a2.Item (⟨0,0,0,0,0,0,x11.2.1.Value,0,0,0,0⟩:bM)) o6 pF λx22=>.bB 115 (decide (x22.2≠0)) λx23=>.ifs [115] x23 (.ret ((a1:aA),x22.2)) (.bI 122 (aI (a2.bD-x11.2.1.Value)) λx24=>.bI 125 (aI (x24+x11.2.1.bO)) λx25=>.cl 127 (qO x25) rF tN λx26=>.bB 128 (!x26) λx27=>.ifs [128] x27 (.ret ((a1:aA),2)) (.dr [(0,[4]),(1,[4]),(3,[2]),(4,[2]),(5,[2]),(6,[2]),(7,[2]),(8,[2]),(9,[2]),(10,[2]),(11,[2]),(12,[2]),(17,[4])] [(2,[2]),(16,[]),(18,[])] [2,4] [2,16,18] [0,1,3,4,5,6,7,8,9,10,11,12,13,14,15,2,16,17,18] (.to 145 (aD 6 dB.av ([(⟨a2.E,a2.To,a2.Item,a2.aQ,a2.bD,x25⟩:dB)]:List dB))<|.as (x22.1.bY.length<=68719476736) inferInstance<|.ge 132 6<|.bl (x22.1.bY++([(⟨a2.E,a2.To,a2.Item,a2.aQ,a2.bD,x25⟩:dB)]:List dB):List dB) λx30=>.as (x30.length<=68719476736) inferInstance<|.ge 146 0<|.ret (((⟨x22.1.bA,x22.1.aW,x22.1.bP,x22.1.bU,x30,x22.1.Done⟩:aA):aA),0))))))))))
def M5 (n:Nat) (a1:aA) (a2:aS):Option (aA×Int):=(aG6 n a1 a2).run
theorem aB8 {n a1 a2}:PZ (M5 n a1 a2) 158 [.agg (aA.av a1),.agg (aS.av a2)] (λr=>.aU [.agg (aA.av r.1),int r.2]):=wq Tryz.func158
def aDN (n:Nat) (a1:aA) (a2:aS):WB (aA×Int) :=
 .al 1<|.al 2<|.al 3<|.jn 0 [2,3,4,5] [1,2,3] [] (λ_ (a:Bool)=>[(25,aF a)]) (λ_ _=>[]) (.bB 17 (decide (a2.Ref<0)) λx6=>.ifs [17] x6 (.ret true) (.ln 23 dB.av a1.bY<|.bB 24 (decide (a2.Ref>=(a1.bY.length:Int))) λx7=>.ret x7)) (λy0_1=>.ifs [25] y0_1 (.ret ((a1:aA),4)) (.ix 31 dB.av a1.bY a2.Ref λx8=>.al 4<|.cl 38 (lY a1 x8.To x8.Item) nY nX λx10=>.bB 40 (decide (x10≠0)) λx11=>.ifs [40] x11 (.ret ((a1:aA),x10)) (.bB 47 (decide (a2.aQ>x8.aQ)) λx12=>.ifs [47] x12 (.ret ((a1:aA),5)) (.dr [(0,[4]),(1,[4]),(2,[2]),(3,[2]),(4,[4]),(5,[4]),(7,[4]),(8,[4]),(9,[2]),(10,[2]),(11,[4]),(12,[4])] [] [2,4] [] [0,1,2,3,4,5,6,7,8,9,10,11,12,13,14,15] (.cl 55 (l9 n x8.Value a2.aQ x8.aQ) nP nL λx13=>.cl 62 (l9 n x8.bO a2.aQ x8.aQ) nP nL λx14=>.cl 76 (uM n a1 x8.To x8.Item a2.Loc (⟨a2.aQ,x13,x14⟩:aB)) yO xU λx15=>.al 5<|.bB 82 (decide (x15.2.2.2≠0)) λx17=>.ifs [82] x17 (.ret ((a1:aA),x15.2.2.2)) (.bI 94 (aI (0-x13)) λx18=>.to 96 (aD 2 aH.av ([(⟨0,x15.2.1⟩:aH),(⟨6,x15.2.2.1⟩:aH),(⟨12,x18⟩:aH)]:List aH))<|.cl 97 (kN n x15.1 x8.To ([(⟨0,x15.2.1⟩:aH),(⟨6,x15.2.2.1⟩:aH),(⟨12,x18⟩:aH)]:List aH)) kX lI λx19=>.bB 101 (decide (x19.2≠0)) λx20=>.ifs [101] x20 (.ret ((a1:aA),x19.2)) (.cl 112 (nH n x19.1 x8.To x8.Item (⟨0,0,0,x15.2.1,0,0,0,0,0,0,0⟩:bM)) o6 pF λx21=>.bB 116 (decide (x21.2≠0)) λx22=>.ifs [116] x22 (.ret ((a1:aA),x21.2)) (.as (x21.1.bY.length<=68719476736) inferInstance<|.ge 121 6<|.dr [(1,[2]),(2,[2]),(4,[2]),(5,[2]),(7,[2]),(8,[2]),(9,[4]),(10,[4]),(11,[2]),(12,[2]),(14,[4]),(15,[4]),(18,[4]),(19,[4]),(22,[6]),(23,[6]),(25,[6]),(26,[6]),(28,[6]),(29,[6])] [(24,[2,4]),(27,[2,4]),(30,[])] [2,4,6] [24,27,30] [0,1,2,3,4,5,6,7,8,9,10,11,12,13,14,15,16,17,18,19,20,21,22,23,24,25,26,27,28,29,30] (.bI 135 (aI (x8.aQ-a2.aQ)) λx25=>.bI 139 (aI (x8.Value-x13)) λx26=>.bI 143 (aI (x8.bO-x14)) λx27=>.bo (ix x21.1.bY a2.Ref) λx28=>.gv 144<|.gv 145<|.bl (x21.1.bY.set (Int.toNat a2.Ref) ((⟨x28.tH,x28.To,x28.Item,x25,x28.Value,x28.bO⟩:dB):dB):List dB) λx29=>.ge 1020024 0<|.gv 146<|.gv 147<|.bl (x29.set (Int.toNat a2.Ref) ((⟨x28.tH,x28.To,x28.Item,x25,x26,x28.bO⟩:dB):dB):List dB) λx30=>.ge 1020027 0<|.gv 148<|.gv 149<|.bl (x30.set (Int.toNat a2.Ref) ((⟨x28.tH,x28.To,x28.Item,x25,x26,x27⟩:dB):dB):List dB) λx31=>.ge 1020030 0<|.ret (((⟨x21.1.bA,x21.1.aW,x21.1.bP,x21.1.bU,x31,x21.1.Done⟩:aA):aA),0))))))))))
def MR (n:Nat) (a1:aA) (a2:aS):Option (aA×Int):=(aDN n a1 a2).run
theorem aKL {n a1 a2}:PZ (MR n a1 a2) 159 [.agg (aA.av a1),.agg (aS.av a2)] (λr=>.aU [.agg (aA.av r.1),int r.2]):=wq Tryz.func159
def aAS (n:Nat) (a1:aA) (a2:aS):WB (aA×Int) :=
 .al 1<|.al 2<|.al 3<|.bB 9 (decide (a2.Kind=12)) λx6=>.ifs [9] x6 (.cl 12 (M5 n a1 a2) aDC aB8 λx7=>.ret ((x7.1:aA),x7.2)) (.bB 16 (decide (a2.Kind=13)) λx8=>.ifs [16] x8 (.cl 19 (MR n a1 a2) WY aKL λx9=>.ret ((x9.1:aA),x9.2)) (.ret ((a1:aA),1)))
def KP (n:Nat) (a1:aA) (a2:aS):Option (aA×Int):=(aAS n a1 a2).run
theorem aBX {n a1 a2}:PZ (KP n a1 a2) 85 [.agg (aA.av a1),.agg (aS.av a2)] (λr=>.aU [.agg (aA.av r.1),int r.2]):=wq Tryz.func85
def aD2 (a1:aA) (a2:aS):WB (aA×Int) :=
 .al 1<|.al 2<|.al 3<|.bB 10 (decide (a2.Kind≠10)) λx6=>.ifs [10] x6 (.ret ((a1:aA),1)) (.cl 17 (lY a1 a2.E a2.Item) nY nX λx7=>.bB 19 (decide (x7≠0)) λx8=>.ifs [19] x8 (.ret ((a1:aA),x7)) (.inl 25 tO Tryz.func40 [1,2,3] [6,7,8,9,10,11] (λu2 (a:Int×Bool×(List aP)×(List aM)×(List Int)×(List bM)×(List Int)×(List Int))=>.agg [int a1.bA.eH,int a1.bA.fA,aD 1 fI a1.bA.cB,aD 1 (fL 1 fI) a1.bA.Methods,aD 1 (fL 1 fI) a1.bA.dN,.sl 6 (u2 6) 0 a1.aW.length,aD 8 bH.av a1.bP,aD 9 bS.av a1.bU,aD 6 dB.av a1.bY,int a1.Done]) (λu2 a=>[.nw 6 42 8 ((a1.aW.map aP.av).set (Int.toNat a2.E) [int a.1,aF a.2.1,.sl 7 (u2 7) 0 a.2.2.2.1.length,.sl 8 (u2 8) 0 a.2.2.2.2.1.length,.sl 9 (u2 9) 0 a.2.2.2.2.2.1.length,.sl 10 (u2 10) 0 a.2.2.2.2.2.2.1.length,.sl 11 (u2 11) 0 a.2.2.2.2.2.2.2.length,aD 8 aP.av a.2.2.1]),.nw 7 126 4 (a.2.2.2.1.map aM.av),.nw 8 3 1 (a.2.2.2.2.1.map fI),.nw 9 87 11 (a.2.2.2.2.2.1.map bM.av),.nw 10 3 1 (a.2.2.2.2.2.2.1.map fI),.nw 11 3 1 (a.2.2.2.2.2.2.2.map fI)]) (.al 4<|.al 5<|.as (a1.aW.length<=68719476736) inferInstance<|.ge 8 6<|.bo (ix a1.aW a2.E) λx13=>.gv 13<|.dr [(4,[6]),(5,[6]),(6,[6]),(9,[6]),(10,[6]),(11,[6]),(14,[6]),(15,[6]),(16,[6]),(18,[6]),(19,[6]),(21,[6]),(22,[6]),(24,[6]),(25,[6])] [(17,[]),(20,[]),(23,[]),(26,[])] [6] [7,12,17,20,23,26] [0,1,2,3,4,5,6,8,9,10,11,13,14,15,16,7,12,17,18,19,20,21,22,23,24,25,26] (.gv 18<|.gv 19<|.gv 20<|.gv 23<|.gv 24<|.gv 25<|.gv 28<|.gv 29<|.gv 30<|.as (x13.dD.length<=68719476736) inferInstance<|.ge 21 7<|.as (x13.dU.length<=68719476736) inferInstance<|.ge 26 8<|.as (x13.dI.length<=68719476736) inferInstance<|.ge 31 9<|.gv 32<|.gv 33<|.ge 1003020 0<|.gv 34<|.gv 35<|.ge 1003023 0<|.gv 36<|.gv 37<|.ge 1003026 0<|.dr [(3,[6]),(4,[6]),(5,[6]),(8,[6]),(9,[6]),(10,[6]),(12,[6]),(13,[6]),(15,[6]),(16,[6])] [(11,[]),(14,[]),(17,[])] [6] [6,11,14,17] [0,1,2,3,4,5,7,8,9,10,6,11,12,13,14,15,16,17] (.gv 41<|.gv 42<|.gv 43<|.gv 46<|.gv 47<|.gv 48<|.as (x13.dO.length<=68719476736) inferInstance<|.ge 44 10<|.as (x13.Down.length<=68719476736) inferInstance<|.ge 49 11<|.gv 50<|.gv 51<|.ge 1004014 0<|.gv 52<|.gv 53<|.ge 1004017 0<|.ret ((x13.dS:Int),(x13.Closed:Bool),(x13.eT:List aP),(x13.dD:List aM),(x13.dU:List Int),(x13.dI:List bM),(x13.dO:List Int),(x13.Down:List Int))))) (pw λy0_2 q0=>(pw λy0_3 q1=>(pw λy0_9 q2=>(pw λy0_10 q3=>(pw λy0_11 q4=>(pw λy0_12 q5=>(pw λy0_13 y0_14=>.bo (ix a1.aW a2.E) λx24=>.al 12<|.dr [(0,[12]),(1,[12]),(2,[2]),(3,[2]),(4,[6]),(5,[6]),(6,[6]),(7,[2]),(8,[2]),(9,[2]),(10,[2]),(11,[10])] [(12,[])] [2,6,10,12] [12] [0,1,2,3,4,5,6,7,8,9,10,11,12] (.gv 30<|.gv 31<|.gv 32<|.bo (ix y0_13 a2.Item) λx26=>.gv 37<|.bl (y0_13.set (Int.toNat a2.Item) (a2.bD:Int):List Int) λx27=>.ge 1007012 0<|.ret (((⟨a1.bA,(a1.aW.set (Int.toNat a2.E) (⟨y0_2,y0_3,y0_10,y0_11,y0_12,x27,y0_14,y0_9⟩:aP)),a1.bP,a1.bU,a1.bY,a1.Done⟩:aA):aA),0))) q5) q4) q3) q2) q1) q0)))
def PG (a1:aA) (a2:aS):Option (aA×Int):=(aD2 a1 a2).run
theorem aHS {a1 a2}:PZ (PG a1 a2) 86 [.agg (aA.av a1),.agg (aS.av a2)] (λr=>.aU [.agg (aA.av r.1),int r.2]):=wq Tryz.func86
def aM8 (n:Nat) (a1:aA) (a2:aS):WB (aA×Int) :=
 .al 1<|.al 2<|.al 3<|.bB 9 (decide (a2.Kind=1)) λx6=>.ifs [9] x6 (.cl 12 (U8 n a1 a2) aMV aAI λx7=>.ret ((x7.1:aA),x7.2)) (.bB 16 (decide (a2.Kind=4)) λx8=>.jn 0 [2,3,4,5,7] [1,2,3] [] (λ_ (a:Bool)=>[(15,aF a)]) (λ_ _=>[]) (.ifs [15,16] x8 (.ret true) (.bB 17 (decide (a2.Kind=5)) λx9=>.ret x9)) (λy0_1=>.ifs [15] y0_1 (.cl 20 (TI n a1 a2) aGA aF6 λx10=>.ret ((x10.1:aA),x10.2)) (.bB 24 (decide (a2.Kind=6)) λx11=>.jn 0 [2,3,4,5,7] [1,2,3] [] (λ_ (a:Bool)=>[(23,aF a)]) (λ_ _=>[]) (.ifs [23,24] x11 (.ret true) (.bB 25 (decide (a2.Kind=7)) λx12=>.ifs [25] x12 (.ret true) (.bB 26 (decide (a2.Kind=8)) λx13=>.ifs [26] x13 (.ret true) (.bB 27 (decide (a2.Kind=9)) λx14=>.ret x14)))) (λy1_1=>.ifs [23] y1_1 (.cl 30 (MZ n a1 a2) aKU aI7 λx15=>.ret ((x15.1:aA),x15.2)) (.bB 34 (decide (a2.Kind=2)) λx16=>.jn 0 [2,3,4,5,7] [1,2,3] [] (λ_ (a:Bool)=>[(33,aF a)]) (λ_ _=>[]) (.ifs [33,34] x16 (.ret true) (.bB 35 (decide (a2.Kind=3)) λx17=>.ret x17)) (λy2_1=>.ifs [33] y2_1 (.cl 38 (QA n a1 a2) aMC aIX λx18=>.ret ((x18.1:aA),x18.2)) (.bB 42 (decide (a2.Kind=11)) λx19=>.ifs [42] x19 (.cl 45 (VM n a1 a2) aBP aON λx20=>.ret ((x20.1:aA),x20.2)) (.bB 49 (decide (a2.Kind=12)) λx21=>.jn 0 [2,3,4,5,7] [1,2,3] [] (λ_ (a:Bool)=>[(48,aF a)]) (λ_ _=>[]) (.ifs [48,49] x21 (.ret true) (.bB 50 (decide (a2.Kind=13)) λx22=>.ret x22)) (λy3_1=>.ifs [48] y3_1 (.cl 53 (KP n a1 a2) aFC aBX λx23=>.ret ((x23.1:aA),x23.2)) (.bB 57 (decide (a2.Kind=10)) λx24=>.ifs [57] x24 (.cl 60 (PG a1 a2) YT aHS λx25=>.ret ((x25.1:aA),x25.2)) (.ret ((a1:aA),1))))))))))))
def M6 (n:Nat) (a1:aA) (a2:aS):Option (aA×Int):=(aM8 n a1 a2).run
theorem aB6 {n a1 a2}:PZ (M6 n a1 a2) 42 [.agg (aA.av a1),.agg (aS.av a2)] (λr=>.aU [.agg (aA.av r.1),int r.2]):=wq Tryz.func42
def aMR (n:Nat) (a1:aA) (a2:aS):WB (aA×Int) :=
 .al 1<|.al 2<|.al 3<|.cl 9 (H9 n a2) UN NZ λx6=>.bB 10 (!x6) λx7=>.ifs [10] x7 (.ret ((a1:aA),1)) (.cl 15 (M6 n a1 a2) aIB aB6 λx8=>.al 4<|.bB 19 (decide (x8.2≠0)) λx10=>.ifs [19] x10 (.ret ((a1:aA),x8.2)) (.bI 24 (aI (x8.1.Done+1)) λx11=>.bl (if 288230376151711744<x11 then 288230376151711744 else x11:Int) λx12=>.gv 25<|.ret (((⟨x8.1.bA,x8.1.aW,x8.1.bP,x8.1.bU,x8.1.bY,x12⟩:aA):aA),0)))
def TP (n:Nat) (a1:aA) (a2:aS):Option (aA×Int):=(aMR n a1 a2).run
theorem aNO {n a1 a2}:PZ (TP n a1 a2) 21 [.agg (aA.av a1),.agg (aS.av a2)] (λr=>.aU [.agg (aA.av r.1),int r.2]):=wq Tryz.func21
def aEL (n:Nat) (a1:aA) (a2:aS):WB (aA×Int) :=
 .al 1<|.al 2<|.al 3<|.cl 9 (H9 n a2) UN NZ λx6=>.bB 10 (!x6) λx7=>.ifs [10] x7 (.ret ((a1:aA),1)) (.al 4<|.dF 1 [2,4,5,6] [1,3] [] (λ_ (a:Int×aA)=>[(7,int a.1)]) (λ_ a=>[.kp 4 [(aA.av a.2)]]) (.bB 21 (decide (a2.Kind=14)) λx9=>.ifs [21] x9 (.cl 26 (UJ n a1 a2.E) ZV aGG λx10=>.brk ((x10.2:Int),x10.1)) (.bB 30 (decide (a2.Kind=15)) λx11=>.ifs [30] x11 (.cl 35 (M7 n a1 a2.E) aLC aKV λx12=>.brk ((x12.2:Int),x12.1)) (.bB 39 (decide (a2.Kind=16)) λx13=>.ifs [39] x13 (.cl 44 (P5 n a1 a2.E) YK Y5 λx14=>.brk ((x14.2:Int),x14.1)) (.cl 17 (TP n a1 a2) aE8 aNO λx15=>.esc (.ret ((x15.1:aA),x15.2)))))) (pw λy0_1 y0_2=>.bB 48 (decide (y0_1≠0)) λx16=>.ifs [48] x16 (.ret ((a1:aA),y0_1)) (.bI 53 (aI (y0_2.Done+1)) λx17=>.ret (((⟨y0_2.bA,y0_2.aW,y0_2.bP,y0_2.bU,y0_2.bY,x17⟩:aA):aA),0))))
def V5 (n:Nat) (a1:aA) (a2:aS):Option (aA×Int):=(aEL n a1 a2).run
theorem aCB {n a1 a2}:PZ (V5 n a1 a2) 10 [.agg (aA.av a1),.agg (aS.av a2)] (λr=>.aU [.agg (aA.av r.1),int r.2]):=wq Tryz.func10
def aFW (n:Nat) (a1:eZ) (a2:List Int):WB (aA) :=
 .al 1<|.al 2<|.cl 11 (IK n a1) aAZ (λ_=>aOJ) λx5=>.al 3<|.cl 16 (MJ n a1 a2) aD1 ZH λx7=>.jn 1 [4,5] [2] [] (λ_ (a:aA)=>[]) (λ_ a=>[.kp 3 [(aA.av a)]]) (.lp [4,5,7] [2] [] (λ_ (a:Int×aA)=>[(8,int a.1)]) (λ_ a=>[.kp 3 [(aA.av a.2)]]) n ((0:Int),x5.1) (pw λy0_1 y0_2=>.ln 19 aS.av x7<|.bB 20 (decide (y0_1<(x7.length:Int))) λx8=>.ifs [20] x8 (.dr [(0,[3])] [(9,[])] [3] [9] [0,1,2,3,4,5,6,7,8,9] (.ix 27 aS.av x7 y0_1 λx9=>.cl 29 (V5 n y0_2 x9) aOX aCB λx10=>.bI 22 (aI (y0_1+1)) λx11=>.brk ((x11:Int),x10.1))) (.esc (.ret y0_2)))) (λy1_1=>.ret ((y1_1:aA)))
def AO (n:Nat) (a1:eZ) (a2:List Int):Option (aA):=(aFW n a1 a2).run
theorem NF {n a1 a2}:PZ (AO n a1 a2) 4 [.agg (eZ.av a1),aD 1 fI a2] (λr=>.agg (aA.av r)):=wq Tryz.func4
def aAN :WB (nA) :=
 .al 1<|.gv 1<|.ret (((⟨([]:List UInt8),([69,73,76,81,65]:List UInt8),([81,65,82]:List UInt8),([81,82]:List UInt8),([69,73,76,81,65]:List UInt8),([81,65,82]:List UInt8),([69,73,76,81]:List UInt8),([69,73,76,81]:List UInt8),([69,73,76,84,81]:List UInt8),([69,73,65]:List UInt8),([69,73,65]:List UInt8),([84,65,83]:List UInt8),([69,73,76,84,81,65]:List UInt8),([76,81,82]:List UInt8),([69]:List UInt8),([69]:List UInt8),([69]:List UInt8)⟩:nA):nA))
def MG :Option (nA):=(aAN ).run
theorem aHE:PZ (MG ) 29 [] (λr=>.agg (nA.av r)):=by
 refine wm Tryz.func29 ?_
 intro v1
 refine .mk _ (bE (qJ (cs:=[str ([]:List UInt8),str ([69,73,76,81,65]:List UInt8),str ([81,65,82]:List UInt8),str ([81,82]:List UInt8),str ([69,73,76,81,65]:List UInt8),str ([81,65,82]:List UInt8),str ([69,73,76,81]:List UInt8),str ([69,73,76,81]:List UInt8),str ([69,73,76,84,81]:List UInt8),str ([69,73,65]:List UInt8),str ([69,73,65]:List UInt8),str ([84,65,83]:List UInt8),str ([69,73,76,84,81,65]:List UInt8),str ([76,81,82]:List UInt8),str ([69]:List UInt8),str ([69]:List UInt8),str ([69]:List UInt8)]) (ps:=[(1,_),(2,_),(3,_),(4,_),(5,_),(6,_),(7,_),(8,_),(9,_),(10,_),(11,_),(12,_),(13,_),(14,_),(15,_),(16,_)]) rfl Tryz.underlying63 OT z63 rfl (.cons rfl (.cons rfl (.cons rfl (.cons rfl (.cons rfl (.cons rfl (.cons rfl (.cons rfl (.cons rfl (.cons rfl (.cons rfl (.cons rfl (.cons rfl (.cons rfl (.cons rfl (.cons rfl .nil)))))))))))))))) (by kernel_rfl))) ?_
 exact .mk
def WK (a1:List UInt8) (a2:Int):WB (Int) :=
 .bl (yX a1 a2:Int) λx3=>.gv 7<|.ret ((x3:Int))
def UK (a1:List UInt8) (a2:Int):Option (Int):=(WK a1 a2).run
theorem aIJ {a1 a2}:PZ (UK a1 a2) 194 [str a1,.sc (.int .u8 a2)] int:=by
 refine wm Tryz.func194 ?_
 refine .mk λx3 e3=>?_
 refine .mk _ (bE (bX (y:=int x3) (aMK rfl Tryz.func228 rfl rfl ibx iby rfl rfl) (congrArg int e3))) ?_
 exact .mk
def aF3 (a1:List UInt8) (a2:Int):WB (Int) :=
 .cl 7 (UK a1 a2) aKA aIJ λx3=>.ret ((x3:Int))
def qL (a1:List UInt8) (a2:Int):Option (Int):=(aF3 a1 a2).run
theorem rA {a1 a2}:PZ (qL a1 a2) 128 [str a1,.sc (.int .u8 a2)] int:=by
 refine wm Tryz.func128 ?_
 refine .mk λx3 e3=>?_
 exact .mk
def oV (a1:Int) (a2:Int):Option (Int×Int) :=
bnd (decide (a2=69)) λx3 =>
cond x3 (some ((0:Int),(3:Int))) (bnd (decide (a2=73)) λx4 =>
cond x4 (some ((0:Int),(4:Int))) (bnd (decide (a2=76)) λx5 =>
cond x5 (some ((0:Int),(1:Int))) (bnd (decide (a2=84)) λx6 =>
cond x6 (some ((0:Int),((nM [(8,1),(12,3),(11,2)] a1):Int))) (bnd (decide (a2=81)) λx7 =>
cond x7 (bnd (decide (a1=7)) λx12 =>
cond x12 (some ((0:Int),(1073741824:Int))) (some ((1:Int),(1073741824:Int)))) (bnd (decide (a2=65)) λx8 =>
cond x8 ((show Option (Bool) from
bnd (decide (a1=9)) λx10 =>
cond x10 (some (true:Bool)) (bnd (decide (a1=10)) λx11 =>
some (x11:Bool))).bind <| λy0_1 =>
cond y0_1 (some ((0:Int),(1073741824:Int))) (some ((0:Int),(1125899906842624:Int)))) (some ((0:Int),(39:Int))))))))
theorem qZ {a1:Int} {a2:Int} {r:Int×Int} (h0:oV a1 a2=some r):PP Tryz.prog 31 [int a1,.sc (.int .i32 a2)] (λy=>y=.aU [int r.1,int r.2]):=by
  unfold oV at h0
  refine uD (R0:=λy H=>Cv (jZ H) y (.aU [int r.1,int r.2])) ?_ (λy H hc=>⟨_,rfl,.aU (N6 (qX (r.1)) (qX (r.2))),hc⟩)
  refine gN (c:=_) Tryz.func31 rfl rfl ?_;intro Q hret hnorm
  refine tc aN 13 (.mk ?_)
  refine nb aN h0 λx3 h0=>?_
  refine tr aN 2 (.mk ?_)
  cases x3
  replace h0:=cf h0
  refine tc aN 3 (.mk ?_)
  refine nb aN h0 λx4 h0=>?_
  refine tr aN 2 (.mk ?_)
  cases x4
  replace h0:=cf h0
  refine tc aN 3 (.mk ?_)
  refine nb aN h0 λx5 h0=>?_
  refine tr aN 2 (.mk ?_)
  cases x5
  replace h0:=cf h0
  refine tc aN 3 (.mk ?_)
  refine nb aN h0 λx6 h0=>?_
  refine tr aN 2 (.mk ?_)
  cases x6
  replace h0:=cf h0
  refine tc aN 3 (.mk ?_)
  refine nb aN h0 λx7 h0=>?_
  refine tr aN 2 (.mk ?_)
  cases x7
  replace h0:=cf h0
  refine tc aN 3 (.mk ?_)
  refine nb aN h0 λx8 h0=>?_
  refine tr aN 2 (.mk ?_)
  cases x8
  replace h0:=cf h0
  refine tc aN 8 (.mk ?_)
  obtain rfl:=eG h0
  refine wR hret (rT (rT .nil)) ?_
  exact .refl _
  replace h0:=ct h0
  refine tc aN 3 (.mk ?_)
  refine jn h0 [4,5] [] (λ(a:Bool) (k:Unit)=>[(30,aF a)]) (λa k=>[]) ⟨λj9 h1=>?_,?_⟩
  refine tc aN 2 (.mk ?_)
  refine nb aN h1 λx10 h1=>?_
  refine tr aN 1 (.mk ?_)
  cases x10
  replace h1:=cf h1
  refine tr aN 1 (.mk ?_)
  refine nb aN h1 λx11 h1=>?_
  refine tr aN 2 (.mk ?_)
  exact lf h1 () eD
  replace h1:=ct h1
  refine tr aN 4 (.mk ?_)
  exact lf h1 () eD
  rintro y0_1 _ h0
  cases y0_1
  replace h0:=cf h0
  refine tc aN 7 (.mk ?_)
  obtain rfl:=eG h0
  refine wR hret (rT (rT .nil)) ?_
  exact .refl _
  replace h0:=ct h0
  refine tc aN 6 (.mk ?_)
  obtain rfl:=eG h0
  refine wR hret (rT (rT .nil)) ?_
  exact .refl _
  replace h0:=ct h0
  refine tc aN 5 (.mk ?_)
  refine nb aN h0 λx12 h0=>?_
  refine tr aN 1 (.mk ?_)
  cases x12
  replace h0:=cf h0
  refine tc aN 7 (.mk ?_)
  obtain rfl:=eG h0
  refine wR hret (rT (rT .nil)) ?_
  exact .refl _
  replace h0:=ct h0
  refine tc aN 6 (.mk ?_)
  obtain rfl:=eG h0
  refine wR hret (rT (rT .nil)) ?_
  exact .refl _
  replace h0:=ct h0
  refine tc aN 2 (.mk ?_)
  refine aFM [some (15,none),none,none,none,some (16,none),some (17,some (int a1)),some (18,some (int (nM [(8,1),(12,3),(11,2)] a1))),some (4,some (int 0)),some (5,some (int (nM [(8,1),(12,3),(11,2)] a1)))] [(1,8,1),(2,12,3),(3,11,2)] 0 15 [.mk,.ins 8 1,.ins 12 3,.ins 11 2,.pu,.pu,.lk a1,.pu,.pu] mixed Tryz.underlying120 Tryz.underlying3 zi3 (by kernel_rfl) rfl ⟨⟨rfl,rfl,rfl,rfl⟩,⟨rfl,rfl,rfl,.head _⟩,⟨rfl,rfl,rfl,.tail _ (.head _)⟩,⟨rfl,rfl,rfl,.tail _ (.tail _ (.head _))⟩,⟨_,_,rfl,rfl,λ_=>kV rfl rfl⟩,⟨_,_,rfl,rfl,λ_=>kV rfl rfl⟩,⟨16,_,18,rfl,rfl,rfl,λ_=>rfl,λ_=>rfl⟩,⟨_,_,rfl,rfl,λ_=>sD rfl rfl⟩,⟨_,_,rfl,rfl,λ_=>sD rfl rfl⟩,trivial⟩ λ_=>?_
  obtain rfl:=eG h0
  refine wR hret (rT (rT .nil)) ?_
  exact .refl _
  replace h0:=ct h0
  refine tc aN 6 (.mk ?_)
  obtain rfl:=eG h0
  refine wR hret (rT (rT .nil)) ?_
  exact .refl _
  replace h0:=ct h0
  refine tc aN 6 (.mk ?_)
  obtain rfl:=eG h0
  refine wR hret (rT (rT .nil)) ?_
  exact .refl _
  replace h0:=ct h0
  refine tc aN 6 (.mk ?_)
  obtain rfl:=eG h0
  refine wR hret (rT (rT .nil)) ?_
  exact .refl _
def aK6 (n:Nat) (a1:List Int):WB (Bool) :=
 .gv 6<|.al 1<|.ln 8 fI a1<|.dF 0 [0,2] [] [] (λ_ (a:Unit)=>[]) (λ_ _=>[]) (.lp [0,2,3,7,8] [] [] (λ_ (a:Int×(List Bool))=>[(9,int a.1)]) (λ_ a=>[.kp 1 [a.2.map aF]]) n ((0:Int),((List.replicate 40 false):List Bool)) (pw λy0_1 y0_2=>.bB 10 (decide (y0_1<(a1.length:Int))) λx3=>.ifs [10] x3 (.ix 11 fI a1 y0_1 λx4=>.jn 0 [0,2,3,5,7,8,9] [1] [] (λ_ (a:Bool)=>[(23,aF a)]) (λ_ _=>[]) (.bB 14 (decide (x4<0)) λx5=>.ifs [14] x5 (.ret true) (.bB 17 (decide (x4>=40)) λx6=>.ifs [17] x6 (.ret true) (.as ((0:Int)<=x4/\x4<40) inferInstance<|.bo (ix y0_2 x4) λx8=>.gv 21<|.gv 22<|.ret x8))) (λy1_1=>.ifs [23] y1_1 (.esc (.esc (.ret ((false:Bool))))) (.as ((0:Int)<=x4/\x4<40) inferInstance<|.bo (ix y0_2 x4) λx10=>.gv 25<|.bl (y0_2.set (Int.toNat x4) true:List Bool) λx11=>.ge 1007002 0<|.bI 26 (aI (y0_1+1)) λx12=>.brk ((x12:Int),x11)))) (.esc (.brk ())))) (λ_=>.ln 28 fI a1<|.bB 29 (decide ((a1.length:Int)>0)) λx13=>.ret ((x13:Bool)))
def J3 (n:Nat) (a1:List Int):Option (Bool):=(aK6 n a1).run
theorem aG3 {n a1}:PZ (J3 n a1) 33 [aD 1 fI a1] aF:=by
 refine wm Tryz.func33 ?_
 refine .mk _ (bE (qJ (cs:=[aF false,aF false,aF false,aF false,aF false,aF false,aF false,aF false,aF false,aF false,aF false,aF false,aF false,aF false,aF false,aF false,aF false,aF false,aF false,aF false,aF false,aF false,aF false,aF false,aF false,aF false,aF false,aF false,aF false,aF false,aF false,aF false,aF false,aF false,aF false,aF false,aF false,aF false,aF false,aF false]) (ps:=[]) rfl Tryz.underlying121 rE UM rfl .nil (by kernel_rfl))) ?_
 intro v2
 refine .mk ?_
 refine .mk ?_ ?_
 refine .mk ?_
 intro _ _
 refine .mk λx3=>?_
 refine .mk ?_ ?_
 refine .mk λx4 e4=>?_
 refine .mk ?_ ?_
 refine .mk λx5=>?_
 refine .mk .mk ?_
 refine .mk λx6=>?_
 refine .mk .mk ?_
 refine .mk λp7=>?_
 refine .mk λx8 e8=>?_
 refine .mk _ (bE (FM rfl Tryz.underlying121 rE rfl rfl rfl rfl rfl p7)) ?_
 refine .mk _ (bE (aIE (g:=aF) rfl rE rfl rfl rfl rfl e8)) ?_
 exact .mk
 intro _ _
 refine .mk .mk ?_
 refine .mk λp9=>?_
 refine .mk λx10 e10=>?_
 refine .mk _ (bE (FM rfl Tryz.underlying121 rE rfl rfl rfl rfl rfl p9)) ?_
 refine .mk λx11 e11=>?_
 refine .mk _ ⟨λ_=>bQ.dM (eO (ob':=(⟨121,40,true,true,_,[x11.map aF]⟩:bC)) (aEO rfl rE rfl rfl rfl rfl rfl rfl e10 e11) rfl) (λ_ h=>h) (λ_ _=>trivial),λ_ _ _=>trivial⟩ ?_
 rintro _ _ ⟨rfl,rfl⟩
 refine .mk λx12=>?_
 exact .mk
 exact .mk
 intro _ _
 refine .mk ?_
 refine .mk λx13=>?_
 exact .mk
end
end Go.Pv
