import Derived.Test.YtidcjedeacampaaGreatX80f
set_option linter.unusedVariables false
set_option linter.unusedSimpArgs false
namespace Go.Pv
open Go.Proofs
set_option maxRecDepth 100000
set_option maxHeartbeats 4000000
noncomputable section
def TT (n:Nat) (a1:aB) (a2:bJ):WT Tryz.prog (.b (aB×Int)) :=
 .al 1<|.al 2<|.al 3<|.cl 20 (uS n a1 a2.E a2.Item a2.Loc 1 a2.aT) CB DF λx6=>.al 4<|.al 5<|.bB 26 (decide (x6.2.2.2≠0)) λx9=>.ifs [26] x9 (.ret ((a1:aB),x6.2.2.2)) (.bI 40 (bE (0-x6.2.1.Value)) λx10=>.to 42 (aH 2 aN.av ([(⟨7,x6.2.1.Value⟩:aN),(⟨0,x10⟩:aN)]:List aN))<|.cl 46 (xO n a1 x6.1 a2.E a2.Item ([(⟨7,x6.2.1.Value⟩:aN),(⟨0,x10⟩:aN)]:List aN) (⟨0,0,0,0,0,0,0,0,x6.2.1.Value,0,0⟩:cB)) F5 G5 λx11=>.ret ((x11.1:aB),x11.2))
def MV (n:Nat) (a1:aB) (a2:bJ):Option (aB×Int):=(TT n a1 a2).run
theorem aKD {n a1 a2 r} (h0:MV n a1 a2=some r):PP Tryz.prog 144 [.agg (aB.av a1),.agg (bJ.av a2)] (λy=>y=.bD [.agg (aB.av r.1),int r.2]) :=
 bY mixed aA (λr:aB×Int=>.bD [.agg (aB.av r.1),int r.2]) h0 Tryz.func144 (λr=>.bD (gK ((λ(a:aB)=>PV.agg (aB.dR a)) (r.1)) (bQ (r.2)))) 100000 au
def aBS (n:Nat) (a1:Int) (a2:aS):WT Tryz.prog (.b (Int)) :=
 .al 1<|.bB 6 (decide (a1=3)) λx4=>.ifs [6] x4 (.cl 8 (CU n a2) RG TE λx5=>.ret ((x5:Int))) (.cl 10 (wT n a2) BZ BG λx6=>.ret ((x6.aT:Int)))
def LU (n:Nat) (a1:Int) (a2:aS):Option (Int):=(aBS n a1 a2).run
theorem aK1 {n a1 a2 r} (h0:LU n a1 a2=some r):PP Tryz.prog 174 [int a1,.agg (aS.av a2)] (λy=>y=int r) :=
 bY mixed aA (λr:Int=>int r) h0 Tryz.func174 (λr=>bQ r) 100000 au
def ZE (n:Nat) (a1:aB) (a2:bJ):WT Tryz.prog (.b (aB×Int)) :=
 .al 1<|.al 2<|.al 3<|.dr [(0,[1]),(1,[1]),(2,[1]),(3,[2]),(4,[2]),(7,[2]),(8,[2])] [] [1,2] [] [0,1,2,3,4,5,6,7,8,9,10,11] (.ix 24 (fL 1 fI) a1.bF.Methods a2.E λx6=>.ix 28 fI x6 a2.Item λx7=>.cl 37 (rG a1 a2.E a2.Item a2.Loc) wZ vW λx8=>.al 4<|.dr [(0,[2]),(1,[2]),(3,[4])] [] [2,4] [] [0,1,2,3,4,5,6] (.cl 42 (LU n x7 x8) aG4 aK1 λx10=>.bI 43 (bE (a2.aT-x10)) λx11=>.bB 45 (decide (x11=0)) λx12=>.ifs [45] x12 (.ret ((a1:aB),0)) (.bB 48 (decide (x11<0)) λx13=>.ifs [48] x13 (.bI 58 (bE (0-x11)) λx14=>.cl 59 (uS n a1 a2.E a2.Item a2.Loc 2 x14) CB DF λx15=>.al 5<|.al 6<|.bB 65 (decide (x15.2.2.2≠0)) λx18=>.ifs [65] x18 (.ret ((a1:aB),x15.2.2.2)) (.bI 79 (bE (0-x15.2.1.Value)) λx19=>.to 81 (aH 2 aN.av ([(⟨8,x15.2.1.Value⟩:aN),(⟨0,x19⟩:aN)]:List aN))<|.cl 85 (xO n a1 x15.1 a2.E a2.Item ([(⟨8,x15.2.1.Value⟩:aN),(⟨0,x19⟩:aN)]:List aN) (⟨0,0,0,0,0,0,0,0,0,x15.2.1.Value,0⟩:cB)) F5 G5 λx20=>.ret ((x20.1:aB),x20.2))) (.cl 89 (wT n x8) BZ BG λx21=>.al 7<|.bB 91 (decide (x7=4)) λx23=>.jn 0 [2,3,4,5,8] [1,2,3] [] (λ_ (a:Int×Int)=>[(14,int a.1),(15,int a.2)]) (λ_ _=>[]) (.ifs [91] x23 (.dr [(1,[1]),(2,[1]),(3,[1]),(4,[2]),(5,[2]),(8,[2]),(9,[2])] [] [1,2] [] [0,1,2,3,4,5,6,7,8,9,10,11,12,13,14,15,16,17,18] (.ix 99 (fL 1 fI) a1.bF.gX a2.E λx24=>.ix 103 fI x24 a2.Item λx25=>.cl 105 (qZ n x11 x25 1) xY xX λx26=>.ret ((x26.1:Int),x26.2.2))) (.bB 111 (decide (x21.aT>0)) λx27=>.ifs [111] x27 (.cl 118 (qZ n x21.Value x11 x21.aT) xY xX λx28=>.ret ((x28.1:Int),x28.2.2)) (.ret ((0:Int),0)))) (pw λy0_1 y0_2=>.bB 123 (decide (y0_2≠0)) λx29=>.ifs [123] x29 (.ret ((a1:aB),y0_2)) (.cl 137 (qO n a1 a2.E a2.Item a2.Loc (⟨x11,y0_1,0⟩:aF)) EY FR λx30=>.al 8<|.bB 143 (decide (x30.2.2.2≠0)) λx32=>.ifs [143] x32 (.ret ((a1:aB),x30.2.2.2)) (.bI 157 (bE (0-y0_1)) λx33=>.to 159 (aH 2 aN.av ([(⟨0,x30.2.1⟩:aN),(⟨6,x30.2.2.1⟩:aN),(⟨8,x33⟩:aN)]:List aN))<|.bI 161 (bE (0-x30.2.1)) λx34=>.cl 163 (xO n a1 x30.1 a2.E a2.Item ([(⟨0,x30.2.1⟩:aN),(⟨6,x30.2.2.1⟩:aN),(⟨8,x33⟩:aN)]:List aN) (⟨0,0,0,0,0,0,0,0,0,x34,0⟩:cB)) F5 G5 λx35=>.ret ((x35.1:aB),x35.2))))))))
def NA (n:Nat) (a1:aB) (a2:bJ):Option (aB×Int):=(ZE n a1 a2).run
theorem aJ4 {n a1 a2 r} (h0:NA n a1 a2=some r):PP Tryz.prog 145 [.agg (aB.av a1),.agg (bJ.av a2)] (λy=>y=.bD [.agg (aB.av r.1),int r.2]) :=
 bY mixed aA (λr:aB×Int=>.bD [.agg (aB.av r.1),int r.2]) h0 Tryz.func145 (λr=>.bD (gK ((λ(a:aB)=>PV.agg (aB.dR a)) (r.1)) (bQ (r.2)))) 100000 au
def WV (n:Nat) (a1:aB) (a2:bJ):WT Tryz.prog (.b (aB×Int)) :=
 .al 1<|.al 2<|.al 3<|.cl 22 (uS n a1 a2.E a2.Item a2.Loc 3 a2.aT) CB DF λx6=>.al 4<|.al 5<|.bB 28 (decide (x6.2.2.2≠0)) λx9=>.ifs [28] x9 (.ret ((a1:aB),x6.2.2.2)) (.cl 40 (qO n x6.1 a2.E a2.Item a2.To x6.2.1) EY FR λx10=>.bB 46 (decide (x10.2.2.2≠0)) λx11=>.ifs [46] x11 (.ret ((a1:aB),x10.2.2.2)) (.bI 58 (bE (x10.2.1-x6.2.1.Value)) λx12=>.to 62 (aH 2 aN.av ([(⟨0,x12⟩:aN),(⟨6,x10.2.2.1⟩:aN)]:List aN))<|.bI 66 (bE (x10.2.1-x6.2.1.Value)) λx13=>.cl 68 (xO n a1 x10.1 a2.E a2.Item ([(⟨0,x12⟩:aN),(⟨6,x10.2.2.1⟩:aN)]:List aN) (⟨0,0,0,0,0,0,0,0,0,0,x13⟩:cB)) F5 G5 λx14=>.ret ((x14.1:aB),x14.2)))
def JX (n:Nat) (a1:aB) (a2:bJ):Option (aB×Int):=(WV n a1 a2).run
theorem aLG {n a1 a2 r} (h0:JX n a1 a2=some r):PP Tryz.prog 146 [.agg (aB.av a1),.agg (bJ.av a2)] (λy=>y=.bD [.agg (aB.av r.1),int r.2]) :=
 bY mixed aA (λr:aB×Int=>.bD [.agg (aB.av r.1),int r.2]) h0 Tryz.func146 (λr=>.bD (gK ((λ(a:aB)=>PV.agg (aB.dR a)) (r.1)) (bQ (r.2)))) 100000 au
def aD9 (n:Nat) (a1:List aF) (a2:Int):WT Tryz.prog (.b ((List aF)×Int×Int)) :=
 .jn 1 [0,1,4,5,6] [] [] (λ_ (a:Bool)=>[(16,aZ a)]) (λ_ _=>[]) (.bB 12 (decide (a2<0)) λx3=>.ifs [12] x3 (.ret true) (.bB 15 (decide (a2>1073741824)) λx4=>.ret x4)) (λy0_1=>.ifs [16] y0_1 (.ret ((a1:List aF),0,1)) (.ln 19 aF.av a1<|.bB 20 (decide ((a1.length:Int)=0)) λx5=>.ifs [20] x5 (.ret ((a1:List aF),0,0)) (.cl 24 (sH n a1) AB zA λx6=>.al 1<|.cl 31 (DT n x6.1.aT a2) QC OV λx8=>.bB 35 (!x8.2) λx9=>.ifs [35] x9 (.ret ((a1:List aF),0,2)) (.dr [(0,[1]),(1,[1]),(3,[1]),(4,[1]),(8,[1]),(9,[1])] [] [1] [] [0,1,2,3,4,5,6,7,8,9,10,11,12,13] (.to 43 (aH 3 aF.av ([(⟨x6.1.aT,x8.1,x6.1.bO⟩:aF)]:List aF))<|.bI 47 (bE (x8.1-x6.1.Value)) λx10=>.ret ((([(⟨x6.1.aT,x8.1,x6.1.bO⟩:aF)]:List aF):List aF),x10,0))))))
def I8 (n:Nat) (a1:List aF) (a2:Int):Option ((List aF)×Int×Int):=(aD9 n a1 a2).run
theorem aKN {n a1 a2 r} (h0:I8 n a1 a2=some r):PP Tryz.prog 176 [aH 3 aF.av a1,int a2] (λy=>y=.bD [aH 3 aF.av r.1,int r.2.1,int r.2.2]) :=
 bY mixed aA (λr:(List aF)×Int×Int=>.bD [aH 3 aF.av r.1,int r.2.1,int r.2.2]) h0 Tryz.func176 (λr=>.bD (qN ((jD aF.dR) (r.1)) (bQ (r.2.1)) (bQ (r.2.2)))) 100000 au
def Z4 (n:Nat) (a1:aB) (a2:bJ):WT Tryz.prog (.b (aB×Int)) :=
 .al 1<|.al 2<|.al 3<|.dr [(0,[1]),(1,[1]),(2,[1]),(3,[2]),(4,[2]),(7,[2]),(8,[2])] [] [1,2] [] [0,1,2,3,4,5,6,7,8,9,10,11] (.ix 18 (fL 1 fI) a1.bF.Methods a2.E λx6=>.ix 22 fI x6 a2.Item λx7=>.bB 24 (decide (x7≠4)) λx8=>.ifs [24] x8 (.ret ((a1:aB),12)) (.al 4<|.fH 2 [2,3,4,5,6] [1,2,3] [] (λ_ (a:Int×aB)=>[(7,int a.1)]) (λ_ a=>[.kp 4 [(aB.av a.2)]]) (.lp [2,3,4,5,6] [1,2,3] [] (λ_ (a:Int×Int×aB)=>[(7,int a.1),(8,int a.2.1)]) (λ_ a=>[.kp 4 [(aB.av a.2.2)]]) n ((0:Int),0,a1) (pw λy0_1 q0=>(pw λy0_2 y0_3=>.bB 28 (decide (y0_2<2)) λx10=>.ifs [28] x10 (.cl 37 (rG y0_3 a2.E a2.Item y0_2) wZ vW λx11=>.al 5<|.cl 43 (I8 n x11.aI a2.bM) aMI aKN λx13=>.bB 48 (decide (x13.2.2≠0)) λx14=>.ifs [48] x14 (.esc (.esc (.ret ((a1:aB),x13.2.2)))) (.cl 60 (wI y0_3 a2.E a2.Item y0_2 (⟨x13.1,x11.bC⟩:aS)) BU CY λx15=>.bI 63 (bE (y0_1+x13.2.1)) λx16=>.bI 30 (bE (y0_2+1)) λx17=>.brk ((x16:Int),x17,x15))) (.esc (.brk ((y0_1:Int),y0_3)))) q0)) (pw λy1_1 y1_2=>.as (a1.bF.gX.length<=68719476736) inferInstance<|.ge 67 6<|.dr [(0,[4]),(1,[4]),(2,[4]),(3,[2]),(4,[2]),(5,[1]),(6,[1]),(7,[1]),(8,[2]),(9,[2]),(13,[6])] [(12,[2,4]),(14,[])] [1,2,4,6] [12,14] [0,1,2,3,4,5,6,7,8,9,10,11,12,13,14] (.ix 80 (fL 1 fI) a1.bF.gX a2.E λx20=>.as (x20.length<=68719476736) inferInstance<|.ge 82 7<|.bo (ix a1.bF.gX a2.E) λx23=>.gv 83<|.ge 1015014 0<|.dr [(0,[4]),(1,[4]),(2,[4]),(3,[2]),(4,[2]),(5,[6]),(6,[6]),(7,[2]),(8,[2]),(9,[2]),(10,[2]),(11,[7])] [(12,[])] [2,4,6,7] [12] [0,1,2,3,4,5,6,7,8,9,10,11,12] (.gv 89<|.gv 90<|.bo (ix x20 a2.Item) λx24=>.gv 95<|.bl (x20.set (Int.toNat a2.Item) (a2.bM:Int):List Int) λx25=>.ge 1016012 0<|.kS 6<|.kS 7<|.bI 105 (bE (0-y1_1)) λx28=>.to 107 (aH 2 aN.av ([(⟨0,y1_1⟩:aN),(⟨6,x28⟩:aN)]:List aN))<|.cl 110 (xO n a1 (⟨(⟨y1_2.bF.gG,y1_2.bF.gZ,y1_2.bF.bW,y1_2.bF.Methods,(a1.bF.gX.set (Int.toNat a2.E) x25)⟩:fM),y1_2.bA,y1_2.bX,y1_2.dS,y1_2.dH,y1_2.Done⟩:aB) a2.E a2.Item ([(⟨0,y1_1⟩:aN),(⟨6,x28⟩:aN)]:List aN) (⟨0,0,0,0,0,0,0,0,0,0,y1_1⟩:cB)) F5 G5 λx29=>.ret ((x29.1:aB),x29.2))))))
def H9 (n:Nat) (a1:aB) (a2:bJ):Option (aB×Int):=(Z4 n a1 a2).run
theorem aO4 {n a1 a2 r} (h0:H9 n a1 a2=some r):PP Tryz.prog 147 [.agg (aB.av a1),.agg (bJ.av a2)] (λy=>y=.bD [.agg (aB.av r.1),int r.2]) :=
 bY mixed aA (λr:aB×Int=>.bD [.agg (aB.av r.1),int r.2]) h0 Tryz.func147 (λr=>.bD (gK ((λ(a:aB)=>PV.agg (aB.dR a)) (r.1)) (bQ (r.2)))) 100000 au
def XT (n:Nat) (a1:aB) (a2:bJ):WT Tryz.prog (.b (aB×Int)) :=
 .al 1<|.al 2<|.al 3<|.jn 0 [2,3,4,5] [1,2,3] [] (λ_ (a:Bool)=>[(14,aZ a)]) (λ_ _=>[]) (.bB 9 (decide (a2.Kind<6)) λx6=>.ifs [9] x6 (.ret true) (.bB 13 (decide (a2.Kind>9)) λx7=>.ret x7)) (λy0_1=>.ifs [14] y0_1 (.ret ((a1:aB),1)) (.cl 21 (pK a1 a2.E a2.Item) vN vB λx8=>.bB 23 (decide (x8≠0)) λx9=>.ifs [23] x9 (.ret ((a1:aB),x8)) (.bB 29 (decide (a2.Kind=6)) λx10=>.ifs [29] x10 (.cl 32 (MV n a1 a2) aTH aKD λx11=>.ret ((x11.1:aB),x11.2)) (.bB 36 (decide (a2.Kind=7)) λx12=>.ifs [36] x12 (.cl 39 (NA n a1 a2) aTU aJ4 λx13=>.ret ((x13.1:aB),x13.2)) (.bB 43 (decide (a2.Kind=8)) λx14=>.ifs [43] x14 (.cl 46 (JX n a1 a2) aRF aLG λx15=>.ret ((x15.1:aB),x15.2)) (.cl 51 (H9 n a1 a2) aQF aO4 λx16=>.ret ((x16.1:aB),x16.2)))))))
def NB (n:Nat) (a1:aB) (a2:bJ):Option (aB×Int):=(XT n a1 a2).run
theorem aLT {n a1 a2 r} (h0:NB n a1 a2=some r):PP Tryz.prog 101 [.agg (aB.av a1),.agg (bJ.av a2)] (λy=>y=.bD [.agg (aB.av r.1),int r.2]) :=
 bY mixed aA (λr:aB×Int=>.bD [.agg (aB.av r.1),int r.2]) h0 Tryz.func101 (λr=>.bD (gK ((λ(a:aB)=>PV.agg (aB.dR a)) (r.1)) (bQ (r.2)))) 100000 au
def aD1 (n:Nat) (a1:dX) (a2:Int):WT Tryz.prog (.b (Int)) :=
 .al 1<|.bB 8 (decide (a2=a1.Open)) λx4=>.ifs [8] x4 (.ret ((a1.jW:Int))) (.cl 16 (qR n a1.jW a2 a1.Open) vI uP λx5=>.ret ((x5:Int)))
def EW (n:Nat) (a1:dX) (a2:Int):Option (Int):=(aD1 n a1 a2).run
theorem WM {n a1 a2 r} (h0:EW n a1 a2=some r):PP Tryz.prog 177 [.agg (dX.av a1),int a2] (λy=>y=int r) :=
 bY mixed aA (λr:Int=>int r) h0 Tryz.func177 (λr=>bQ r) 100000 au
def Z5 (a1:aB) (a2:Int) (a3:dX):WT Tryz.prog (.b (aB)) :=
 .al 1<|.al 2<|.al 3<|.as (a1.bX.length<=68719476736) inferInstance<|.ge 10 4<|.bo (ix a1.bX a2) λx9=>.gv 14<|.bl (a1.bX.set (Int.toNat a2) a3:List dX) λx10=>.ge 1002004 0<|.ret (((⟨a1.bF,a1.bA,x10,a1.dS,a1.dH,a1.Done⟩:aB):aB))
def FH (a1:aB) (a2:Int) (a3:dX):Option (aB):=(Z5 a1 a2 a3).run
theorem XX {a1 a2 a3 r} (h0:FH a1 a2 a3=some r):PP Tryz.prog 178 [.agg (aB.av a1),int a2,.agg (dX.av a3)] (λy=>y=.agg (aB.av r)) :=
 bY mixed aA (λr:aB=>.agg (aB.av r)) h0 Tryz.func178 (λr=>(λ(a:aB)=>PV.agg (aB.dR a)) r) 100000 au
def UW (n:Nat) (a1:aB) (a2:bJ) (a3:dX):WT Tryz.prog (.b (aB×Int)) :=
 .al 1<|.al 2<|.al 3<|.al 4<|.bB 15 (decide (a2.aT>a3.Open)) λx8=>.ifs [15] x8 (.ret ((a1:aB),5)) (.cl 20 (EW n a3 a2.aT) aBA WM λx9=>.bI 30 (bE (a2.bM-x9)) λx10=>.bI 34 (bE (0-a2.bM)) λx11=>.to 36 (aH 2 aN.av ([(⟨1,x9⟩:aN),(⟨6,x10⟩:aN),(⟨2,x11⟩:aN)]:List aN))<|.cl 37 (lS n a1 a3.fU ([(⟨1,x9⟩:aN),(⟨6,x10⟩:aN),(⟨2,x11⟩:aN)]:List aN)) qU qK λx12=>.al 5<|.bB 41 (decide (x12.2≠0)) λx14=>.ifs [41] x14 (.ret ((a1:aB),x12.2)) (.bI 48 (bE (a3.Open-a2.aT)) λx15=>.bI 52 (bE (a3.jW-x9)) λx16=>.cl 59 (FH x12.1 a2.Ref (⟨a3.fU,a3.Item,a3.Loc,a3.aT,a3.Value,x15,x16,a3.jB⟩:dX)) aCA XX λx17=>.ret ((x17:aB),0)))
def KA (n:Nat) (a1:aB) (a2:bJ) (a3:dX):Option (aB×Int):=(UW n a1 a2 a3).run
theorem aPY {n a1 a2 a3 r} (h0:KA n a1 a2 a3=some r):PP Tryz.prog 148 [.agg (aB.av a1),.agg (bJ.av a2),.agg (dX.av a3)] (λy=>y=.bD [.agg (aB.av r.1),int r.2]) :=
 bY mixed aA (λr:aB×Int=>.bD [.agg (aB.av r.1),int r.2]) h0 Tryz.func148 (λr=>.bD (gK ((λ(a:aB)=>PV.agg (aB.dR a)) (r.1)) (bQ (r.2)))) 100000 au
def aDL (n:Nat) (a1:aB) (a2:bJ) (a3:dX):WT Tryz.prog (.b (aB×Int)) :=
 .al 1<|.al 2<|.al 3<|.al 4<|.bI 22 (bE (a3.aT-a3.jB)) λx8=>.bB 23 (decide (a2.aT>x8)) λx9=>.ifs [23] x9 (.ret ((a1:aB),5)) (.jn 1 [3,4,5,6,7] [1,2,3,4] [] (λ_ (a:Bool)=>[(25,aZ a)]) (λ_ _=>[]) (.bB 28 (decide (a3.Open>0)) λx10=>.ifs [28] x10 (.bB 34 (decide (a3.Open<a2.aT)) λx11=>.ret x11) (.ret false)) (λy0_1=>.ifs [25] y0_1 (.ret ((a1:aB),9)) (.cl 47 (uS n a1 a3.fU a3.Item a3.Loc 3 a2.aT) CB DF λx12=>.al 5<|.al 6<|.bB 53 (decide (x12.2.2.2≠0)) λx15=>.ifs [53] x15 (.ret ((a1:aB),x12.2.2.2)) (.dr [(0,[3]),(1,[3]),(2,[2]),(3,[2]),(4,[3]),(5,[3]),(7,[3])] [(11,[])] [2,3] [8,11] [0,1,2,3,4,5,6,7,8,9,10,11] (.cl 62 (qR n a3.Value a2.aT a3.aT) vI uP λx16=>.al 7<|.bB 66 (decide (a3.Open>0)) λx18=>.jn 0 [3,4,5,6,7,8,9,14] [1,2,3,4,5,6] [] (λ_ (a:Int×Int×dX)=>[(12,int a.1),(13,int a.2.1)]) (λ_ a=>[.kp 7 [[int a.2.2.fU,int a.2.2.Item,int a.2.2.Loc,int a.2.2.aT,int a.2.2.Value,int a.2.2.Open,int a.2.2.jW,int a.2.2.jB]]]) (.ifs [66] x18 (.cl 70 (EW n a3 a2.aT) aBA WM λx19=>.dr [(0,[3]),(1,[3]),(2,[2]),(3,[2]),(5,[3]),(6,[3]),(9,[7]),(11,[7])] [(10,[3]),(12,[])] [2,3,7] [10,12] [0,1,2,3,4,5,6,7,8,9,10,11,12] (.bI 75 (bE (a3.Open-a2.aT)) λx20=>.bI 79 (bE (a3.jW-x19)) λx21=>.ret ((1:Int),x19,((⟨a3.fU,a3.Item,a3.Loc,a3.aT,a3.Value,x20,x21,a3.jB⟩:dX):dX)))) (.ret ((2:Int),x16,a3))) (pw λy1_1 q0=>(pw λy1_2 y1_3=>.bI 92 (bE (x12.2.1.Value-y1_2)) λx22=>.bI 96 (bE (0-x12.2.1.Value)) λx23=>.to 98 (aH 2 aN.av ([(⟨y1_1,y1_2⟩:aN),(⟨6,x22⟩:aN),(⟨0,x23⟩:aN)]:List aN))<|.cl 99 (lS n x12.1 a3.fU ([(⟨y1_1,y1_2⟩:aN),(⟨6,x22⟩:aN),(⟨0,x23⟩:aN)]:List aN)) qU qK λx24=>.bB 103 (decide (x24.2≠0)) λx25=>.ifs [103] x25 (.ret ((a1:aB),x24.2)) (.cl 115 (nA n x24.1 a3.fU a3.Item (⟨0,0,0,0,0,0,0,x12.2.1.Value,0,0,0⟩:cB)) wE wY λx26=>.bB 119 (decide (x26.2≠0)) λx27=>.ifs [119] x27 (.ret ((a1:aB),x26.2)) (.bI 126 (bE (a3.jB+a2.aT)) λx28=>.cl 132 (FH x26.1 a2.Ref (⟨y1_3.fU,y1_3.Item,y1_3.Loc,y1_3.aT,y1_3.Value,y1_3.Open,y1_3.jW,x28⟩:dX)) aCA XX λx29=>.ret ((x29:aB),0)))) q0))))))
def J5 (n:Nat) (a1:aB) (a2:bJ) (a3:dX):Option (aB×Int):=(aDL n a1 a2 a3).run
theorem aM6 {n a1 a2 a3 r} (h0:J5 n a1 a2 a3=some r):PP Tryz.prog 149 [.agg (aB.av a1),.agg (bJ.av a2),.agg (dX.av a3)] (λy=>y=.bD [.agg (aB.av r.1),int r.2]) :=
 bY mixed aA (λr:aB×Int=>.bD [.agg (aB.av r.1),int r.2]) h0 Tryz.func149 (λr=>.bD (gK ((λ(a:aB)=>PV.agg (aB.dR a)) (r.1)) (bQ (r.2)))) 100000 au
def XC (n:Nat) (a1:aB) (a2:bJ):WT Tryz.prog (.b (aB×Int)) :=
 .al 1<|.al 2<|.al 3<|.jn 0 [2,3,4,5] [1,2,3] [] (λ_ (a:Bool)=>[(15,aZ a)]) (λ_ _=>[]) (.bB 10 (decide (a2.Kind≠2)) λx6=>.ifs [10] x6 (.bB 14 (decide (a2.Kind≠3)) λx7=>.ret x7) (.ret false)) (λy0_1=>.ifs [15] y0_1 (.ret ((a1:aB),1)) (.jn 1 [2,3,4,5] [1,2,3] [] (λ_ (a:Bool)=>[(27,aZ a)]) (λ_ _=>[]) (.bB 19 (decide (a2.Ref<0)) λx8=>.ifs [19] x8 (.ret true) (.ln 25 dX.av a1.bX<|.bB 26 (decide (a2.Ref>=(a1.bX.length:Int))) λx9=>.ret x9)) (λy1_1=>.ifs [27] y1_1 (.ret ((a1:aB),4)) (.ix 33 dX.av a1.bX a2.Ref λx10=>.al 4<|.cl 40 (pK a1 x10.fU x10.Item) vN vB λx12=>.bB 42 (decide (x12≠0)) λx13=>.ifs [42] x13 (.ret ((a1:aB),x12)) (.bB 47 (decide (a2.Kind=2)) λx14=>.ifs [47] x14 (.cl 51 (KA n a1 a2 x10) aIC aPY λx15=>.ret ((x15.1:aB),x15.2)) (.cl 57 (J5 n a1 a2 x10) aOA aM6 λx16=>.ret ((x16.1:aB),x16.2)))))))
def JG (n:Nat) (a1:aB) (a2:bJ):Option (aB×Int):=(XC n a1 a2).run
theorem aQZ {n a1 a2 r} (h0:JG n a1 a2=some r):PP Tryz.prog 102 [.agg (aB.av a1),.agg (bJ.av a2)] (λy=>y=.bD [.agg (aB.av r.1),int r.2]) :=
 bY mixed aA (λr:aB×Int=>.bD [.agg (aB.av r.1),int r.2]) h0 Tryz.func102 (λr=>.bD (gK ((λ(a:aB)=>PV.agg (aB.dR a)) (r.1)) (bQ (r.2)))) 100000 au
def TZ (n:Nat) (a1:aB) (a2:List Int) (a3:Int):WT Tryz.prog (.b ((List Int))) :=
 .al 1<|.jn 2 [6] [] [4] (λu18 (a:(List Int))=>[(7,.sl 4 (u18 4) 0 a.length)]) (λ_ a=>[.nw 4 3 1 (a.map fI)]) (.no 7 4 3 1<|.lp [1,2,3,6] [1] [4] (λu25 (a:Int×(List Int))=>[(7,.sl 4 (u25 4) 0 a.2.length),(8,int a.1)]) (λ_ a=>[.nw 4 3 1 (a.2.map fI)]) n ((0:Int),(([]:List Int):List Int)) (pw λy0_2 y0_3=>.ln 13 fI a2<|.bB 14 (decide (y0_2<(a2.length:Int))) λx6=>.ifs [14] x6 (.jn 3 [1,2,3,6,7,8,9] [1,4] [] (λ_ (a:Bool)=>[(31,aZ a)]) (λ_ _=>[]) (.dr [(10,[1]),(11,[1])] [] [1] [] [0,1,2,3,4,5,6,7,8,9,10,11,12,13,14] (.ix 19 fI a2 y0_2 λx7=>.bB 21 (decide (x7>=0)) λx8=>.ifs [21] x8 (.ix 25 fI a2 y0_2 λx9=>.ln 29 dX.av a1.bX<|.bB 30 (decide (x9<(a1.bX.length:Int))) λx10=>.ret x10) (.ret false))) (λy1_1=>.jn 0 [1,2,3,6,7,8] [1,4] [] (λ_ (a:Int)=>[(9,int a)]) (λ_ _=>[]) (.ifs [31] y1_1 (.dr [(0,[1]),(1,[1])] [(9,[])] [1] [8,9] [0,1,2,3,4,5,6,7,8,9] (.ix 36 fI a2 y0_2 λx11=>.ix 38 dX.av a1.bX x11 λx12=>.al 2<|.bB 42 (decide (a3=0)) λx14=>.ifs [42] x14 (.ret (x12.aT:Int)) (.bB 46 (decide (a3=1)) λx15=>.ifs [46] x15 (.ret (x12.Value:Int)) (.bB 50 (decide (a3=2)) λx16=>.ifs [50] x16 (.dr [(0,[2]),(1,[2]),(2,[1]),(3,[1]),(4,[1]),(5,[2]),(6,[2])] [] [1,2] [] [0,1,2,3,4,5,6,7,8,9,10] (.ix 58 fI a1.bF.bW x12.Item λx17=>.bI 60 (bE (x12.aT*x17)) λx18=>.ret x18)) (.ret 0))))) (.ret 0)) (λy2_1=>.to 63 (aH 1 fI ([y2_1]:List Int))<|.bl (y0_3++([y2_1]:List Int):List Int) λx19=>.as (x19.length<=68719476736) inferInstance<|.ge 64 0<|.bI 16 (bE (y0_2+1)) λx22=>.brk ((x22:Int),x19)))) (.esc (.ret y0_3)))) (λy3_2=>.ret ((y3_2:List Int)))
def LW (n:Nat) (a1:aB) (a2:List Int) (a3:Int):Option ((List Int)):=(TZ n a1 a2 a3).run
theorem aJ7 {n a1 a2 a3 r} (h0:LW n a1 a2 a3=some r):PP Tryz.prog 151 [.agg (aB.av a1),aH 1 fI a2,int a3] (λy=>y=aH 1 fI r) :=
 bY mixed aA (λr:(List Int)=>aH 1 fI r) h0 Tryz.func151 (λr=>(jD pN) r) 100000 au
def X0 (n:Nat) (a1:Int) (a2:List Int):WT Tryz.prog (.b ((List Int)×Int)) :=
 .fH 3 [0,1,4,5] [] [] (λ_ (a:Bool)=>[(6,aZ a)]) (λ_ _=>[]) (.lp [0,1,4,5] [] [] (λ_ (a:Bool×Int)=>[(6,aZ a.1),(7,int a.2)]) (λ_ _=>[]) n ((false:Bool),0) (pw λy0_1 y0_2=>.ln 21 fI a2<|.bB 22 (decide (y0_2<(a2.length:Int))) λx3=>.ifs [22] x3 (.jn 2 [0,1,4,5,6,7] [] [] (λ_ (a:Bool)=>[(36,aZ a)]) (λ_ _=>[]) (.ix 27 fI a2 y0_2 λx4=>.bB 29 (decide (x4<0)) λx5=>.ifs [29] x5 (.ret true) (.ix 33 fI a2 y0_2 λx6=>.bB 35 (decide (x6>288230376151711744)) λx7=>.ret x7)) (λy1_1=>.ifs [36] y1_1 (.esc (.esc (.ret (([]:List Int),1)))) (.jn 1 [0,1,4,5,7] [] [] (λ_ (a:Bool)=>[(6,aZ a)]) (λ_ _=>[]) (.ifs [6] y0_1 (.ret true) (.ix 41 fI a2 y0_2 λx8=>.bB 43 (decide (x8>0)) λx9=>.ret x9)) (λy2_1=>.bI 24 (bE (y0_2+1)) λx10=>.brk ((y2_1:Bool),x10))))) (.esc (.brk y0_1)))) (λy3_1=>.jn 0 [0,1,4,5] [] [] (λ_ (a:Bool)=>[(54,aZ a)]) (λ_ _=>[]) (.bB 46 (decide (a1<0)) λx11=>.ifs [46] x11 (.ret true) (.bB 49 (decide (a1>288230376151711744)) λx12=>.ifs [49] x12 (.ret true) (.bB 53 (!y3_1) λx13=>.ret x13))) (λy4_1=>.ifs [54] y4_1 (.ret (([]:List Int),1)) (.cl 57 (oQ n a2) uH uG λx14=>.bB 61 (decide (x14.2≠0)) λx15=>.ifs [61] x15 (.ret (([]:List Int),x14.2)) (.jn 4 [4,5] [] [3,4] (λu23 (a:Int×(List Int)×(List Int))=>[(10,.sl 3 (u23 3) 0 a.2.1.length),(11,.sl 4 (u23 4) 0 a.2.2.length),(12,int a.1)]) (λ_ a=>[.nw 3 3 1 (a.2.1.map fI),.nw 4 3 1 (a.2.2.map fI)]) (.no 10 3 3 1<|.no 11 4 3 1<|.lp [0,1,4,5,8] [] [3,4] (λu24 (a:Int×Int×(List Int)×(List Int))=>[(10,.sl 3 (u24 3) 0 a.2.2.1.length),(11,.sl 4 (u24 4) 0 a.2.2.2.length),(12,int a.1),(13,int a.2.1)]) (λ_ a=>[.nw 3 3 1 (a.2.2.1.map fI),.nw 4 3 1 (a.2.2.2.map fI)]) n ((a1:Int),0,(([]:List Int):List Int),(([]:List Int):List Int)) (pw λy5_3 q0=>(pw λy5_4 q1=>(pw λy5_5 y5_6=>.ln 66 fI a2<|.bB 67 (decide (y5_4<(a2.length:Int))) λx18=>.ifs [67] x18 (.ix 74 fI a2 y5_4 λx19=>.cl 77 (qZ n a1 x19 x14.1) xY xX λx20=>.to 83 (aH 1 fI ([x20.1]:List Int))<|.bl (y5_5++([x20.1]:List Int):List Int) λx21=>.as (x21.length<=68719476736) inferInstance<|.ge 84 0<|.to 87 (aH 1 fI ([x20.2.1]:List Int))<|.bl (y5_6++([x20.2.1]:List Int):List Int) λx24=>.as (x24.length<=68719476736) inferInstance<|.ge 88 0<|.bI 91 (bE (y5_3-x20.1)) λx27=>.bI 69 (bE (y5_4+1)) λx28=>.brk ((x27:Int),x28,x21,x24)) (.esc (.ret ((y5_3:Int),y5_5,y5_6)))) q1) q0)) (pw λy6_3 q0=>(pw λy6_4 y6_5=>.jn 0 [4,5] [] [] (λu44 (a:(List Int))=>[(10,.sl 3 (u44 3) 0 a.length)]) (λ_ a=>[.kp 3 (a.map fI)]) (.lp [4,5] [] [] (λu47 (a:Int×(List Int)×(List Int))=>[(10,.sl 3 (u47 3) 0 a.2.1.length),(11,.sl 4 (u47 4) 0 a.2.2.length),(12,int a.1)]) (λ_ a=>[.kp 3 (a.2.1.map fI),.kp 4 (a.2.2.map fI)]) n ((y6_3:Int),y6_4,y6_5) (pw λy7_1 q0=>(pw λy7_2 y7_3=>.bB 93 (decide (y7_1>0)) λx29=>.ifs [93] x29 (.jn 1 [4,5,12] [] [] (λu53 (a:(List Int)×(List Int))=>[(10,.sl 3 (u53 3) 0 a.1.length),(11,.sl 4 (u53 4) 0 a.2.length)]) (λ_ a=>[.kp 3 (a.1.map fI),.kp 4 (a.2.map fI)]) (.jn 3 [4,5,10,11,12] [3,4] [] (λ_ (a:Int)=>[(17,int a)]) (λ_ _=>[]) (.lp [4,5,10,11,12] [3,4] [] (λ_ (a:Int×Int)=>[(17,int a.1),(18,int a.2)]) (λ_ _=>[]) n ((0:Int),1) (pw λy8_1 y8_2=>.bB 99 (decide (y8_2<(y7_3.length:Int))) λx30=>.ifs [99] x30 (.jn 1 [4,5,10,11,12,18] [3,4] [] (λ_ (a:Int)=>[(17,int a)]) (λ_ _=>[]) (.dr [(2,[4]),(3,[4]),(6,[4]),(7,[4])] [] [4] [] [0,1,2,3,4,5,6,7,8] (.bo (ix y7_3 y8_2) λx31=>.gv 104<|.gv 105<|.bo (ix y7_3 y8_1) λx32=>.gv 108<|.gv 109<|.bB 110 (decide (x31>x32)) λx33=>.ifs [110] x33 (.ret y8_2) (.ret y8_1))) (λy9_1=>.bI 101 (bE (y8_2+1)) λx34=>.brk ((y9_1:Int),x34))) (.esc (.ret y8_1)))) (λy10_1=>.bo (ix y7_2 y10_1) λx35=>.gv 114<|.gv 115<|.bI 116 (bE (x35+1)) λx36=>.gv 117<|.bl (y7_2.set (Int.toNat y10_1) x36:List Int) λx37=>.ge 1028006 0<|.bo (ix y7_3 y10_1) λx38=>.gv 120<|.bl (y7_3.set (Int.toNat y10_1) (-1):List Int) λx39=>.ge 1029003 0<|.ret ((x37:List Int),x39))) (pw λy11_1 y11_2=>.bI 95 (bE (y7_1-1)) λx40=>.brk ((x40:Int),y11_1,y11_2))) (.esc (.ret y7_2))) q0)) (λy12_1=>.ret ((y12_1:List Int),0))) q0)))))
def EG (n:Nat) (a1:Int) (a2:List Int):Option ((List Int)×Int):=(X0 n a1 a2).run
theorem aJ8 {n a1 a2 r} (h0:EG n a1 a2=some r):PP Tryz.prog 150 [int a1,aH 1 fI a2] (λy=>y=.bD [aH 1 fI r.1,int r.2]) :=
 bY mixed aA (λr:(List Int)×Int=>.bD [aH 1 fI r.1,int r.2]) h0 Tryz.func150 (λr=>.bD (gK ((jD pN) (r.1)) (bQ (r.2)))) 100000 au
def TU (n:Nat) (a1:Int) (a2:aS) (a3:Int):WT Tryz.prog (.b (aS×Int)) :=
 .al 1<|.al 2<|.ln 16 aF.av a2.aI<|.jn 1 [2,4,6,7,8] [1,2] [] (λ_ (a:Bool)=>[(17,aZ a)]) (λ_ _=>[]) (.bB 19 (decide (a3<0)) λx6=>.ifs [19] x6 (.ret true) (.bB 22 (decide (a1=4)) λx7=>.ret x7)) (λy0_1=>.ifs [17] y0_1 (.ret ((a2:aS),1)) (.bB 27 (decide ((a2.aI.length:Int)=0)) λx8=>.ifs [27] x8 (.ret ((a2:aS),5)) (.bB 31 (decide (a3>288230376151711744)) λx9=>.ifs [31] x9 (.ret ((a2:aS),2)) (.as (a2.aI.length<=68719476736) inferInstance<|.ge 35 3<|.cl 37 (wT n a2) BZ BG λx12=>.al 4<|.jn 1 [4,6,7] [1,2] [] (λu10 (a:(List aF))=>[(9,.sl 3 (u10 3) 0 a.length)]) (λ_ a=>[.kp 3 (a.map aF.av)]) (.lp [2,4,6,7,8,10] [1,2,4] [] (λu13 (a:Int×Int×(List aF))=>[(9,.sl 3 (u13 3) 0 a.2.2.length),(11,int a.1),(12,int a.2.1)]) (λ_ a=>[.kp 3 (a.2.2.map aF.av)]) n ((a3:Int),0,(a2.aI:List aF)) (pw λy1_1 q0=>(pw λy1_2 y1_3=>.bB 41 (decide (y1_2<(a2.aI.length:Int))) λx14=>.ifs [41] x14 (.bI 47 (bE ((a2.aI.length:Int)-1)) λx15=>.bB 48 (decide (y1_2<x15)) λx16=>.jn 0 [2,4,6,7,8,9,10,11,12] [1,2,3,4] [] (λ_ (a:Int)=>[(13,int a)]) (λ_ _=>[]) (.ifs [48] x16 (.dr [(3,[3]),(4,[3]),(5,[3]),(6,[4]),(7,[4])] [] [3,4] [] [0,1,2,3,4,5,6,7,8,9] (.bo (ix y1_3 y1_2) λx17=>.gv 52<|.gv 53<|.gv 54<|.cl 57 (qR n a3 x17.aT x12.aT) vI uP λx18=>.ret x18)) (.ret y1_1)) (λy2_1=>.bo (ix y1_3 y1_2) λx19=>.gv 62<|.gv 63<|.gv 64<|.bI 66 (bE (x19.Value+y2_1)) λx20=>.bI 69 (bE (y1_1-y2_1)) λx21=>.gv 70<|.gv 71<|.bl (y1_3.set (Int.toNat y1_2) ((⟨x19.aT,x20,x19.bO⟩:aF):aF):List aF) λx22=>.ge 1016014 0<|.bI 43 (bE (y1_2+1)) λx23=>.brk ((x21:Int),x23,x22))) (.esc (.ret y1_3))) q0)) (λy3_1=>.kZ 73 (zY n y3_1) IC KI (λ_=>rfl) λx24=>.bB 74 (!x24) λx25=>.ifs [74] x25 (.ret ((a2:aS),2)) (.ret (((⟨y3_1,a2.bC⟩:aS):aS),0)))))))
def I1 (n:Nat) (a1:Int) (a2:aS) (a3:Int):Option (aS×Int):=(TU n a1 a2 a3).run
theorem aUR {n:Nat} {a1:Int} {a2:aS} {a3:Int} {r:aS×Int} (h0:I1 n a1 a2 a3=some r):PP Tryz.prog 179 [int a1,.agg (aS.av a2),int a3] (λy=>y=.bD [.agg (aS.av r.1),int r.2]):=by
 refine bY mixed aA (λ(r:aS×Int)=>.bD [.agg (aS.av r.1),int r.2]) h0 Tryz.func179 (λr=>.bD (gK ((λ(a:aS)=>PV.agg (aS.dR a)) (r.1)) (bQ (r.2)))) 100000 ?_
 intro v4
 intro v5
 refine .mk ?_
 refine .mk ?_ ?_
 refine .mk λx6=>?_
 refine .mk .mk ?_
 refine .mk λx7=>?_
 exact .mk
 intro _ _
 refine .mk .mk ?_
 refine .mk λx8=>?_
 refine .mk .mk ?_
 refine .mk λx9=>?_
 refine .mk .mk ?_
 refine .mk λwB=>?_
 refine .mk _ ⟨λ_=>nU (g:=aF.av) (m:=a2.aI) 3 rfl Tryz.underlying96 F6 P6 rfl rfl rfl rfl (.refl _) (λ_=>rfl) wB,λ_ _ _=>trivial⟩ ?_
 rintro _ _ ⟨v11,rfl,rfl⟩
 refine .mk λx12 e12=>?_
 intro v13
 refine .mk ?_ ?_
 refine .mk ?_
 rintro ⟨y1_1,y1_2,y1_3⟩ _
 refine .mk λx14=>?_
 refine .mk ?_ ?_
 refine .mk λx15=>?_
 refine .mk λx16=>?_
 refine .mk ?_ ?_
 refine .mk ?_ ?_
 refine .mk ?_
 refine .mk λx17 e17=>?_
 refine .mk _ (λH hH _=>iT rfl Tryz.underlying96 tF rfl rfl ((hH _ (by decide)).trans rfl) rfl rfl (Eq.symm rfl) (List.length_map _) e17) ?_
 refine .mk _ (λH hH _=>iC rfl aOE rfl (.pt ((hH _ (by decide)).trans rfl) rfl (iN e17)) (.pt _ _ _ _ _)) ?_
 refine .mk _ (λH hH _=>gQ rfl dM rfl (.pt ((hH _ (by decide)).trans rfl) rfl (iN e17)) rfl) ?_
 refine .mk λx18 e18=>?_
 exact .mk
 exact .mk
 intro _ _
 refine .mk λx19 e19=>?_
 refine .mk _ (fK (iT rfl Tryz.underlying96 tF rfl rfl rfl rfl rfl (Eq.symm rfl) (List.length_map _) e19)) ?_
 refine .mk _ (fK (iC rfl aCC rfl (.pt rfl rfl (iN e19)) (.pt _ _ _ _ _))) ?_
 refine .mk _ (fK (gQ rfl dM rfl (.pt rfl rfl (iN e19)) rfl)) ?_
 refine .mk λx20=>?_
 refine .mk λx21=>?_
 refine .mk _ (fK (iT rfl Tryz.underlying96 tF rfl rfl rfl rfl rfl (Eq.symm rfl) (List.length_map _) e19)) ?_
 refine .mk _ (fK (iC rfl aCC rfl (.pt rfl rfl (iN e19)) (.pt _ _ _ _ _))) ?_
 refine .mk λx22 e22=>?_
 have fx22:=mX e19 e22;have lx22:=l6 e22 (rfl:y1_3.length=y1_3.length)
 refine .mk _ ⟨λ_=>eG.iA (iP (ob':=(⟨69,3,true,true,_,x22.map aF.av⟩:cO)) (iL rfl dM rfl rfl rfl rfl rfl (iN e19) rfl rfl rfl) (jZ (oI e22))) (λ_ h=>h) (λ_ _=>trivial),λ_ _ _=>trivial⟩ ?_
 rintro _ _ ⟨rfl,rfl⟩
 refine .mk λx23=>?_
 exact .mk ⟨⟨⟨_,rfl,(rA (Eq.symm lx22))⟩,⟨_,rfl,(.refl _)⟩,⟨_,rfl,(.refl _)⟩,⟨_,rfl,(.refl _)⟩,⟨_,rfl,(.refl _)⟩,⟨_,rfl,(.refl _)⟩,⟨_,rfl,(.refl _)⟩,⟨_,rfl,(.refl _)⟩,⟨_,rfl,(.refl _)⟩,trivial⟩,⟨⟨_,rfl,(.refl _)⟩,⟨_,rfl,(.refl _)⟩,⟨_,rfl,(.refl _)⟩,⟨_,rfl,(.refl _)⟩,trivial⟩⟩
 exact .mk
 intro _ _
 refine .mk (λx24 e24=>?_) rfl (by rintro _ rfl;exact (.cons (gY rfl rfl rfl rfl rfl (Eq.symm rfl)) .nil))
 refine .mk λx25=>?_
 refine .mk .mk ?_
 exact .mk (dG.bD (.cons (dG.agg (.cons (gY rfl rfl rfl rfl rfl (Eq.symm rfl)) (.cons (.refl _) (.cons (.refl _) (.cons (.refl _) .nil))))) (.cons (.refl _) .nil)))
def aEP (n:Nat) (a1:aB) (a2:dX) (a3:Int):WT Tryz.prog (.b (aB×Int×Int)) :=
 .al 1<|.al 2<|.al 3<|.dr [(0,[1]),(1,[1]),(2,[1]),(3,[2]),(4,[2]),(7,[2]),(8,[2])] [] [1,2] [] [0,1,2,3,4,5,6,7,8,9,10,11] (.ix 20 (fL 1 fI) a1.bF.Methods a2.fU λx7=>.ix 24 fI x7 a2.Item λx8=>.cl 33 (rG a1 a2.fU a2.Item a2.Loc) wZ vW λx9=>.al 4<|.dr [(1,[2]),(2,[2]),(3,[2]),(4,[2]),(6,[4]),(10,[2]),(11,[2])] [] [2,4] [] [0,1,2,3,4,5,6,7,8,9,10,11,12,13] (.bI 39 (bE (a2.aT-a2.jB)) λx11=>.cl 41 (wT n x9) BZ BG λx12=>.bl (if x12.aT<x11 then x12.aT else x11:Int) λx13=>.gv 43<|.cl 46 (qR n a3 x13 a2.aT) vI uP λx14=>.jn 0 [3,4,6,7,8,9,10,11] [1,2,3,4] [] (λ_ (a:Bool)=>[(52,aZ a)]) (λ_ _=>[]) (.bB 48 (decide (x8=4)) λx15=>.ifs [48] x15 (.ret true) (.bB 51 (decide (x14=0)) λx16=>.ret x16)) (λy0_1=>.ifs [52] y0_1 (.ret ((a1:aB),0,0)) (.cl 58 (I1 n x8 x9 x14) aLV aUR λx17=>.al 5<|.bB 62 (decide (x17.2≠0)) λx19=>.ifs [62] x19 (.ret ((a1:aB),0,x17.2)) (.dr [(0,[1]),(1,[2]),(2,[2]),(3,[2]),(4,[2]),(5,[2]),(6,[2]),(7,[5]),(9,[2]),(10,[2]),(11,[2]),(12,[2])] [(20,[])] [1,2,5] [19,20] [0,1,2,3,4,5,6,7,8,9,10,11,12,13,14,15,16,17,18,19,20,21] (.cl 74 (wI a1 a2.fU a2.Item a2.Loc x17.1) BU CY λx20=>.cl 81 (nA n x20 a2.fU a2.Item (⟨0,0,x14,0,0,0,0,0,0,0,0⟩:cB)) wE wY λx21=>.al 6<|.ret ((x21.1:aB),x14,x21.2)))))))
def LF (n:Nat) (a1:aB) (a2:dX) (a3:Int):Option (aB×Int×Int):=(aEP n a1 a2 a3).run
theorem aGX {n a1 a2 a3 r} (h0:LF n a1 a2 a3=some r):PP Tryz.prog 152 [.agg (aB.av a1),.agg (dX.av a2),int a3] (λy=>y=.bD [.agg (aB.av r.1),int r.2.1,int r.2.2]) :=
 bY mixed aA (λr:aB×Int×Int=>.bD [.agg (aB.av r.1),int r.2.1,int r.2.2]) h0 Tryz.func152 (λr=>.bD (qN ((λ(a:aB)=>PV.agg (aB.dR a)) (r.1)) (bQ (r.2.1)) (bQ (r.2.2)))) 100000 au
def aDW (n:Nat) (a1:aB) (a2:bJ):WT Tryz.prog (.b (aB×Int)) :=
 .al 1<|.al 2<|.al 3<|.jn 0 [2,3,4,5] [1,2,3] [] (λ_ (a:Bool)=>[(26,aZ a)]) (λ_ _=>[]) (.bB 20 (decide (a2.Kind≠11)) λx6=>.ifs [20] x6 (.ret true) (.ln 24 fI a2.fG<|.bB 25 (decide ((a2.fG.length:Int)=0)) λx7=>.ret x7)) (λy0_1=>.ifs [26] y0_1 (.ret ((a1:aB),1)) (.fH 2 [2,3,4,5] [1,2,3] [] (λ_ (a:Unit)=>[]) (λ_ _=>[]) (.lp [2,3,4,5] [1,2,3] [] (λ_ (a:Int)=>[(6,int a)]) (λ_ _=>[]) n 0 (λy1_1=>.ln 31 fI a2.fG<|.bB 32 (decide (y1_1<(a2.fG.length:Int))) λx8=>.ifs [32] x8 (.jn 2 [2,3,4,5,6] [1,2,3] [] (λ_ (a:Bool)=>[(51,aZ a)]) (λ_ _=>[]) (.dr [(0,[2]),(1,[2]),(7,[2]),(8,[2]),(12,[1]),(13,[1])] [] [1,2] [] [0,1,2,3,4,5,6,7,8,9,10,11,12,13,14,15,16] (.ix 38 fI a2.fG y1_1 λx9=>.bB 40 (decide (x9<0)) λx10=>.ifs [40] x10 (.ret true) (.ix 45 fI a2.fG y1_1 λx11=>.ln 49 dX.av a1.bX<|.bB 50 (decide (x11>=(a1.bX.length:Int))) λx12=>.ret x12))) (λy2_1=>.ifs [51] y2_1 (.esc (.esc (.ret ((a1:aB),4)))) (.bI 34 (bE (y1_1+1)) λx13=>.brk x13))) (.esc (.brk ())))) (λ_=>.dr [(0,[1]),(1,[1]),(2,[2]),(3,[2])] [(9,[])] [1,2] [8,9] [0,1,2,3,4,5,6,7,8,9] (.ix 57 fI a2.fG 0 λx14=>.ix 59 dX.av a1.bX x14 λx15=>.al 4<|.fH 1 [2,3,4,5,7] [1,2,3,4] [] (λ_ (a:Unit)=>[]) (λ_ _=>[]) (.lp [2,3,4,5,7] [1,2,3,4] [] (λ_ (a:Int)=>[(8,int a)]) (λ_ _=>[]) n 1 (λy4_1=>.ln 64 fI a2.fG<|.bB 65 (decide (y4_1<(a2.fG.length:Int))) λx17=>.ifs [65] x17 (.dr [(0,[1]),(1,[1]),(2,[2]),(3,[2]),(10,[4]),(11,[4])] [] [1,2,4] [] [0,1,2,3,4,5,6,7,8,9,10,11,12] (.ix 73 fI a2.fG y4_1 λx18=>.ix 75 dX.av a1.bX x18 λx19=>.bB 80 (decide (x19.fU≠x15.fU)) λx20=>.ifs [80] x20 (.esc (.esc (.ret ((a1:aB),1)))) (.bI 67 (bE (y4_1+1)) λx21=>.brk x21))) (.esc (.brk ())))) (λ_=>.cl 87 (pK a1 x15.fU x15.Item) vN vB λx22=>.bB 89 (decide (x22≠0)) λx23=>.ifs [89] x23 (.ret ((a1:aB),x22)) (.dr [(0,[2]),(1,[2]),(2,[1]),(3,[2]),(4,[2]),(5,[2]),(6,[2])] [] [1,2] [] [0,1,2,3,4,5,6,7,8,9,10,11,12,13] (.cl 100 (LW n a1 a2.fG a2.To) aFH aJ7 λx24=>.cl 101 (EG n a2.bM x24) TJ aJ8 λx25=>.bB 105 (decide (x25.2≠0)) λx26=>.ifs [105] x26 (.ret ((a1:aB),x25.2)) (.al 5<|.fH 1 [2,3,4,5,7,12] [1,2,3,4] [] (λ_ (a:Int×aB)=>[(13,int a.1)]) (λ_ a=>[.kp 5 [(aB.av a.2)]]) (.lp [2,3,4,5,7,10,12] [1,2,3,4] [] (λ_ (a:Int×Int×aB)=>[(13,int a.1),(14,int a.2.1)]) (λ_ a=>[.kp 5 [(aB.av a.2.2)]]) n ((0:Int),0,a1) (pw λy6_1 q0=>(pw λy6_2 y6_3=>.ln 111 fI x25.1<|.bB 112 (decide (y6_2<(x25.1.length:Int))) λx28=>.ifs [112] x28 (.dr [(0,[5]),(1,[1]),(2,[1]),(3,[2]),(4,[2])] [(20,[])] [1,2,5] [19,20] [0,1,2,3,4,5,6,7,8,9,10,11,12,13,14,15,16,17,18,19,20,21,22] (.ix 122 fI a2.fG y6_2 λx29=>.ix 124 dX.av a1.bX x29 λx30=>.ix 128 fI x25.1 y6_2 λx31=>.cl 130 (LF n y6_3 x30 x31) aKM aGX λx32=>.al 6<|.bB 135 (decide (x32.2.2≠0)) λx34=>.ifs [135] x34 (.esc (.esc (.ret ((a1:aB),x32.2.2)))) (.bI 141 (bE (y6_1+x32.2.1)) λx35=>.bI 114 (bE (y6_2+1)) λx36=>.brk ((x35:Int),x36,x32.1)))) (.esc (.brk ((y6_1:Int),y6_3)))) q0)) (pw λy7_1 y7_2=>.bI 151 (bE (a2.bM-y7_1)) λx37=>.bI 155 (bE (0-a2.bM)) λx38=>.to 157 (aH 2 aN.av ([(⟨0,y7_1⟩:aN),(⟨9,x37⟩:aN),(⟨2,x38⟩:aN)]:List aN))<|.cl 158 (lS n y7_2 x15.fU ([(⟨0,y7_1⟩:aN),(⟨9,x37⟩:aN),(⟨2,x38⟩:aN)]:List aN)) qU qK λx39=>.bB 162 (decide (x39.2≠0)) λx40=>.ifs [162] x40 (.ret ((a1:aB),x39.2)) (.ret ((x39.1:aB),0)))))))))))
def M9 (n:Nat) (a1:aB) (a2:bJ):Option (aB×Int):=(aDW n a1 a2).run
theorem aOP {n a1 a2 r} (h0:M9 n a1 a2=some r):PP Tryz.prog 103 [.agg (aB.av a1),.agg (bJ.av a2)] (λy=>y=.bD [.agg (aB.av r.1),int r.2]) :=
 bY mixed aA (λr:aB×Int=>.bD [.agg (aB.av r.1),int r.2]) h0 Tryz.func103 (λr=>.bD (gK ((λ(a:aB)=>PV.agg (aB.dR a)) (r.1)) (bQ (r.2)))) 100000 au
def VZ (n:Nat) (a1:aB) (a2:bJ):WT Tryz.prog (.b (aB×Int)) :=
 .al 1<|.al 2<|.al 3<|.cl 18 (pK a1 a2.E a2.Item) vN vB λx6=>.bB 20 (decide (x6≠0)) λx7=>.ifs [20] x7 (.ret ((a1:aB),x6)) (.cl 28 (pK a1 a2.To a2.Item) vN vB λx8=>.bB 30 (decide (x8≠0)) λx9=>.ifs [30] x9 (.ret ((a1:aB),x8)) (.ln 35 fP.av a1.dH<|.bB 36 (decide ((a1.dH.length:Int)>=40)) λx10=>.ifs [36] x10 (.ret ((a1:aB),6)) (.cl 48 (uS n a1 a2.E a2.Item a2.Loc 3 a2.aT) CB DF λx11=>.al 4<|.al 5<|.bB 54 (decide (x11.2.2.2≠0)) λx14=>.ifs [54] x14 (.ret ((a1:aB),x11.2.2.2)) (.bI 66 (bE (0-a2.bM)) λx15=>.bI 73 (bE (0-x11.2.1.Value)) λx16=>.to 75 (aH 2 aN.av ([(⟨13,a2.bM⟩:aN),(⟨15,x15⟩:aN),(⟨16,x11.2.1.Value⟩:aN),(⟨0,x16⟩:aN)]:List aN))<|.cl 76 (lS n x11.1 a2.E ([(⟨13,a2.bM⟩:aN),(⟨15,x15⟩:aN),(⟨16,x11.2.1.Value⟩:aN),(⟨0,x16⟩:aN)]:List aN)) qU qK λx17=>.bB 80 (decide (x17.2≠0)) λx18=>.ifs [80] x18 (.ret ((a1:aB),x17.2)) (.bI 92 (bE (0-a2.bM)) λx19=>.to 94 (aH 2 aN.av ([(⟨12,a2.bM⟩:aN),(⟨14,x19⟩:aN)]:List aN))<|.cl 95 (lS n x17.1 a2.To ([(⟨12,a2.bM⟩:aN),(⟨14,x19⟩:aN)]:List aN)) qU qK λx20=>.bB 99 (decide (x20.2≠0)) λx21=>.ifs [99] x21 (.ret ((a1:aB),x20.2)) (.cl 111 (nA n x20.1 a2.E a2.Item (⟨0,0,0,0,0,0,x11.2.1.Value,0,0,0,0⟩:cB)) wE wY λx22=>.bB 115 (decide (x22.2≠0)) λx23=>.ifs [115] x23 (.ret ((a1:aB),x22.2)) (.bI 122 (bE (a2.bM-x11.2.1.Value)) λx24=>.bI 125 (bE (x24+x11.2.1.bO)) λx25=>.cl 127 (pI x25) tO sJ λx26=>.bB 128 (!x26) λx27=>.ifs [128] x27 (.ret ((a1:aB),2)) (.dr [(0,[4]),(1,[4]),(3,[2]),(4,[2]),(5,[2]),(6,[2]),(7,[2]),(8,[2]),(9,[2]),(10,[2]),(11,[2]),(12,[2]),(17,[4])] [(2,[2]),(16,[]),(18,[])] [2,4] [2,16,18] [0,1,3,4,5,6,7,8,9,10,11,12,13,14,15,2,16,17,18] (.to 145 (aH 6 fP.av ([(⟨a2.E,a2.To,a2.Item,a2.aT,a2.bM,x25⟩:fP)]:List fP))<|.as (x22.1.dH.length<=68719476736) inferInstance<|.ge 132 6<|.bl (x22.1.dH++([(⟨a2.E,a2.To,a2.Item,a2.aT,a2.bM,x25⟩:fP)]:List fP):List fP) λx30=>.as (x30.length<=68719476736) inferInstance<|.ge 146 0<|.ret (((⟨x22.1.bF,x22.1.bA,x22.1.bX,x22.1.dS,x30,x22.1.Done⟩:aB):aB),0))))))))))
def KX (n:Nat) (a1:aB) (a2:bJ):Option (aB×Int):=(VZ n a1 a2).run
theorem aGI {n a1 a2 r} (h0:KX n a1 a2=some r):PP Tryz.prog 153 [.agg (aB.av a1),.agg (bJ.av a2)] (λy=>y=.bD [.agg (aB.av r.1),int r.2]) :=
 bY mixed aA (λr:aB×Int=>.bD [.agg (aB.av r.1),int r.2]) h0 Tryz.func153 (λr=>.bD (gK ((λ(a:aB)=>PV.agg (aB.dR a)) (r.1)) (bQ (r.2)))) 100000 au
def aB2 (n:Nat) (a1:aB) (a2:bJ):WT Tryz.prog (.b (aB×Int)) :=
 .al 1<|.al 2<|.al 3<|.jn 0 [2,3,4,5] [1,2,3] [] (λ_ (a:Bool)=>[(25,aZ a)]) (λ_ _=>[]) (.bB 17 (decide (a2.Ref<0)) λx6=>.ifs [17] x6 (.ret true) (.ln 23 fP.av a1.dH<|.bB 24 (decide (a2.Ref>=(a1.dH.length:Int))) λx7=>.ret x7)) (λy0_1=>.ifs [25] y0_1 (.ret ((a1:aB),4)) (.ix 31 fP.av a1.dH a2.Ref λx8=>.al 4<|.cl 38 (pK a1 x8.To x8.Item) vN vB λx10=>.bB 40 (decide (x10≠0)) λx11=>.ifs [40] x11 (.ret ((a1:aB),x10)) (.bB 47 (decide (a2.aT>x8.aT)) λx12=>.ifs [47] x12 (.ret ((a1:aB),5)) (.dr [(0,[4]),(1,[4]),(2,[2]),(3,[2]),(4,[4]),(5,[4]),(7,[4]),(8,[4]),(9,[2]),(10,[2]),(11,[4]),(12,[4])] [] [2,4] [] [0,1,2,3,4,5,6,7,8,9,10,11,12,13,14,15] (.cl 55 (qR n x8.Value a2.aT x8.aT) vI uP λx13=>.cl 62 (qR n x8.bO a2.aT x8.aT) vI uP λx14=>.cl 76 (qO n a1 x8.To x8.Item a2.Loc (⟨a2.aT,x13,x14⟩:aF)) EY FR λx15=>.al 5<|.bB 82 (decide (x15.2.2.2≠0)) λx17=>.ifs [82] x17 (.ret ((a1:aB),x15.2.2.2)) (.bI 94 (bE (0-x13)) λx18=>.to 96 (aH 2 aN.av ([(⟨0,x15.2.1⟩:aN),(⟨6,x15.2.2.1⟩:aN),(⟨12,x18⟩:aN)]:List aN))<|.cl 97 (lS n x15.1 x8.To ([(⟨0,x15.2.1⟩:aN),(⟨6,x15.2.2.1⟩:aN),(⟨12,x18⟩:aN)]:List aN)) qU qK λx19=>.bB 101 (decide (x19.2≠0)) λx20=>.ifs [101] x20 (.ret ((a1:aB),x19.2)) (.cl 112 (nA n x19.1 x8.To x8.Item (⟨0,0,0,x15.2.1,0,0,0,0,0,0,0⟩:cB)) wE wY λx21=>.bB 116 (decide (x21.2≠0)) λx22=>.ifs [116] x22 (.ret ((a1:aB),x21.2)) (.as (x21.1.dH.length<=68719476736) inferInstance<|.ge 121 6<|.dr [(1,[2]),(2,[2]),(4,[2]),(5,[2]),(7,[2]),(8,[2]),(9,[4]),(10,[4]),(11,[2]),(12,[2]),(14,[4]),(15,[4]),(18,[4]),(19,[4]),(22,[6]),(23,[6]),(25,[6]),(26,[6]),(28,[6]),(29,[6])] [(24,[2,4]),(27,[2,4]),(30,[])] [2,4,6] [24,27,30] [0,1,2,3,4,5,6,7,8,9,10,11,12,13,14,15,16,17,18,19,20,21,22,23,24,25,26,27,28,29,30] (.bI 135 (bE (x8.aT-a2.aT)) λx25=>.bI 139 (bE (x8.Value-x13)) λx26=>.bI 143 (bE (x8.bO-x14)) λx27=>.bo (ix x21.1.dH a2.Ref) λx28=>.gv 144<|.gv 145<|.bl (x21.1.dH.set (Int.toNat a2.Ref) ((⟨x28.uL,x28.To,x28.Item,x25,x28.Value,x28.bO⟩:fP):fP):List fP) λx29=>.ge 1020024 0<|.gv 146<|.gv 147<|.bl (x29.set (Int.toNat a2.Ref) ((⟨x28.uL,x28.To,x28.Item,x25,x26,x28.bO⟩:fP):fP):List fP) λx30=>.ge 1020027 0<|.gv 148<|.gv 149<|.bl (x30.set (Int.toNat a2.Ref) ((⟨x28.uL,x28.To,x28.Item,x25,x26,x27⟩:fP):fP):List fP) λx31=>.ge 1020030 0<|.ret (((⟨x21.1.bF,x21.1.bA,x21.1.bX,x21.1.dS,x31,x21.1.Done⟩:aB):aB),0))))))))))
def MU (n:Nat) (a1:aB) (a2:bJ):Option (aB×Int):=(aB2 n a1 a2).run
theorem aTI {n:Nat} {a1:aB} {a2:bJ} {r:aB×Int} (h0:MU n a1 a2=some r):PP Tryz.prog 154 [.agg (aB.av a1),.agg (bJ.av a2)] (λy=>y=.bD [.agg (aB.av r.1),int r.2]):=by
 refine bY mixed aA (λ(r:aB×Int)=>.bD [.agg (aB.av r.1),int r.2]) h0 Tryz.func154 (λr=>.bD (gK ((λ(a:aB)=>PV.agg (aB.dR a)) (r.1)) (bQ (r.2)))) 100000 ?_
 intro v3
 intro v4
 intro v5
 refine .mk ?_ ?_
 refine .mk λx6=>?_
 refine .mk .mk ?_
 refine .mk ?_
 refine .mk λx7=>?_
 exact .mk
 intro _ _
 refine .mk .mk ?_
 refine .mk λx8 e8=>?_
 intro v9
 refine .mk λx10 e10=>?_
 refine .mk λx11=>?_
 refine .mk .mk ?_
 refine .mk λx12=>?_
 refine .mk .mk ?_
 refine .mk ?_
 refine .mk λx13 e13=>?_
 refine .mk λx14 e14=>?_
 refine .mk λx15 e15=>?_
 intro v16
 refine .mk λx17=>?_
 refine .mk .mk ?_
 refine .mk λx18=>?_
 refine .mk (fK (fT (y:=aH 2 aN.av ([(⟨0,x15.2.1⟩:aN),(⟨6,x15.2.2.1⟩:aN),(⟨12,x18⟩:aN)]:List aN)) (jP (ps:=[(0,_),(1,_),(2,_)]) (rows:=[[int 0,int x15.2.1],[int 6,int x15.2.2.1],[int 12,int x18]]) rfl Tryz.underlying73 vQ (.cons rfl (.cons rfl (.cons rfl .nil))) (by kernel_rfl) rfl rfl rfl) rfl)) ?_
 refine .mk λx19 e19=>?_
 refine .mk λx20=>?_
 refine .mk .mk ?_
 refine .mk λx21 e21=>?_
 refine .mk λx22=>?_
 refine .mk .mk ?_
 refine .mk λp23=>?_
 refine .mk _ ⟨λ_=>nU (g:=fP.av) (m:=x21.1.dH) 6 rfl Tryz.underlying30 aOH aNB rfl rfl rfl rfl (.refl _) (λ_=>rfl) p23,λ_ _ _=>trivial⟩ ?_
 rintro _ _ ⟨v24,rfl,rfl⟩
 refine .mk ?_
 refine .mk λx25=>?_
 refine .mk λx26=>?_
 refine .mk λx27=>?_
 refine .mk λx28 e28=>?_
 refine .mk _ (λH hH _=>iT rfl Tryz.underlying30 N9 rfl rfl ((hH _ (by decide)).trans rfl) rfl rfl (Eq.symm rfl) (List.length_map _) e28) ?_
 refine .mk _ (λH hH _=>iC rfl aPT rfl (.pt ((hH _ (by decide)).trans rfl) rfl (iN e28)) (.pt _ _ _ _ _)) ?_
 refine .mk λx29 e29=>?_
 have fx29:=mX e28 e29;have lx29:=l6 e29 (rfl:x21.1.dH.length=x21.1.dH.length)
 refine .mk _ ⟨λ_=>eG.iA (iP (ob':=(⟨132,6,true,true,_,x29.map fP.av⟩:cO)) (iL rfl dM rfl rfl rfl rfl rfl (iN e28) rfl rfl rfl) (jZ (oI e29))) (λ_ h=>h) (λ_ _=>trivial),by rintro _ _ ⟨rfl,rfl⟩;exact ⟨rfl,rfl,trivial⟩⟩ ?_
 rintro _ _ ⟨rfl,rfl⟩
 refine .mk _ (λH hH _=>iT rfl Tryz.underlying30 N9 rfl rfl ((hH _ (by decide)).trans rfl) rfl rfl (Eq.symm lx29) (List.length_map _) fx29) ?_
 refine .mk _ (λH hH _=>iC rfl aTY rfl (.pt ((hH _ (by decide)).trans rfl) rfl (iN fx29)) (.pt _ _ _ _ _)) ?_
 refine .mk λx30 e30=>?_
 have fx30:=mX fx29 e30;have lx30:=l6 e30 lx29
 refine .mk _ ⟨λ_=>eG.iA (iP (ob':=(⟨132,6,true,true,_,x30.map fP.av⟩:cO)) (iL rfl dM rfl rfl rfl rfl rfl (iN fx29) rfl rfl rfl) (jZ (oI e30))) (λ_ h=>h) (λ_ _=>trivial),by rintro _ _ ⟨rfl,rfl⟩;exact ⟨rfl,rfl,trivial⟩⟩ ?_
 rintro _ _ ⟨rfl,rfl⟩
 refine .mk _ (λH hH _=>iT rfl Tryz.underlying30 N9 rfl rfl ((hH _ (by decide)).trans rfl) rfl rfl (Eq.symm lx30) (List.length_map _) fx30) ?_
 refine .mk _ (λH hH _=>iC rfl aO5 rfl (.pt ((hH _ (by decide)).trans rfl) rfl (iN fx30)) (.pt _ _ _ _ _)) ?_
 refine .mk λx31 e31=>?_
 have fx31:=mX fx30 e31;have lx31:=l6 e31 lx30
 refine .mk _ ⟨λ_=>eG.iA (iP (ob':=(⟨132,6,true,true,_,x31.map fP.av⟩:cO)) (iL rfl dM rfl rfl rfl rfl rfl (iN fx30) rfl rfl rfl) (jZ (oI e31))) (λ_ h=>h) (λ_ _=>trivial),by rintro _ _ ⟨rfl,rfl⟩;exact trivial⟩ ?_
 rintro _ _ ⟨rfl,rfl⟩
 exact .mk (dG.bD (.cons (dG.agg (.cons (.refl _) (.cons (.refl _) (.cons (.refl _) (.cons (.refl _) (.cons (.refl _) (.cons (.refl _) (.cons (.refl _) (.cons (.refl _) (.cons (gY rfl rfl rfl rfl rfl (Eq.symm lx31)) (.cons (.refl _) .nil))))))))))) (.cons (.refl _) .nil)))
def UL (n:Nat) (a1:aB) (a2:bJ):WT Tryz.prog (.b (aB×Int)) :=
 .al 1<|.al 2<|.al 3<|.bB 9 (decide (a2.Kind=12)) λx6=>.ifs [9] x6 (.cl 12 (KX n a1 a2) aQ3 aGI λx7=>.ret ((x7.1:aB),x7.2)) (.bB 16 (decide (a2.Kind=13)) λx8=>.ifs [16] x8 (.cl 19 (MU n a1 a2) aKI aTI λx9=>.ret ((x9.1:aB),x9.2)) (.ret ((a1:aB),1)))
def K7 (n:Nat) (a1:aB) (a2:bJ):Option (aB×Int):=(UL n a1 a2).run
theorem aK2 {n a1 a2 r} (h0:K7 n a1 a2=some r):PP Tryz.prog 104 [.agg (aB.av a1),.agg (bJ.av a2)] (λy=>y=.bD [.agg (aB.av r.1),int r.2]) :=
 bY mixed aA (λr:aB×Int=>.bD [.agg (aB.av r.1),int r.2]) h0 Tryz.func104 (λr=>.bD (gK ((λ(a:aB)=>PV.agg (aB.dR a)) (r.1)) (bQ (r.2)))) 100000 au
end
end Go.Pv
