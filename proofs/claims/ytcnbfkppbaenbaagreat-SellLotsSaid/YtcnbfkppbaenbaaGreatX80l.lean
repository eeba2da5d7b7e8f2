import Derived.Test.YtcnbfkppbaenbaaGreatX80k
set_option linter.unusedVariables false
set_option linter.unusedSimpArgs false
namespace Go.Pv
open Go.Proofs
set_option maxRecDepth 100000
set_option maxHeartbeats 4000000
noncomputable section
def T4 (n:Nat) (a1:aA) (a2:Int):WT Tryz.prog (.b (Int)) :=
 .al 1<|.jn 2 [4] [] [3] (λu2 (a:(List Int))=>[(5,.sl 3 (u2 3) 0 a.length)]) (λ_ a=>[.nw 3 3 1 (a.map fI)]) (.no 5 3 3 1<|.lp [1,2,4] [1] [3] (λu3 (a:Int×(List Int))=>[(5,.sl 3 (u3 3) 0 a.2.length),(6,int a.1)]) (λ_ a=>[.nw 3 3 1 (a.2.map fI)]) n ((0:Int),(([]:List Int):List Int)) (pw λy0_2 y0_3=>.ln 13 fI a1.bH.bZ<|.bB 14 (decide (y0_2<(a1.bH.bZ.length:Int))) λx5=>.ifs [14] x5 (.cl 21 (wF n a1 a2 y0_2) KM LG λx6=>.to 23 (aP 1 fI ([x6.Value]:List Int))<|.bl (y0_3++([x6.Value]:List Int):List Int) λx7=>.as (x7.length<=68719476736) inferInstance<|.ge 24 0<|.bI 16 (bA (y0_2+1)) λx10=>.brk ((x10:Int),x7)) (.esc (.ret y0_3)))) (λy1_2=>.kS 27 (nI n y1_2) rH qP (λ_=>rfl) λx11=>.ret ((x11.1:Int)))
def M9 (n:Nat) (a1:aA) (a2:Int):Option (Int):=(T4 n a1 a2).run
theorem aXH {n a1 a2 r} (h0:M9 n a1 a2=some r):PP Tryz.prog 140 [.agg (aA.av a1),int a2] (λy=>y=int r) :=
 bU mixed bR (λr:Int=>int r) h0 Tryz.func140 (λr=>bT r) 100000 au
def aBV (n:Nat) (a1:aA) (a2:Int):WT Tryz.prog (.b (Bool)) :=
 .al 1<|.jn 0 [] [] [] (λ_ (a:Bool)=>[(4,aT a)]) (λ_ _=>[]) (.dr [(0,[1]),(4,[1]),(7,[1]),(8,[1])] [] [1] [] [0,1,2,3,4,5,6,7,8,9,10,11,12,13,14,15,16,17] (.cl 7 (tY a1 a2) zK BC λx4=>.ifs [7] x4 (.cl 11 (M9 n a1 a2) aLZ aXH λx5=>.iF 15 aQ.av gE aQ.fF a1.bD a2 λx6=>.ix 18 fI x6.dR 0 λx7=>.bB 20 (decide (x5=x7)) λx8=>.ret x8) (.ret false))) (λy0_1=>.ret ((y0_1:Bool)))
def EZ (n:Nat) (a1:aA) (a2:Int):Option (Bool):=(aBV n a1 a2).run
theorem aKI {n a1 a2 r} (h0:EZ n a1 a2=some r):PP Tryz.prog 80 [.agg (aA.av a1),int a2] (λy=>y=aT r) :=
 bU mixed bR (λr:Bool=>aT r) h0 Tryz.func80 (λr=>gF r) 100000 au
def TZ (n:Nat) (a1:aA) (a2:Int):WT Tryz.prog (.b (Bool)) :=
 .al 1<|.jn 2 [1,2,4] [1] [3] (λu6 (a:(List Int))=>[(5,.sl 3 (u6 3) 0 a.length)]) (λ_ a=>[.nw 3 3 1 (a.map fI)]) (.no 5 3 3 1<|.lp [1,2,4] [1] [3] (λu10 (a:Int×(List Int))=>[(5,.sl 3 (u10 3) 0 a.2.length),(6,int a.1)]) (λ_ a=>[.nw 3 3 1 (a.2.map fI)]) n ((0:Int),(([]:List Int):List Int)) (pw λy0_2 y0_3=>.ln 12 dG.av a1.bY<|.bB 13 (decide (y0_2<(a1.bY.length:Int))) λx5=>.ifs [13] x5 (.jn 1 [1,2,4,6] [1] [3] (λu11 (a:(List Int))=>[(5,.sl 3 (u11 3) 0 a.length)]) (λ_ a=>[.nw 3 3 1 (a.map fI)]) (.ix 19 dG.av a1.bY y0_2 λx6=>.bB 23 (decide (x6.eY=a2)) λx7=>.ifs [23] x7 (.ix 28 dG.av a1.bY y0_2 λx8=>.to 31 (aP 1 fI ([x8.gW]:List Int))<|.bl (y0_3++([x8.gW]:List Int):List Int) λx9=>.as (x9.length<=68719476736) inferInstance<|.ge 32 0<|.ret x9) (.ret y0_3)) (λy1_2=>.bI 15 (bA (y0_2+1)) λx12=>.brk ((x12:Int),y1_2))) (.esc (.ret y0_3)))) (λy2_2=>.kS 35 (nI n y2_2) rH qP (λ_=>rfl) λx13=>.jn 0 [] [] [] (λ_ (a:Bool)=>[(4,aT a)]) (λ_ _=>[]) (.cl 40 (tY a1 a2) zK BC λx14=>.ifs [40] x14 (.bB 43 (decide (x13.2=0)) λx15=>.ifs [43] x15 (.iF 50 aQ.av gE aQ.fF a1.bD a2 λx16=>.ix 53 fI x16.dR 1 λx17=>.bI 55 (bA (0-x17)) λx18=>.bB 56 (decide (x13.1=x18)) λx19=>.ret x19) (.ret false)) (.ret false)) (λy3_1=>.ret ((y3_1:Bool))))
def DR (n:Nat) (a1:aA) (a2:Int):Option (Bool):=(TZ n a1 a2).run
theorem aN1 {n a1 a2 r} (h0:DR n a1 a2=some r):PP Tryz.prog 81 [.agg (aA.av a1),int a2] (λy=>y=aT r) :=
 bU mixed bR (λr:Bool=>aT r) h0 Tryz.func81 (λr=>gF r) 100000 au
def aFP (n:Nat) (a1:aA) (a2:Int):WT Tryz.prog (.b (Bool)) :=
 .al 1<|.jn 2 [1,2,4] [1] [3] (λu6 (a:(List Int))=>[(5,.sl 3 (u6 3) 0 a.length)]) (λ_ a=>[.nw 3 3 1 (a.map fI)]) (.no 5 3 3 1<|.lp [1,2,4] [1] [3] (λu10 (a:Int×(List Int))=>[(5,.sl 3 (u10 3) 0 a.2.length),(6,int a.1)]) (λ_ a=>[.nw 3 3 1 (a.2.map fI)]) n ((0:Int),(([]:List Int):List Int)) (pw λy0_2 y0_3=>.ln 12 fT.av a1.dL<|.bB 13 (decide (y0_2<(a1.dL.length:Int))) λx5=>.ifs [13] x5 (.jn 1 [1,2,4,6] [1] [3] (λu11 (a:(List Int))=>[(5,.sl 3 (u11 3) 0 a.length)]) (λ_ a=>[.nw 3 3 1 (a.map fI)]) (.ix 19 fT.av a1.dL y0_2 λx6=>.bB 23 (decide (x6.To=a2)) λx7=>.ifs [23] x7 (.ix 28 fT.av a1.dL y0_2 λx8=>.to 31 (aP 1 fI ([x8.Value]:List Int))<|.bl (y0_3++([x8.Value]:List Int):List Int) λx9=>.as (x9.length<=68719476736) inferInstance<|.ge 32 0<|.ret x9) (.ret y0_3)) (λy1_2=>.bI 15 (bA (y0_2+1)) λx12=>.brk ((x12:Int),y1_2))) (.esc (.ret y0_3)))) (λy2_2=>.kS 35 (nI n y2_2) rH qP (λ_=>rfl) λx13=>.jn 0 [] [] [] (λ_ (a:Bool)=>[(4,aT a)]) (λ_ _=>[]) (.cl 40 (tY a1 a2) zK BC λx14=>.ifs [40] x14 (.bB 43 (decide (x13.2=0)) λx15=>.ifs [43] x15 (.iF 50 aQ.av gE aQ.fF a1.bD a2 λx16=>.ix 53 fI x16.dR 12 λx17=>.bB 55 (decide (x13.1=x17)) λx18=>.ret x18) (.ret false)) (.ret false)) (λy3_1=>.ret ((y3_1:Bool))))
def EF (n:Nat) (a1:aA) (a2:Int):Option (Bool):=(aFP n a1 a2).run
theorem aOK {n a1 a2 r} (h0:EF n a1 a2=some r):PP Tryz.prog 82 [.agg (aA.av a1),int a2] (λy=>y=aT r) :=
 bU mixed bR (λr:Bool=>aT r) h0 Tryz.func82 (λr=>gF r) 100000 au
def aBA (n:Nat) (a1:aA) (a2:Int):WT Tryz.prog (.b (Bool)) :=
 .al 1<|.cl 9 (tY a1 a2) zK BC λx4=>.bB 10 (!x4) λx5=>.ifs [10] x5 (.ret ((false:Bool))) (.iF 15 aQ.av gE aQ.fF a1.bD a2 λx6=>.cl 18 (nI n x6.Down) rH qP λx7=>.jn 0 [] [] [] (λ_ (a:Bool)=>[(4,aT a)]) (λ_ _=>[]) (.bB 22 (decide (x7.2=0)) λx8=>.ifs [22] x8 (.iF 28 aQ.av gE aQ.fF a1.bD a2 λx9=>.ix 31 fI x9.dR 11 λx10=>.bI 33 (bA (0-x10)) λx11=>.bB 34 (decide (x7.1=x11)) λx12=>.ret x12) (.ret false)) (λy0_1=>.ret ((y0_1:Bool))))
def DU (n:Nat) (a1:aA) (a2:Int):Option (Bool):=(aBA n a1 a2).run
theorem aKU {n a1 a2 r} (h0:DU n a1 a2=some r):PP Tryz.prog 83 [.agg (aA.av a1),int a2] (λy=>y=aT r) :=
 bU mixed bR (λr:Bool=>aT r) h0 Tryz.func83 (λr=>gF r) 100000 au
def U5 (n:Nat) (a1:List Int):WT Tryz.prog (.b (Int×Int×Int)) :=
 .ln 9 fI a1<|.bB 10 (decide ((a1.length:Int)≠17)) λx2=>.ifs [10] x2 (.ret ((0:Int),0,1)) (.fD 3 [2,3,4] [] [] (λ_ (a:Int×Int)=>[(5,int a.1),(6,int a.2)]) (λ_ _=>[]) (.lp [0,2,3,4] [] [] (λ_ (a:Int×Int×Int)=>[(5,int a.1),(6,int a.2.1),(7,int a.2.2)]) (λ_ _=>[]) n ((0:Int),0,0) (pw λy0_1 q0=>(pw λy0_2 y0_3=>.ln 13 fI a1<|.bB 14 (decide (y0_3<(a1.length:Int))) λx3=>.ifs [14] x3 (.fD 1 [0,2,3,4,7] [] [] (λ_ (a:Int×Int)=>[(5,int a.1),(6,int a.2)]) (λ_ _=>[]) (.ix 26 fI a1 y0_3 λx4=>.cl 28 (nU x4) qV rF λx5=>.bB 29 (!x5) λx6=>.ifs [29] x6 (.esc (.esc (.esc (.ret ((0:Int),0,2))))) (.ix 33 fI a1 y0_3 λx7=>.bB 35 (decide (x7>0)) λx8=>.ifs [35] x8 (.ix 39 fI a1 y0_3 λx9=>.bI 41 (bA (y0_1+x9)) λx10=>.brk ((x10:Int),y0_2)) (.ix 20 fI a1 y0_3 λx11=>.bI 22 (bA (y0_2-x11)) λx12=>.brk ((y0_1:Int),x12)))) (pw λy1_1 y1_2=>.bI 16 (bA (y0_3+1)) λx13=>.brk ((y1_1:Int),y1_2,x13))) (.esc (.brk ((y0_1:Int),y0_2)))) q0)) (pw λy2_1 y2_2=>.ret ((y2_1:Int),y2_2,0)))
def ME (n:Nat) (a1:List Int):Option (Int×Int×Int):=(U5 n a1).run
theorem aVQ {n a1 r} (h0:ME n a1=some r):PP Tryz.prog 142 [aP 1 fI a1] (λy=>y=.bC [int r.1,int r.2.1,int r.2.2]) :=
 bU mixed bR (λr:Int×Int×Int=>.bC [int r.1,int r.2.1,int r.2.2]) h0 Tryz.func142 (λr=>.bC (nM (bT (r.1)) (bT (r.2.1)) (bT (r.2.2)))) 100000 au
def aB9 (n:Nat) (a1:aA) (a2:Int):WT Tryz.prog (.b (Bool)) :=
 .al 1<|.cl 10 (tY a1 a2) zK BC λx4=>.bB 11 (!x4) λx5=>.ifs [11] x5 (.ret ((false:Bool))) (.iF 16 aQ.av gE aQ.fF a1.bD a2 λx6=>.cl 19 (ME n x6.dR) aOU aVQ λx7=>.jn 0 [] [] [] (λ_ (a:Bool)=>[(4,aT a)]) (λ_ _=>[]) (.bB 24 (decide (x7.2.2=0)) λx8=>.ifs [24] x8 (.bB 28 (decide (x7.1=x7.2.1)) λx9=>.ret x9) (.ret false)) (λy0_1=>.ret ((y0_1:Bool))))
def E8 (n:Nat) (a1:aA) (a2:Int):Option (Bool):=(aB9 n a1 a2).run
theorem aHV {n a1 a2 r} (h0:E8 n a1 a2=some r):PP Tryz.prog 84 [.agg (aA.av a1),int a2] (λy=>y=aT r) :=
 bU mixed bR (λr:Bool=>aT r) h0 Tryz.func84 (λr=>gF r) 100000 au
def YU (n:Nat) (a1:aA) (a2:Int) (a3:Int):WT Tryz.prog (.b (Bool)) :=
 .al 1<|.jn 0 [1,2,3,6] [1] [] (λ_ (a:Bool)=>[(28,aT a)]) (λ_ _=>[]) (.cl 12 (tY a1 a2) zK BC λx5=>.bB 13 (!x5) λx6=>.ifs [13] x6 (.ret true) (.bB 16 (decide (a3<0)) λx7=>.ifs [16] x7 (.ret true) (.iF 23 aQ.av gE aQ.fF a1.bD a2 λx8=>.ln 26 cO.av x8.dQ<|.bB 27 (decide (a3>=(x8.dQ.length:Int))) λx9=>.ret x9))) (λy0_1=>.ifs [28] y0_1 (.ret ((false:Bool))) (.iF 32 aQ.av gE aQ.fF a1.bD a2 λx10=>.ix 36 cO.av x10.dQ a3 λx11=>.al 2<|.bI 42 (bA (x11.Open+x11.iW)) λx13=>.bI 45 (bA (x13+x11.jH)) λx14=>.bI 48 (bA (x14+x11.jG)) λx15=>.bI 51 (bA (x15+x11.iY)) λx16=>.bI 54 (bA (x16+x11.jB)) λx17=>.bI 59 (bA (x11.jF+x11.jE)) λx18=>.bI 62 (bA (x18+x11.iX)) λx19=>.bI 65 (bA (x19+x11.jC)) λx20=>.bI 68 (bA (x20+x11.jD)) λx21=>.bI 71 (bA (x17-x21)) λx22=>.cl 75 (wF n a1 a2 a3) KM LG λx23=>.bB 77 (decide (x22=x23.Value)) λx24=>.ret ((x24:Bool))))
def DN (n:Nat) (a1:aA) (a2:Int) (a3:Int):Option (Bool):=(YU n a1 a2 a3).run
theorem aXD {n a1 a2 a3 r} (h0:DN n a1 a2 a3=some r):PP Tryz.prog 85 [.agg (aA.av a1),int a2,int a3] (λy=>y=aT r) :=
 bU mixed bR (λr:Bool=>aT r) h0 Tryz.func85 (λr=>gF r) 100000 au
def TX (n:Nat) (a1:aA):WT Tryz.prog (.b (Bool)) :=
 .al 1<|.jn 0 [1,2] [1] [] (λ_ (a:Bool)=>[(12,aT a)]) (λ_ _=>[]) (.cl 6 (F7 n a1) aU0 aWU λx3=>.bB 7 (!x3) λx4=>.ifs [7] x4 (.ret true) (.cl 10 (CW n a1) aTN aXT λx5=>.bB 11 (!x5) λx6=>.ret x6)) (λy0_1=>.ifs [12] y0_1 (.ret ((false:Bool))) (.fD 2 [2] [] [] (λ_ (a:Unit)=>[]) (λ_ _=>[]) (.lp [1,2] [1] [] (λ_ (a:Int)=>[(3,int a)]) (λ_ _=>[]) n 0 (λy1_1=>.ln 16 aQ.av a1.bD<|.bB 17 (decide (y1_1<(a1.bD.length:Int))) λx7=>.ifs [17] x7 (.fD 1 [1,2,3] [1] [] (λ_ (a:Unit)=>[]) (λ_ _=>[]) (.jn 1 [1,2,3] [1] [] (λ_ (a:Bool)=>[(47,aT a)]) (λ_ _=>[]) (.cl 22 (EZ n a1 y1_1) aPC aKI λx8=>.bB 23 (!x8) λx9=>.ifs [23] x9 (.ret true) (.cl 27 (DR n a1 y1_1) aG2 aN1 λx10=>.bB 28 (!x10) λx11=>.ifs [28] x11 (.ret true) (.cl 33 (EF n a1 y1_1) aVR aOK λx12=>.bB 34 (!x12) λx13=>.ifs [34] x13 (.ret true) (.cl 39 (DU n a1 y1_1) aLX aKU λx14=>.bB 40 (!x14) λx15=>.ifs [40] x15 (.ret true) (.cl 45 (E8 n a1 y1_1) aO2 aHV λx16=>.bB 46 (!x16) λx17=>.ret x17))))) (λy2_1=>.ifs [47] y2_1 (.esc (.esc (.esc (.ret ((false:Bool)))))) (.fD 2 [1,2,3] [1] [] (λ_ (a:Unit)=>[]) (λ_ _=>[]) (.lp [1,2,3] [1] [] (λ_ (a:Int)=>[(4,int a)]) (λ_ _=>[]) n 0 (λy3_1=>.ln 52 fI a1.bH.bZ<|.bB 53 (decide (y3_1<(a1.bH.bZ.length:Int))) λx18=>.ifs [53] x18 (.cl 59 (DN n a1 y1_1 y3_1) aK5 aXD λx19=>.bB 60 (!x19) λx20=>.ifs [60] x20 (.esc (.esc (.esc (.esc (.esc (.ret ((false:Bool)))))))) (.bI 55 (bA (y3_1+1)) λx21=>.brk x21)) (.esc (.brk ())))) (λ_=>.brk ())))) (λ_=>.bI 19 (bA (y1_1+1)) λx22=>.brk x22)) (.esc (.brk ())))) (λ_=>.ret ((true:Bool)))))
def B8 (n:Nat) (a1:aA):Option (Bool):=(TX n a1).run
theorem UJ {n a1 r} (h0:B8 n a1=some r):PP Tryz.prog 43 [.agg (aA.av a1)] (λy=>y=aT r) :=
 bU mixed bR (λr:Bool=>aT r) h0 Tryz.func43 (λr=>gF r) 100000 au
def aYN (n:Nat) (a1:fC) (a2:Int) (a3:Int):WT Tryz.prog (.b (bK)) :=
 .al 1<|.al 2<|.gv 12<|.al 3<|.cl 14 (xW a2 1099511627776) JZ J7 λx7=>.cl 17 (zN a1 x7) PS S7 λx8=>.al 4<|.fD 1 [6,9] [2] [] (λ_ (a:bK)=>[]) (λ_ a=>[.kp 4 [(bK.av a)]]) (.lp [2,3,6,7,8,9] [1,2,3] [] (λ_ (a:Int×bK)=>[(10,int a.1)]) (λ_ a=>[.kp 4 [(bK.av a.2)]]) n ((0:Int),x8) (pw λy0_1 y0_2=>.bB 19 (decide (y0_1<64)) λx10=>.ifs [19] x10 (.fD 1 [2,3,6,7,8,9,10] [1,2,3] [] (λ_ (a:bK)=>[]) (λ_ a=>[.kp 4 [(bK.av a)]]) (.fD 2 [2,3,6,7,8,9,10] [1,2,3,4] [] (λ_ (a:Unit)=>[]) (λ_ _=>[]) (.lp [2,3,6,7,8,9,10] [1,2,3,4] [] (λ_ (a:Int)=>[(11,int a)]) (λ_ _=>[]) n 0 (λy1_1=>.bB 23 (decide (y1_1<2)) λx11=>.ifs [23] x11 (.jn 2 [2,3,6,7,8,9,10,11] [1,2,3,4] [] (λ_ (a:Bool)=>[(46,aT a)]) (λ_ _=>[]) (.dr [(0,[4]),(1,[4]),(3,[3]),(4,[3]),(11,[3]),(12,[3]),(16,[3]),(17,[3])] [] [3,4] [] [0,1,2,3,4,5,6,7,8,9,10,11,12,13,14,15,16,17,18,19,20] (.as ((0:Int)<=y1_1/\y1_1<2) inferInstance<|.bo (ix ([4,5]:List Int) y1_1) λx13=>.gv 29<|.gv 30<|.bB 31 (decide (y0_2.Kind=x13)) λx14=>.ifs [31] x14 (.bB 34 (decide (y0_1>31)) λx15=>.ifs [34] x15 (.ret true) (.as ((0:Int)<=y1_1/\y1_1<2) inferInstance<|.gv 37<|.gv 38<|.bI 40 (bA (x7.tdiv 32)) λx17=>.bI 41 (x17.tmod 2) λx18=>.as ((0:Int)<=x18/\x18<2) inferInstance<|.bo (ix ([4,5]:List Int) x18) λx20=>.gv 42<|.gv 43<|.bB 44 (decide (x13=x20)) λx21=>.ret x21)) (.ret false))) (λy2_1=>.ifs [46] y2_1 (.cl 49 (LX y0_2 a3) aQF aK4 λx22=>.esc (.esc (.esc (.esc (.esc (.ret ((x22:bK)))))))) (.bI 25 (bA (y1_1+1)) λx23=>.brk x23))) (.esc (.brk ())))) (λ_=>.bI 52 (bA (x7.tdiv 32)) λx24=>.bI 53 (bA (x24*32)) λx25=>.bI 56 (bA (x7+y0_1)) λx26=>.bI 57 (bA (x26+1)) λx27=>.bI 58 (x27.tmod 32) λx28=>.bI 59 (bA (x25+x28)) λx29=>.cl 60 (zN a1 x29) PS S7 λx30=>.brk x30)) (λy4_1=>.bI 21 (bA (y0_1+1)) λx31=>.brk ((x31:Int),y4_1))) (.esc (.brk y0_2)))) (λy5_1=>.ret ((y5_1:bK)))
def aI0 (n:Nat) (a1:fC) (a2:Int) (a3:Int):Option (bK):=(aYN n a1 a2 a3).run
theorem aYK {n:Nat} {a1:fC} {a2:Int} {a3:Int} {r:bK} (h0:aI0 n a1 a2 a3=some r):PP Tryz.prog 24 [.agg (fC.av a1),int a2,int a3] (λy=>y=.agg (bK.av r)):=by
 refine bU mixed bR (λ(r:bK)=>.agg (bK.av r)) h0 Tryz.func24 (λr=>(λ(a:bK)=>PV.agg (bK.dH a)) r) 100000 ?_
 intro v4
 intro v5
 refine .mk _ (eH (CE (cs:=[int 4,int 5]) (ps:=[(0,_),(1,_)]) rfl Tryz.underlying50 fO z50 rfl (.cons rfl (.cons rfl .nil)) (by kernel_rfl))) ?_
 intro v6
 refine .mk λx7 e7=>?_
 refine .mk λx8 e8=>?_
 intro v9
 refine .mk ?_ ?_
 refine .mk ?_
 intro _ _
 refine .mk λx10=>?_
 refine .mk ?_ ?_
 refine .mk ?_ ?_
 refine .mk ?_ ?_
 refine .mk ?_
 intro _ _
 refine .mk λx11=>?_
 refine .mk ?_ ?_
 refine .mk ?_ ?_
 refine .mk ?_
 refine .mk λrR=>?_
 refine .mk λx13 e13=>?_
 refine .mk _ (λH hH _=>JR rfl Tryz.underlying50 fO rfl rfl ((hH _ (by decide)).trans rfl) rfl rfl rR) ?_
 refine .mk _ (λH hH _=>IQ rfl fO rfl ((hH _ (by decide)).trans rfl) rfl rfl e13) ?_
 refine .mk λx14=>?_
 refine .mk ?_ ?_
 refine .mk λx15=>?_
 refine .mk .mk ?_
 refine .mk λp16=>?_
 refine .mk _ (λH hH _=>JR rfl Tryz.underlying50 fO rfl rfl ((hH _ (by decide)).trans rfl) rfl rfl p16) ?_
 refine .mk _ (λH hH _=>IQ rfl fO rfl ((hH _ (by decide)).trans rfl) rfl rfl e13) ?_
 refine .mk λx17=>?_
 refine .mk λx18=>?_
 refine .mk λp19=>?_
 refine .mk λx20 e20=>?_
 refine .mk _ (λH hH _=>JR rfl Tryz.underlying50 fO rfl rfl ((hH _ (by decide)).trans rfl) rfl rfl p19) ?_
 refine .mk _ (λH hH _=>IQ rfl fO rfl ((hH _ (by decide)).trans rfl) rfl rfl e20) ?_
 refine .mk λx21=>?_
 exact .mk
 exact .mk
 intro _ _
 refine .mk ?_ ?_
 refine .mk λx22 e22=>?_
 exact .mk
 refine .mk λx23=>?_
 exact .mk
 exact .mk
 intro _ _
 refine .mk λx24=>?_
 refine .mk λx25=>?_
 refine .mk λx26=>?_
 refine .mk λx27=>?_
 refine .mk λx28=>?_
 refine .mk λx29=>?_
 refine .mk λx30 e30=>?_
 exact .mk
 intro _ _
 refine .mk λx31=>?_
 exact .mk
 exact .mk
 intro _ _
 exact .mk
def aY7 (n:Nat) :WT Tryz.prog (.b (aA)) :=
 .al 1<|.to 5 (aP 1 fI ([1,2,3,0]:List Int))<|.al 2<|.jn 1 [0,1] [1] [5,6] (λ_ (a:(List (List Int))×(List (List Int)))=>[]) (λu2 a=>[.kp 2 [[int 2,int 3,aP 1 fI ([1,2,3,0]:List Int),.sl 5 (u2 5) 0 a.1.length,.sl 6 (u2 6) 0 a.2.length]],.nw 5 22 1 (a.1.map (fL 1 fI)),.nw 6 22 1 (a.2.map (fL 1 fI))]) (.nc 2 0 3 5 22 1<|.nc 2 0 4 6 22 1<|.lp [0,1] [1] [5,6] (λ_ (a:Int×(List (List Int))×(List (List Int)))=>[(2,int a.1)]) (λu3 a=>[.kp 2 [[int 2,int 3,aP 1 fI ([1,2,3,0]:List Int),.sl 5 (u3 5) 0 a.2.1.length,.sl 6 (u3 6) 0 a.2.2.length]],.nw 5 22 1 (a.2.1.map (fL 1 fI)),.nw 6 22 1 (a.2.2.map (fL 1 fI))]) n ((0:Int),(([]:List (List Int)):List (List Int)),(([]:List (List Int)):List (List Int))) (pw λy0_1 q0=>(pw λy0_4 y0_5=>.bB 8 (decide (y0_1<2)) λx5=>.ifs [8] x5 (.dr [(0,[2]),(1,[2]),(5,[2]),(6,[2]),(10,[2]),(12,[2])] [(11,[]),(13,[])] [2] [4,9,11,13] [0,1,2,3,5,6,7,8,4,10,9,11,12,13] (.to 13 (aP 1 fI ([1,2,3,4]:List Int))<|.to 14 (aP 1 (fL 1 fI) ([([1,2,3,4]:List Int)]:List (List Int)))<|.to 18 (aP 1 fI ([10,10,10,10]:List Int))<|.to 19 (aP 1 (fL 1 fI) ([([10,10,10,10]:List Int)]:List (List Int)))<|.bl (y0_4++([([1,2,3,4]:List Int)]:List (List Int)):List (List Int)) λx6=>.as (x6.length<=68719476736) inferInstance<|.ge 15 0<|.bl (y0_5++([([10,10,10,10]:List Int)]:List (List Int)):List (List Int)) λx9=>.as (x9.length<=68719476736) inferInstance<|.ge 20 0<|.bI 10 (bA (y0_1+1)) λx12=>.brk ((x12:Int),(x6:List (List Int)),(x9:List (List Int))))) (.esc (.ret ((y0_4:List (List Int)),(y0_5:List (List Int)))))) q0)) (pw λy1_3 y1_4=>.j5 5<|.j5 6<|.cl 25 (BR n (⟨2,3,([1,2,3,0]:List Int),y1_3,y1_4⟩:fC)) Y3 ZK λx13=>.al 7<|.ret ((x13.1:aA)))
def aYM (n:Nat) :Option (aA):=(aY7 n ).run
theorem aZ3 {n r} (h0:aYM n =some r):PP Tryz.prog 105 [] (λy=>y=.agg (aA.av r)) :=
 bU mixed bR (λr:aA=>.agg (aA.av r)) h0 Tryz.func105 (λr=>(λ(a:aA)=>PV.agg (aA.dH a)) r) 100000 au
def a0V (n:Nat) (a1:Int) (a2:Int) (a3:Int):WT Tryz.prog (.b (aA)) :=
 .al 1<|.cl 10 (aYM n) a0P aZ3 λx5=>.cl 15 (ET n x5 (⟨1,0,a1,0,0,a2,a3,0,[]⟩:bK)) VT aF0 λx6=>.al 2<|.ret ((x6.1:aA))
def aYD (n:Nat) (a1:Int) (a2:Int) (a3:Int):Option (aA):=(a0V n a1 a2 a3).run
theorem aZU {n a1 a2 a3 r} (h0:aYD n a1 a2 a3=some r):PP Tryz.prog 57 [int a1,int a2,int a3] (λy=>y=.agg (aA.av r)) :=
 bU mixed bR (λr:aA=>.agg (aA.av r)) h0 Tryz.func57 (λr=>(λ(a:aA)=>PV.agg (aA.dH a)) r) 100000 au
def aZD (a1:Int) (a2:Int):WT Tryz.prog (.b (aN)) :=
 .al 1<|.ret (((⟨a1,a2⟩:aN):aN))
def aAX (a1:Int) (a2:Int):Option (aN):=(aZD a1 a2).run
theorem aB1 {a1 a2 r} (h0:aAX a1 a2=some r):PP Tryz.prog 108 [int a1,int a2] (λy=>y=.agg (aN.av r)) :=
 bU mixed bR (λr:aN=>.agg (aN.av r)) h0 Tryz.func108 (λr=>(λ(a:aN)=>PV.agg (aN.dH a)) r) 100000 au
def aY1 (n:Nat) (a1:aA) (a2:bK):WT Tryz.prog (.b (aA×Int)) :=
 .al 1<|.al 2<|.al 3<|.ln 12 eZ.av a1.eF<|.bB 13 (decide ((a1.eF.length:Int)>=40)) λx6=>.ifs [13] x6 (.ret ((a1:aA),6)) (.cl 25 (xV n a1 a2.E a2.Item a2.Loc 0 a2.aG) aVA aTK λx7=>.al 4<|.al 5<|.bB 31 (decide (x7.2.2.2≠0)) λx10=>.ifs [31] x10 (.ret ((a1:aA),x7.2.2.2)) (.dr [(0,[4]),(1,[2]),(2,[2]),(3,[2]),(4,[2]),(6,[2]),(7,[2]),(10,[5]),(11,[5]),(13,[5]),(14,[5])] [(22,[])] [2,4,5] [22] [0,1,2,3,4,5,6,7,8,9,10,11,12,13,14,15,16,17,18,19,20,21,22,23] (.cl 40 (aAX 3 a2.bM) aA6 aB1 λx11=>.bI 43 (bA (0-a2.bM)) λx12=>.cl 44 (aAX 4 x12) aA6 aB1 λx13=>.cl 47 (aAX 5 x7.2.1.Value) aA6 aB1 λx14=>.bI 50 (bA (0-x7.2.1.Value)) λx15=>.cl 51 (aAX 0 x15) aA6 aB1 λx16=>.to 52 (aP 2 aN.av ([x11,x13,x14,x16]:List aN))<|.cl 53 (sW n x7.1 a2.E ([x11,x13,x14,x16]:List aN)) ZG UE λx17=>.bB 57 (decide (x17.2≠0)) λx18=>.ifs [57] x18 (.ret ((a1:aA),x17.2)) (.cl 69 (yC x17.1 a2.E a2.Item (⟨0,0,0,0,0,x7.2.1.Value,0,0,0,0,0⟩:cO)) aTZ aS2 λx19=>.bB 73 (decide (x19.2≠0)) λx20=>.ifs [73] x20 (.ret ((a1:aA),x19.2)) (.dr [(0,[4]),(1,[4]),(3,[2]),(4,[2]),(5,[2]),(6,[2]),(7,[2]),(8,[2]),(9,[2]),(10,[2]),(11,[5]),(12,[5]),(13,[5]),(14,[5]),(15,[1]),(16,[1]),(17,[2]),(18,[2]),(26,[4])] [(2,[1,2,5]),(25,[]),(27,[])] [1,2,4,5] [2,25,27] [0,1,3,4,5,6,7,8,9,10,11,12,13,14,15,16,17,18,19,20,21,22,23,24,2,25,26,27] (.iF 95 aQ.av gE aQ.fF a1.bD a2.E λx21=>.bB 98 (x7.2.2.1) λx22=>.to 100 (aP 9 eZ.av ([(⟨a2.E,a2.Item,a2.Loc,a2.aG,0,x7.2.1.Value,x7.2.1.bO,x21.fU,x22⟩:eZ)]:List eZ))<|.as (x19.1.eF.length<=68719476736) inferInstance<|.ge 78 6<|.bl (x19.1.eF++([(⟨a2.E,a2.Item,a2.Loc,a2.aG,0,x7.2.1.Value,x7.2.1.bO,x21.fU,x22⟩:eZ)]:List eZ):List eZ) λx25=>.as (x25.length<=68719476736) inferInstance<|.ge 101 0<|.ret (((⟨x19.1.bH,x19.1.bD,x19.1.bY,x25,x19.1.dL,x19.1.Done⟩:aA):aA),0)))))))
def aX4 (n:Nat) (a1:aA) (a2:bK):Option (aA×Int):=(aY1 n a1 a2).run
theorem aZ5 {n:Nat} {a1:aA} {a2:bK} {r:aA×Int} (h0:aX4 n a1 a2=some r):PP Tryz.prog 59 [.agg (aA.av a1),.agg (bK.av a2)] (λy=>y=.bC [.agg (aA.av r.1),int r.2]):=by
 refine bU mixed bR (λ(r:aA×Int)=>.bC [.agg (aA.av r.1),int r.2]) h0 Tryz.func59 (λr=>.bC (gD ((λ(a:aA)=>PV.agg (aA.dH a)) (r.1)) (bT (r.2)))) 100000 ?_
 intro v3
 intro v4
 intro v5
 refine .mk ?_
 refine .mk λx6=>?_
 refine .mk .mk ?_
 refine .mk λx7 e7=>?_
 intro v8
 intro v9
 refine .mk λx10=>?_
 refine .mk .mk ?_
 refine .mk ?_
 refine .mk λx11 e11=>?_
 refine .mk λx12=>?_
 refine .mk λx13 e13=>?_
 refine .mk λx14 e14=>?_
 refine .mk λx15=>?_
 refine .mk λx16 e16=>?_
 refine .mk (λH hH _=>iH (y:=aP 2 aN.av ([x11,x13,x14,x16]:List aN)) (jK (ps:=[(0,_),(1,_),(2,_),(3,_)]) (rows:=[[int x11.dI,int x11.bM],[int x13.dI,int x13.bM],[int x14.dI,int x14.bM],[int x16.dI,int x16.bM]]) rfl Tryz.underlying107 qW (.cons rfl (.cons rfl (.cons rfl (.cons rfl .nil)))) (by kernel_rfl) rfl rfl rfl) rfl) ?_
 refine .mk λx17 e17=>?_
 refine .mk λx18=>?_
 refine .mk .mk ?_
 refine .mk λx19 e19=>?_
 refine .mk λx20=>?_
 refine .mk .mk ?_
 refine .mk ?_
 refine .mk λx21 e21=>?_
 refine .mk λx22=>?_
 refine .mk (λH hH _=>iH (y:=aP 9 eZ.av ([(⟨a2.E,a2.Item,a2.Loc,a2.aG,0,x7.2.1.Value,x7.2.1.bO,x21.fU,x22⟩:eZ)]:List eZ)) (jK (ps:=[(0,_)]) (rows:=[[int a2.E,int a2.Item,int a2.Loc,int a2.aG,int 0,int x7.2.1.Value,int x7.2.1.bO,int x21.fU,aT x22]]) rfl Tryz.underlying29 aW3 (.cons rfl .nil) (by kernel_rfl) rfl rfl rfl) rfl) ?_
 refine .mk λp23=>?_
 refine .mk _ ⟨λ_=>mM rfl rfl (.cons rfl .nil) aX5 (nC (aR1 (id:=6) (l:=x19.1.eF) rfl p23) (.cons (.refl _) .nil)),by rintro _ _ ⟨v24,rfl,rfl⟩;exact ⟨rfl,rfl,rfl,trivial⟩⟩ ?_
 rintro _ _ ⟨v24,rfl,rfl⟩
 refine .mk λx25 e25=>?_
 refine .mk λp26=>?_
 refine .mk _ ⟨λ_=>kY (g:=eZ.av) (l:=x19.1.eF) (m:=([(⟨a2.E,a2.Item,a2.Loc,a2.aG,0,x7.2.1.Value,x7.2.1.bO,x21.fU,x22⟩:eZ)]:List eZ)) .any rfl Tryz.underlying29 aW3 aQX rfl rfl rfl rfl rfl rfl rfl rfl rfl rfl (Eq.symm rfl) (.refl _) (λ_=>rfl) e25 p26,by rintro _ _ ⟨v27,-,rfl,rfl⟩;exact trivial⟩ ?_
 rintro _ _ ⟨v27,-,rfl,rfl⟩
 exact .mk (dX.bC (.cons (dX.agg (.cons (.refl _) (.cons (.refl _) (.cons (.refl _) (.cons (.refl _) (.cons (.refl _) (.cons (.refl _) (.cons (.refl _) (.cons (gJ rfl rfl rfl rfl rfl (Eq.symm rfl)) (.cons (.refl _) (.cons (.refl _) .nil))))))))))) (.cons (.refl _) .nil)))
def aYG (a1:aA) (a2:Int) (a3:Int) (a4:Int):WT Tryz.prog (.b (aH)) :=
 .al 1<|.al 2<|.cl 15 (J8 a1 a2 a3 a4) aUB aXE λx7=>.bB 17 (decide (x7<0)) λx8=>.ifs [17] x8 (.ret (((⟨[],(⟨0,0,0⟩:kU)⟩:aH):aH))) (.iF 22 aQ.av gE aQ.fF a1.bD a2 λx9=>.ix 26 aH.av x9.bX x7 λx10=>.al 3<|.as (x10.aW.length<=68719476736) inferInstance<|.ge 30 4<|.ret ((x10:aH)))
def aFH (a1:aA) (a2:Int) (a3:Int) (a4:Int):Option (aH):=(aYG a1 a2 a3 a4).run
theorem aWD {a1:aA} {a2:Int} {a3:Int} {a4:Int} {r:aH} (h0:aFH a1 a2 a3 a4=some r):PP Tryz.prog 111 [.agg (aA.av a1),int a2,int a3,int a4] (λy=>y=.agg (aH.av r)):=by
 refine bU mixed bR (λ(r:aH)=>.agg (aH.av r)) h0 Tryz.func111 (λr=>(λ(a:aH)=>PV.agg (aH.dH a)) r) 100000 ?_
 intro v5
 intro v6
 refine .mk λx7 e7=>?_
 refine .mk λx8=>?_
 refine .mk ?_ ?_
 exact .mk (dX.agg (.cons (.nil _) (.cons (.refl _) (.cons (.refl _) (.cons (.refl _) .nil)))))
 refine .mk λx9 e9=>?_
 refine .mk λx10 e10=>?_
 intro v11
 refine .mk λrR=>?_
 refine .mk _ ⟨λ_=>mM rfl rfl (.cons rfl .nil) wZ (nC (yL (id:=4) (l:=x10.aW) rfl rR) (.cons (.refl _) .nil)),λ_ _ _=>trivial⟩ ?_
 rintro _ _ ⟨v13,rfl,rfl⟩
 exact .mk (dX.agg (.cons (gJ rfl rfl rfl rfl rfl (Eq.symm rfl)) (.cons (.refl _) (.cons (.refl _) (.cons (.refl _) .nil)))))
def aYE (a1:aH) (a2:Int) (a3:Int):WT Tryz.prog (.b (aH×Int)) :=
 .al 1<|.al 2<|.cl 11 (uN a1 a1.aW) ED EP λx6=>.fD 0 [2,3,6,7] [1,2] [] (λ_ (a:Int)=>[(1,int a)]) (λ_ _=>[]) (.jn 1 [1,2,3,6,7] [1,2] [] (λ_ (a:Bool)=>[(12,aT a)]) (λ_ _=>[]) (.cl 14 (MS a2) aUI aLS λx7=>.bB 15 (!x7) λx8=>.ifs [15] x8 (.ret true) (.bB 18 (decide (a3<1)) λx9=>.ret x9)) (λy0_1=>.ifs [12] y0_1 (.esc (.ret ((x6:aH),1))) (.sp [1] a2 0 (.gv 25<|.bB 27 (decide (a3>x6.bN.a0)) λx12=>.ifs [27] x12 (.esc (.ret ((x6:aH),5))) (.brk 0)) (.sp [1] a2 1 (.gv 25<|.bB 27 (decide (a3>x6.bN.a1)) λx11=>.ifs [27] x11 (.esc (.ret ((x6:aH),5))) (.brk 1)) (.sa [1] a2 2 (.gv 25<|.bB 27 (decide (a3>x6.bN.a2)) λx10=>.ifs [27] x10 (.esc (.ret ((x6:aH),5))) (.brk 2))))))) (λy1_1=>.sp [1] y1_1 0 (.gv 31<|.bI 34 (bA (x6.bN.a0-a3)) λx15=>.gv 36<|.ret (((⟨x6.aW,(⟨x15,x6.bN.a1,x6.bN.a2⟩:kU)⟩:aH):aH),0)) (.sp [1] y1_1 1 (.gv 31<|.bI 34 (bA (x6.bN.a1-a3)) λx14=>.gv 36<|.ret (((⟨x6.aW,(⟨x6.bN.a0,x14,x6.bN.a2⟩:kU)⟩:aH):aH),0)) (.sa [1] y1_1 2 (.gv 31<|.bI 34 (bA (x6.bN.a2-a3)) λx13=>.gv 36<|.ret (((⟨x6.aW,(⟨x6.bN.a0,x6.bN.a1,x13⟩:kU)⟩:aH):aH),0)))))
def aJM (a1:aH) (a2:Int) (a3:Int):Option (aH×Int):=(aYE a1 a2 a3).run
theorem aZA {a1 a2 a3 r} (h0:aJM a1 a2 a3=some r):PP Tryz.prog 110 [.agg (aH.av a1),int a2,int a3] (λy=>y=.bC [.agg (aH.av r.1),int r.2]) :=
 bU mixed bR (λr:aH×Int=>.bC [.agg (aH.av r.1),int r.2]) h0 Tryz.func110 (λr=>.bC (gD ((λ(a:aH)=>PV.agg (aH.dH a)) (r.1)) (bT (r.2)))) 100000 au
def aY3 (n:Nat) (a1:aA) (a2:bK):WT Tryz.prog (.b (aA×Int)) :=
 .al 1<|.al 2<|.al 3<|.dr [(0,[1]),(1,[2]),(2,[2]),(3,[2]),(4,[2]),(5,[2]),(6,[2]),(8,[2]),(9,[2])] [(15,[])] [1,2] [14,15] [0,1,2,3,4,5,6,7,8,9,10,11,12,13,14,15,16] (.cl 18 (aFH a1 a2.E a2.Item a2.Loc) aX0 aWD λx6=>.cl 21 (aJM x6 0 a2.aG) a0L aZA λx7=>.al 4<|.bB 25 (decide (x7.2≠0)) λx9=>.ifs [25] x9 (.ret ((a1:aA),x7.2)) (.dr [(0,[1]),(1,[2]),(2,[2]),(3,[2]),(4,[2]),(6,[2]),(7,[2])] [(16,[])] [1,2] [15,16] [0,1,2,3,4,5,6,7,8,9,10,11,12,13,14,15,16,17] (.cl 34 (aAX 4 a2.bM) aA6 aB1 λx10=>.bI 37 (bA (0-a2.bM)) λx11=>.cl 38 (aAX 3 x11) aA6 aB1 λx12=>.to 39 (aP 2 aN.av ([x10,x12]:List aN))<|.cl 40 (sW n a1 a2.E ([x10,x12]:List aN)) ZG UE λx13=>.al 5<|.bB 44 (decide (x13.2≠0)) λx15=>.ifs [44] x15 (.ret ((a1:aA),x13.2)) (.as (x13.1.bD.length<=68719476736) inferInstance<|.ge 49 6<|.bo (ix x13.1.bD a2.E) λx18=>.gv 55<|.gv 58<|.gv 59<|.gv 60<|.as (x18.bX.length<=68719476736) inferInstance<|.ge 61 7<|.gv 62<|.gv 63<|.ge 1009008 0<|.dr [(1,[6]),(2,[6]),(3,[6]),(4,[2]),(5,[2]),(7,[2]),(8,[2]),(10,[4]),(11,[7])] [(12,[])] [2,4,6,7] [12] [0,1,2,3,4,5,6,7,8,9,10,11,12] (.gv 65<|.gv 66<|.gv 67<|.bI 70 (bA (a2.Item*2)) λx21=>.bI 73 (bA (x21+a2.Loc)) λx22=>.bo (ix x18.bX x22) λx23=>.gv 75<|.bl (x18.bX.set (Int.toNat x22) x7.1:List aH) λx24=>.ge 1010012 0<|.dr [(0,[2]),(1,[2]),(3,[8]),(4,[8]),(5,[8]),(6,[2]),(7,[2]),(9,[8]),(10,[8])] [(2,[2]),(11,[])] [2,8] [2,11] [0,1,6,7,2,3,4,5,8,9,10,11] (.inl 78 aYU Tryz.func114 [1,2,3,4,6,7] [8] (λu2 (a:Unit)=>.pt 8 (u2 8) (Int.toNat a2.Ref) 0) (λu2 _=>[.kp 5 [[int x13.1.bH.gG,int x13.1.bH.gQ,aP 1 fI x13.1.bH.bZ,aP 1 (fL 1 fI) x13.1.bH.Methods,aP 1 (fL 1 fI) x13.1.bH.gL,.sl 6 (u2 6) 0 x13.1.bD.length,aP 8 dG.av x13.1.bY,.sl 8 (u2 8) 0 x13.1.eF.length,aP 6 fT.av x13.1.dL,int x13.1.Done]],.nw 8 78 9 (x13.1.eF.map eZ.av)]) (.as (x13.1.eF.length<=68719476736) inferInstance<|.ge 10 8<|.bo (ix x13.1.eF a2.Ref) λx27=>.gv 18<|.ret ()) (λ_=>.bo (ix x13.1.eF a2.Ref) λx28=>.gv 79<|.gv 80<|.gv 81<|.bI 84 (bA (x28.gP+a2.aG)) λx29=>.gv 85<|.gv 86<|.bl (x13.1.eF.set (Int.toNat a2.Ref) ((⟨x28.eY,x28.Item,x28.Loc,x28.aG,x29,x28.pR,x28.bO,x28.nG,x28.pG⟩:eZ):eZ):List eZ) λx30=>.ge 1011011 0<|.ret (((⟨x13.1.bH,(x13.1.bD.set (Int.toNat a2.E) (⟨x18.fU,x18.Closed,x24,x18.dR,x18.dQ,x18.gI,x18.Down,x18.fV⟩:aQ)),x13.1.bY,x30,x13.1.dL,x13.1.Done⟩:aA):aA),0))))))))
def aWY (n:Nat) (a1:aA) (a2:bK):Option (aA×Int):=(aY3 n a1 a2).run
theorem aZV {n:Nat} {a1:aA} {a2:bK} {r:aA×Int} (h0:aWY n a1 a2=some r):PP Tryz.prog 60 [.agg (aA.av a1),.agg (bK.av a2)] (λy=>y=.bC [.agg (aA.av r.1),int r.2]):=by
 refine bU mixed bR (λ(r:aA×Int)=>.bC [.agg (aA.av r.1),int r.2]) h0 Tryz.func60 (λr=>.bC (gD ((λ(a:aA)=>PV.agg (aA.dH a)) (r.1)) (bT (r.2)))) 100000 ?_
 intro v3
 intro v4
 intro v5
 refine .mk ?_
 refine .mk λx6 e6=>?_
 refine .mk λx7 e7=>?_
 intro v8
 refine .mk λx9=>?_
 refine .mk .mk ?_
 refine .mk ?_
 refine .mk λx10 e10=>?_
 refine .mk λx11=>?_
 refine .mk λx12 e12=>?_
 refine .mk (λH hH _=>iH (y:=aP 2 aN.av ([x10,x12]:List aN)) (jK (ps:=[(0,_),(1,_)]) (rows:=[[int x10.dI,int x10.bM],[int x12.dI,int x12.bM]]) rfl Tryz.underlying107 qW (.cons rfl (.cons rfl .nil)) (by kernel_rfl) rfl rfl rfl) rfl) ?_
 refine .mk λx13 e13=>?_
 intro v14
 refine .mk λx15=>?_
 refine .mk .mk ?_
 refine .mk λp16=>?_
 refine .mk _ ⟨λ_=>mM rfl rfl (.cons rfl .nil) SA (nC (QV (id:=6) (l:=x13.1.bD) rfl p16) (.cons (.refl _) .nil)),λ_ _ _=>trivial⟩ ?_
 rintro _ _ ⟨v17,rfl,rfl⟩
 refine .mk λx18 e18=>?_
 refine .mk _ (eH (iL rfl Tryz.underlying27 qY rfl rfl rfl rfl rfl (Eq.symm rfl) (List.length_map _) e18)) ?_
 refine .mk _ (eH (lJ rfl rfl (.pt rfl rfl (jL e18 (aQ.fF _))))) ?_
 refine .mk _ (eH (gN rfl FM rfl (.pt rfl rfl (jL e18 (aQ.fF _))) (.pt _ _ _ _ _))) ?_
 refine .mk _ (eH (iK rfl E7 rfl (.pt rfl rfl (jL e18 (aQ.fF _))) rfl)) ?_
 refine .mk λp19=>?_
 refine .mk _ ⟨λ_=>mM rfl rfl (.cons rfl .nil) aSO (nC (aPW (id:=7) (l:=x18.bX) rfl p19) (.cons (.refl _) .nil)),λ_ _ _=>trivial⟩ ?_
 rintro _ _ ⟨v20,rfl,rfl⟩
 refine .mk _ (eH (lJ rfl rfl (.pt rfl rfl (jL e18 (aQ.fF _))))) ?_
 refine .mk _ (eH (gN rfl FM rfl (.pt rfl rfl (jL e18 (aQ.fF _))) (.pt _ _ _ _ _))) ?_
 refine .mk _ ⟨λ_=>eO.gK (iQ (ob':=(⟨60,8,true,true,_,(x13.1.bD.map aQ.av).set (Int.toNat a2.E) [int x18.fU,aT x18.Closed,.sl 7 v20 0 x18.bX.length,aP 1 fI x18.dR,aP 11 cO.av x18.dQ,aP 1 fI x18.gI,aP 1 fI x18.Down,aP 8 aQ.av x18.fV]⟩:cB)) (iG rfl E7 rfl rfl rfl rfl rfl (jL e18 (aQ.fF _)) rfl rfl rfl) (jJ rfl)) (λ_ h=>h) (λ_ _=>trivial),λ_ _ _=>trivial⟩ ?_
 rintro _ _ ⟨rfl,rfl⟩
 refine .mk ?_
 refine .mk _ (λH hH _=>lJ rfl rfl (.pt ((hH _ (by decide)).trans rfl) rfl (jV e18))) ?_
 refine .mk _ (λH hH _=>gN rfl FM rfl (.pt ((hH _ (by decide)).trans rfl) rfl (jV e18)) (.pt _ _ _ _ _)) ?_
 refine .mk _ (λH hH _=>iK rfl E7 rfl (.pt ((hH _ (by decide)).trans rfl) rfl (jV e18)) rfl) ?_
 refine .mk λx21=>?_
 refine .mk λx22=>?_
 refine .mk λx23 e23=>?_
 refine .mk _ (λH hH _=>iL rfl Tryz.underlying57 Y9 rfl rfl ((hH _ (by decide)).trans rfl) rfl rfl (Eq.symm rfl) (List.length_map _) e23) ?_
 refine .mk λx24 e24=>?_
 have fx24:=j6 e23 e24;have lx24:=jX e24 (rfl:x18.bX.length=x18.bX.length)
 refine .mk _ ⟨λ_=>eO.gK (iQ (ob':=(⟨124,4,true,true,_,x24.map aH.av⟩:cB)) (iG rfl Y9 rfl rfl rfl rfl rfl (fM e23) rfl rfl rfl) (jJ (kL e24))) (λ_ h=>h) (λ_ _=>trivial),by rintro _ _ ⟨rfl,rfl⟩;exact trivial⟩ ?_
 rintro _ _ ⟨rfl,rfl⟩
 refine .mk ?_
 refine .mk ?_ ?_
 refine .mk λp25=>?_
 refine .mk _ ⟨λ_=>mM rfl rfl (.cons rfl .nil) aX5 (nC (aR1 (id:=8) (l:=x13.1.eF) rfl p25) (.cons (.refl _) .nil)),λ_ _ _=>trivial⟩ ?_
 rintro _ _ ⟨v26,rfl,rfl⟩
 refine .mk λx27 e27=>?_
 refine .mk _ (eH (iL rfl Tryz.underlying29 ML rfl rfl rfl rfl rfl (Eq.symm rfl) (List.length_map _) e27)) ?_
 exact .mk
 intro _ _
 refine .mk ⟨rfl,trivial⟩ ?_
 refine .mk λx28 e28=>?_
 refine .mk _ (λH hH _=>lJ rfl rfl (.pt ((hH _ (by decide)).trans rfl) rfl (fM e28))) ?_
 refine .mk _ (λH hH _=>gN rfl aRC rfl (.pt ((hH _ (by decide)).trans rfl) rfl (fM e28)) (.pt _ _ _ _ _)) ?_
 refine .mk _ (λH hH _=>iK rfl fO rfl (.pt ((hH _ (by decide)).trans rfl) rfl (fM e28)) rfl) ?_
 refine .mk λx29=>?_
 refine .mk _ (λH hH _=>lJ rfl rfl (.pt ((hH _ (by decide)).trans rfl) rfl (fM e28))) ?_
 refine .mk _ (λH hH _=>gN rfl aRC rfl (.pt ((hH _ (by decide)).trans rfl) rfl (fM e28)) (.pt _ _ _ _ _)) ?_
 refine .mk λx30 e30=>?_
 have fx30:=j6 e28 e30;have lx30:=jX e30 (rfl:x13.1.eF.length=x13.1.eF.length)
 refine .mk _ ⟨λ_=>eO.gK (iQ (ob':=(⟨78,9,true,true,_,x30.map eZ.av⟩:cB)) (iG rfl fO rfl rfl rfl rfl rfl (fM e28) rfl rfl rfl) (jJ (kL e30))) (λ_ h=>h) (λ_ _=>trivial),by rintro _ _ ⟨rfl,rfl⟩;exact trivial⟩ ?_
 rintro _ _ ⟨rfl,rfl⟩
 exact .mk (dX.bC (.cons (dX.agg (.cons (.refl _) (.cons (.refl _) (.cons (.refl _) (.cons (.refl _) (.cons (.refl _) (.cons (AP rfl rfl rfl rfl rfl (Eq.symm rfl) e18 (yA (.cons (.refl _) (.cons (.refl _) (.cons (gJ rfl rfl rfl rfl rfl (Eq.symm lx24)) (.cons (.refl _) (.cons (.refl _) (.cons (.refl _) (.cons (.refl _) (.cons (.refl _) .nil)))))))) (aQ.fF _))) (.cons (.refl _) (.cons (gJ rfl rfl rfl rfl rfl (Eq.symm lx30)) (.cons (.refl _) (.cons (.refl _) .nil))))))))))) (.cons (.refl _) .nil)))
def aA9 (a1:aB):WT Tryz.prog (.b (Bool)) :=
 .al 1<|.jn 0 [] [] [] (λ_ (a:Bool)=>[(2,aT a)]) (λ_ _=>[]) (.bB 5 (decide (a1.aG<1)) λx3=>.ifs [5] x3 (.ret true) (.bB 9 (decide (a1.aG>288230376151711744)) λx4=>.ifs [9] x4 (.ret true) (.bB 14 (decide (a1.Value<0)) λx5=>.ifs [14] x5 (.ret true) (.bB 19 (decide (a1.Value>288230376151711744)) λx6=>.ifs [19] x6 (.ret true) (.bB 24 (decide (a1.bO<(-288230376151711744))) λx7=>.ifs [24] x7 (.ret true) (.bB 29 (decide (a1.bO>288230376151711744)) λx8=>.ret x8)))))) (λy0_1=>.ret ((y0_1:Bool)))
def KO (a1:aB):Option (Bool):=(aA9 a1).run
theorem aVU {a1 r} (h0:KO a1=some r):PP Tryz.prog 277 [.agg (aB.av a1)] (λy=>y=aT r) :=
 bU mixed bR (λr:Bool=>aT r) h0 Tryz.func277 (λr=>gF r) 100000 au
end
end Go.Pv
