import Derived.Test.YtfamehgkphejnaaGreatXTm
set_option linter.unusedVariables false
set_option linter.unusedSimpArgs false
namespace Go.Pv
open Go.Proofs
set_option maxRecDepth 100000
set_option maxHeartbeats 4000000
noncomputable section
def bB6 (n:Nat) (a1:aA):WB (Bool) :=
 .al 1<|.ln 11 aP.av a1.aW<|.dF 0 [2] [] [] (λ_ (a:Int)=>[(3,int a)]) (λ_ _=>[]) (.lp [1,2,11] [1] [] (λ_ (a:Int×Int)=>[(3,int a.1),(12,int a.2)]) (λ_ _=>[]) n ((0:Int),0) (pw λy0_1 y0_2=>.bB 13 (decide (y0_2<(a1.aW.length:Int))) λx3=>.ifs [13] x3 (.dF 1 [1,2,11,12] [1] [] (λ_ (a:Int)=>[(3,int a)]) (λ_ _=>[]) (.gv 15<|.dF 0 [1,2,11,12] [1] [] (λ_ (a:Int)=>[(3,int a)]) (λ_ _=>[]) (.lp [1,2,4,11,12,15] [1] [] (λ_ (a:Int×Int)=>[(3,int a.1),(16,int a.2)]) (λ_ _=>[]) n ((y0_1:Int),0) (pw λy1_1 y1_2=>.bB 17 (decide (y1_2<2)) λx4=>.ifs [17] x4 (.bo (ix ([13,14]:List Int) y1_2) λx5=>.gv 18<|.cl 23 (a7J a1 y0_2 x5) aIG a94 λx6=>.bB 27 (!x6.2) λx7=>.ifs [27] x7 (.esc (.esc (.esc (.esc (.esc (.ret ((false:Bool)))))))) (.bI 30 (aI (y1_1+x6.1)) λx8=>.bI 31 (aI (y1_2+1)) λx9=>.brk ((x8:Int),x9))) (.esc (.brk y1_1)))) (λy2_1=>.brk y2_1)) (λy3_1=>.bI 32 (aI (y0_2+1)) λx10=>.brk ((y3_1:Int),x10))) (.esc (.brk y0_1)))) (λy4_1=>.bB 34 (decide (y4_1=0)) λx11=>.ret ((x11:Bool)))
def a8K (n:Nat) (a1:aA):Option (Bool):=(bB6 n a1).run
theorem bEJ {n a1}:PZ (a8K n a1) 40 [.agg (aA.av a1)] aF:=by
 refine wm Tryz.func40 ?_
 intro v2
 refine .mk ?_
 refine .mk ?_ ?_
 refine .mk ?_
 intro _ _
 refine .mk λx3=>?_
 refine .mk ?_ ?_
 refine .mk ?_ ?_
 refine .mk _ (bE (qJ (cs:=[int 13,int 14]) (ps:=[(0,_),(1,_)]) rfl Tryz.underlying135 fC a9L rfl (.cons rfl (.cons rfl .nil)) (by kernel_rfl))) ?_
 refine .mk ?_ ?_
 refine .mk ?_
 intro _ _
 refine .mk λx4=>?_
 refine .mk ?_ ?_
 refine .mk λx5 e5=>?_
 refine .mk _ (bE (uR (g:=fI) (l:=([13,14]:List Int)) (v:=x5) (w:=int x5) rfl Tryz.underlying135 fC rfl rfl rfl e5 (λ_=>rfl) hw1)) ?_
 refine .mk λx6 e6=>?_
 refine .mk λx7=>?_
 refine .mk .mk ?_
 refine .mk λx8=>?_
 refine .mk λx9=>?_
 exact .mk
 exact .mk
 intro _ _
 exact .mk
 intro _ _
 refine .mk λx10=>?_
 exact .mk
 exact .mk
 intro _ _
 refine .mk λx11=>?_
 exact .mk
def bFY (n:Nat) (a1:aA) (a2:Int):WB (Int) :=
 .al 1<|.ln 12 fI a1.bA.cB<|.jn 0 [4] [] [3] (λu2 (a:(List Int))=>[(5,.sl 3 (u2 3) 0 a.length)]) (λ_ a=>[.nw 3 3 1 (a.map fI)]) (.no 5 3 3 1<|.lp [1,2,4,12] [1] [3] (λu3 (a:Int×(List Int))=>[(5,.sl 3 (u3 3) 0 a.2.length),(13,int a.1)]) (λ_ a=>[.nw 3 3 1 (a.2.map fI)]) n ((0:Int),(([]:List Int):List Int)) (pw λy0_2 y0_3=>.bB 14 (decide (y0_2<(a1.bA.cB.length:Int))) λx5=>.ifs [14] x5 (.cl 20 (a3S n a1 a2 y0_2) sQ a5C λx6=>.to 22 (aD 1 fI ([x6.Value]:List Int))<|.bl (y0_3++([x6.Value]:List Int):List Int) λx7=>.as (x7.length<=68719476736) inferInstance<|.ge 23 0<|.bI 24 (aI (y0_2+1)) λx10=>.brk ((x10:Int),x7)) (.esc (.ret y0_3)))) (λy1_2=>.gK 27 (nV n y1_2) aLB o5 (λ_=>rfl) λx11=>.ret ((x11.1:Int)))
def bAR (n:Nat) (a1:aA) (a2:Int):Option (Int):=(bFY n a1 a2).run
theorem bFG {n a1 a2}:PZ (bAR n a1 a2) 75 [.agg (aA.av a1),int a2] int:=wq Tryz.func75
def bFS (n:Nat) (a1:aA) (a2:Int) (a3:Int) (a4:List Int) (a5:Int):WB (Bool) :=
 .al 1<|.cl 19 (a7J a1 a2 a3) aIG a94 λx7=>.cl 24 (nV n a4) aLB o5 λx8=>.jn 0 [] [] [] (λ_ (a:Bool)=>[(10,aF a)]) (λ_ _=>[]) (.ifs [12,21] x7.2 (.bB 30 (decide (x8.2=0)) λx9=>.ifs [30] x9 (.bI 35 (aI (x8.1*a5)) λx10=>.bB 37 (decide (x10=x7.1)) λx11=>.ret x11) (.ret false)) (.ret false)) (λy0_1=>.ret ((y0_1:Bool)))
def a4P (n:Nat) (a1:aA) (a2:Int) (a3:Int) (a4:List Int) (a5:Int):Option (Bool):=(bFS n a1 a2 a3 a4 a5).run
theorem a5Y {n a1 a2 a3 a4 a5}:PZ (a4P n a1 a2 a3 a4 a5) 74 [.agg (aA.av a1),int a2,int a3,aD 1 fI a4,int a5] aF:=wq Tryz.func74
def bA2 (n:Nat) (a1:aA) (a2:Int):WB (Bool) :=
 .al 1<|.dr [(0,[1]),(2,[1])] [] [1] [] [0,1,2,3,4,5,6,7] (.cl 9 (bAR n a1 a2) wJ bFG λx4=>.to 10 (aD 1 fI ([x4]:List Int))<|.cl 11 (a4P n a1 a2 0 ([x4]:List Int) 1) kX a5Y λx5=>.ret ((x5:Bool)))
def bAD (n:Nat) (a1:aA) (a2:Int):Option (Bool):=(bA2 n a1 a2).run
theorem bCQ {n a1 a2}:PZ (bAD n a1 a2) 41 [.agg (aA.av a1),int a2] aF:=wq Tryz.func41
def bF4 (n:Nat) (a1:aA) (a2:Int):WB (Bool) :=
 .al 1<|.ln 10 bH.av a1.bP<|.jn 0 [1,2,4] [1] [4] (λu6 (a:(List Int))=>[(5,.sl 4 (u6 4) 0 a.length)]) (λ_ a=>[.nw 4 3 1 (a.map fI)]) (.no 5 4 3 1<|.lp [1,2,4,9,10] [1] [4] (λu10 (a:Int×(List Int))=>[(5,.sl 4 (u10 4) 0 a.2.length),(11,int a.1)]) (λ_ a=>[.nw 4 3 1 (a.2.map fI)]) n ((0:Int),(([]:List Int):List Int)) (pw λy0_2 y0_3=>.bB 12 (decide (y0_2<(a1.bP.length:Int))) λx5=>.ifs [12] x5 (.jn 1 [1,2,4,9,10,11] [1] [4] (λu11 (a:(List Int))=>[(5,.sl 4 (u11 4) 0 a.length)]) (λ_ a=>[.nw 4 3 1 (a.map fI)]) (.ix 13 bH.av a1.bP y0_2 λx6=>.al 2<|.bB 18 (decide (x6.dG=a2)) λx8=>.ifs [18] x8 (.to 22 (aD 1 fI ([x6.jV]:List Int))<|.bl (y0_3++([x6.jV]:List Int):List Int) λx9=>.as (x9.length<=68719476736) inferInstance<|.ge 23 0<|.ret x9) (.ret y0_3)) (λy1_2=>.bI 24 (aI (y0_2+1)) λx12=>.brk ((x12:Int),y1_2))) (.esc (.ret y0_3)))) (λy2_2=>.gK 28 (a4P n a1 a2 1 y2_2 (-1)) kX a5Y (λ_=>rfl) λx13=>.ret ((x13:Bool)))
def a9J (n:Nat) (a1:aA) (a2:Int):Option (Bool):=(bF4 n a1 a2).run
theorem bDJ {n a1 a2}:PZ (a9J n a1 a2) 42 [.agg (aA.av a1),int a2] aF:=wq Tryz.func42
def bEP (n:Nat) (a1:aA) (a2:Int):WB (Bool) :=
 .al 1<|.ln 10 dB.av a1.bY<|.jn 0 [1,2,4] [1] [4] (λu6 (a:(List Int))=>[(5,.sl 4 (u6 4) 0 a.length)]) (λ_ a=>[.nw 4 3 1 (a.map fI)]) (.no 5 4 3 1<|.lp [1,2,4,9,10] [1] [4] (λu10 (a:Int×(List Int))=>[(5,.sl 4 (u10 4) 0 a.2.length),(11,int a.1)]) (λ_ a=>[.nw 4 3 1 (a.2.map fI)]) n ((0:Int),(([]:List Int):List Int)) (pw λy0_2 y0_3=>.bB 12 (decide (y0_2<(a1.bY.length:Int))) λx5=>.ifs [12] x5 (.jn 1 [1,2,4,9,10,11] [1] [4] (λu11 (a:(List Int))=>[(5,.sl 4 (u11 4) 0 a.length)]) (λ_ a=>[.nw 4 3 1 (a.map fI)]) (.ix 13 dB.av a1.bY y0_2 λx6=>.al 2<|.bB 18 (decide (x6.To=a2)) λx8=>.ifs [18] x8 (.to 22 (aD 1 fI ([x6.Value]:List Int))<|.bl (y0_3++([x6.Value]:List Int):List Int) λx9=>.as (x9.length<=68719476736) inferInstance<|.ge 23 0<|.ret x9) (.ret y0_3)) (λy1_2=>.bI 24 (aI (y0_2+1)) λx12=>.brk ((x12:Int),y1_2))) (.esc (.ret y0_3)))) (λy2_2=>.gK 28 (a4P n a1 a2 12 y2_2 1) kX a5Y (λ_=>rfl) λx13=>.ret ((x13:Bool)))
def a9S (n:Nat) (a1:aA) (a2:Int):Option (Bool):=(bEP n a1 a2).run
theorem bB9 {n a1 a2}:PZ (a9S n a1 a2) 43 [.agg (aA.av a1),int a2] aF:=wq Tryz.func43
def bCK (n:Nat) (a1:aA) (a2:Int):WB (Bool) :=
 .al 1<|.jn 0 [1,2,4] [1] [] (λ_ (a:Bool)=>[(13,aF a)]) (λ_ _=>[]) (.bB 6 (decide (a2<0)) λx4=>.ifs [6] x4 (.ret true) (.ln 11 aP.av a1.aW<|.bB 12 (decide (a2>=(a1.aW.length:Int))) λx5=>.ret x5)) (λy0_1=>.ifs [13] y0_1 (.ret ((false:Bool))) (.dr [(0,[1]),(2,[1]),(3,[1])] [] [1] [] [0,1,2,3,4,5,6,7,8,9] (.gI 19 aP.av gE aP.bW a1.aW a2 λx6=>.cl 22 (a4P n a1 a2 11 x6.Down (-1)) kX a5Y λx7=>.ret ((x7:Bool)))))
def bAL (n:Nat) (a1:aA) (a2:Int):Option (Bool):=(bCK n a1 a2).run
theorem bB1 {n a1 a2}:PZ (bAL n a1 a2) 44 [.agg (aA.av a1),int a2] aF:=wq Tryz.func44
def bEA (n:Nat) (a1:List Int):WB (Int×Int×Int) :=
 .ln 8 fI a1<|.bB 9 (decide ((a1.length:Int)≠17)) λx2=>.ifs [9] x2 (.ret ((0:Int),0,1)) (.ln 11 fI a1<|.dF 0 [4] [] [] (λ_ (a:Int×Int)=>[(2,int a.1),(3,int a.2)]) (λ_ _=>[]) (.lp [4,10,11] [] [] (λ_ (a:Int×Int×Int)=>[(2,int a.1),(3,int a.2.1),(12,int a.2.2)]) (λ_ _=>[]) n ((0:Int),0,0) (pw λy0_1 q0=>(pw λy0_2 y0_3=>.bB 13 (decide (y0_3<(a1.length:Int))) λx3=>.ifs [13] x3 (.dF 1 [4,10,11,12] [] [] (λ_ (a:Int×Int)=>[(2,int a.1),(3,int a.2)]) (λ_ _=>[]) (.ix 14 fI a1 y0_3 λx4=>.jn 1 [2,3,4,6,10,11,12] [] [] (λ_ (a:Bool)=>[(19,aF a)]) (λ_ _=>[]) (.bB 21 (decide (x4<(-288230376151711744))) λx5=>.ifs [21] x5 (.ret true) (.bB 24 (decide (x4>288230376151711744)) λx6=>.ret x6)) (λy1_1=>.ifs [19] y1_1 (.esc (.esc (.esc (.ret ((0:Int),0,2))))) (.bB 28 (decide (x4>0)) λx7=>.ifs [28] x7 (.bI 31 (aI (y0_1+x4)) λx8=>.brk ((x8:Int),y0_2)) (.bI 18 (aI (y0_2-x4)) λx9=>.brk ((y0_1:Int),x9))))) (pw λy2_1 y2_2=>.bI 32 (aI (y0_3+1)) λx10=>.brk ((y2_1:Int),y2_2,x10))) (.esc (.brk ((y0_1:Int),y0_2)))) q0)) (pw λy3_1 y3_2=>.ret ((y3_1:Int),y3_2,0)))
def a8Z (n:Nat) (a1:List Int):Option (Int×Int×Int):=(bEA n a1).run
theorem bEY {n a1}:PZ (a8Z n a1) 76 [aD 1 fI a1] (λr=>.aU [int r.1,int r.2.1,int r.2.2]):=wq Tryz.func76
def bEE (n:Nat) (a1:aA) (a2:Int):WB (Bool) :=
 .al 1<|.jn 0 [1,2,4] [1] [] (λ_ (a:Bool)=>[(16,aF a)]) (λ_ _=>[]) (.bB 9 (decide (a2<0)) λx4=>.ifs [9] x4 (.ret true) (.ln 14 aP.av a1.aW<|.bB 15 (decide (a2>=(a1.aW.length:Int))) λx5=>.ret x5)) (λy0_1=>.ifs [16] y0_1 (.ret ((false:Bool))) (.gI 21 aP.av gE aP.bW a1.aW a2 λx6=>.cl 24 (a8Z n x6.dU) o6 bEY λx7=>.jn 0 [] [] [] (λ_ (a:Bool)=>[(4,aF a)]) (λ_ _=>[]) (.bB 29 (decide (x7.2.2=0)) λx8=>.ifs [29] x8 (.bB 33 (decide (x7.1=x7.2.1)) λx9=>.ret x9) (.ret false)) (λy1_1=>.ret ((y1_1:Bool)))))
def bAY (n:Nat) (a1:aA) (a2:Int):Option (Bool):=(bEE n a1 a2).run
theorem bEB {n a1 a2}:PZ (bAY n a1 a2) 45 [.agg (aA.av a1),int a2] aF:=wq Tryz.func45
def bCX (n:Nat) (a1:aA) (a2:Int) (a3:Int):WB (Bool) :=
 .al 1<|.jn 0 [1,2,3,6] [1] [] (λ_ (a:Bool)=>[(41,aF a)]) (λ_ _=>[]) (.bB 11 (decide (a2<0)) λx5=>.ifs [11] x5 (.ret true) (.ln 16 aP.av a1.aW<|.bB 17 (decide (a2>=(a1.aW.length:Int))) λx6=>.ifs [17] x6 (.ret true) (.bB 21 (decide (a3<0)) λx7=>.ifs [21] x7 (.ret true) (.gI 28 aP.av gE aP.bW a1.aW a2 λx8=>.ln 31 bM.av x8.dI<|.bB 32 (decide (a3>=(x8.dI.length:Int))) λx9=>.ifs [32] x9 (.ret true) (.ln 39 fI a1.bA.cB<|.bB 40 (decide (a3>=(a1.bA.cB.length:Int))) λx10=>.ret x10))))) (λy0_1=>.ifs [41] y0_1 (.ret ((false:Bool))) (.gI 45 aP.av gE aP.bW a1.aW a2 λx11=>.ix 49 bM.av x11.dI a3 λx12=>.al 2<|.bI 55 (aI (x12.Open+x12.jC)) λx14=>.bI 58 (aI (x14+x12.iV)) λx15=>.bI 61 (aI (x15+x12.iW)) λx16=>.bI 64 (aI (x16+x12.iQ)) λx17=>.bI 67 (aI (x17+x12.jD)) λx18=>.bI 72 (aI (x12.jA+x12.iY)) λx19=>.bI 75 (aI (x19+x12.iU)) λx20=>.bI 78 (aI (x20+x12.iT)) λx21=>.bI 81 (aI (x21+x12.iZ)) λx22=>.bI 84 (aI (x18-x22)) λx23=>.cl 88 (a3S n a1 a2 a3) sQ a5C λx24=>.bB 90 (decide (x23=x24.Value)) λx25=>.ret ((x25:Bool))))
def a92 (n:Nat) (a1:aA) (a2:Int) (a3:Int):Option (Bool):=(bCX n a1 a2 a3).run
theorem bEL {n a1 a2 a3}:PZ (a92 n a1 a2 a3) 46 [.agg (aA.av a1),int a2,int a3] aF:=wq Tryz.func46
def bFT (n:Nat) (a1:aA):WB (Bool) :=
 .al 1<|.jn 0 [1,2] [1] [] (λ_ (a:Bool)=>[(15,aF a)]) (λ_ _=>[]) (.cl 9 (bAZ n a1) aED bE4 λx3=>.bB 10 (!x3) λx4=>.ifs [10] x4 (.ret true) (.cl 13 (a8K n a1) tO bEJ λx5=>.bB 14 (!x5) λx6=>.ret x6)) (λy0_1=>.ifs [15] y0_1 (.ret ((false:Bool))) (.gv 21<|.al 2<|.ln 24 aP.av a1.aW<|.dF 0 [2] [] [] (λ_ (a:Unit)=>[]) (λ_ _=>[]) (.lp [1,2,3,24] [1,2] [] (λ_ (a:Int)=>[(25,int a)]) (λ_ _=>[]) n 0 (λy1_1=>.bB 26 (decide (y1_1<(a1.aW.length:Int))) λx8=>.ifs [26] x8 (.dF 1 [1,2,3,24,25] [1,2] [] (λ_ (a:Unit)=>[]) (λ_ _=>[]) (.dF 3 [1,2,3,4,24,25] [1,2] [] (λ_ (a:Unit)=>[]) (λ_ _=>[]) (.un 24 (.kB 30 true<|.gv 31<|.al 3<|.cl 36 (bAD n a1 y1_1) KC bCQ λx10=>.bB 37 (!x10) λx11=>.ifs [37] x11 (.esc (.esc (.esc (.esc (.ret ((false:Bool))))))) (.kI 38 1<|.kB 30 true<|.gv 31<|.al 4<|.cl 36 (a9J n a1 y1_1) aIB bDJ λx13=>.bB 37 (!x13) λx14=>.ifs [37] x14 (.esc (.esc (.esc (.esc (.ret ((false:Bool))))))) (.kI 38 2<|.kB 30 true<|.gv 31<|.al 5<|.cl 36 (a9S n a1 y1_1) aOH bB9 λx16=>.bB 37 (!x16) λx17=>.ifs [37] x17 (.esc (.esc (.esc (.esc (.ret ((false:Bool))))))) (.kI 38 3<|.kB 30 true<|.gv 31<|.al 6<|.cl 36 (bAL n a1 y1_1) mI bB1 λx19=>.bB 37 (!x19) λx20=>.ifs [37] x20 (.esc (.esc (.esc (.esc (.ret ((false:Bool))))))) (.kI 38 4<|.kB 30 true<|.gv 31<|.al 7<|.cl 36 (bAY n a1 y1_1) aJ3 bEB λx22=>.bB 37 (!x22) λx23=>.ifs [37] x23 (.esc (.esc (.esc (.esc (.ret ((false:Bool))))))) (.kI 38 5<|.kB 30 false<|.brk ()))))))) (λ_=>.ln 42 fI a1.bA.cB<|.dF 0 [1,2,3,24,25] [1,2] [] (λ_ (a:Unit)=>[]) (λ_ _=>[]) (.lp [1,2,3,4,24,25,42] [1,2] [] (λ_ (a:Int)=>[(43,int a)]) (λ_ _=>[]) n 0 (λy4_1=>.bB 44 (decide (y4_1<(a1.bA.cB.length:Int))) λx24=>.ifs [44] x24 (.cl 49 (a92 n a1 y1_1 y4_1) aJT bEL λx25=>.bB 50 (!x25) λx26=>.ifs [50] x26 (.esc (.esc (.esc (.esc (.esc (.ret ((false:Bool)))))))) (.bI 51 (aI (y4_1+1)) λx27=>.brk x27)) (.esc (.brk ())))) (λ_=>.brk ()))) (λ_=>.bI 52 (aI (y1_1+1)) λx28=>.brk x28)) (.esc (.brk ())))) (λ_=>.ret ((true:Bool)))))
def a7Z (n:Nat) (a1:aA):Option (Bool):=(bFT n a1).run
theorem bBN {n a1}:PZ (a7Z n a1) 19 [.agg (aA.av a1)] aF:=by
 refine wm Tryz.func19 ?_
 intro v2
 refine .mk ?_ ?_
 refine .mk λx3 e3=>?_
 refine .mk λx4=>?_
 refine .mk .mk ?_
 refine .mk λx5 e5=>?_
 refine .mk λx6=>?_
 exact .mk
 intro _ _
 refine .mk .mk ?_
 refine .mk _ (bE (qJ (cs:=[.fn (.func 41) [] [],.fn (.func 42) [] [],.fn (.func 43) [] [],.fn (.func 44) [] [],.fn (.func 45) [] []]) (ps:=[(0,_),(1,_),(2,_),(3,_),(4,_)]) rfl Tryz.underlying103 a4G a9C rfl (.cons rfl (.cons rfl (.cons rfl (.cons rfl (.cons rfl .nil))))) (by kernel_rfl))) ?_
 intro v7
 refine .mk ?_
 refine .mk ?_ ?_
 refine .mk ?_
 intro _ _
 refine .mk λx8=>?_
 refine .mk ?_ ?_
 refine .mk ?_ ?_
 refine .mk ?_ ?_
 refine .mk ?_
 refine .mk _ (bE (aGV rfl Tryz.underlying103 a4G rfl rfl (by decide) rfl)) ?_
 intro v9
 refine .mk λx10 e10=>?_
 refine .mk λx11=>?_
 refine .mk .mk ?_
 refine .mk ?_
 refine .mk ?_
 refine .mk _ (bE (aGV rfl Tryz.underlying103 a4G rfl rfl (by decide) rfl)) ?_
 intro v12
 refine .mk λx13 e13=>?_
 refine .mk λx14=>?_
 refine .mk .mk ?_
 refine .mk ?_
 refine .mk ?_
 refine .mk _ (bE (aGV rfl Tryz.underlying103 a4G rfl rfl (by decide) rfl)) ?_
 intro v15
 refine .mk λx16 e16=>?_
 refine .mk λx17=>?_
 refine .mk .mk ?_
 refine .mk ?_
 refine .mk ?_
 refine .mk _ (bE (aGV rfl Tryz.underlying103 a4G rfl rfl (by decide) rfl)) ?_
 intro v18
 refine .mk λx19 e19=>?_
 refine .mk λx20=>?_
 refine .mk .mk ?_
 refine .mk ?_
 refine .mk ?_
 refine .mk _ (bE (aGV rfl Tryz.underlying103 a4G rfl rfl (by decide) rfl)) ?_
 intro v21
 refine .mk λx22 e22=>?_
 refine .mk λx23=>?_
 refine .mk .mk ?_
 refine .mk ?_
 refine .mk ?_
 exact .mk
 intro _ _
 refine .mk ?_
 refine .mk ?_ ?_
 refine .mk ?_
 intro _ _
 refine .mk λx24=>?_
 refine .mk ?_ ?_
 refine .mk λx25 e25=>?_
 refine .mk λx26=>?_
 refine .mk .mk ?_
 refine .mk λx27=>?_
 exact .mk
 exact .mk
 intro _ _
 exact .mk
 intro _ _
 refine .mk λx28=>?_
 exact .mk
 exact .mk
 intro _ _
 exact .mk
def bD3 (n:Nat) :WB (Bool) :=
 .cl 5 (a3Z n 1 1) xZ a9D λx1=>.gv 9<|.cl 10 (bAK n x1 [(⟨1,0,0,0,0,4,40,0,[]⟩:aS),(⟨4,0,0,0,0,1,15,0,[]⟩:aS),(⟨14,0,0,0,0,0,0,0,[]⟩:aS)]) ZV bDO λx2=>.al 1<|.jn 0 [] [] [] (λ_ (a:Bool)=>[(0,aF a)]) (λ_ _=>[]) (.bB 15 (decide (x2.2.2=0)) λx4=>.ifs [15] x4 (.ln 18 fI x2.2.1<|.bB 19 (decide ((x2.2.1.length:Int)=3)) λx5=>.ifs [19] x5 (.ix 23 fI x2.2.1 0 λx6=>.bB 25 (decide (x6=0)) λx7=>.ifs [25] x7 (.ix 29 fI x2.2.1 1 λx8=>.bB 31 (decide (x8=0)) λx9=>.ifs [31] x9 (.ix 35 fI x2.2.1 2 λx10=>.bB 37 (decide (x10=0)) λx11=>.ifs [37] x11 (.ln 42 aP.av x2.1.aW<|.bB 43 (decide ((x2.1.aW.length:Int)=1)) λx12=>.ifs [43] x12 (.gI 48 aP.av gE aP.bW x2.1.aW 0 λx13=>.wt 52 <|.ifs [52] x13.Closed (.gI 55 aP.av gE aP.bW x2.1.aW 0 λx14=>.ix 58 fI x14.dU 5 λx15=>.bB 60 (decide (x15=10)) λx16=>.ifs [60] x16 (.cl 64 (a7Z n x2.1) aLC bBN λx17=>.ret x17) (.ret false)) (.ret false)) (.ret false)) (.ret false)) (.ret false)) (.ret false)) (.ret false)) (.ret false)) (λy0_1=>.ret ((y0_1:Bool)))
def a6H (n:Nat) :Option (Bool):=(bD3 n ).run
theorem bDE {n}:PZ (a6H n ) 10 [] aF:=by
 refine wm Tryz.func10 ?_
 refine .mk λx1 e1=>?_
 refine .mk _ (bE (dQ (ps:=[(0,_),(1,_),(2,_)]) (rows:=[[int 1,int 0,int 0,int 0,int 0,int 4,int 40,int 0,.sc (.slice none 0 0)],[int 4,int 0,int 0,int 0,int 0,int 1,int 15,int 0,.sc (.slice none 0 0)],[int 14,int 0,int 0,int 0,int 0,int 0,int 0,int 0,.sc (.slice none 0 0)]]) rfl Tryz.underlying60 bCY (.cons rfl (.cons rfl (.cons rfl .nil))) (by kernel_rfl) rfl rfl rfl)) ?_
 refine .mk (λx2 e2=>?_) rfl (by rintro _ rfl;exact (.cons (.refl _) (.cons (fD.list (.cons (.cons (.refl _) (.cons (.refl _) (.cons (.refl _) (.cons (.refl _) (.cons (.refl _) (.cons (.refl _) (.cons (.refl _) (.cons (.refl _) (.cons (.nil _) .nil))))))))) (.cons (.cons (.refl _) (.cons (.refl _) (.cons (.refl _) (.cons (.refl _) (.cons (.refl _) (.cons (.refl _) (.cons (.refl _) (.cons (.refl _) (.cons (.nil _) .nil))))))))) (.cons (.cons (.refl _) (.cons (.refl _) (.cons (.refl _) (.cons (.refl _) (.cons (.refl _) (.cons (.refl _) (.cons (.refl _) (.cons (.refl _) (.cons (.nil _) .nil))))))))) .nil)))) .nil)))
 intro v3
 refine .mk ?_ ?_
 refine .mk λx4=>?_
 refine .mk ?_ ?_
 refine .mk ?_
 refine .mk λx5=>?_
 refine .mk ?_ ?_
 refine .mk λx6 e6=>?_
 refine .mk λx7=>?_
 refine .mk ?_ ?_
 refine .mk λx8 e8=>?_
 refine .mk λx9=>?_
 refine .mk ?_ ?_
 refine .mk λx10 e10=>?_
 refine .mk λx11=>?_
 refine .mk ?_ ?_
 refine .mk ?_
 refine .mk λx12=>?_
 refine .mk ?_ ?_
 refine .mk λx13 e13=>?_
 refine .mk ?_ ?_
 refine .mk λx14 e14=>?_
 refine .mk λx15 e15=>?_
 refine .mk λx16=>?_
 refine .mk ?_ ?_
 refine .mk λx17 e17=>?_
 exact .mk
 exact .mk
 exact .mk
 exact .mk
 exact .mk
 exact .mk
 exact .mk
 exact .mk
 exact .mk
 intro _ _
 exact .mk
def bGY (n:Nat) (a1:Int) (a2:Int) (a3:List Int) (a4:List Int):WB (Bool) :=
 .cl 20 (rQ a1 8) BK AY λx5=>.to 21 (aD 1 fI ([1]:List Int))<|.bI 23 (x5.tmod 2) λx6=>.bI 24 (aI (1+x6)) λx7=>.to 25 (aD 1 fI ([x7]:List Int))<|.bI 27 (aI (x5.tdiv 2)) λx8=>.bI 28 (x8.tmod 2) λx9=>.bI 29 (aI (1+x9)) λx10=>.to 30 (aD 1 fI ([x10]:List Int))<|.bI 32 (aI (x5.tdiv 4)) λx11=>.bI 33 (x11.tmod 2) λx12=>.bI 34 (aI (1+x12)) λx13=>.to 35 (aD 1 fI ([x13]:List Int))<|.to 36 (aD 1 (fL 1 fI) ([([x7]:List Int),([x10]:List Int),([x13]:List Int)]:List (List Int)))<|.to 37 (aD 1 fI ([0]:List Int))<|.to 38 (aD 1 fI ([0]:List Int))<|.to 39 (aD 1 fI ([0]:List Int))<|.to 40 (aD 1 (fL 1 fI) ([([0]:List Int),([0]:List Int),([0]:List Int)]:List (List Int)))<|.al 1<|.cl 43 (rQ a2 60) BK AY λx15=>.bI 44 (aI (20+x15)) λx16=>.cl 46 (a4N n (⟨3,1,([1]:List Int),([([x7]:List Int),([x10]:List Int),([x13]:List Int)]:List (List Int)),([([0]:List Int),([0]:List Int),([0]:List Int)]:List (List Int))⟩:eZ)) aAW bBC λx17=>.al 2<|.bI 51 (aI (12*x16)) λx19=>.cl 53 (a4Q n x17 (⟨1,0,0,0,0,x16,x19,0,[]⟩:aS)) aAZ a8Q λx20=>.dF 2 [8,12] [] [] (λ_ (a:Int×Int×Int×aA)=>[(11,int a.1),(13,int a.2.1),(14,int a.2.2.1)]) (λ_ a=>[.kp 2 [(aA.av a.2.2.2)]]) (.lp [2,3,8,12] [] [] (λ_ (a:Int×Int×Int×Int×aA)=>[(11,int a.1),(13,int a.2.1),(14,int a.2.2.1),(15,int a.2.2.2.1)]) (λ_ a=>[.kp 2 [(aA.av a.2.2.2.2)]]) n ((x16:Int),x20.2,12,0,x20.1) (pw λy0_1 q0=>(pw λy0_2 q1=>(pw λy0_3 q2=>(pw λy0_4 y0_5=>.jn 0 [2,3,8,11,12,13,14,15] [2] [] (λ_ (a:Bool)=>[(67,aF a)]) (λ_ _=>[]) (.ln 58 fI a3<|.bB 59 (decide (y0_4<(a3.length:Int))) λx21=>.ifs [59] x21 (.bB 62 (decide (y0_4<8)) λx22=>.ifs [62] x22 (.bB 66 (decide (y0_2=0)) λx23=>.ret x23) (.ret false)) (.ret false)) (λy1_1=>.ifs [67] y1_1 (.bI 71 (y0_4.tmod 3) λx24=>.ix 74 fI a3 y0_4 λx25=>.cl 76 (rQ x25 3) BK AY λx26=>.bB 78 (decide (x26>0)) λx27=>.dF 0 [2,3,8,12,14,15,16] [] [] (λ_ (a:Int×Int×aA)=>[(11,int a.1),(13,int a.2.1)]) (λ_ a=>[.kp 2 [(aA.av a.2.2)]]) (.ifs [78] x27 (.cl 84 (a4Q n y0_5 (⟨4,x24,0,0,0,x26,1,0,[]⟩:aS)) aAZ a8Q λx28=>.bB 88 (decide (x28.2≠0)) λx29=>.ifs [88] x29 (.esc (.esc (.esc (.ret ((false:Bool)))))) (.bI 91 (aI (y0_1-x26)) λx30=>.brk ((x30:Int),x28.2,x28.1))) (.brk ((y0_1:Int),y0_2,y0_5))) (pw λy2_1 q0=>(pw λy2_2 y2_3=>.ln 94 fI a4<|.bB 95 (decide (y0_4<(a4.length:Int))) λx31=>.jn 0 [2,3,8,11,12,13,15,16] [2] [] (λ_ (a:Int)=>[(14,int a)]) (λ_ _=>[]) (.ifs [95] x31 (.ix 99 fI a4 y0_4 λx32=>.cl 101 (rQ x32 9) BK AY λx33=>.bI 102 (aI (y0_3+x33)) λx34=>.ret x34) (.ret y0_3)) (λy3_1=>.bI 107 (aI (x24+1)) λx35=>.bI 108 (x35.tmod 3) λx36=>.bI 112 (aI (y3_1*y2_1)) λx37=>.cl 114 (a4Q n y2_3 (⟨12,x24,0,0,x36,y2_1,x37,0,[]⟩:aS)) aAZ a8Q λx38=>.bB 118 (decide (x38.2≠0)) λx39=>.ifs [118] x39 (.esc (.esc (.ret ((false:Bool))))) (.cl 124 (a4Q n x38.1 (⟨13,0,0,0,0,y2_1,0,y0_4,[]⟩:aS)) aAZ a8Q λx40=>.bB 128 (decide (x40.2≠0)) λx41=>.ifs [128] x41 (.esc (.esc (.ret ((false:Bool))))) (.bI 69 (aI (y0_4+1)) λx42=>.brk ((y2_1:Int),x40.2,y3_1,x42,x40.1))))) q0)) (.esc (.brk ((y0_1:Int),y0_2,y0_3,y0_5))))) q2) q1) q0)) (pw λy4_1 q0=>(pw λy4_2 q1=>(pw λy4_3 y4_4=>.cl 130 (a5F n y4_4 0) aD1 bCZ λx43=>.al 3<|.jn 0 [] [] [] (λ_ (a:Bool)=>[(8,aF a)]) (λ_ _=>[]) (.bB 132 (decide (y4_2=0)) λx45=>.ifs [132] x45 (.bB 137 (decide (x43.aQ=y4_1)) λx46=>.ifs [137] x46 (.bI 144 (aI (y4_3*y4_1)) λx47=>.bB 145 (decide (x43.Value=x47)) λx48=>.ifs [145] x48 (.bI 151 (aI (y4_3-12)) λx49=>.bI 153 (aI (x49*y4_1)) λx50=>.bB 154 (decide (x43.bO=x50)) λx51=>.ifs [154] x51 (.cl 157 (a6H n) aOX bDE λx52=>.ret x52) (.ret false)) (.ret false)) (.ret false)) (.ret false)) (λy5_1=>.ret ((y5_1:Bool)))) q1) q0)
def bGE (n:Nat) (a1:Int) (a2:Int) (a3:List Int) (a4:List Int):Option (Bool):=(bGY n a1 a2 a3 a4).run
theorem bIA {n a1 a2 a3 a4}:PZ (bGE n a1 a2 a3 a4) 4 [int a1,int a2,aD 1 fI a3,aD 1 fI a4] aF:=wq Tryz.func4
end
end Go.Pv
