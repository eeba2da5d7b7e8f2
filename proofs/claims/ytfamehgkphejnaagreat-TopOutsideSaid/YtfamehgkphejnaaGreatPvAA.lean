import Derived.Test.YtfamehgkphejnaaGreatXTm
import Derived.Test.YtfamehgkphejnaaGreatGK90
import Derived.Test.YtfamehgkphejnaaGreatPvU
set_option linter.unusedVariables false
set_option linter.unusedSimpArgs false
namespace Go.Pv
open Go.Proofs
set_option maxRecDepth 100000
set_option maxHeartbeats 4000000
noncomputable section
def bB6 (n:Nat) (a1:aA):WB (Bool) :=
 .al 1<|.ln 11 aP.av a1.aW<|.dF 0 [2] [] [] (λ_ (a:Int)=>[(3,int a)]) (λ_ _=>[]) (.lp [1,2,11] [1] [] (λ_ (a:Int×Int)=>[(3,int a.1),(12,int a.2)]) (λ_ _=>[]) n ((0:Int),0) (pw λy0_1 y0_2=>.bB 13 (decide (y0_2<(a1.aW.length:Int))) λx3=>.ifs [13] x3 (.dF 1 [1,2,11,12] [1] [] (λ_ (a:Int)=>[(3,int a)]) (λ_ _=>[]) (.gv 15<|.dF 0 [1,2,11,12] [1] [] (λ_ (a:Int)=>[(3,int a)]) (λ_ _=>[]) (.lp [1,2,4,11,12,15] [1] [] (λ_ (a:Int×Int)=>[(3,int a.1),(16,int a.2)]) (λ_ _=>[]) n ((y0_1:Int),0) (pw λy1_1 y1_2=>.bB 17 (decide (y1_2<2)) λx4=>.ifs [17] x4 (.bo (ix ([13,14]:List Int) y1_2) λx5=>.gv 18<|.cl 23 (a7J a1 y0_2 x5) aIG a94 λx6=>.bB 27 (!x6.2) λx7=>.ifs [27] x7 (.esc (.esc (.esc (.esc (.esc (.ret ((false:Bool)))))))) (.bI 30 (aI (y1_1+x6.1)) λx8=>.bI 31 (aI (y1_2+1)) λx9=>.brk ((x8:Int),x9))) (.esc (.brk y1_1)))) (λy2_1=>.brk y2_1)) (λy3_1=>.bI 32 (aI (y0_2+1)) λx10=>.brk ((y3_1:Int),x10))) (.esc (.brk y0_1)))) (λy4_1=>.bB 34 (decide (y4_1=0)) λx11=>.ret ((x11:Bool)))
def a8K (n:Nat) (a1:aA):Option (Bool):=(bB6 n a1).run
theorem bEJ {n a1}:PZ (a8K n a1) 40 [.agg (aA.av a1)] aF:=by
 refine wm Tryz.func40 ?_
 intro v2
 refine .mk ?_
 refine .mk ?_ ?_
 refine .mk ?_
 intro _ _
 refine .mk λx3=>?_
 refine .mk ?_ ?_
 refine .mk ?_ ?_
 refine .mk _ (bE (qJ (cs:=[int 13,int 14]) (ps:=[(0,_),(1,_)]) rfl Tryz.underlying135 fC a9L rfl (.cons rfl (.cons rfl .nil)) (by kernel_rfl))) ?_
 refine .mk ?_ ?_
 refine .mk ?_
 intro _ _
 refine .mk λx4=>?_
 refine .mk ?_ ?_
 refine .mk λx5 e5=>?_
 refine .mk _ (bE (uR (g:=fI) (l:=([13,14]:List Int)) (v:=x5) (w:=int x5) rfl Tryz.underlying135 fC rfl rfl rfl e5 (λ_=>rfl) hw1)) ?_
 refine .mk λx6 e6=>?_
 refine .mk λx7=>?_
 refine .mk .mk ?_
 refine .mk λx8=>?_
 refine .mk λx9=>?_
 exact .mk
 exact .mk
 intro _ _
 exact .mk
 intro _ _
 refine .mk λx10=>?_
 exact .mk
 exact .mk
 intro _ _
 refine .mk λx11=>?_
 exact .mk
def bFY (n:Nat) (a1:aA) (a2:Int):WB (Int) :=
 .al 1<|.ln 12 fI a1.bA.cB<|.jn 0 [4] [] [3] (λu2 (a:(List Int))=>[(5,.sl 3 (u2 3) 0 a.length)]) (λ_ a=>[.nw 3 3 1 (a.map fI)]) (.no 5 3 3 1<|.lp [1,2,4,12] [1] [3] (λu3 (a:Int×(List Int))=>[(5,.sl 3 (u3 3) 0 a.2.length),(13,int a.1)]) (λ_ a=>[.nw 3 3 1 (a.2.map fI)]) n ((0:Int),(([]:List Int):List Int)) (pw λy0_2 y0_3=>.bB 14 (decide (y0_2<(a1.bA.cB.length:Int))) λx5=>.ifs [14] x5 (.cl 20 (a3S n a1 a2 y0_2) sQ a5C λx6=>.to 22 (aD 1 fI ([x6.Value]:List Int))<|.bl (y0_3++([x6.Value]:List Int):List Int) λx7=>.as (x7.length<=68719476736) inferInstance<|.ge 23 0<|.bI 24 (aI (y0_2+1)) λx10=>.brk ((x10:Int),x7)) (.esc (.ret y0_3)))) (λy1_2=>.gK 27 (nV n y1_2) aLB o5 (λ_=>rfl) λx11=>.ret ((x11.1:Int)))
def bAR (n:Nat) (a1:aA) (a2:Int):Option (Int):=(bFY n a1 a2).run
theorem bFG {n a1 a2}:PZ (bAR n a1 a2) 75 [.agg (aA.av a1),int a2] int:=wq Tryz.func75
def bFS (n:Nat) (a1:aA) (a2:Int) (a3:Int) (a4:List Int) (a5:Int):WB (Bool) :=
 .al 1<|.cl 19 (a7J a1 a2 a3) aIG a94 λx7=>.cl 24 (nV n a4) aLB o5 λx8=>.jn 0 [] [] [] (λ_ (a:Bool)=>[(10,aF a)]) (λ_ _=>[]) (.ifs [12,21] x7.2 (.bB 30 (decide (x8.2=0)) λx9=>.ifs [30] x9 (.bI 35 (aI (x8.1*a5)) λx10=>.bB 37 (decide (x10=x7.1)) λx11=>.ret x11) (.ret false)) (.ret false)) (λy0_1=>.ret ((y0_1:Bool)))
def a4P (n:Nat) (a1:aA) (a2:Int) (a3:Int) (a4:List Int) (a5:Int):Option (Bool):=(bFS n a1 a2 a3 a4 a5).run
theorem a5Y {n a1 a2 a3 a4 a5}:PZ (a4P n a1 a2 a3 a4 a5) 74 [.agg (aA.av a1),int a2,int a3,aD 1 fI a4,int a5] aF:=wq Tryz.func74
def bA2 (n:Nat) (a1:aA) (a2:Int):WB (Bool) :=
 .al 1<|.dr [(0,[1]),(2,[1])] [] [1] [] [0,1,2,3,4,5,6,7] (.cl 9 (bAR n a1 a2) wJ bFG λx4=>.to 10 (aD 1 fI ([x4]:List Int))<|.cl 11 (a4P n a1 a2 0 ([x4]:List Int) 1) kX a5Y λx5=>.ret ((x5:Bool)))
def bAD (n:Nat) (a1:aA) (a2:Int):Option (Bool):=(bA2 n a1 a2).run
theorem bCQ {n a1 a2}:PZ (bAD n a1 a2) 41 [.agg (aA.av a1),int a2] aF:=wq Tryz.func41
def bF4 (n:Nat) (a1:aA) (a2:Int):WB (Bool) :=
 .al 1<|.ln 10 bH.av a1.bP<|.jn 0 [1,2,4] [1] [4] (λu6 (a:(List Int))=>[(5,.sl 4 (u6 4) 0 a.length)]) (λ_ a=>[.nw 4 3 1 (a.map fI)]) (.no 5 4 3 1<|.lp [1,2,4,9,10] [1] [4] (λu10 (a:Int×(List Int))=>[(5,.sl 4 (u10 4) 0 a.2.length),(11,int a.1)]) (λ_ a=>[.nw 4 3 1 (a.2.map fI)]) n ((0:Int),(([]:List Int):List Int)) (pw λy0_2 y0_3=>.bB 12 (decide (y0_2<(a1.bP.length:Int))) λx5=>.ifs [12] x5 (.jn 1 [1,2,4,9,10,11] [1] [4] (λu11 (a:(List Int))=>[(5,.sl 4 (u11 4) 0 a.length)]) (λ_ a=>[.nw 4 3 1 (a.map fI)]) (.ix 13 bH.av a1.bP y0_2 λx6=>.al 2<|.bB 18 (decide (x6.dG=a2)) λx8=>.ifs [18] x8 (.to 22 (aD 1 fI ([x6.jV]:List Int))<|.bl (y0_3++([x6.jV]:List Int):List Int) λx9=>.as (x9.length<=68719476736) inferInstance<|.ge 23 0<|.ret x9) (.ret y0_3)) (λy1_2=>.bI 24 (aI (y0_2+1)) λx12=>.brk ((x12:Int),y1_2))) (.esc (.ret y0_3)))) (λy2_2=>.gK 28 (a4P n a1 a2 1 y2_2 (-1)) kX a5Y (λ_=>rfl) λx13=>.ret ((x13:Bool)))
def a9J (n:Nat) (a1:aA) (a2:Int):Option (Bool):=(bF4 n a1 a2).run
theorem bDJ {n a1 a2}:PZ (a9J n a1 a2) 42 [.agg (aA.av a1),int a2] aF:=wq Tryz.func42
def bEP (n:Nat) (a1:aA) (a2:Int):WB (Bool) :=
 .al 1<|.ln 10 dB.av a1.bY<|.jn 0 [1,2,4] [1] [4] (λu6 (a:(List Int))=>[(5,.sl 4 (u6 4) 0 a.length)]) (λ_ a=>[.nw 4 3 1 (a.map fI)]) (.no 5 4 3 1<|.lp [1,2,4,9,10] [1] [4] (λu10 (a:Int×(List Int))=>[(5,.sl 4 (u10 4) 0 a.2.length),(11,int a.1)]) (λ_ a=>[.nw 4 3 1 (a.2.map fI)]) n ((0:Int),(([]:List Int):List Int)) (pw λy0_2 y0_3=>.bB 12 (decide (y0_2<(a1.bY.length:Int))) λx5=>.ifs [12] x5 (.jn 1 [1,2,4,9,10,11] [1] [4] (λu11 (a:(List Int))=>[(5,.sl 4 (u11 4) 0 a.length)]) (λ_ a=>[.nw 4 3 1 (a.map fI)]) (.ix 13 dB.av a1.bY y0_2 λx6=>.al 2<|.bB 18 (decide (x6.To=a2)) λx8=>.ifs [18] x8 (.to 22 (aD 1 fI ([x6.Value]:List Int))<|.bl (y0_3++([x6.Value]:List Int):List Int) λx9=>.as (x9.length<=68719476736) inferInstance<|.ge 23 0<|.ret x9) (.ret y0_3)) (λy1_2=>.bI 24 (aI (y0_2+1)) λx12=>.brk ((x12:Int),y1_2))) (.esc (.ret y0_3)))) (λy2_2=>.gK 28 (a4P n a1 a2 12 y2_2 1) kX a5Y (λ_=>rfl) λx13=>.ret ((x13:Bool)))
def a9S (n:Nat) (a1:aA) (a2:Int):Option (Bool):=(bEP n a1 a2).run
theorem bB9 {n a1 a2}:PZ (a9S n a1 a2) 43 [.agg (aA.av a1),int a2] aF:=wq Tryz.func43
def bCK (n:Nat) (a1:aA) (a2:Int):WB (Bool) :=
 .al 1<|.jn 0 [1,2,4] [1] [] (λ_ (a:Bool)=>[(13,aF a)]) (λ_ _=>[]) (.bB 6 (decide (a2<0)) λx4=>.ifs [6] x4 (.ret true) (.ln 11 aP.av a1.aW<|.bB 12 (decide (a2>=(a1.aW.length:Int))) λx5=>.ret x5)) (λy0_1=>.ifs [13] y0_1 (.ret ((false:Bool))) (.dr [(0,[1]),(2,[1]),(3,[1])] [] [1] [] [0,1,2,3,4,5,6,7,8,9] (.gI 19 aP.av gE aP.bW a1.aW a2 λx6=>.cl 22 (a4P n a1 a2 11 x6.Down (-1)) kX a5Y λx7=>.ret ((x7:Bool)))))
def bAL (n:Nat) (a1:aA) (a2:Int):Option (Bool):=(bCK n a1 a2).run
theorem bB1 {n a1 a2}:PZ (bAL n a1 a2) 44 [.agg (aA.av a1),int a2] aF:=wq Tryz.func44
def bEA (n:Nat) (a1:List Int):WB (Int×Int×Int) :=
 .ln 8 fI a1<|.bB 9 (decide ((a1.length:Int)≠17)) λx2=>.ifs [9] x2 (.ret ((0:Int),0,1)) (.ln 11 fI a1<|.dF 0 [4] [] [] (λ_ (a:Int×Int)=>[(2,int a.1),(3,int a.2)]) (λ_ _=>[]) (.lp [4,10,11] [] [] (λ_ (a:Int×Int×Int)=>[(2,int a.1),(3,int a.2.1),(12,int a.2.2)]) (λ_ _=>[]) n ((0:Int),0,0) (pw λy0_1 q0=>(pw λy0_2 y0_3=>.bB 13 (decide (y0_3<(a1.length:Int))) λx3=>.ifs [13] x3 (.dF 1 [4,10,11,12] [] [] (λ_ (a:Int×Int)=>[(2,int a.1),(3,int a.2)]) (λ_ _=>[]) (.ix 14 fI a1 y0_3 λx4=>.jn 1 [2,3,4,6,10,11,12] [] [] (λ_ (a:Bool)=>[(19,aF a)]) (λ_ _=>[]) (.bB 21 (decide (x4<(-288230376151711744))) λx5=>.ifs [21] x5 (.ret true) (.bB 24 (decide (x4>288230376151711744)) λx6=>.ret x6)) (λy1_1=>.ifs [19] y1_1 (.esc (.esc (.esc (.ret ((0:Int),0,2))))) (.bB 28 (decide (x4>0)) λx7=>.ifs [28] x7 (.bI 31 (aI (y0_1+x4)) λx8=>.brk ((x8:Int),y0_2)) (.bI 18 (aI (y0_2-x4)) λx9=>.brk ((y0_1:Int),x9))))) (pw λy2_1 y2_2=>.bI 32 (aI (y0_3+1)) λx10=>.brk ((y2_1:Int),y2_2,x10))) (.esc (.brk ((y0_1:Int),y0_2)))) q0)) (pw λy3_1 y3_2=>.ret ((y3_1:Int),y3_2,0)))
def a8Z (n:Nat) (a1:List Int):Option (Int×Int×Int):=(bEA n a1).run
theorem bEY {n a1}:PZ (a8Z n a1) 76 [aD 1 fI a1] (λr=>.aU [int r.1,int r.2.1,int r.2.2]):=wq Tryz.func76
def bEE (n:Nat) (a1:aA) (a2:Int):WB (Bool) :=
 .al 1<|.jn 0 [1,2,4] [1] [] (λ_ (a:Bool)=>[(16,aF a)]) (λ_ _=>[]) (.bB 9 (decide (a2<0)) λx4=>.ifs [9] x4 (.ret true) (.ln 14 aP.av a1.aW<|.bB 15 (decide (a2>=(a1.aW.length:Int))) λx5=>.ret x5)) (λy0_1=>.ifs [16] y0_1 (.ret ((false:Bool))) (.gI 21 aP.av gE aP.bW a1.aW a2 λx6=>.cl 24 (a8Z n x6.dU) o6 bEY λx7=>.jn 0 [] [] [] (λ_ (a:Bool)=>[(4,aF a)]) (λ_ _=>[]) (.bB 29 (decide (x7.2.2=0)) λx8=>.ifs [29] x8 (.bB 33 (decide (x7.1=x7.2.1)) λx9=>.ret x9) (.ret false)) (λy1_1=>.ret ((y1_1:Bool)))))
def bAY (n:Nat) (a1:aA) (a2:Int):Option (Bool):=(bEE n a1 a2).run
theorem bEB {n a1 a2}:PZ (bAY n a1 a2) 45 [.agg (aA.av a1),int a2] aF:=wq Tryz.func45
def bCX (n:Nat) (a1:aA) (a2:Int) (a3:Int):WB (Bool) :=
 .al 1<|.jn 0 [1,2,3,6] [1] [] (λ_ (a:Bool)=>[(41,aF a)]) (λ_ _=>[]) (.bB 11 (decide (a2<0)) λx5=>.ifs [11] x5 (.ret true) (.ln 16 aP.av a1.aW<|.bB 17 (decide (a2>=(a1.aW.length:Int))) λx6=>.ifs [17] x6 (.ret true) (.bB 21 (decide (a3<0)) λx7=>.ifs [21] x7 (.ret true) (.gI 28 aP.av gE aP.bW a1.aW a2 λx8=>.ln 31 bM.av x8.dI<|.bB 32 (decide (a3>=(x8.dI.length:Int))) λx9=>.ifs [32] x9 (.ret true) (.ln 39 fI a1.bA.cB<|.bB 40 (decide (a3>=(a1.bA.cB.length:Int))) λx10=>.ret x10))))) (λy0_1=>.ifs [41] y0_1 (.ret ((false:Bool))) (.gI 45 aP.av gE aP.bW a1.aW a2 λx11=>.ix 49 bM.av x11.dI a3 λx12=>.al 2<|.bI 55 (aI (x12.Open+x12.jC)) λx14=>.bI 58 (aI (x14+x12.iV)) λx15=>.bI 61 (aI (x15+x12.iW)) λx16=>.bI 64 (aI (x16+x12.iQ)) λx17=>.bI 67 (aI (x17+x12.jD)) λx18=>.bI 72 (aI (x12.jA+x12.iY)) λx19=>.bI 75 (aI (x19+x12.iU)) λx20=>.bI 78 (aI (x20+x12.iT)) λx21=>.bI 81 (aI (x21+x12.iZ)) λx22=>.bI 84 (aI (x18-x22)) λx23=>.cl 88 (a3S n a1 a2 a3) sQ a5C λx24=>.bB 90 (decide (x23=x24.Value)) λx25=>.ret ((x25:Bool))))
def a92 (n:Nat) (a1:aA) (a2:Int) (a3:Int):Option (Bool):=(bCX n a1 a2 a3).run
theorem bEL {n a1 a2 a3}:PZ (a92 n a1 a2 a3) 46 [.agg (aA.av a1),int a2,int a3] aF:=wq Tryz.func46
def bFT (n:Nat) (a1:aA):WB (Bool) :=
 .al 1<|.jn 0 [1,2] [1] [] (λ_ (a:Bool)=>[(15,aF a)]) (λ_ _=>[]) (.cl 9 (bAZ n a1) aED bE4 λx3=>.bB 10 (!x3) λx4=>.ifs [10] x4 (.ret true) (.cl 13 (a8K n a1) tO bEJ λx5=>.bB 14 (!x5) λx6=>.ret x6)) (λy0_1=>.ifs [15] y0_1 (.ret ((false:Bool))) (.gv 21<|.al 2<|.ln 24 aP.av a1.aW<|.dF 0 [2] [] [] (λ_ (a:Unit)=>[]) (λ_ _=>[]) (.lp [1,2,3,24] [1,2] [] (λ_ (a:Int)=>[(25,int a)]) (λ_ _=>[]) n 0 (λy1_1=>.bB 26 (decide (y1_1<(a1.aW.length:Int))) λx8=>.ifs [26] x8 (.dF 1 [1,2,3,24,25] [1,2] [] (λ_ (a:Unit)=>[]) (λ_ _=>[]) (.dF 3 [1,2,3,4,24,25] [1,2] [] (λ_ (a:Unit)=>[]) (λ_ _=>[]) (.un 24 (.kB 30 true<|.gv 31<|.al 3<|.cl 36 (bAD n a1 y1_1) KC bCQ λx10=>.bB 37 (!x10) λx11=>.ifs [37] x11 (.esc (.esc (.esc (.esc (.ret ((false:Bool))))))) (.kI 38 1<|.kB 30 true<|.gv 31<|.al 4<|.cl 36 (a9J n a1 y1_1) aIB bDJ λx13=>.bB 37 (!x13) λx14=>.ifs [37] x14 (.esc (.esc (.esc (.esc (.ret ((false:Bool))))))) (.kI 38 2<|.kB 30 true<|.gv 31<|.al 5<|.cl 36 (a9S n a1 y1_1) aOH bB9 λx16=>.bB 37 (!x16) λx17=>.ifs [37] x17 (.esc (.esc (.esc (.esc (.ret ((false:Bool))))))) (.kI 38 3<|.kB 30 true<|.gv 31<|.al 6<|.cl 36 (bAL n a1 y1_1) mI bB1 λx19=>.bB 37 (!x19) λx20=>.ifs [37] x20 (.esc (.esc (.esc (.esc (.ret ((false:Bool))))))) (.kI 38 4<|.kB 30 true<|.gv 31<|.al 7<|.cl 36 (bAY n a1 y1_1) aJ3 bEB λx22=>.bB 37 (!x22) λx23=>.ifs [37] x23 (.esc (.esc (.esc (.esc (.ret ((false:Bool))))))) (.kI 38 5<|.kB 30 false<|.brk ()))))))) (λ_=>.ln 42 fI a1.bA.cB<|.dF 0 [1,2,3,24,25] [1,2] [] (λ_ (a:Unit)=>[]) (λ_ _=>[]) (.lp [1,2,3,4,24,25,42] [1,2] [] (λ_ (a:Int)=>[(43,int a)]) (λ_ _=>[]) n 0 (λy4_1=>.bB 44 (decide (y4_1<(a1.bA.cB.length:Int))) λx24=>.ifs [44] x24 (.cl 49 (a92 n a1 y1_1 y4_1) aJT bEL λx25=>.bB 50 (!x25) λx26=>.ifs [50] x26 (.esc (.esc (.esc (.esc (.esc (.ret ((false:Bool)))))))) (.bI 51 (aI (y4_1+1)) λx27=>.brk x27)) (.esc (.brk ())))) (λ_=>.brk ()))) (λ_=>.bI 52 (aI (y1_1+1)) λx28=>.brk x28)) (.esc (.brk ())))) (λ_=>.ret ((true:Bool)))))
def a7Z (n:Nat) (a1:aA):Option (Bool):=(bFT n a1).run
theorem bBN {n a1}:PZ (a7Z n a1) 19 [.agg (aA.av a1)] aF:=by
 refine wm Tryz.func19 ?_
 intro v2
 refine .mk ?_ ?_
 refine .mk λx3 e3=>?_
 refine .mk λx4=>?_
 refine .mk .mk ?_
 refine .mk λx5 e5=>?_
 refine .mk λx6=>?_
 exact .mk
 intro _ _
 refine .mk .mk ?_
 refine .mk _ (bE (qJ (cs:=[.fn (.func 41) [] [],.fn (.func 42) [] [],.fn (.func 43) [] [],.fn (.func 44) [] [],.fn (.func 45) [] []]) (ps:=[(0,_),(1,_),(2,_),(3,_),(4,_)]) rfl Tryz.underlying103 a4G a9C rfl (.cons rfl (.cons rfl (.cons rfl (.cons rfl (.cons rfl .nil))))) (by kernel_rfl))) ?_
 intro v7
 refine .mk ?_
 refine .mk ?_ ?_
 refine .mk ?_
 intro _ _
 refine .mk λx8=>?_
 refine .mk ?_ ?_
 refine .mk ?_ ?_
 refine .mk ?_ ?_
 refine .mk ?_
 refine .mk _ (bE (aGV rfl Tryz.underlying103 a4G rfl rfl (by decide) rfl)) ?_
 intro v9
 refine .mk λx10 e10=>?_
 refine .mk λx11=>?_
 refine .mk .mk ?_
 refine .mk ?_
 refine .mk ?_
 refine .mk _ (bE (aGV rfl Tryz.underlying103 a4G rfl rfl (by decide) rfl)) ?_
 intro v12
 refine .mk λx13 e13=>?_
 refine .mk λx14=>?_
 refine .mk .mk ?_
 refine .mk ?_
 refine .mk ?_
 refine .mk _ (bE (aGV rfl Tryz.underlying103 a4G rfl rfl (by decide) rfl)) ?_
 intro v15
 refine .mk λx16 e16=>?_
 refine .mk λx17=>?_
 refine .mk .mk ?_
 refine .mk ?_
 refine .mk ?_
 refine .mk _ (bE (aGV rfl Tryz.underlying103 a4G rfl rfl (by decide) rfl)) ?_
 intro v18
 refine .mk λx19 e19=>?_
 refine .mk λx20=>?_
 refine .mk .mk ?_
 refine .mk ?_
 refine .mk ?_
 refine .mk _ (bE (aGV rfl Tryz.underlying103 a4G rfl rfl (by decide) rfl)) ?_
 intro v21
 refine .mk λx22 e22=>?_
 refine .mk λx23=>?_
 refine .mk .mk ?_
 refine .mk ?_
 refine .mk ?_
 exact .mk
 intro _ _
 refine .mk ?_
 refine .mk ?_ ?_
 refine .mk ?_
 intro _ _
 refine .mk λx24=>?_
 refine .mk ?_ ?_
 refine .mk λx25 e25=>?_
 refine .mk λx26=>?_
 refine .mk .mk ?_
 refine .mk λx27=>?_
 exact .mk
 exact .mk
 intro _ _
 exact .mk
 intro _ _
 refine .mk λx28=>?_
 exact .mk
 exact .mk
 intro _ _
 exact .mk
def bD3 (n:Nat) :WB (Bool) :=
 .cl 5 (a3Z n 1 1) xZ a9D λx1=>.gv 9<|.cl 10 (bAK n x1 [(⟨1,0,0,0,0,4,40,0,[]⟩:aS),(⟨4,0,0,0,0,1,15,0,[]⟩:aS),(⟨14,0,0,0,0,0,0,0,[]⟩:aS)]) ZV bDO λx2=>.al 1<|.jn 0 [] [] [] (λ_ (a:Bool)=>[(0,aF a)]) (λ_ _=>[]) (.bB 15 (decide (x2.2.2=0)) λx4=>.ifs [15] x4 (.ln 18 fI x2.2.1<|.bB 19 (decide ((x2.2.1.length:Int)=3)) λx5=>.ifs [19] x5 (.ix 23 fI x2.2.1 0 λx6=>.bB 25 (decide (x6=0)) λx7=>.ifs [25] x7 (.ix 29 fI x2.2.1 1 λx8=>.bB 31 (decide (x8=0)) λx9=>.ifs [31] x9 (.ix 35 fI x2.2.1 2 λx10=>.bB 37 (decide (x10=0)) λx11=>.ifs [37] x11 (.ln 42 aP.av x2.1.aW<|.bB 43 (decide ((x2.1.aW.length:Int)=1)) λx12=>.ifs [43] x12 (.gI 48 aP.av gE aP.bW x2.1.aW 0 λx13=>.wt 52 <|.ifs [52] x13.Closed (.gI 55 aP.av gE aP.bW x2.1.aW 0 λx14=>.ix 58 fI x14.dU 5 λx15=>.bB 60 (decide (x15=10)) λx16=>.ifs [60] x16 (.cl 64 (a7Z n x2.1) aLC bBN λx17=>.ret x17) (.ret false)) (.ret false)) (.ret false)) (.ret false)) (.ret false)) (.ret false)) (.ret false)) (.ret false)) (λy0_1=>.ret ((y0_1:Bool)))
def a6H (n:Nat) :Option (Bool):=(bD3 n ).run
theorem bDE {n}:PZ (a6H n ) 10 [] aF:=by
 refine wm Tryz.func10 ?_
 refine .mk λx1 e1=>?_
 refine .mk _ (bE (dQ (ps:=[(0,_),(1,_),(2,_)]) (rows:=[[int 1,int 0,int 0,int 0,int 0,int 4,int 40,int 0,.sc (.slice none 0 0)],[int 4,int 0,int 0,int 0,int 0,int 1,int 15,int 0,.sc (.slice none 0 0)],[int 14,int 0,int 0,int 0,int 0,int 0,int 0,int 0,.sc (.slice none 0 0)]]) rfl Tryz.underlying60 bCY (.cons rfl (.cons rfl (.cons rfl .nil))) (by kernel_rfl) rfl rfl rfl)) ?_
 refine .mk (λx2 e2=>?_) rfl (by rintro _ rfl;exact (.cons (.refl _) (.cons (fD.list (.cons (.cons (.refl _) (.cons (.refl _) (.cons (.refl _) (.cons (.refl _) (.cons (.refl _) (.cons (.refl _) (.cons (.refl _) (.cons (.refl _) (.cons (.nil _) .nil))))))))) (.cons (.cons (.refl _) (.cons (.refl _) (.cons (.refl _) (.cons (.refl _) (.cons (.refl _) (.cons (.refl _) (.cons (.refl _) (.cons (.refl _) (.cons (.nil _) .nil))))))))) (.cons (.cons (.refl _) (.cons (.refl _) (.cons (.refl _) (.cons (.refl _) (.cons (.refl _) (.cons (.refl _) (.cons (.refl _) (.cons (.refl _) (.cons (.nil _) .nil))))))))) .nil)))) .nil)))
 intro v3
 refine .mk ?_ ?_
 refine .mk λx4=>?_
 refine .mk ?_ ?_
 refine .mk ?_
 refine .mk λx5=>?_
 refine .mk ?_ ?_
 refine .mk λx6 e6=>?_
 refine .mk λx7=>?_
 refine .mk ?_ ?_
 refine .mk λx8 e8=>?_
 refine .mk λx9=>?_
 refine .mk ?_ ?_
 refine .mk λx10 e10=>?_
 refine .mk λx11=>?_
 refine .mk ?_ ?_
 refine .mk ?_
 refine .mk λx12=>?_
 refine .mk ?_ ?_
 refine .mk λx13 e13=>?_
 refine .mk ?_ ?_
 refine .mk λx14 e14=>?_
 refine .mk λx15 e15=>?_
 refine .mk λx16=>?_
 refine .mk ?_ ?_
 refine .mk λx17 e17=>?_
 exact .mk
 exact .mk
 exact .mk
 exact .mk
 exact .mk
 exact .mk
 exact .mk
 exact .mk
 exact .mk
 intro _ _
 exact .mk
def a8U (n:Nat) (a1:Int) (a2:List Int):WB (Bool) :=
 .cl 20 (rQ a1 3) BK AY λx3=>.bI 21 (aI (1+x3)) λx4=>.cl 22 (a3Z n 3 x4) xZ a9D λx5=>.al 1<|.cl 24 (a4N n x5) aAW bBC λx7=>.al 2<|.dF 2 [4,6] [] [] (λ_ (a:Int×Int×aA)=>[(7,int a.1),(8,int a.2.1)]) (λ_ a=>[.kp 2 [(aA.av a.2.2)]]) (.lp [1,4,6] [] [] (λ_ (a:Int×Int×Int×aA)=>[(7,int a.1),(8,int a.2.1),(9,int a.2.2.1)]) (λ_ a=>[.kp 2 [(aA.av a.2.2.2)]]) n ((0:Int),0,0,x7) (pw λy0_1 q0=>(pw λy0_2 q1=>(pw λy0_3 y0_4=>.jn 0 [1,4,6,7,8,9] [2] [] (λ_ (a:Bool)=>[(32,aF a)]) (λ_ _=>[]) (.ln 27 fI a2<|.bB 28 (decide (y0_3<(a2.length:Int))) λx9=>.ifs [28] x9 (.bB 31 (decide (y0_3<60)) λx10=>.ret x10) (.ret false)) (λy1_1=>.ifs [32] y1_1 (.dF 1 [1,4,6,9] [] [] (λ_ (a:Int×Int×aA)=>[(7,int a.1),(8,int a.2.1)]) (λ_ a=>[.kp 2 [(aA.av a.2.2)]]) (.ix 37 fI a2 y0_3 λx11=>.cl 39 (rQ x11 1073741824) BK AY λx12=>.bI 41 (aI (x12.tdiv 8)) λx13=>.bI 42 (x13.tmod 3) λx14=>.bI 44 (aI (x12.tdiv 24)) λx15=>.bI 45 (x15.tmod 9) λx16=>.bI 46 (aI (1+x16)) λx17=>.bI 48 (aI (x12.tdiv 216)) λx18=>.bI 49 (x18.tmod 600) λx19=>.al 3<|.bI 55 (x12.tmod 8) λx21=>.jn 0 [1,4,6,7,8,9,12,13,14] [2] [] (λ_ (a:aS)=>[]) (λ_ a=>[.kp 3 [(aS.av a)]]) (.bB 57 (decide (x21=2)) λx22=>.ifs [57] x22 (.bI 59 (aI (x12.tdiv 216)) λx23=>.bI 60 (x23.tmod 8) λx24=>.to 61 (aD 1 fI ([x24]:List Int))<|.ret ((⟨11,0,0,0,0,0,x19,0,([x24]:List Int)⟩:aS):aS)) (.bB 65 (decide (x21=3)) λx25=>.ifs [65] x25 (.ret ((⟨8,x14,0,0,1,x17,0,0,[]⟩:aS):aS)) (.bB 70 (decide (x21=4)) λx26=>.jn 0 [1,4,6,7,8,9,10,11,12,13,14,55] [2,3] [] (λ_ (a:Bool)=>[(69,aF a)]) (λ_ _=>[]) (.ifs [69,70] x26 (.ret true) (.bB 71 (decide (x21=5)) λx27=>.ret x27)) (λy2_1=>.ifs [69] y2_1 (.bI 74 (aI (x14+1)) λx28=>.bI 76 (aI (x12.tdiv 70000)) λx29=>.bI 77 (x29.tmod 2) λx30=>.bI 78 (aI (x28+x30)) λx31=>.bI 79 (x31.tmod 3) λx32=>.ret ((⟨12,x14,0,0,x32,x17,x19,0,[]⟩:aS):aS)) (.bB 84 (decide (x21=6)) λx33=>.jn 0 [1,4,6,7,8,9,10,12,13,14] [2,3] [] (λ_ (a:Bool)=>[(83,aF a)]) (λ_ _=>[]) (.ifs [83,84] x33 (.ret true) (.bB 85 (decide (x21=7)) λx34=>.ret x34)) (λy3_1=>.ifs [83] y3_1 (.bI 87 (aI (x12.tdiv 216)) λx35=>.bI 88 (x35.tmod 12) λx36=>.bI 90 (aI (x12.tdiv 24)) λx37=>.bI 91 (x37.tmod 2) λx38=>.ret ((⟨13,0,0,x38,0,x17,0,x36,[]⟩:aS):aS)) (.ret ((⟨1,x14,0,0,0,x17,x19,0,[]⟩:aS):aS)))))))) (λy4_1=>.cl 97 (a4Q n y0_4 y4_1) aAZ a8Q λx39=>.al 4<|.ln 102 aP.av x39.1.aW<|.bB 103 (decide ((x39.1.aW.length:Int)≠3)) λx41=>.ifs [103] x41 (.esc (.esc (.esc (.ret ((false:Bool)))))) (.jn 1 [1,4,6,7,8,9,12,13,14,15,16] [2,3,4] [] (λ_ (a:Bool)=>[(110,aF a)]) (λ_ _=>[]) (.bB 105 (decide (x39.2=0)) λx42=>.ifs [105] x42 (.bB 109 (decide (y4_1.Kind=1)) λx43=>.ret x43) (.ret false)) (λy5_1=>.jn 0 [1,4,6,9,14,15,16] [2,3,4] [] (λ_ (a:Int×Int)=>[(7,int a.1),(8,int a.2)]) (λ_ _=>[]) (.ifs [110] y5_1 (.bI 113 (aI (y0_1+x19)) λx44=>.bI 116 (aI (y0_2+x17)) λx45=>.ret ((x44:Int),x45)) (.ret ((y0_1:Int),y0_2))) (pw λy6_1 y6_2=>.jn 0 [1,4,6,7,8,9,15] [2,4] [] (λ_ (a:Bool)=>[(123,aF a)]) (λ_ _=>[]) (.bB 118 (decide (x39.2=0)) λx46=>.ifs [118] x46 (.bB 122 (decide (y4_1.Kind=11)) λx47=>.ret x47) (.ret false)) (λy7_1=>.jn 0 [1,4,6,8,9,15] [2,4] [] (λ_ (a:Int)=>[(7,int a)]) (λ_ _=>[]) (.ifs [123] y7_1 (.jn 2 [1,4,6,8,9,15] [2,4] [] (λ_ (a:Int)=>[(7,int a)]) (λ_ _=>[]) (.lp [1,4,6,8,9,15] [2,4] [] (λ_ (a:Int×Int)=>[(7,int a.1),(17,int a.2)]) (λ_ _=>[]) n ((y6_1:Int),0) (pw λy8_1 y8_2=>.bB 125 (decide (y8_2<3)) λx48=>.ifs [125] x48 (.dr [(1,[4]),(2,[4]),(11,[2]),(12,[2])] [] [2,4] [] [0,1,2,3,4,5,6,7,8,9,10,11,12,13,14,15,16,17,18,19,20,21] (.gI 132 aP.av gE aP.bW x39.1.aW y8_2 λx49=>.ix 135 bM.av x49.dI 0 λx50=>.bI 138 (aI (y8_1+x50.iV)) λx51=>.gI 142 aP.av gE aP.bW y0_4.aW y8_2 λx52=>.ix 145 bM.av x52.dI 0 λx53=>.bI 148 (aI (x51-x53.iV)) λx54=>.bI 127 (aI (y8_2+1)) λx55=>.brk ((x54:Int),x55))) (.esc (.ret y8_1)))) (λy9_1=>.ret y9_1)) (.ret y6_1)) (λy10_1=>.brk ((y10_1:Int),y6_2,x39.1)))))))) (pw λy11_1 q0=>(pw λy11_2 y11_3=>.bI 34 (aI (y0_3+1)) λx56=>.brk ((y11_1:Int),y11_2,x56,y11_3)) q0)) (.esc (.brk ((y0_1:Int),y0_2,y0_4))))) q1) q0)) (pw λy12_1 q0=>(pw λy12_2 y12_3=>.cl 151 (a5F n y12_3 0) aD1 bCZ λx57=>.al 5<|.jn 0 [] [] [] (λ_ (a:Bool)=>[(4,aF a)]) (λ_ _=>[]) (.bB 155 (decide (x57.aQ=y12_2)) λx59=>.ifs [155] x59 (.bI 161 (aI (x57.Value-x57.bO)) λx60=>.bB 163 (decide (x60=y12_1)) λx61=>.ifs [163] x61 (.cl 166 (a6H n) aOX bDE λx62=>.ret x62) (.ret false)) (.ret false)) (λy13_1=>.ret ((y13_1:Bool)))) q0)
def a6R (n:Nat) (a1:Int) (a2:List Int):Option (Bool):=(a8U n a1 a2).run
theorem bEQ {n a1 a2}:PZ (a6R n a1 a2) 3 [int a1,aD 1 fI a2] aF:=wq Tryz.func3
end
end Go.Pv
namespace Go.Pv
open Go.Proofs
set_option maxRecDepth 1000000
set_option maxHeartbeats 1000000
theorem a9F (v:Int):∃ k:Int,aI v=v+k*18446744073709551616:=by
  have h1:=Int.mul_ediv_add_emod v 18446744073709551616
  have e:aI v=(if (true && decide (v % 18446744073709551616>=9223372036854775808))=true then v % 18446744073709551616-18446744073709551616 else v % 18446744073709551616):=rfl
  rw [e]
  split
  · exact ⟨-(v / 18446744073709551616)-1,by omega⟩
  · exact ⟨-(v / 18446744073709551616),by omega⟩
theorem US {v k:Int} (hk:0<k/\k<=4611686018427387904):Ex (λr=>0<=r/\r<k) (rQ v k):=by
  have h1:=Int.tmod_lt_of_pos v hk.1
  have h2:=Int.lt_tmod_of_pos v hk.1
  unfold rQ VY
  simp only [WT.run,O9]
  refine x_a ?_
  repeat' with_reducible first | refine x_v ?_ | refine aP8 ?_ | apply aL2 | apply aI5 | apply aCE | apply aAR | apply Y4 | apply aOY | apply aIH | apply aKG | apply aMX | apply aDS | refine aEY (λ_=>?_) λ_=>?_ | refine aEW (λ_=>?_) λ_=>?_ | apply x_cT | apply x_cF | apply aK3 | apply aGQ | apply aEV
  all_goals omega
def oM (m:Int):eZ:=⟨3,4,[1],[[m],[m],[m]],[[10],[10],[10]]⟩
def oE:aP:=⟨1,false,[⟨[],⟨0,0,0⟩⟩,⟨[],⟨0,0,0⟩⟩],List.replicate 17 0,[⟨0,0,0,0,0,0,0,0,0,0,0⟩],[-1],[0],[]⟩
def oS (m:Int):aA:=⟨oM m,[oE,oE,oE],[],[],[],0⟩
theorem bBW:(a3Z 300 3 1).bind (a4N 300)=some (oS 1):=by kernel_rfl
theorem bC0:(a3Z 300 3 2).bind (a4N 300)=some (oS 2):=by kernel_rfl
theorem bDX:(a3Z 300 3 3).bind (a4N 300)=some (oS 3):=by kernel_rfl
theorem bBT:a6H 300=some true:=by decide +kernel
theorem bFR:EQ' oE:=⟨by decide,λp hp=>by
  simp only [oE,List.mem_cons,List.not_mem_nil,or_false,or_self] at hp
  subst hp
  exact ⟨LQ0,aP0,aP0,aP0⟩,by decide,by decide,by decide,by decide,rfl⟩
theorem bBJ {m e:Int} (h0:0<=e) (h1:e<3):In' (oS m) e 0:=by
  have h:e.toNat=0\/e.toNat=1\/e.toNat=2:=by omega
  have d1:∀ x,(oS m).aW[e.toNat]?=some x->x=oE:=λx hx=>by
    rcases h with h | h | h <;> rw [h] at hx <;> simpa [oS] using hx.symm
  have d2:∀ x,(oS m).bA.Methods[e.toNat]?=some x->x=[m]:=λx hx=>by
    rcases h with h | h | h <;> rw [h] at hx <;> simpa [oS,oM] using hx.symm
  have d3:∀ x,(oS m).bA.dN[e.toNat]?=some x->x=[10]:=λx hx=>by
    rcases h with h | h | h <;> rw [h] at hx <;> simpa [oS,oM] using hx.symm
  exact ⟨h0,h1,by decide,by simp [oS,oM],λx hx=>by rw [d1 x hx];simp [oS,oM,oE],h1,λx hx=>by rw [d2 x hx];simp [oS,oM],h1,λx hx=>by rw [d3 x hx];simp [oS,oM]⟩
theorem bDZ {m:Int} (hm:M3 m):TI (oS m):=by
  refine ⟨⟨by simp [oS],λx hx=>?_,by simp [oS,oM],by simp [oS,oM],λl hl=>?_,by simp [oS,oM],λl hl=>?_,by simp [oS],λ_ h=>(by cases h),by simp [oS],λ_ h=>(by cases h),by simp [oS],λ_ h=>(by cases h)⟩,λl hl q hq=>?_,λx hx p hp=>?_,λ_ h=>(by cases h),rfl,λe h0 h1=>bBJ h0 h1,rfl⟩
  · simp only [oS,List.mem_cons,List.not_mem_nil,or_false,or_self] at hx
    subst hx;exact bFR
  · simp only [oS,oM,List.mem_cons,List.not_mem_nil,or_false,or_self] at hl
    subst hl;simp
  · simp only [oS,oM,List.mem_cons,List.not_mem_nil,or_false,or_self] at hl
    subst hl
    refine ⟨by simp,λc hc=>?_⟩
    simp only [List.mem_cons,List.not_mem_nil,or_false] at hc
    subst hc;unfold XE;omega
  · simp only [oS,oM,List.mem_cons,List.not_mem_nil,or_false,or_self] at hl
    subst hl
    simp only [List.mem_cons,List.not_mem_nil,or_false] at hq
    subst hq;exact hm
  · simp only [oS,List.mem_cons,List.not_mem_nil,or_false,or_self] at hx
    subst hx
    simp only [oE,List.mem_cons,List.not_mem_nil,or_false,or_self] at hp
    subst hp;exact LB.nil
structure OL (i:Int) (paid n:Int) (s:aA):Prop where
  ti:TI s
  q:gS fQ s+aUZ s=n
  w:gS fV s+aT2 s-gS fP s-aXP s=paid
  v:gS fV s+aT2 s<=700*i
  a:gS fA s+aYA s<=50000*i
  n1:n<=9*i
theorem bAS {x:aP} {r:bM} (h:x.dI[(0:Int).toNat]?=some r):rL x=r.iV:=by
  unfold rL
  cases e:x.dI with
  | nil=>rw [e] at h;simp at h
  | cons a l=>rw [e] at h;simp at h;subst h;rfl
theorem td {a b:Int} (ha:0<=a) (hb:0<b):0<=a.tdiv b/\a.tdiv b<=a:=by
  rw [Int.tdiv_eq_ediv_of_nonneg ha]
  exact ⟨Int.ediv_nonneg ha (by omega),Int.ediv_le_self b ha⟩
theorem tm {a b:Int} (ha:0<=a) (hb:0<b):0<=a.tmod b/\a.tmod b<b:=by
  rw [Int.tmod_eq_emod_of_nonneg ha]
  exact ⟨Int.emod_nonneg _ (by omega),Int.emod_lt_of_pos _ hb⟩
theorem OT.of {k e l t q a r:Int} {f:List Int} (hq:1<=q/\q<=9) (ha:0<=a/\a<=600) (hk:k=1\/k=8\/k=12\/k=13) (hf:f.length<20):OT ⟨k,e,0,l,t,q,a,r,f⟩ 700 :=
  ⟨by unfold XE;simp only;omega,ha.1,by simp only;omega,rfl,by simp only;omega,λh=>by simp only at h;omega,hf⟩
theorem bFL (v:Int) (l:List Int):a6R 300 v l=some true:=by
  refine aQX (x:=true) ?_
  unfold a6R a8U;simp only [WT.run,O9]
  refine tF _ (US (by omega)) λq hq=>x_v ?_
  have hm:M3 (1+q):=by unfold M3;omega
  have hS:(a3Z 300 3 (1+q)).bind (a4N 300)=some (oS (1+q)):=by
    have:q=0\/q=1\/q=2:=by omega
    rcases this with rfl | rfl | rfl
    · exact bBW
    · exact bC0
    · exact bDX
  obtain ⟨m,e1,e2⟩:=Option.bind_eq_some_iff.1 hS
  refine x_eq e1 (x_eq e2 ?_)
  refine tF (λr=>match r with | .inl a=>∃ i:Int,0<=i/\i<=60/\OL i a.1 a.2.1 a.2.2 | .inr _=>False) (aQB (m:=60) (λv=>v.2.2.1) (λv=>OL v.2.2.1 v.1 v.2.1 v.2.2.2) ⟨by simp,by simp,⟨bDZ hm,by simp [oS,oE,gS,eS,fQ,lQ,aUZ,sI],by simp [oS,oE,gS,eS,fV,fP,lV,lP,aT2,aXP,sI],by simp [oS,oE,gS,eS,fV,lV,aT2,sI],by simp [oS,oE,gS,eS,fA,lA,aYA,sI,sAb],by simp⟩⟩ (by omega) λv h1 h2 h3=>?_) λr hr=>?_
  · obtain ⟨paid,n,i,s⟩:=v
    simp only at h1 h2 h3
    simp only [p2]
    refine tF (λb=>b=true->i<(l.length:Int)/\i<60) (aL2 (aEY (λk=>aL2 (aEV λk2=>⟨k,of_decide_eq_true k2⟩)) λ_=>aEV (λk=>nomatch k))) λb hb=>aFQ (λkb=>?_) λ_=>aGQ (XC ⟨i,h1,h2,h3⟩)
    obtain ⟨k1,k2⟩:=hb kb
    refine tF (λr=>match r with | .inl a=>OL (i+1) a.1 a.2.1 a.2.2 | .inr _=>False) ?_ λr hr=>?_
    · refine ON h1 k1 λx hx=>tF _ (US (by omega)) λk hk=>?_
      have f8:=td hk.1 (show (0:Int)<8 by omega)
      have f24:=td hk.1 (show (0:Int)<24 by omega)
      have f216:=td hk.1 (show (0:Int)<216 by omega)
      have f7:=td hk.1 (show (0:Int)<70000 by omega)
      have m3:=tm f8.1 (show (0:Int)<3 by omega)
      have m9:=tm f24.1 (show (0:Int)<9 by omega)
      have m6:=tm f216.1 (show (0:Int)<600 by omega)
      have m2:=tm f7.1 (show (0:Int)<2 by omega)
      refine x_v (aL2 (x_v (aL2 (x_v (x_v (aL2 (aL2 ?_)))))))
      generalize he:(k.tdiv 8).tmod 3=e at *
      generalize hQ:1+(k.tdiv 24).tmod 9=Q
      generalize hA:(k.tdiv 216).tmod 600=A at *
      refine tF (λo=>OT o 700/\(o.Kind=1->o.aQ=Q/\o.bD=A)) ?_ λo ho=>?_
      · refine aL2 (aEY (λ_=>x_v (aL2 (aEV ⟨⟨aP0,by simp only;omega,by simp only;omega,rfl,.inr (.inr (.inl rfl)),λ_=>⟨_,rfl⟩,by simp⟩,λh=>absurd (show (11:Int)=1 from h) (by decide)⟩))) λ_=>aL2 (aEY (λ_=>aEV ⟨.of (by omega) (by omega) (by omega) (by simp),λh=>absurd (show (8:Int)=1 from h) (by decide)⟩) λ_=>aL2 (tF _ a5B λb _=>aFQ (λ_=>?_) λ_=>aL2 (tF _ a5B λb _=>aFQ (λ_=>?_) λ_=>aEV ⟨.of (by omega) (by omega) (by omega) (by simp),λ_=>⟨rfl,rfl⟩⟩))))
        · refine x_v (x_v (aL2 (x_v (aL2 (aEV ⟨.of (by omega) (by omega) (by omega) (by simp),λh=>absurd (show (12:Int)=1 from h) (by decide)⟩)))))
        · refine x_v (aL2 (x_v (aL2 (aEV ⟨.of (by omega) (by omega) (by omega) (by simp),λh=>absurd (show (13:Int)=1 from h) (by decide)⟩))))
      obtain ⟨ho,hoK⟩:=ho
      refine tF _ (bEC (by omega) h3.ti.sq h3.ti.m3 h3.ti.lb h3.ti.tr h3.ti.w1 ho (by omega)) λr hr=>?_
      have hv:=h3.v;have ha:=h3.a;have hq3:=h3.q;have hn:=h3.n1;have hw:=h3.w
      have nn:=h3.ti.lb.nn;have wn:=a5U h3.ti.tr;have hp:=a6X s
      have hQb:1<=Q/\Q<=9:=by omega
      have hEl:r.1.aW.length=3:=by
        by_cases h0:r.2=0
        · obtain ⟨dq,dw,dl,g,-⟩:=hr.2.2 h0;rw [g.el];exact h3.ti.el
        · rw [hr.2.1 h0];exact h3.ti.el
      have hsl:=h3.ti.el
      refine aL2 (aEY (λk=>absurd (by omega) k) λ_=>?_)
      by_cases h0:r.2=0
      · obtain ⟨dq,dw,dl,g,c1,c11,co⟩:=hr.2.2 h0
        have hti:=h3.ti.step g hr.1
        have nn':=hti.lb.nn;have wn':=a5U hti.tr;have hp':=a6X r.1
        have gq:=g.q;have gw:=g.w;have gv:=g.v;have ga:=g.a;have gl:=g.l
        refine tF (λb=>b=true↔o.Kind=1) (aL2 (aEY (λ_=>aL2 (aEV ⟨λh=>of_decide_eq_true h,λh=>decide_eq_true h⟩)) λk=>absurd h0 k)) λb1 hb1=>?_
        refine tF (λp=>p.1=(if o.Kind=1 then paid+A else paid)/\p.2=(if o.Kind=1 then n+Q else n)) (aFQ (λk=>x_v (x_v (aEV ⟨by rw [if_pos (hb1.1 k)],by rw [if_pos (hb1.1 k)]⟩))) λk=>aEV ⟨by rw [if_neg (λh=>by rw [hb1.2 h] at k;cases k)],by rw [if_neg (λh=>by rw [hb1.2 h] at k;cases k)]⟩) λp hp=>?_
        obtain ⟨p1,p2'⟩:=hp
        refine tF (λb=>b=true↔o.Kind=11) (aL2 (aEY (λ_=>aL2 (aEV ⟨λh=>of_decide_eq_true h,λh=>decide_eq_true h⟩)) λk=>absurd h0 k)) λb2 hb2=>?_
        have hd:(o.Kind=1/\dq=Q/\dw=A/\p.1=paid+A/\p.2=n+Q)\/(o.Kind=11/\dq=0/\dw=dl/\p.1=paid/\p.2=n)\/(o.Kind≠1/\o.Kind≠11/\dq=0/\dw=0/\p.1=paid/\p.2=n):=by
          by_cases e1:o.Kind=1
          · rw [if_pos e1] at p1 p2'
            have h1:=c1 e1;have h2:=hoK e1
            exact .inl ⟨e1,h1.1.trans h2.1,h1.2.trans h2.2,p1,p2'⟩
          · rw [if_neg e1] at p1 p2'
            by_cases e11:o.Kind=11
            · have h1:=c11 e11
              exact .inr (.inl ⟨e11,h1.1,h1.2,p1,p2'⟩)
            · have h1:=co e1 e11
              exact .inr (.inr ⟨e1,e11,h1.1,h1.2,p1,p2'⟩)
        refine tF (λy=>y=(if o.Kind=11 then p.1+dl else p.1)) (aFQ (λk=>?_) λk=>aEV (by rw [if_neg (λh=>by rw [hb2.2 h] at k;cases k)])) λy hy=>XC ?_
        · have K11:=hb2.1 k
          refine tF (λy=>y=p.1+dl) (aQB (m:=3) (λv=>v.2) (λv=>XE v.1/\∃ z:Int,v.1=p.1+sI ((r.1.aW.take v.2.toNat).map rL)-sI ((s.aW.take v.2.toNat).map rL)+z*18446744073709551616) ⟨by simp,by simp,by unfold XE;simp only;omega,0,by simp [sI]⟩ (by omega) λv j1 j2 j3=>?_) λy hy=>aEV (by rw [if_pos K11];exact hy)
          obtain ⟨a,c⟩:=v
          obtain ⟨j3,z,j4⟩:=j3
          simp only at j1 j2 j3 j4
          refine aL2 (aEY (λkc=>ON j1 (by omega) λxt hxt=>ON (by omega) (by have:=(hti.iN c j1 (by omega)).x xt hxt;rw [hti.w1] at this;omega) λrt hrt=>aL2 (ON j1 (by omega) λxs hxs=>ON (by omega) (by have:=(h3.ti.iN c j1 (by omega)).x xs hxs;rw [h3.ti.w1] at this;omega) λrs hrs=>aL2 (x_v (XC ⟨by omega,rfl,aG1 _,?_⟩)))) λkc=>aGQ (aEV ?_))
          · obtain ⟨z1,hz1⟩:=a9F (a+rt.iV)
            obtain ⟨z2,hz2⟩:=a9F (aI (a+rt.iV)-rs.iV)
            refine ⟨z+z1+z2,?_⟩
            rw [a1Q rL j1 hxt,a1Q rL j1 hxs,aV8,aV8]
            simp only [sI,bAS hrt,bAS hrs]
            omega
          · have hc:c=3:=by omega
            subst hc
            rw [List.take_of_length_le (by omega),List.take_of_length_le (by omega)] at j4
            have e1:sI (r.1.aW.map rL)=gL r.1:=rfl
            have e2:sI (s.aW.map rL)=gL s:=rfl
            rw [e1,e2] at j4
            unfold XE at j3
            rcases hd with hd | hd | hd <;> omega
        · have hy2:y=paid+dw:=by
            rcases hd with hd | hd | hd
            · rw [if_neg (by omega)] at hy;omega
            · rw [if_pos hd.1] at hy;omega
            · rw [if_neg hd.2.1] at hy;omega
          have hn2:p.2=n+dq/\dq<=9:=by
            rcases hd with hd | hd | hd <;> omega
          exact ⟨hti,by simp only;omega,by simp only;omega,by simp only;omega,by simp only;omega,by simp only;omega⟩
      · have hs:=hr.2.1 h0
        refine tF (λb=>b=false) (aL2 (aEY (λk=>absurd k h0) λ_=>aEV rfl)) λb1 hb1=>?_
        subst hb1
        refine tF (λp=>p=(paid,n)) (aFQ (λk=>nomatch k) λ_=>aEV rfl) λp hp=>?_
        subst hp
        refine tF (λb=>b=false) (aL2 (aEY (λk=>absurd k h0) λ_=>aEV rfl)) λb2 hb2=>?_
        subst hb2
        refine tF (λy=>y=paid) (aFQ (λk=>nomatch k) λ_=>aEV rfl) λy hy=>XC ?_
        subst hy
        rw [hs]
        exact ⟨h3.ti,hq3,hw,by simp only;omega,by simp only;omega,by simp only;omega⟩
    · cases r with
      | inr b=>exact absurd hr id
      | inl a=>exact aK3 (x_v (XC ⟨k2,rfl,hr⟩))
  · cases r with
    | inr b=>exact absurd hr id
    | inl a =>
      obtain ⟨i,i0,i1,h⟩:=hr
      obtain ⟨paid,n,s⟩:=a
      simp only at h
      refine aK3 ?_
      simp only [p2]
      have hv:=h.v;have ha:=h.a;have hq:=h.q;have hn:=h.n1;have hw:=h.w
      have nn:=h.ti.lb.nn;have wn:=a5U h.ti.tr;have hp:=a6X s
      refine tF _ (bA1 (by omega) h.ti (by omega) (by omega) (by omega)) λg hg=>?_
      obtain ⟨g1,g2,g3⟩:=hg
      refine tF (λb=>b=true) (aL2 (aEY (λ_=>x_v (aL2 (aEY (λ_=>x_eq bBT (aEV rfl)) λk=>absurd (by omega) k))) λk=>absurd (by omega) k)) λb hb=>aEV hb
open Go.ChangeShapes Go.WideShapes Go.ChangeAt Go.RowKit
theorem YJ {P:Program} {f:FuncId} {args:List AV} {vs:Array Value} {w:World} (h:PP P f args (λy=>y=aF true)) (ha:jI (s0 w) args vs) :
    Calls P f vs w λe w'=>e=.returned (.bool true)/\Below w.heap.size w w':=by
  refine (h (s0 w) vs (λ_ h=>h) ⟨0,λ_ _ h=>h⟩ ha).mono ?_
  rintro e w' ⟨y,s',v,rfl,_,rfl,rfl,h4,_,h6⟩
  have hv:=h4.dP
  subst hv
  exact ⟨rfl,⟨h6.os,h6.tape,h6.output,h6.size,λk hk=>h6.keep k hk λ⟨_,_,_,h,_⟩=>by cases h⟩⟩
end Go.Pv
