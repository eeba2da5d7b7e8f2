import Derived.Test.YtgoihillpibdjaaGreatX90k
set_option linter.unusedVariables false
set_option linter.unusedSimpArgs false
namespace Go.Pv
open Go.Proofs
set_option maxRecDepth 100000
set_option maxHeartbeats 4000000
noncomputable section
def X4 (n:Nat) (a1:fG) (a2:Int) (a3:Int):WB (bM) :=
 .al 1<|.al 2<|.gv 12<|.al 3<|.cl 14 (zL a2 1099511627776) IF I5 λx7=>.cl 17 (zM a1 x7) KS K7 λx8=>.al 4<|.eZ 1 [6,9] [2] [] (λ_ (a:bM)=>[]) (λ_ a=>[.kp 4 [(bM.av a)]]) (.lp [2,3,6,7,8,9] [1,2,3] [] (λ_ (a:Int×bM)=>[(10,int a.1)]) (λ_ a=>[.kp 4 [(bM.av a.2)]]) n ((0:Int),x8) (pw λy0_1 y0_2=>.bB 19 (decide (y0_1<64)) λx10=>.ifs [19] x10 (.eZ 1 [2,3,6,7,8,9,10] [1,2,3] [] (λ_ (a:bM)=>[]) (λ_ a=>[.kp 4 [(bM.av a)]]) (.eZ 2 [2,3,6,7,8,9,10] [1,2,3,4] [] (λ_ (a:Unit)=>[]) (λ_ _=>[]) (.lp [2,3,6,7,8,9,10] [1,2,3,4] [] (λ_ (a:Int)=>[(11,int a)]) (λ_ _=>[]) n 0 (λy1_1=>.bB 23 (decide (y1_1<4)) λx11=>.ifs [23] x11 (.jn 2 [2,3,6,7,8,9,10,11] [1,2,3,4] [] (λ_ (a:Bool)=>[(46,bD a)]) (λ_ _=>[]) (.dr [(0,[4]),(1,[4]),(3,[3]),(4,[3]),(11,[3]),(12,[3]),(16,[3]),(17,[3])] [] [3,4] [] [0,1,2,3,4,5,6,7,8,9,10,11,12,13,14,15,16,17,18,19,20] (.as ((0:Int)<=y1_1/\y1_1<4) inferInstance<|.bo (ix ([6,7,8,9]:List Int) y1_1) λx13=>.gv 29<|.gv 30<|.bB 31 (decide (y0_2.Kind=x13)) λx14=>.ifs [31] x14 (.bB 34 (decide (y0_1>31)) λx15=>.ifs [34] x15 (.ret true) (.as ((0:Int)<=y1_1/\y1_1<4) inferInstance<|.gv 37<|.gv 38<|.bI 40 (aW (x7.tdiv 32)) λx17=>.bI 41 (x17.tmod 4) λx18=>.as ((0:Int)<=x18/\x18<4) inferInstance<|.bo (ix ([6,7,8,9]:List Int) x18) λx20=>.gv 42<|.gv 43<|.bB 44 (decide (x13=x20)) λx21=>.ret x21)) (.ret false))) (λy2_1=>.ifs [46] y2_1 (.cl 49 (II y0_2 a3) aZQ aKU λx22=>.esc (.esc (.esc (.esc (.esc (.ret ((x22:bM)))))))) (.bI 25 (aW (y1_1+1)) λx23=>.brk x23))) (.esc (.brk ())))) (λ_=>.bI 52 (aW (x7.tdiv 32)) λx24=>.bI 53 (aW (x24*32)) λx25=>.bI 56 (aW (x7+y0_1)) λx26=>.bI 57 (aW (x26+1)) λx27=>.bI 58 (x27.tmod 32) λx28=>.bI 59 (aW (x25+x28)) λx29=>.cl 60 (zM a1 x29) KS K7 λx30=>.brk x30)) (λy4_1=>.bI 21 (aW (y0_1+1)) λx31=>.brk ((x31:Int),y4_1))) (.esc (.brk y0_2)))) (λy5_1=>.ret ((y5_1:bM)))
def GZ (n:Nat) (a1:fG) (a2:Int) (a3:Int):Option (bM):=(X4 n a1 a2 a3).run
theorem YQ {n a1 a2 a3}:PZ (GZ n a1 a2 a3) 7 [.agg (fG.av a1),int a2,int a3] (λr=>.agg (bM.av r)):=by
 refine wm Tryz.func7 ?_
 intro v4
 intro v5
 refine .mk _ (fD (FE (cs:=[int 6,int 7,int 8,int 9]) (ps:=[(0,_),(1,_),(2,_),(3,_)]) rfl Tryz.underlying50 gI z50 rfl (.cons rfl (.cons rfl (.cons rfl (.cons rfl .nil)))) (by kernel_rfl))) ?_
 intro v6
 refine .mk λx7 e7=>?_
 refine .mk λx8 e8=>?_
 intro v9
 refine .mk ?_ ?_
 refine .mk ?_
 intro _ _
 refine .mk λx10=>?_
 refine .mk ?_ ?_
 refine .mk ?_ ?_
 refine .mk ?_ ?_
 refine .mk ?_
 intro _ _
 refine .mk λx11=>?_
 refine .mk ?_ ?_
 refine .mk ?_ ?_
 refine .mk ?_
 refine .mk λpW=>?_
 refine .mk λx13 e13=>?_
 refine .mk _ (λH hH _=>NS rfl Tryz.underlying50 gI rfl rfl ((hH _ (by decide)).trans rfl) rfl rfl pW) ?_
 refine .mk _ (λH hH _=>ND rfl gI rfl ((hH _ (by decide)).trans rfl) rfl rfl e13) ?_
 refine .mk λx14=>?_
 refine .mk ?_ ?_
 refine .mk λx15=>?_
 refine .mk .mk ?_
 refine .mk λp16=>?_
 refine .mk _ (λH hH _=>NS rfl Tryz.underlying50 gI rfl rfl ((hH _ (by decide)).trans rfl) rfl rfl p16) ?_
 refine .mk _ (λH hH _=>ND rfl gI rfl ((hH _ (by decide)).trans rfl) rfl rfl e13) ?_
 refine .mk λx17=>?_
 refine .mk λx18=>?_
 refine .mk λp19=>?_
 refine .mk λx20 e20=>?_
 refine .mk _ (λH hH _=>NS rfl Tryz.underlying50 gI rfl rfl ((hH _ (by decide)).trans rfl) rfl rfl p19) ?_
 refine .mk _ (λH hH _=>ND rfl gI rfl ((hH _ (by decide)).trans rfl) rfl rfl e20) ?_
 refine .mk λx21=>?_
 exact .mk
 exact .mk
 intro _ _
 refine .mk ?_ ?_
 refine .mk λx22 e22=>?_
 exact .mk
 refine .mk λx23=>?_
 exact .mk
 exact .mk
 intro _ _
 refine .mk λx24=>?_
 refine .mk λx25=>?_
 refine .mk λx26=>?_
 refine .mk λx27=>?_
 refine .mk λx28=>?_
 refine .mk λx29=>?_
 refine .mk λx30 e30=>?_
 exact .mk
 intro _ _
 refine .mk λx31=>?_
 exact .mk
 exact .mk
 intro _ _
 exact .mk
def aRQ (n:Nat) :WB (aA) :=
 .al 1<|.to 5 (aN 1 fI ([1,2,3,0]:List Int))<|.al 2<|.jn 1 [0,1] [1] [5,6] (λ_ (a:(List (List Int))×(List (List Int)))=>[]) (λu2 a=>[.kp 2 [[int 2,int 3,aN 1 fI ([1,2,3,0]:List Int),.sl 5 (u2 5) 0 a.1.length,.sl 6 (u2 6) 0 a.2.length]],.nw 5 22 1 (a.1.map (fL 1 fI)),.nw 6 22 1 (a.2.map (fL 1 fI))]) (.nc 2 0 3 5 22 1<|.nc 2 0 4 6 22 1<|.lp [0,1] [1] [5,6] (λ_ (a:Int×(List (List Int))×(List (List Int)))=>[(2,int a.1)]) (λu3 a=>[.kp 2 [[int 2,int 3,aN 1 fI ([1,2,3,0]:List Int),.sl 5 (u3 5) 0 a.2.1.length,.sl 6 (u3 6) 0 a.2.2.length]],.nw 5 22 1 (a.2.1.map (fL 1 fI)),.nw 6 22 1 (a.2.2.map (fL 1 fI))]) n ((0:Int),(([]:List (List Int)):List (List Int)),(([]:List (List Int)):List (List Int))) (pw λy0_1 q0=>(pw λy0_4 y0_5=>.bB 8 (decide (y0_1<2)) λx5=>.ifs [8] x5 (.dr [(0,[2]),(1,[2]),(5,[2]),(6,[2]),(10,[2]),(12,[2])] [(11,[]),(13,[])] [2] [4,9,11,13] [0,1,2,3,5,6,7,8,4,10,9,11,12,13] (.to 13 (aN 1 fI ([1,2,3,4]:List Int))<|.to 14 (aN 1 (fL 1 fI) ([([1,2,3,4]:List Int)]:List (List Int)))<|.to 18 (aN 1 fI ([10,10,10,10]:List Int))<|.to 19 (aN 1 (fL 1 fI) ([([10,10,10,10]:List Int)]:List (List Int)))<|.bl (y0_4++([([1,2,3,4]:List Int)]:List (List Int)):List (List Int)) λx6=>.as (x6.length<=68719476736) inferInstance<|.ge 15 0<|.bl (y0_5++([([10,10,10,10]:List Int)]:List (List Int)):List (List Int)) λx9=>.as (x9.length<=68719476736) inferInstance<|.ge 20 0<|.bI 10 (aW (y0_1+1)) λx12=>.brk ((x12:Int),(x6:List (List Int)),(x9:List (List Int))))) (.esc (.ret ((y0_4:List (List Int)),(y0_5:List (List Int)))))) q0)) (pw λy1_3 y1_4=>.jS 5<|.jS 6<|.cl 25 (BH n (⟨2,3,([1,2,3,0]:List Int),y1_3,y1_4⟩:fG)) aEJ (λ_=>aFO) λx13=>.al 7<|.ret ((x13.1:aA)))
def aHA (n:Nat) :Option (aA):=(aRQ n ).run
theorem aKA {n}:PZ (aHA n ) 36 [] (λr=>.agg (aA.av r)):=wq Tryz.func36
def aWC (n:Nat) (a1:Int) (a2:Int) (a3:Int):WB (aA) :=
 .al 1<|.cl 10 (aHA n) aTQ aKA λx5=>.cl 15 (FM n x5 (⟨1,0,a1,0,0,a2,a3,0,[]⟩:bM)) ZQ aEV λx6=>.al 2<|.ret ((x6.1:aA))
def aCR (n:Nat) (a1:Int) (a2:Int) (a3:Int):Option (aA):=(aWC n a1 a2 a3).run
theorem aUL {n a1 a2 a3}:PZ (aCR n a1 a2 a3) 21 [int a1,int a2,int a3] (λr=>.agg (aA.av r)):=wq Tryz.func21
def aD2 (n:Nat) (a1:List (List Int)) (a2:List (List Int)):WB (Bool) :=
 .ln 7 (fL 1 fI) a1<|.ln 9 (fL 1 fI) a2<|.bB 10 (decide ((a1.length:Int)≠(a2.length:Int))) λx3=>.ifs [10] x3 (.ret ((false:Bool))) (.eZ 2 [4] [] [] (λ_ (a:Unit)=>[]) (λ_ _=>[]) (.lp [0,1,4] [] [] (λ_ (a:Int)=>[(5,int a)]) (λ_ _=>[]) n 0 (λy0_1=>.ln 13 (fL 1 fI) a1<|.bB 14 (decide (y0_1<(a1.length:Int))) λx4=>.ifs [14] x4 (.dr [] [] [] [] [0,1,2,3,4,5,6,7,8,9] (.ix 19 (fL 1 fI) a1 y0_1 λx5=>.ix 23 (fL 1 fI) a2 y0_1 λx6=>.cl 25 (sD n x5 x6) CV CZ λx7=>.bB 26 (!x7) λx8=>.ifs [26] x8 (.esc (.esc (.ret ((false:Bool))))) (.bI 16 (aW (y0_1+1)) λx9=>.brk x9))) (.esc (.brk ())))) (λ_=>.ret ((true:Bool))))
def GY (n:Nat) (a1:List (List Int)) (a2:List (List Int)):Option (Bool):=(aD2 n a1 a2).run
theorem XU {n a1 a2}:PZ (GY n a1 a2) 67 [aN 1 (fL 1 fI) a1,aN 1 (fL 1 fI) a2] bD:=wq Tryz.func67
def aAW (n:Nat) (a1:fG) (a2:fG):WB (Bool) :=
 .al 1<|.al 2<|.jn 0 [] [] [] (λ_ (a:Bool)=>[(4,bD a)]) (λ_ _=>[]) (.bB 9 (decide (a1.gD=a2.gD)) λx5=>.ifs [9] x5 (.bB 15 (decide (a1.gP=a2.gP)) λx6=>.ifs [15] x6 (.cl 22 (sD n a1.cB a2.cB) CV CZ λx7=>.ifs [22] x7 (.cl 29 (GY n a1.Methods a2.Methods) aA5 XU λx8=>.ifs [29] x8 (.cl 36 (GY n a1.gB a2.gB) aA5 XU λx9=>.ret x9) (.ret false)) (.ret false)) (.ret false)) (.ret false)) (λy0_1=>.ret ((y0_1:Bool)))
def JP (n:Nat) (a1:fG) (a2:fG):Option (Bool):=(aAW n a1 a2).run
theorem aM7 {n a1 a2}:PZ (JP n a1 a2) 37 [.agg (fG.av a1),.agg (fG.av a2)] bD:=wq Tryz.func37
def aIP (n:Nat) (a1:aA) (a2:aA):WB (Bool) :=
 .al 1<|.al 2<|.jn 0 [2,3,4] [1,2] [] (λ_ (a:Bool)=>[(32,bD a)]) (λ_ _=>[]) (.ln 10 eU.av a1.cZ<|.ln 13 eU.av a2.cZ<|.bB 14 (decide ((a1.cZ.length:Int)≠(a2.cZ.length:Int))) λx5=>.ifs [14] x5 (.ret true) (.ln 18 eH.av a1.dY<|.ln 21 eH.av a2.dY<|.bB 22 (decide ((a1.dY.length:Int)≠(a2.dY.length:Int))) λx6=>.ifs [22] x6 (.ret true) (.ln 27 fU.av a1.dJ<|.ln 30 fU.av a2.dJ<|.bB 31 (decide ((a1.dJ.length:Int)≠(a2.dJ.length:Int))) λx7=>.ret x7))) (λy0_1=>.ifs [32] y0_1 (.ret ((false:Bool))) (.eZ 2 [2,3,4] [1,2] [] (λ_ (a:Unit)=>[]) (λ_ _=>[]) (.lp [2,3,4] [1,2] [] (λ_ (a:Int)=>[(5,int a)]) (λ_ _=>[]) n 0 (λy1_1=>.ln 36 eU.av a1.cZ<|.bB 37 (decide (y1_1<(a1.cZ.length:Int))) λx8=>.ifs [37] x8 (.dr [(0,[1]),(1,[1]),(5,[2]),(6,[2])] [] [1,2] [] [0,1,2,3,4,5,6,7,8,9,10] (.ix 43 eU.av a1.cZ y1_1 λx9=>.ix 48 eU.av a2.cZ y1_1 λx10=>.bl (!decide ((x9:eU)=x10):Bool) λx11=>.gv 50<|.ifs [50] x11 (.esc (.esc (.ret ((false:Bool))))) (.bI 39 (aW (y1_1+1)) λx12=>.brk x12))) (.esc (.brk ())))) (λ_=>.eZ 1 [2,3,4] [1,2] [] (λ_ (a:Unit)=>[]) (λ_ _=>[]) (.lp [2,3,4] [1,2] [] (λ_ (a:Int)=>[(6,int a)]) (λ_ _=>[]) n 0 (λy3_1=>.ln 54 eH.av a1.dY<|.bB 55 (decide (y3_1<(a1.dY.length:Int))) λx13=>.ifs [55] x13 (.dr [(0,[1]),(1,[1]),(5,[2]),(6,[2])] [] [1,2] [] [0,1,2,3,4,5,6,7,8,9,10] (.ix 61 eH.av a1.dY y3_1 λx14=>.ix 66 eH.av a2.dY y3_1 λx15=>.bl (!decide ((x14:eH)=x15):Bool) λx16=>.gv 68<|.ifs [68] x16 (.esc (.esc (.ret ((false:Bool))))) (.bI 57 (aW (y3_1+1)) λx17=>.brk x17))) (.esc (.brk ())))) (λ_=>.eZ 1 [4] [] [] (λ_ (a:Unit)=>[]) (λ_ _=>[]) (.lp [2,3,4] [1,2] [] (λ_ (a:Int)=>[(7,int a)]) (λ_ _=>[]) n 0 (λy5_1=>.ln 72 fU.av a1.dJ<|.bB 73 (decide (y5_1<(a1.dJ.length:Int))) λx18=>.ifs [73] x18 (.dr [(0,[1]),(1,[1]),(5,[2]),(6,[2])] [] [1,2] [] [0,1,2,3,4,5,6,7,8,9,10] (.ix 79 fU.av a1.dJ y5_1 λx19=>.ix 84 fU.av a2.dJ y5_1 λx20=>.bl (!decide ((x19:fU)=x20):Bool) λx21=>.gv 86<|.ifs [86] x21 (.esc (.esc (.ret ((false:Bool))))) (.bI 75 (aW (y5_1+1)) λx22=>.brk x22))) (.esc (.brk ())))) (λ_=>.ret ((true:Bool)))))))
def JO (n:Nat) (a1:aA) (a2:aA):Option (Bool):=(aIP n a1 a2).run
theorem aSV {n a1 a2}:PZ (JO n a1 a2) 38 [.agg (aA.av a1),.agg (aA.av a2)] bD:=by
 refine wm Tryz.func38 ?_
 intro v3
 intro v4
 refine .mk ?_ ?_
 refine .mk ?_
 refine .mk ?_
 refine .mk λx5=>?_
 refine .mk .mk ?_
 refine .mk ?_
 refine .mk ?_
 refine .mk λx6=>?_
 refine .mk .mk ?_
 refine .mk ?_
 refine .mk ?_
 refine .mk λx7=>?_
 exact .mk
 intro _ _
 refine .mk .mk ?_
 refine .mk ?_ ?_
 refine .mk ?_
 intro _ _
 refine .mk ?_
 refine .mk λx8=>?_
 refine .mk ?_ ?_
 refine .mk ?_
 refine .mk λx9 e9=>?_
 refine .mk λx10 e10=>?_
 refine .mk λx11 e11=>?_
 refine .mk _ (λH hH _=>SV (r':=x11) rfl a0I rfl rfl (.cons (.int Tryz.underlying3) gI (.cons (.int Tryz.underlying3) gI (.cons (.int Tryz.underlying3) gI (.cons (.int Tryz.underlying3) gI (.cons (.int Tryz.underlying3) gI (.cons (.int Tryz.underlying3) gI (.cons (.int Tryz.underlying3) gI (.cons (.int Tryz.underlying3) gI (.nil _))))))))) ((congrArg Bool.not (eU.eqv (x9:eU) (x10:eU))).trans e11)) ?_
 refine .mk .mk ?_
 refine .mk λx12=>?_
 exact .mk
 exact .mk
 intro _ _
 refine .mk ?_ ?_
 refine .mk ?_
 intro _ _
 refine .mk ?_
 refine .mk λx13=>?_
 refine .mk ?_ ?_
 refine .mk ?_
 refine .mk λx14 e14=>?_
 refine .mk λx15 e15=>?_
 refine .mk λx16 e16=>?_
 refine .mk _ (λH hH _=>SV (r':=x16) rfl aVC rfl rfl (.cons (.int Tryz.underlying3) gI (.cons (.int Tryz.underlying3) gI (.cons (.int Tryz.underlying3) gI (.cons (.int Tryz.underlying3) gI (.cons (.int Tryz.underlying3) gI (.cons (.int Tryz.underlying3) gI (.cons (.int Tryz.underlying3) gI (.cons (.int Tryz.underlying3) gI (.cons (.bool Tryz.underlying4) sh4 (.nil _)))))))))) ((congrArg Bool.not (eH.eqv (x14:eH) (x15:eH))).trans e16)) ?_
 refine .mk .mk ?_
 refine .mk λx17=>?_
 exact .mk
 exact .mk
 intro _ _
 refine .mk ?_ ?_
 refine .mk ?_
 intro _ _
 refine .mk ?_
 refine .mk λx18=>?_
 refine .mk ?_ ?_
 refine .mk ?_
 refine .mk λx19 e19=>?_
 refine .mk λx20 e20=>?_
 refine .mk λx21 e21=>?_
 refine .mk _ (λH hH _=>SV (r':=x21) rfl aO6 rfl rfl (.cons (.int Tryz.underlying3) gI (.cons (.int Tryz.underlying3) gI (.cons (.int Tryz.underlying3) gI (.cons (.int Tryz.underlying3) gI (.cons (.int Tryz.underlying3) gI (.cons (.int Tryz.underlying3) gI (.nil _))))))) ((congrArg Bool.not (fU.eqv (x19:fU) (x20:fU))).trans e21)) ?_
 refine .mk .mk ?_
 refine .mk λx22=>?_
 exact .mk
 exact .mk
 intro _ _
 exact .mk
def ZS (a1:aB) (a2:aB):WB (Bool) :=
 .al 1<|.al 2<|.jn 0 [] [] [] (λ_ (a:Bool)=>[(4,bD a)]) (λ_ _=>[]) (.bB 9 (decide (a1.aI=a2.aI)) λx5=>.ifs [9] x5 (.bB 15 (decide (a1.Value=a2.Value)) λx6=>.ifs [15] x6 (.bB 22 (decide (a1.bN=a2.bN)) λx7=>.ret x7) (.ret false)) (.ret false)) (λy0_1=>.ret ((y0_1:Bool)))
def J4 (a1:aB) (a2:aB):Option (Bool):=(ZS a1 a2).run
theorem aX5 {a1 a2}:PZ (J4 a1 a2) 156 [.agg (aB.av a1),.agg (aB.av a2)] bD:=wq Tryz.func156
def YN (n:Nat) (a1:List aB) (a2:List aB):WB (Bool) :=
 .ln 7 aB.av a1<|.ln 9 aB.av a2<|.bB 10 (decide ((a1.length:Int)≠(a2.length:Int))) λx3=>.ifs [10] x3 (.ret ((false:Bool))) (.eZ 2 [4] [] [] (λ_ (a:Unit)=>[]) (λ_ _=>[]) (.lp [0,1,4] [] [] (λ_ (a:Int)=>[(5,int a)]) (λ_ _=>[]) n 0 (λy0_1=>.ln 13 aB.av a1<|.bB 14 (decide (y0_1<(a1.length:Int))) λx4=>.ifs [14] x4 (.dr [] [] [] [] [0,1,2,3,4,5,6,7,8,9] (.ix 19 aB.av a1 y0_1 λx5=>.ix 23 aB.av a2 y0_1 λx6=>.cl 25 (J4 x5 x6) aX4 aX5 λx7=>.bB 26 (!x7) λx8=>.ifs [26] x8 (.esc (.esc (.ret ((false:Bool))))) (.bI 16 (aW (y0_1+1)) λx9=>.brk x9))) (.esc (.brk ())))) (λ_=>.ret ((true:Bool))))
def KY (n:Nat) (a1:List aB) (a2:List aB):Option (Bool):=(YN n a1 a2).run
theorem aKN {n a1 a2}:PZ (KY n a1 a2) 114 [aN 3 aB.av a1,aN 3 aB.av a2] bD:=wq Tryz.func114
def aIJ (n:Nat) (a1:aQ) (a2:aQ):WB (Bool) :=
 .al 1<|.al 2<|.jn 0 [] [] [] (λ_ (a:Bool)=>[(4,bD a)]) (λ_ _=>[]) (.cl 9 (KY n a1.aG a2.aG) aW0 aKN λx5=>.ifs [9] x5 (.gv 12<|.gv 15<|.bB 17 (decide (a1.bH.a0=a2.bH.a0)) λx6=>.ifs [17] x6 (.gv 21<|.gv 24<|.bB 26 (decide (a1.bH.a1=a2.bH.a1)) λx7=>.ifs [26] x7 (.gv 30<|.gv 33<|.bB 35 (decide (a1.bH.a2=a2.bH.a2)) λx8=>.ret x8) (.ret false)) (.ret false)) (.ret false)) (λy0_1=>.ret ((y0_1:Bool)))
def NI (n:Nat) (a1:aQ) (a2:aQ):Option (Bool):=(aIJ n a1 a2).run
theorem aU6 {n a1 a2}:PZ (NI n a1 a2) 68 [.agg (aQ.av a1),.agg (aQ.av a2)] bD:=wq Tryz.func68
def UK (F:aP->aP->Option (Bool)) (hF:∀ {a1:aP} {a2:aP},PZ (F a1 a2) 39 [.agg [int a1.fO,bD a1.Closed,aN 4 aQ.av a1.bS,aN 1 fI a1.dK,aN 11 cK.av a1.dH,aN 1 fI a1.fZ,aN 1 fI a1.Down,aN 8 aP.av a1.fP],.agg [int a2.fO,bD a2.Closed,aN 4 aQ.av a2.bS,aN 1 fI a2.dK,aN 11 cK.av a2.dH,aN 1 fI a2.fZ,aN 1 fI a2.Down,aN 8 aP.av a2.fP]] bD) (n:Nat) (a1:aP) (a2:aP):WB (Bool) :=
 .al 1<|.al 2<|.jn 0 [2,3,4] [1,2] [] (λ_ (a:Bool)=>[(46,bD a)]) (λ_ _=>[]) (.bB 12 (decide (a1.fO≠a2.fO)) λx5=>.ifs [12] x5 (.ret true) (.bl (decide (a1.Closed≠a2.Closed):Bool) λx6=>.gv 18<|.ifs [18] x6 (.ret true) (.ln 23 aQ.av a1.bS<|.ln 26 aQ.av a2.bS<|.bB 27 (decide ((a1.bS.length:Int)≠(a2.bS.length:Int))) λx7=>.ifs [27] x7 (.ret true) (.ln 32 cK.av a1.dH<|.ln 35 cK.av a2.dH<|.bB 36 (decide ((a1.dH.length:Int)≠(a2.dH.length:Int))) λx8=>.ifs [36] x8 (.ret true) (.ln 41 aP.av a1.fP<|.ln 44 aP.av a2.fP<|.bB 45 (decide ((a1.fP.length:Int)≠(a2.fP.length:Int))) λx9=>.ret x9))))) (λy0_1=>.ifs [46] y0_1 (.ret ((false:Bool))) (.eZ 2 [2,3,4] [1,2] [] (λ_ (a:Unit)=>[]) (λ_ _=>[]) (.lp [2,3,4] [1,2] [] (λ_ (a:Int)=>[(5,int a)]) (λ_ _=>[]) n 0 (λy1_1=>.ln 50 aQ.av a1.bS<|.bB 51 (decide (y1_1<(a1.bS.length:Int))) λx10=>.ifs [51] x10 (.dr [(0,[1]),(1,[1]),(5,[2]),(6,[2])] [] [1,2] [] [0,1,2,3,4,5,6,7,8,9,10,11] (.ix 57 aQ.av a1.bS y1_1 λx11=>.ix 62 aQ.av a2.bS y1_1 λx12=>.cl 64 (NI n x11 x12) aR7 aU6 λx13=>.bB 65 (!x13) λx14=>.ifs [65] x14 (.esc (.esc (.ret ((false:Bool))))) (.bI 53 (aW (y1_1+1)) λx15=>.brk x15))) (.esc (.brk ())))) (λ_=>.eZ 1 [2,3,4] [1,2] [] (λ_ (a:Unit)=>[]) (λ_ _=>[]) (.lp [2,3,4] [1,2] [] (λ_ (a:Int)=>[(6,int a)]) (λ_ _=>[]) n 0 (λy3_1=>.ln 69 cK.av a1.dH<|.bB 70 (decide (y3_1<(a1.dH.length:Int))) λx16=>.ifs [70] x16 (.dr [(0,[1]),(1,[1]),(6,[2]),(7,[2])] [] [1,2] [] [0,1,2,3,4,5,6,7,8,9,10,11,12] (.ix 76 cK.av a1.dH y3_1 λx17=>.cl 78 (vY x17) DV DY λx18=>.ix 82 cK.av a2.dH y3_1 λx19=>.cl 84 (vY x19) DV DY λx20=>.bl (!decide ((x18:kH)=(x20:kH)):Bool) λx21=>.gv 85<|.ifs [85] x21 (.esc (.esc (.ret ((false:Bool))))) (.bI 72 (aW (y3_1+1)) λx22=>.brk x22))) (.esc (.brk ())))) (λ_=>.eZ 1 [2,3,4] [1,2] [] (λ_ (a:Unit)=>[]) (λ_ _=>[]) (.lp [2,3,4] [1,2] [] (λ_ (a:Int)=>[(7,int a)]) (λ_ _=>[]) n 0 (λy5_1=>.ln 89 aP.av a1.fP<|.bB 90 (decide (y5_1<(a1.fP.length:Int))) λx23=>.ifs [90] x23 (.dr [(0,[1]),(1,[1]),(5,[2]),(6,[2])] [] [1,2] [] [0,1,2,3,4,5,6,7,8,9,10,11] (.iG 96 aP.av gE aP.eP a1.fP y5_1 λx24=>.iG 101 aP.av gE aP.eP a2.fP y5_1 λx25=>.cl 103 (F x24 x25) aEM hF λx26=>.bB 104 (!x26) λx27=>.ifs [104] x27 (.esc (.esc (.ret ((false:Bool))))) (.bI 92 (aW (y5_1+1)) λx28=>.brk x28))) (.esc (.brk ())))) (λ_=>.jn 0 [] [] [] (λ_ (a:Bool)=>[(4,bD a)]) (λ_ _=>[]) (.cl 109 (sD n a1.dK a2.dK) CV CZ λx29=>.ifs [109] x29 (.cl 115 (sD n a1.fZ a2.fZ) CV CZ λx30=>.ifs [115] x30 (.cl 122 (sD n a1.Down a2.Down) CV CZ λx31=>.ret x31) (.ret false)) (.ret false)) (λy7_1=>.ret ((y7_1:Bool))))))))
noncomputable def MZ:Nat->{ F:aP->aP->Option (Bool) // ∀ {a1:aP} {a2:aP},PZ (F a1 a2) 39 [.agg [int a1.fO,bD a1.Closed,aN 4 aQ.av a1.bS,aN 1 fI a1.dK,aN 11 cK.av a1.dH,aN 1 fI a1.fZ,aN 1 fI a1.Down,aN 8 aP.av a1.fP],.agg [int a2.fO,bD a2.Closed,aN 4 aQ.av a2.bS,aN 1 fI a2.dK,aN 11 cK.av a2.dH,aN 1 fI a2.fZ,aN 1 fI a2.Down,aN 8 aP.av a2.fP]] bD }
 | 0=>⟨λ_ _=>none,λ_ h=>nomatch h⟩
 | n+1=>⟨λa1 a2=>(UK (MZ n).1 (MZ n).2 n a1 a2).run,wq Tryz.func39⟩
noncomputable def wZ (n:Nat) (a1:aP) (a2:aP):Option (Bool):=(MZ n).1 a1 a2
theorem aHL {n a1 a2}:PZ (wZ n a1 a2) 39 [.agg [int a1.fO,bD a1.Closed,aN 4 aQ.av a1.bS,aN 1 fI a1.dK,aN 11 cK.av a1.dH,aN 1 fI a1.fZ,aN 1 fI a1.Down,aN 8 aP.av a1.fP],.agg [int a2.fO,bD a2.Closed,aN 4 aQ.av a2.bS,aN 1 fI a2.dK,aN 11 cK.av a2.dH,aN 1 fI a2.fZ,aN 1 fI a2.Down,aN 8 aP.av a2.fP]] bD:=(MZ n).2
theorem aO2 {n:Nat} {a1:aP} {a2:aP}:wZ (n+1) a1 a2=(UK (wZ n) aHL n a1 a2).run:=rfl
def aIN (n:Nat) (a1:aA) (a2:aA):WB (Bool) :=
 .al 1<|.al 2<|.jn 0 [2,3,4] [1,2] [] (λ_ (a:Bool)=>[(33,bD a)]) (λ_ _=>[]) (.cl 10 (JP n a1.bJ a2.bJ) a0A aM7 λx5=>.bB 11 (!x5) λx6=>.ifs [11] x6 (.ret true) (.ln 15 aP.av a1.bC<|.ln 18 aP.av a2.bC<|.bB 19 (decide ((a1.bC.length:Int)≠(a2.bC.length:Int))) λx7=>.ifs [19] x7 (.ret true) (.bB 26 (decide (a1.Done≠a2.Done)) λx8=>.ifs [26] x8 (.ret true) (.cl 31 (JO n a1 a2) aZK aSV λx9=>.bB 32 (!x9) λx10=>.ret x10)))) (λy0_1=>.ifs [33] y0_1 (.ret ((false:Bool))) (.eZ 2 [4] [] [] (λ_ (a:Unit)=>[]) (λ_ _=>[]) (.lp [2,3,4] [1,2] [] (λ_ (a:Int)=>[(5,int a)]) (λ_ _=>[]) n 0 (λy1_1=>.ln 37 aP.av a1.bC<|.bB 38 (decide (y1_1<(a1.bC.length:Int))) λx11=>.ifs [38] x11 (.dr [(0,[1]),(1,[1]),(5,[2]),(6,[2])] [] [1,2] [] [0,1,2,3,4,5,6,7,8,9,10,11] (.iG 44 aP.av gE aP.eP a1.bC y1_1 λx12=>.iG 49 aP.av gE aP.eP a2.bC y1_1 λx13=>.cl 51 (wZ n x12 x13) aEM aHL λx14=>.bB 52 (!x14) λx15=>.ifs [52] x15 (.esc (.esc (.ret ((false:Bool))))) (.bI 40 (aW (y1_1+1)) λx16=>.brk x16))) (.esc (.brk ())))) (λ_=>.ret ((true:Bool)))))
def yF (n:Nat) (a1:aA) (a2:aA):Option (Bool):=(aIN n a1 a2).run
theorem QX {n a1 a2}:PZ (yF n a1 a2) 22 [.agg (aA.av a1),.agg (aA.av a2)] bD:=wq Tryz.func22
def aQR (n:Nat) :WB (Bool) :=
 .cl 8 (aCR n 1 10 100) aUD aUL λx1=>.inl 10 FH Tryz.func13 [] [] (λ_ (a:aA×Int)=>.bT [.agg (aA.av a.1),int a.2]) (λ_ _=>[]) (.al 1<|.al 2<|.al 3<|.dr [(1,[2]),(2,[2])] [(8,[])] [2] [7,8] [0,1,2,3,4,5,6,7,8,9] (.gv 12<|.gv 15<|.al 4<|.cl 26 (mI x1 0 1) nZ oI λx6=>.bB 28 (decide (x6≠0)) λx7=>.ifs [28] x7 (.ret ((x1:aA),x6)) (.cl 36 (xR n x1 (⟨6,0,1,0,0,4,0,0,[]⟩:bM)) IV OP λx8=>.al 5<|.bB 40 (decide (x8.2≠0)) λx10=>.ifs [40] x10 (.ret ((x1:aA),x8.2)) (.ret ((x8.1:aA),0))))) (pw λy0_1 y0_2=>.al 6<|.inl 16 FH Tryz.func13 [6] [] (λ_ (a:aA×Int)=>.bT [.agg (aA.av a.1),int a.2]) (λ_ _=>[]) (.al 7<|.al 8<|.al 9<|.dr [(1,[8]),(2,[8])] [(8,[])] [8] [7,8] [0,1,2,3,4,5,6,7,8,9] (.gv 12<|.gv 15<|.al 10<|.cl 26 (mI y0_1 0 1) nZ oI λx16=>.bB 28 (decide (x16≠0)) λx17=>.ifs [28] x17 (.ret ((y0_1:aA),x16)) (.cl 36 (xV n y0_1 (⟨7,0,1,0,0,6,0,0,[]⟩:bM)) M6 OS λx18=>.al 11<|.bB 40 (decide (x18.2≠0)) λx20=>.ifs [40] x20 (.ret ((y0_1:aA),x18.2)) (.ret ((x18.1:aA),0))))) (pw λy1_1 y1_2=>.al 12<|.inl 22 FH Tryz.func13 [6,12] [] (λ_ (a:aA×Int)=>.bT [.agg (aA.av a.1),int a.2]) (λ_ _=>[]) (.al 13<|.al 14<|.al 15<|.dr [(1,[14]),(2,[14])] [(8,[])] [14] [7,8] [0,1,2,3,4,5,6,7,8,9] (.gv 12<|.gv 15<|.al 16<|.cl 26 (mI y0_1 0 1) nZ oI λx26=>.bB 28 (decide (x26≠0)) λx27=>.ifs [28] x27 (.ret ((y0_1:aA),x26)) (.cl 36 (zJ n y0_1 (⟨9,0,1,0,0,0,6,0,[]⟩:bM)) KE IR λx28=>.al 17<|.bB 40 (decide (x28.2≠0)) λx30=>.ifs [40] x30 (.ret ((y0_1:aA),x28.2)) (.ret ((x28.1:aA),0))))) (pw λy2_1 y2_2=>.al 18<|.jn 0 [] [] [] (λ_ (a:Bool)=>[(0,bD a)]) (λ_ _=>[]) (.bB 26 (decide (y0_2=0)) λx32=>.ifs [26] x32 (.ln 30 aP.av y0_1.bC<|.bB 31 (decide ((y0_1.bC.length:Int)=2)) λx33=>.ifs [31] x33 (.iG 36 aP.av gE aP.eP y0_1.bC 0 λx34=>.ix 39 fI x34.dK 7 λx35=>.bB 41 (decide (x35=40)) λx36=>.ifs [41] x36 (.bB 45 (decide (y1_2=0)) λx37=>.ifs [45] x37 (.cl 50 (yF n y0_1 y1_1) QL QX λx38=>.ifs [50] x38 (.bB 54 (decide (y2_2=12)) λx39=>.ret x39) (.ret false)) (.ret false)) (.ret false)) (.ret false)) (.ret false)) (λy3_1=>.ret ((y3_1:Bool))))))
def DD (n:Nat) :Option (Bool):=(aQR n ).run
theorem NR {n}:PZ (DD n ) 9 [] bD:=by
 refine wm Tryz.func9 ?_
 refine .mk λx1 e1=>?_
 refine .mk ?_ ?_
 intro v2
 intro v3
 intro v4
 refine .mk ?_
 refine .mk _ (λH hH _=>w9 rfl rfl .nil G4 (dX.refl _) EY) ?_
 refine .mk _ (λH hH _=>sI (j:=0) rfl Tryz.underlying68 Tryz.underlying3 rfl rfl rfl rfl) ?_
 intro v5
 refine .mk λx6 e6=>?_
 refine .mk λx7=>?_
 refine .mk .mk ?_
 refine .mk (λx8 e8=>?_) rfl (by rintro _ rfl;exact (.cons (.refl _) (.cons (dX.agg (.cons (.refl _) (.cons (.refl _) (.cons (.refl _) (.cons (.refl _) (.cons (.refl _) (.cons (.refl _) (.cons (.refl _) (.cons (.refl _) (.cons (.nil _) .nil)))))))))) .nil)))
 intro v9
 refine .mk λx10=>?_
 refine .mk .mk ?_
 exact .mk
 intro _ _
 refine .mk trivial ?_
 intro v11
 refine .mk ?_ ?_
 intro v12
 intro v13
 intro v14
 refine .mk ?_
 refine .mk _ (λH hH _=>w9 rfl rfl .nil G4 (dX.refl _) EY) ?_
 refine .mk _ (λH hH _=>sI (j:=1) rfl Tryz.underlying68 Tryz.underlying3 rfl rfl rfl rfl) ?_
 intro v15
 refine .mk λx16 e16=>?_
 refine .mk λx17=>?_
 refine .mk .mk ?_
 refine .mk (λx18 e18=>?_) rfl (by rintro _ rfl;exact (.cons (.refl _) (.cons (dX.agg (.cons (.refl _) (.cons (.refl _) (.cons (.refl _) (.cons (.refl _) (.cons (.refl _) (.cons (.refl _) (.cons (.refl _) (.cons (.refl _) (.cons (.nil _) .nil)))))))))) .nil)))
 intro v19
 refine .mk λx20=>?_
 refine .mk .mk ?_
 exact .mk
 intro _ _
 refine .mk trivial ?_
 intro v21
 refine .mk ?_ ?_
 intro v22
 intro v23
 intro v24
 refine .mk ?_
 refine .mk _ (λH hH _=>w9 rfl rfl .nil G4 (dX.refl _) EY) ?_
 refine .mk _ (λH hH _=>sI (j:=3) rfl Tryz.underlying68 Tryz.underlying3 rfl rfl rfl rfl) ?_
 intro v25
 refine .mk λx26 e26=>?_
 refine .mk λx27=>?_
 refine .mk .mk ?_
 refine .mk (λx28 e28=>?_) rfl (by rintro _ rfl;exact (.cons (.refl _) (.cons (dX.agg (.cons (.refl _) (.cons (.refl _) (.cons (.refl _) (.cons (.refl _) (.cons (.refl _) (.cons (.refl _) (.cons (.refl _) (.cons (.refl _) (.cons (.nil _) .nil)))))))))) .nil)))
 intro v29
 refine .mk λx30=>?_
 refine .mk .mk ?_
 exact .mk
 intro _ _
 refine .mk trivial ?_
 intro v31
 refine .mk ?_ ?_
 refine .mk λx32=>?_
 refine .mk ?_ ?_
 refine .mk ?_
 refine .mk λx33=>?_
 refine .mk ?_ ?_
 refine .mk λx34 e34=>?_
 refine .mk λx35 e35=>?_
 refine .mk λx36=>?_
 refine .mk ?_ ?_
 refine .mk λx37=>?_
 refine .mk ?_ ?_
 refine .mk λx38 e38=>?_
 refine .mk ?_ ?_
 refine .mk λx39=>?_
 exact .mk
 exact .mk
 exact .mk
 exact .mk
 exact .mk
 exact .mk
 intro _ _
 exact .mk
def YE (n:Nat) (a1:aA) (a2:bM):WB (Bool) :=
 .al 1<|.al 2<|.inl 12 FH Tryz.func13 [1,2] [] (λ_ (a:aA×Int)=>.bT [.agg (aA.av a.1),int a.2]) (λ_ _=>[]) (.al 3<|.al 4<|.al 5<|.dr [(1,[4]),(2,[4])] [(8,[])] [4] [7,8] [0,1,2,3,4,5,6,7,8,9] (.gv 12<|.wt 14<|.sp [14] a2.Kind 6 (.gv 15<|.al 6<|.cl 26 (mI a1 a2.E a2.Item) nZ oI λx28=>.bB 28 (decide (x28≠0)) λx29=>.ifs [28] x29 (.ret ((a1:aA),x28)) (.cl 36 (xR n a1 a2) IV OP λx30=>.al 7<|.bB 40 (decide (x30.2≠0)) λx32=>.ifs [40] x32 (.ret ((a1:aA),x30.2)) (.ret ((x30.1:aA),0)))) (.sp [14] a2.Kind 7 (.gv 15<|.al 6<|.cl 26 (mI a1 a2.E a2.Item) nZ oI λx22=>.bB 28 (decide (x22≠0)) λx23=>.ifs [28] x23 (.ret ((a1:aA),x22)) (.cl 36 (xV n a1 a2) M6 OS λx24=>.al 7<|.bB 40 (decide (x24.2≠0)) λx26=>.ifs [40] x26 (.ret ((a1:aA),x24.2)) (.ret ((x24.1:aA),0)))) (.sp [14] a2.Kind 8 (.gv 15<|.al 6<|.cl 26 (mI a1 a2.E a2.Item) nZ oI λx16=>.bB 28 (decide (x16≠0)) λx17=>.ifs [28] x17 (.ret ((a1:aA),x16)) (.cl 36 (zT n a1 a2) QI QT λx18=>.al 7<|.bB 40 (decide (x18.2≠0)) λx20=>.ifs [40] x20 (.ret ((a1:aA),x18.2)) (.ret ((x18.1:aA),0)))) (.sp [14] a2.Kind 9 (.gv 15<|.al 6<|.cl 26 (mI a1 a2.E a2.Item) nZ oI λx10=>.bB 28 (decide (x10≠0)) λx11=>.ifs [28] x11 (.ret ((a1:aA),x10)) (.cl 36 (zJ n a1 a2) KE IR λx12=>.al 7<|.bB 40 (decide (x12.2≠0)) λx14=>.ifs [40] x14 (.ret ((a1:aA),x12.2)) (.ret ((x12.1:aA),0)))) (.as (a2.Kind≠6/\a2.Kind≠7/\a2.Kind≠8/\a2.Kind≠9) inferInstance<|.gv 15<|.al 6<|.ret ((a1:aA),1))))))) (pw λy0_1 y0_2=>.al 8<|.cl 18 (qB n a1 a2) aBO aIM λx34=>.al 9<|.jn 0 [] [] [] (λ_ (a:Bool)=>[(4,bD a)]) (λ_ _=>[]) (.cl 23 (yF n y0_1 x34.1) QL QX λx36=>.ifs [23] x36 (.bB 27 (decide (y0_2=x34.2)) λx37=>.ifs [27] x37 (.bB 31 (decide (y0_2=0)) λx38=>.ifs [31] x38 (.cl 40 (FF n y0_1) aCU aGC λx39=>.ret x39) (.cl 35 (yF n y0_1 a1) QL QX λx40=>.ifs [35] x40 (.cl 40 (FF n y0_1) aCU aGC λx41=>.ret x41) (.ret false))) (.ret false)) (.ret false)) (λy1_1=>.ret ((y1_1:Bool))))
def G9 (n:Nat) (a1:aA) (a2:bM):Option (Bool):=(YE n a1 a2).run
theorem aCM {n a1 a2}:PZ (G9 n a1 a2) 10 [.agg (aA.av a1),.agg (bM.av a2)] bD:=by
 refine wm Tryz.func10 ?_
 intro v3
 intro v4
 refine .mk ?_ ?_
 intro v5
 intro v6
 intro v7
 refine .mk ?_
 refine .mk _ (λH hH _=>w9 rfl rfl .nil G4 (dX.refl _) EY) ?_
 refine .mk ?_ ?_
 refine .mk _ (λH hH _=>sI (j:=0) rfl Tryz.underlying68 Tryz.underlying3 rfl rfl rfl rfl) ?_
 intro v27
 refine .mk λx28 e28=>?_
 refine .mk λx29=>?_
 refine .mk .mk ?_
 refine .mk λx30 e30=>?_
 intro v31
 refine .mk λx32=>?_
 refine .mk .mk ?_
 exact .mk
 refine .mk ?_ ?_
 refine .mk _ (λH hH _=>sI (j:=1) rfl Tryz.underlying68 Tryz.underlying3 rfl rfl rfl rfl) ?_
 intro v21
 refine .mk λx22 e22=>?_
 refine .mk λx23=>?_
 refine .mk .mk ?_
 refine .mk λx24 e24=>?_
 intro v25
 refine .mk λx26=>?_
 refine .mk .mk ?_
 exact .mk
 refine .mk ?_ ?_
 refine .mk _ (λH hH _=>sI (j:=2) rfl Tryz.underlying68 Tryz.underlying3 rfl rfl rfl rfl) ?_
 intro v15
 refine .mk λx16 e16=>?_
 refine .mk λx17=>?_
 refine .mk .mk ?_
 refine .mk λx18 e18=>?_
 intro v19
 refine .mk λx20=>?_
 refine .mk .mk ?_
 exact .mk
 refine .mk ?_ ?_
 refine .mk _ (λH hH _=>sI (j:=3) rfl Tryz.underlying68 Tryz.underlying3 rfl rfl rfl rfl) ?_
 intro v9
 refine .mk λx10 e10=>?_
 refine .mk λx11=>?_
 refine .mk .mk ?_
 refine .mk λx12 e12=>?_
 intro v13
 refine .mk λx14=>?_
 refine .mk .mk ?_
 exact .mk
 refine .mk λpk2=>?_
 refine .mk _ (λH hH _=>aA1 rfl Tryz.underlying68 Tryz.underlying3 rfl rfl (aDG pk2) aIF) ?_
 intro v8
 exact .mk
 intro _ _
 refine .mk trivial ?_
 intro v33
 refine .mk λx34 e34=>?_
 intro v35
 refine .mk ?_ ?_
 refine .mk λx36 e36=>?_
 refine .mk ?_ ?_
 refine .mk λx37=>?_
 refine .mk ?_ ?_
 refine .mk λx38=>?_
 refine .mk ?_ ?_
 refine .mk λx39 e39=>?_
 exact .mk
 refine .mk λx40 e40=>?_
 refine .mk ?_ ?_
 refine .mk λx41 e41=>?_
 exact .mk
 exact .mk
 exact .mk
 exact .mk
 intro _ _
 exact .mk
def aF6 (n:Nat) (a1:Int) (a2:List Int) (a3:Int) (a4:Int):WB (Bool) :=
 .cl 13 (FW n a1) aFR aB4 λx5=>.al 1<|.cl 16 (G7 n x5 a2) aBX aE8 λx7=>.al 2<|.cl 20 (GZ n x5 a3 a4) aGB YQ λx9=>.al 3<|.cl 22 (tX n x9) FI EX λx11=>.bB 23 (!x11) λx12=>.ifs [23] x12 (.cl 24 (DD n) M5 NR λx13=>.ret ((x13:Bool))) (.jn 1 [] [] [] (λ_ (a:Bool)=>[(8,bD a)]) (λ_ _=>[]) (.cl 27 (G9 n x7 x9) aH5 aCM λx14=>.ifs [27] x14 (.cl 29 (DD n) M5 NR λx15=>.ret x15) (.ret false)) (λy0_1=>.ret ((y0_1:Bool))))
def S7 (n:Nat) (a1:Int) (a2:List Int) (a3:Int) (a4:Int):Option (Bool):=(aF6 n a1 a2 a3 a4).run
theorem aKS {n a1 a2 a3 a4}:PZ (S7 n a1 a2 a3 a4) 3 [int a1,aN 1 fI a2,int a3,int a4] bD:=wq Tryz.func3
def aYT (n:Nat) (a1:Int) (a2:List Int) (a3:List Int):WB (Bool) :=
 .cl 12 (FW n a1) aFR aB4 λx4=>.al 1<|.cl 15 (G7 n x4 a2) aBX aE8 λx6=>.al 2<|.eZ 1 [6] [] [] (λ_ (a:Unit)=>[]) (λ_ _=>[]) (.lp [2,6,7,8] [1] [] (λ_ (a:Int×aA)=>[(9,int a.1)]) (λ_ a=>[.kp 2 [(aA.av a.2)]]) n ((0:Int),x6) (pw λy0_1 y0_2=>.jn 0 [2,6,7,8,9] [1,2] [] (λ_ (a:Bool)=>[(23,bD a)]) (λ_ _=>[]) (.ln 18 fI a3<|.bB 19 (decide (y0_1<(a3.length:Int))) λx8=>.ifs [19] x8 (.bB 22 (decide (y0_1<25)) λx9=>.ret x9) (.ret false)) (λy1_1=>.ifs [23] y1_1 (.eZ 1 [2,6,7,8,9] [1] [] (λ_ (a:aA)=>[]) (λ_ a=>[.kp 2 [(aA.av a)]]) (.dr [(0,[1])] [(7,[])] [1] [6,7] [0,1,2,3,4,5,6,7] (.ix 29 fI a3 y0_1 λx10=>.cl 31 (GZ n x4 x10 9) aGB YQ λx11=>.al 3<|.ix 34 fI a3 y0_1 λx13=>.bI 36 (x13.tmod 4) λx14=>.bB 37 (decide (x14=0)) λx15=>.ifs [37] x15 (.dr [(0,[1])] [(6,[])] [1] [6] [0,1,2,3,4,5,6] (.ix 41 fI a3 y0_1 λx16=>.cl 43 (zM x4 x16) KS K7 λx17=>.cl 47 (ER n y0_2 x17) aHS aAM λx18=>.brk x18.1)) (.jn 1 [2,6,7,8,9,10] [1,2,3] [] (λ_ (a:Bool)=>[(58,bD a)]) (λ_ _=>[]) (.cl 51 (tX n x11) FI EX λx19=>.bB 52 (!x19) λx20=>.ifs [52] x20 (.ret true) (.cl 56 (G9 n y0_2 x11) aH5 aCM λx21=>.bB 57 (!x21) λx22=>.ret x22)) (λy2_1=>.ifs [58] y2_1 (.jn 1 [2,7,8,9,10] [1,2,3] [] (λ_ (a:Bool)=>[(6,bD a)]) (λ_ _=>[]) (.cl 60 (tX n x11) FI EX λx23=>.bB 61 (!x23) λx24=>.ifs [61] x24 (.cl 63 (DD n) M5 NR λx25=>.ret x25) (.ret false)) (λy3_1=>.esc (.esc (.esc (.ret ((y3_1:Bool))))))) (.inl 68 FH Tryz.func13 [1,2,3] [] (λ_ (a:aA×Int)=>.bT [.agg (aA.av a.1),int a.2]) (λ_ _=>[]) (.al 4<|.al 5<|.al 6<|.dr [(1,[5]),(2,[5])] [(8,[])] [5] [7,8] [0,1,2,3,4,5,6,7,8,9] (.gv 12<|.wt 14<|.sp [14] x11.Kind 6 (.gv 15<|.al 7<|.cl 26 (mI y0_2 x11.E x11.Item) nZ oI λx49=>.bB 28 (decide (x49≠0)) λx50=>.ifs [28] x50 (.ret ((y0_2:aA),x49)) (.cl 36 (xR n y0_2 x11) IV OP λx51=>.al 8<|.bB 40 (decide (x51.2≠0)) λx53=>.ifs [40] x53 (.ret ((y0_2:aA),x51.2)) (.ret ((x51.1:aA),0)))) (.sp [14] x11.Kind 7 (.gv 15<|.al 7<|.cl 26 (mI y0_2 x11.E x11.Item) nZ oI λx43=>.bB 28 (decide (x43≠0)) λx44=>.ifs [28] x44 (.ret ((y0_2:aA),x43)) (.cl 36 (xV n y0_2 x11) M6 OS λx45=>.al 8<|.bB 40 (decide (x45.2≠0)) λx47=>.ifs [40] x47 (.ret ((y0_2:aA),x45.2)) (.ret ((x45.1:aA),0)))) (.sp [14] x11.Kind 8 (.gv 15<|.al 7<|.cl 26 (mI y0_2 x11.E x11.Item) nZ oI λx37=>.bB 28 (decide (x37≠0)) λx38=>.ifs [28] x38 (.ret ((y0_2:aA),x37)) (.cl 36 (zT n y0_2 x11) QI QT λx39=>.al 8<|.bB 40 (decide (x39.2≠0)) λx41=>.ifs [40] x41 (.ret ((y0_2:aA),x39.2)) (.ret ((x39.1:aA),0)))) (.sp [14] x11.Kind 9 (.gv 15<|.al 7<|.cl 26 (mI y0_2 x11.E x11.Item) nZ oI λx31=>.bB 28 (decide (x31≠0)) λx32=>.ifs [28] x32 (.ret ((y0_2:aA),x31)) (.cl 36 (zJ n y0_2 x11) KE IR λx33=>.al 8<|.bB 40 (decide (x33.2≠0)) λx35=>.ifs [40] x35 (.ret ((y0_2:aA),x33.2)) (.ret ((x33.1:aA),0)))) (.as (x11.Kind≠6/\x11.Kind≠7/\x11.Kind≠8/\x11.Kind≠9) inferInstance<|.gv 15<|.al 7<|.ret ((y0_2:aA),1))))))) (pw λy4_1 y4_2=>.brk y4_1)))))) (λy5_1=>.bI 25 (aW (y0_1+1)) λx54=>.brk ((x54:Int),y5_1))) (.esc (.brk ()))))) (λ_=>.cl 71 (DD n) M5 NR λx55=>.ret ((x55:Bool)))
def aTF (n:Nat) (a1:Int) (a2:List Int) (a3:List Int):Option (Bool):=(aYT n a1 a2 a3).run
theorem a0O {n a1 a2 a3}:PZ (aTF n a1 a2 a3) 4 [int a1,aN 1 fI a2,aN 1 fI a3] bD:=by
 refine wm Tryz.func4 ?_
 refine .mk λx4 e4=>?_
 intro v5
 refine .mk λx6 e6=>?_
 intro v7
 refine .mk ?_ ?_
 refine .mk ?_
 intro _ _
 refine .mk ?_ ?_
 refine .mk ?_
 refine .mk λx8=>?_
 refine .mk ?_ ?_
 refine .mk λx9=>?_
 exact .mk
 exact .mk
 intro _ _
 refine .mk ?_ ?_
 refine .mk ?_ ?_
 refine .mk ?_
 refine .mk λx10 e10=>?_
 refine .mk λx11 e11=>?_
 intro v12
 refine .mk λx13 e13=>?_
 refine .mk λx14=>?_
 refine .mk λx15=>?_
 refine .mk ?_ ?_
 refine .mk ?_
 refine .mk λx16 e16=>?_
 refine .mk λx17 e17=>?_
 refine .mk λx18 e18=>?_
 exact .mk
 refine .mk ?_ ?_
 refine .mk λx19 e19=>?_
 refine .mk λx20=>?_
 refine .mk .mk ?_
 refine .mk λx21 e21=>?_
 refine .mk λx22=>?_
 exact .mk
 intro _ _
 refine .mk ?_ ?_
 refine .mk ?_ ?_
 refine .mk λx23 e23=>?_
 refine .mk λx24=>?_
 refine .mk ?_ ?_
 refine .mk λx25 e25=>?_
 exact .mk
 exact .mk
 intro _ _
 exact .mk
 refine .mk ?_ ?_
 intro v26
 intro v27
 intro v28
 refine .mk ?_
 refine .mk _ (λH hH _=>w9 rfl rfl .nil G4 (dX.refl _) EY) ?_
 refine .mk ?_ ?_
 refine .mk _ (λH hH _=>sI (j:=0) rfl Tryz.underlying68 Tryz.underlying3 rfl rfl rfl rfl) ?_
 intro v48
 refine .mk λx49 e49=>?_
 refine .mk λx50=>?_
 refine .mk .mk ?_
 refine .mk λx51 e51=>?_
 intro v52
 refine .mk λx53=>?_
 refine .mk .mk ?_
 exact .mk
 refine .mk ?_ ?_
 refine .mk _ (λH hH _=>sI (j:=1) rfl Tryz.underlying68 Tryz.underlying3 rfl rfl rfl rfl) ?_
 intro v42
 refine .mk λx43 e43=>?_
 refine .mk λx44=>?_
 refine .mk .mk ?_
 refine .mk λx45 e45=>?_
 intro v46
 refine .mk λx47=>?_
 refine .mk .mk ?_
 exact .mk
 refine .mk ?_ ?_
 refine .mk _ (λH hH _=>sI (j:=2) rfl Tryz.underlying68 Tryz.underlying3 rfl rfl rfl rfl) ?_
 intro v36
 refine .mk λx37 e37=>?_
 refine .mk λx38=>?_
 refine .mk .mk ?_
 refine .mk λx39 e39=>?_
 intro v40
 refine .mk λx41=>?_
 refine .mk .mk ?_
 exact .mk
 refine .mk ?_ ?_
 refine .mk _ (λH hH _=>sI (j:=3) rfl Tryz.underlying68 Tryz.underlying3 rfl rfl rfl rfl) ?_
 intro v30
 refine .mk λx31 e31=>?_
 refine .mk λx32=>?_
 refine .mk .mk ?_
 refine .mk λx33 e33=>?_
 intro v34
 refine .mk λx35=>?_
 refine .mk .mk ?_
 exact .mk
 refine .mk λpk6=>?_
 refine .mk _ (λH hH _=>aA1 rfl Tryz.underlying68 Tryz.underlying3 rfl rfl (aDG pk6) aIF) ?_
 intro v29
 exact .mk
 intro _ _
 refine .mk trivial ?_
 exact .mk
 intro _ _
 refine .mk λx54=>?_
 exact .mk
 exact .mk
 intro _ _
 refine .mk λx55 e55=>?_
 exact .mk
end
end Go.Pv
