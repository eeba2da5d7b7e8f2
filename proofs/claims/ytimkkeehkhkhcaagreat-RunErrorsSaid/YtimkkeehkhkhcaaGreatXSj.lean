import Derived.Test.YtimkkeehkhkhcaaGreatXSi
set_option linter.unusedVariables false
set_option linter.unusedSimpArgs false
namespace Go.Pv
open Go.Proofs
set_option maxRecDepth 100000
set_option maxHeartbeats 4000000
noncomputable section
def VQ (n:Nat) (a1:List UInt8) (a2:List UInt8):WB ((List UInt8)×(List Int)×Int) :=
 .cl 12 (sI n a1) MH (λ_=>T8) λx3=>.al 1<|.bB 16 (decide (x3.2≠0)) λx5=>.ifs [16] x5 (.ret ((([]:List UInt8):List UInt8),([]:List Int),x3.2)) (.cl 20 (xQ n a2) aLK (λ_=>aAD) λx6=>.bB 24 (decide (x6.2≠0)) λx7=>.ifs [24] x7 (.ret ((([]:List UInt8):List UInt8),([]:List Int),x6.2)) (.cl 29 (KC n x3.1 x6.1) QK UN λx8=>.al 2<|.cl 34 (O8 n x8.1) WU Z0 λx10=>.ret ((x10:List UInt8),x8.2.1,x8.2.2)))
def oH (n:Nat) (a1:List UInt8) (a2:List UInt8):Option ((List UInt8)×(List Int)×Int):=(VQ n a1 a2).run
theorem vO {n a1 a2}:PZ (oH n a1 a2) 7 [str a1,str a2] (λr=>.aM [str r.1,aG 1 fI r.2.1,int r.2.2]):=wq Tryz.func7
def aF4 (n:Nat) (a1:List Int) (a2:Int) (a3:Int) (a4:Int):WB (Bool) :=
 .ln 11 fI a1<|.bB 13 (decide ((a1.length:Int)≠a2)) λx5=>.az [13] x5 (.jn 2 [8] [] [] (λ_ (a:Unit)=>[]) (λ_ _=>[]) (.lp [0,1,2,3,8] [] [] (λ_ (a:Int)=>[(9,int a)]) (λ_ _=>[]) n 0 (λy0_1=>.bB 16 (decide (y0_1<a2)) λx6=>.ifs [16] x6 (.jn 2 [0,1,2,3,8,9] [] [] (λ_ (a:Bool)=>[(32,aA a)]) (λ_ _=>[]) (.ix 21 fI a1 y0_1 λx7=>.bB 24 (decide (x7<a3)) λx8=>.ifs [24] x8 (.ret true) (.ix 28 fI a1 y0_1 λx9=>.bB 31 (decide (x9>a4)) λx10=>.ret x10)) (λy1_1=>.az [32] y1_1 (.bI 18 (bL (y0_1+1)) λx11=>.brk x11))) (.esc (.ret ())))) (λ_=>.ret ((true:Bool))))
def DZ (n:Nat) (a1:List Int) (a2:Int) (a3:Int) (a4:Int):Option (Bool):=(aF4 n a1 a2 a3 a4).run
theorem JU {n a1 a2 a3 a4}:PZ (DZ n a1 a2 a3 a4) 25 [aG 1 fI a1,int a2,int a3,int a4] aA:=wq Tryz.func25
def aA0 (n:Nat) (a1:dB):WB (Bool) :=
 .al 1<|.ln 7 fI a1.bC<|.jn 0 [1,2,3] [1] [] (λ_ (a:Bool)=>[(56,aA a)]) (λ_ _=>[]) (.bB 10 (decide (a1.fT<1)) λx3=>.ifs [10] x3 (.ret true) (.bB 14 (decide (a1.fT>4)) λx4=>.ifs [14] x4 (.ret true) (.bB 19 (decide (a1.iX<1)) λx5=>.ifs [19] x5 (.ret true) (.bB 24 (decide (a1.iX>12)) λx6=>.ifs [24] x6 (.ret true) (.bB 28 (decide ((a1.bC.length:Int)<1)) λx7=>.ifs [28] x7 (.ret true) (.bB 32 (decide ((a1.bC.length:Int)>5)) λx8=>.ifs [32] x8 (.ret true) (.cl 38 (DZ n a1.bC (a1.bC.length:Int) 0 1073741824) LA JU λx9=>.bB 39 (!x9) λx10=>.ifs [39] x10 (.ret true) (.ln 44 (fL 1 fI) a1.Methods<|.bB 47 (decide ((a1.Methods.length:Int)≠a1.fT)) λx11=>.ifs [47] x11 (.ret true) (.ln 52 (fL 1 fI) a1.iF<|.bB 55 (decide ((a1.iF.length:Int)≠a1.fT)) λx12=>.ret x12))))))))) (λy0_1=>.az [56] y0_1 (.jn 2 [2] [] [] (λ_ (a:Unit)=>[]) (λ_ _=>[]) (.lp [1,2,3] [1] [] (λ_ (a:Int)=>[(4,int a)]) (λ_ _=>[]) n 0 (λy1_1=>.bB 60 (decide (y1_1<a1.fT)) λx13=>.ifs [60] x13 (.jn 2 [1,2,3,4] [1] [] (λ_ (a:Bool)=>[(80,aA a)]) (λ_ _=>[]) (.ix 66 (fL 1 fI) a1.Methods y1_1 λx14=>.cl 69 (DZ n x14 (a1.bC.length:Int) 1 4) LA JU λx15=>.bB 70 (!x15) λx16=>.ifs [70] x16 (.ret true) (.ix 75 (fL 1 fI) a1.iF y1_1 λx17=>.cl 78 (DZ n x17 (a1.bC.length:Int) 0 1073741824) LA JU λx18=>.bB 79 (!x18) λx19=>.ret x19)) (λy2_1=>.az [80] y2_1 (.bI 62 (bL (y1_1+1)) λx20=>.brk x20))) (.esc (.ret ())))) (λ_=>.ret ((true:Bool)))))
def QW (n:Nat) (a1:dB):Option (Bool):=(aA0 n a1).run
theorem XE {n a1}:PZ (QW n a1) 12 [.agg (dB.av a1)] aA:=wq Tryz.func12
def aLJ (n:Nat) (a1:List Int):WB ((List UInt8)) :=
 .ln 6 fI a1<|.cl 7 (rW (a1.length:Int)) uS (λ_=>vC) λx2=>.jn 1 [2] [] [] (λ_ (a:(List UInt8))=>[(3,str a)]) (λ_ _=>[]) (.lp [0,2] [] [] (λ_ (a:(List UInt8)×Int)=>[(3,str a.1),(4,int a.2)]) (λ_ _=>[]) n ((x2:List UInt8),0) (pw λy0_1 y0_2=>.ln 10 fI a1<|.bB 11 (decide (y0_2<(a1.length:Int))) λx3=>.ifs [11] x3 (.ix 17 fI a1 y0_2 λx4=>.cl 19 (rW x4) uS (λ_=>vC) λx5=>.as (y0_1.length+x5.length<=9223372036854775807) inferInstance<|.bl (y0_1++x5:List UInt8) λx7=>.gv 20<|.bI 13 (bL (y0_2+1)) λx8=>.brk ((x7:List UInt8),x8)) (.esc (.ret y0_1)))) (λy1_1=>.ret ((y1_1:List UInt8)))
def BM (n:Nat) (a1:List Int):Option ((List UInt8)):=(aLJ n a1).run
theorem IA {n a1}:PZ (BM n a1) 14 [aG 1 fI a1] str:=by
 refine wm Tryz.func14 ?_
 refine .mk ?_
 refine .mk λx2 e2=>?_
 refine .mk ?_ ?_
 refine .mk ?_
 intro _ _
 refine .mk ?_
 refine .mk λx3=>?_
 refine .mk ?_ ?_
 refine .mk λx4 e4=>?_
 refine .mk λx5 e5=>?_
 refine .mk λp6=>?_
 refine .mk λx7 e7=>?_
 refine .mk _ (aF (aN (y:=str x7) (qJ rfl rfl rfl p6) (congrArg str e7))) ?_
 refine .mk λx8=>?_
 exact .mk
 exact .mk
 intro _ _
 exact .mk
def X8 (n:Nat) (a1:dB):WB ((List UInt8)) :=
 .al 1<|.cl 7 (QW n a1) aAA XE λx3=>.bB 8 (!x3) λx4=>.az [8] x4 (.dr [(0,[1]),(1,[1]),(3,[1]),(4,[1]),(7,[1]),(8,[1])] [] [1] [] [0,1,2,3,4,5,6,7,8,9,10,11] (.cl 11 (rW a1.fT) uS (λ_=>vC) λx5=>.cl 14 (rW a1.iX) uS (λ_=>vC) λx6=>.as (x5.length+x6.length<=9223372036854775807) inferInstance<|.bl (x5++x6:List UInt8) λx8=>.gv 15<|.cl 18 (BM n a1.bC) FT IA λx9=>.as (x8.length+x9.length<=9223372036854775807) inferInstance<|.bl (x8++x9:List UInt8) λx11=>.gv 19<|.jn 1 [1,2] [1] [] (λ_ (a:(List UInt8))=>[(3,str a)]) (λ_ _=>[]) (.lp [1,2] [1] [] (λ_ (a:(List UInt8)×Int)=>[(3,str a.1),(4,int a.2)]) (λ_ _=>[]) n ((x11:List UInt8),0) (pw λy0_1 y0_2=>.bB 23 (decide (y0_2<a1.fT)) λx12=>.ifs [23] x12 (.ix 30 (fL 1 fI) a1.Methods y0_2 λx13=>.cl 32 (BM n x13) FT IA λx14=>.as (y0_1.length+x14.length<=9223372036854775807) inferInstance<|.bl (y0_1++x14:List UInt8) λx16=>.gv 33<|.bI 25 (bL (y0_2+1)) λx17=>.brk ((x16:List UInt8),x17)) (.esc (.ret y0_1)))) (λy1_1=>.jn 1 [2] [] [] (λ_ (a:(List UInt8))=>[(3,str a)]) (λ_ _=>[]) (.lp [1,2] [1] [] (λ_ (a:(List UInt8)×Int)=>[(3,str a.1),(5,int a.2)]) (λ_ _=>[]) n ((y1_1:List UInt8),0) (pw λy2_1 y2_2=>.bB 37 (decide (y2_2<a1.fT)) λx18=>.ifs [37] x18 (.ix 44 (fL 1 fI) a1.iF y2_2 λx19=>.cl 46 (BM n x19) FT IA λx20=>.as (y2_1.length+x20.length<=9223372036854775807) inferInstance<|.bl (y2_1++x20:List UInt8) λx22=>.gv 47<|.bI 39 (bL (y2_2+1)) λx23=>.brk ((x22:List UInt8),x23)) (.esc (.ret y2_1)))) (λy3_1=>.ret ((y3_1:List UInt8))))))
def AI (n:Nat) (a1:dB):Option ((List UInt8)):=(X8 n a1).run
theorem T4 {n a1}:PZ (AI n a1) 4 [.agg (dB.av a1)] str:=by
 refine wm Tryz.func4 ?_
 intro v2
 refine .mk λx3 e3=>?_
 refine .mk λx4=>?_
 refine .mk ?_
 refine .mk ?_
 refine .mk λx5 e5=>?_
 refine .mk λx6 e6=>?_
 refine .mk λp7=>?_
 refine .mk λx8 e8=>?_
 refine .mk _ (λH hH _=>aN (y:=str x8) (qJ rfl rfl rfl p7) (congrArg str e8)) ?_
 refine .mk λx9 e9=>?_
 refine .mk λp10=>?_
 refine .mk λx11 e11=>?_
 refine .mk _ (λH hH _=>aN (y:=str x11) (qJ rfl rfl rfl p10) (congrArg str e11)) ?_
 refine .mk ?_ ?_
 refine .mk ?_
 intro _ _
 refine .mk λx12=>?_
 refine .mk ?_ ?_
 refine .mk λx13 e13=>?_
 refine .mk λx14 e14=>?_
 refine .mk λp15=>?_
 refine .mk λx16 e16=>?_
 refine .mk _ (aF (aN (y:=str x16) (qJ rfl rfl rfl p15) (congrArg str e16))) ?_
 refine .mk λx17=>?_
 exact .mk
 exact .mk
 intro _ _
 refine .mk ?_ ?_
 refine .mk ?_
 intro _ _
 refine .mk λx18=>?_
 refine .mk ?_ ?_
 refine .mk λx19 e19=>?_
 refine .mk λx20 e20=>?_
 refine .mk λp21=>?_
 refine .mk λx22 e22=>?_
 refine .mk _ (aF (aN (y:=str x22) (qJ rfl rfl rfl p21) (congrArg str e22))) ?_
 refine .mk λx23=>?_
 exact .mk
 exact .mk
 intro _ _
 exact .mk
def aLP (a1:Int):WB ((List UInt8)) :=
 .bB 5 (decide (a1=1)) λx2=>.jn 0 [2,3] [] [] (λ_ (a:Bool)=>[(4,aA a)]) (λ_ _=>[]) (.ifs [4,5] x2 (.ret true) (.bB 6 (decide (a1=4)) λx3=>.ret x3)) (λy0_1=>.az [4] y0_1 (.bB 8 (decide (a1=2)) λx4=>.jn 0 [2,3] [] [] (λ_ (a:Bool)=>[(7,aA a)]) (λ_ _=>[]) (.ifs [7,8] x4 (.ret true) (.bB 9 (decide (a1=5)) λx5=>.ret x5)) (λy1_1=>.az [7] y1_1 (.bB 11 (decide (a1=3)) λx6=>.az [11] x6 (.bB 13 (decide (a1=6)) λx7=>.jn 0 [2,3] [] [] (λ_ (a:Bool)=>[(12,aA a)]) (λ_ _=>[]) (.ifs [12,13] x7 (.ret true) (.bB 14 (decide (a1=7)) λx8=>.ret x8)) (λy2_1=>.az [12] y2_1 (.bB 16 (decide (a1=8)) λx9=>.az [16] x9 (.bB 18 (decide (a1=9)) λx10=>.jn 0 [2,3] [] [] (λ_ (a:Bool)=>[(17,aA a)]) (λ_ _=>[]) (.ifs [17,18] x10 (.ret true) (.bB 19 (decide (a1=10)) λx11=>.ret x11)) (λy3_1=>.az [17] y3_1 (.bB 21 (decide (a1=11)) λx12=>.az [21] x12 (.bB 23 (decide (a1=12)) λx13=>.az [23] x13 (.bB 25 (decide (a1=13)) λx14=>.az [25] x14 (.bB 27 (decide (a1=14)) λx15=>.jn 0 [2] [] [] (λ_ (a:Bool)=>[(26,aA a)]) (λ_ _=>[]) (.ifs [26,27] x15 (.ret true) (.bB 28 (decide (a1=15)) λx16=>.ifs [28] x16 (.ret true) (.bB 29 (decide (a1=16)) λx17=>.ret x17))) (λy4_1=>.ifs [26] y4_1 (.ret ((([101]:List UInt8):List UInt8))) (.ret ((([]:List UInt8):List UInt8)))))))))))))))))
def G5 (a1:Int):Option ((List UInt8)):=(aLP a1).run
theorem TV {a1}:PZ (G5 a1) 16 [int a1] str:=wq Tryz.func16
def ZZ (n:Nat) (a1:List Int):WB (Bool) :=
 .jn 2 [0,2] [] [] (λ_ (a:Unit)=>[]) (λ_ _=>[]) (.lp [0,2,3] [] [] (λ_ (a:Unit)=>[]) (λ_ _=>[]) n () (λ_=>.ln 7 fI a1<|.bB 8 (decide (0<(a1.length:Int))) λx2=>.az [8] x2 (.esc (.ret ())))) (λ_=>.jn 0 [] [] [] (λ_ (a:Bool)=>[(2,aA a)]) (λ_ _=>[]) (.ln 38 fI a1<|.bB 39 (decide ((a1.length:Int)>=1)) λx3=>.ifs [39] x3 (.ln 42 fI a1<|.bB 43 (decide ((a1.length:Int)<=40)) λx4=>.ret x4) (.ret false)) (λy2_1=>.ret ((y2_1:Bool))))
def QV (n:Nat) (a1:List Int):Option (Bool):=(ZZ n a1).run
theorem Y7 {n a1}:PZ (QV n a1) 54 [aG 1 fI a1] aA:=wq Tryz.func54
def YL (n:Nat) (a1:aP) (a2:aP) (a3:Int):WB (aP×Bool) :=
 .al 1<|.al 2<|.al 3<|.bB 10 (decide (a3=101)) λx7=>.ifs [10] x7 (.jn 2 [3,4,6] [1,2] [] (λ_ (a:Bool)=>[(7,aA a)]) (λ_ _=>[.kp 3 [[int a2.Kind,int a1.E,int a2.Item,int a2.Loc,int a2.To,int a2.dJ,int a2.fM,int a2.Ref,aG 1 fI a2.gU]]]) (.dr [(0,[2]),(1,[1]),(2,[1]),(5,[1]),(6,[1])] [(9,[1])] [1,2] [9] [0,1,2,3,4,5,6,7,8,9,10] (.bB 17 (decide (a1.E>=0)) λx8=>.ifs [17] x8 (.bB 21 (decide (a1.E<4)) λx9=>.ret x9) (.ret false))) (λy0_1=>.ret (((⟨a2.Kind,a1.E,a2.Item,a2.Loc,a2.To,a2.dJ,a2.fM,a2.Ref,a2.gU⟩:aP):aP),y0_1))) (.bB 24 (decide (a3=105)) λx10=>.az [24] x10 (.bB 38 (decide (a3=108)) λx11=>.az [38] x11 (.bB 52 (decide (a3=116)) λx12=>.az [52] x12 (.bB 60 (decide (a3=113)) λx13=>.az [60] x13 (.bB 84 (decide (a3=97)) λx14=>.az [84] x14 (.bB 113 (decide (a3=114)) λx15=>.az [113] x15 (.dr [(0,[2]),(1,[1]),(2,[1])] [(4,[])] [1,2] [4] [0,1,2,3,4,5] (.cl 132 (QV n a1.gU) aBN Y7 λx16=>.ret (((⟨a2.Kind,a2.E,a2.Item,a2.Loc,a2.To,a2.dJ,a2.fM,a2.Ref,a1.gU⟩:aP):aP),x16)))))))))
def NK (n:Nat) (a1:aP) (a2:aP) (a3:Int):Option (aP×Bool):=(YL n a1 a2 a3).run
theorem aDT {n a1 a2 a3}:PZ (NK n a1 a2 a3) 26 [.agg (aP.av a1),.agg (aP.av a2),.sc (.int .u8 a3)] (λr=>.aM [.agg (aP.av r.1),aA r.2]):=wq Tryz.func26
def aIA (n:Nat) (a1:List Int) (a2:List Int):WB (Bool) :=
 .ln 7 fI a1<|.ln 9 fI a2<|.bB 10 (decide ((a1.length:Int)≠(a2.length:Int))) λx3=>.az [10] x3 (.jn 2 [4] [] [] (λ_ (a:Unit)=>[]) (λ_ _=>[]) (.lp [0,1,4,5] [] [] (λ_ (a:Unit)=>[]) (λ_ _=>[]) n () (λ_=>.ln 13 fI a1<|.bB 14 (decide (0<(a1.length:Int))) λx4=>.az [14] x4 (.esc (.ret ())))) (λ_=>.ret ((true:Bool))))
def RH (n:Nat) (a1:List Int) (a2:List Int):Option (Bool):=(aIA n a1 a2).run
theorem ZG {n a1 a2}:PZ (RH n a1 a2) 55 [aG 1 fI a1,aG 1 fI a2] aA:=wq Tryz.func55
def X3 (n:Nat) (a1:aP) (a2:aP):WB (Bool) :=
 .al 1<|.al 2<|.jn 0 [] [] [] (λ_ (a:Bool)=>[(4,aA a)]) (λ_ _=>[]) (.bB 9 (decide (a1.Kind=a2.Kind)) λx5=>.ifs [9] x5 (.bB 15 (decide (a1.E=a2.E)) λx6=>.ifs [15] x6 (.bB 22 (decide (a1.Item=a2.Item)) λx7=>.ifs [22] x7 (.bB 29 (decide (a1.Loc=a2.Loc)) λx8=>.ifs [29] x8 (.bB 36 (decide (a1.To=a2.To)) λx9=>.ifs [36] x9 (.bB 43 (decide (a1.dJ=a2.dJ)) λx10=>.ifs [43] x10 (.bB 50 (decide (a1.fM=a2.fM)) λx11=>.ifs [50] x11 (.bB 57 (decide (a1.Ref=a2.Ref)) λx12=>.ifs [57] x12 (.cl 64 (RH n a1.gU a2.gU) aEZ ZG λx13=>.ret x13) (.ret false)) (.ret false)) (.ret false)) (.ret false)) (.ret false)) (.ret false)) (.ret false)) (.ret false)) (λy0_1=>.ret ((y0_1:Bool)))
def TT (n:Nat) (a1:aP) (a2:aP):Option (Bool):=(X3 n a1 a2).run
theorem aEB {n a1 a2}:PZ (TT n a1 a2) 27 [.agg (aP.av a1),.agg (aP.av a2)] aA:=wq Tryz.func27
def aHT (n:Nat) (a1:aP):WB (Bool) :=
 .al 1<|.cl 10 (G5 a1.Kind) OZ TV λx3=>.al 2<|.jn 1 [1,2,3,4] [1] [] (λ_ (a:aP)=>[]) (λ_ a=>[.kp 2 [(aP.av a)]]) (.lp [1,2,3,4] [1] [] (λ_ (a:Int×aP)=>[(5,int a.1)]) (λ_ a=>[.kp 2 [(aP.av a.2)]]) n ((0:Int),((⟨a1.Kind,0,0,0,0,0,0,0,[]⟩:aP):aP)) (pw λy0_1 y0_2=>.gv 16<|.bB 17 (decide (y0_1<(x3.length:Int))) λx5=>.ifs [17] x5 (.dr [(0,[1]),(1,[2])] [(10,[])] [1,2] [9,10] [0,1,2,3,4,5,6,7,8,9,10,11] (.bo (ix x3 y0_1) λx6=>.gv 25<|.cl 26 (NK n a1 y0_2 (x6.toNat:Int)) X9 aDT λx7=>.al 3<|.bB 7 (x7.2) λx9=>.bB 30 (!x9) λx10=>.az [30] x10 (.bI 19 (bL (y0_1+1)) λx11=>.brk ((x11:Int),x7.1)))) (.esc (.ret y0_2)))) (λy1_1=>.jn 0 [] [] [] (λ_ (a:Bool)=>[(2,aA a)]) (λ_ _=>[]) (.bl (decide (x3≠([]:List UInt8)):Bool) λx12=>.gv 33<|.ifs [33] x12 (.cl 37 (TT n a1 y1_1) aBA aEB λx13=>.ret x13) (.ret false)) (λy2_1=>.ret ((y2_1:Bool))))
def QH (n:Nat) (a1:aP):Option (Bool):=(aHT n a1).run
theorem aC7 {n a1}:PZ (QH n a1) 15 [.agg (aP.av a1)] aA:=wq Tryz.func15
def aDH (a1:aP) (a2:Int):WB (Int) :=
 .al 1<|.bB 7 (decide (a2=101)) λx4=>.ifs [7] x4 (.ret ((a1.E:Int))) (.bB 11 (decide (a2=105)) λx5=>.az [11] x5 (.bB 15 (decide (a2=108)) λx6=>.az [15] x6 (.bB 19 (decide (a2=116)) λx7=>.az [19] x7 (.bB 23 (decide (a2=113)) λx8=>.az [23] x8 (.bB 27 (decide (a2=97)) λx9=>.az [27] x9 (.ret ((a1.Ref:Int))))))))
def RZ (a1:aP) (a2:Int):Option (Int):=(aDH a1 a2).run
theorem WO {a1 a2}:PZ (RZ a1 a2) 17 [.agg (aP.av a1),.sc (.int .u8 a2)] int:=wq Tryz.func17
def aD3 (n:Nat) (a1:List aP):WB ((List UInt8)) :=
 .ln 8 aP.av a1<|.bB 9 (decide ((a1.length:Int)>400)) λx2=>.az [9] x2 (.ln 11 aP.av a1<|.cl 12 (rW (a1.length:Int)) uS (λ_=>vC) λx3=>.jn 1 [2] [] [] (λ_ (a:(List UInt8))=>[(3,str a)]) (λ_ _=>[]) (.lp [0,2] [] [] (λ_ (a:(List UInt8)×Int)=>[(3,str a.1),(4,int a.2)]) (λ_ _=>[]) n ((x3:List UInt8),0) (pw λy0_1 y0_2=>.ln 15 aP.av a1<|.bB 16 (decide (y0_2<(a1.length:Int))) λx4=>.ifs [16] x4 (.jn 1 [0,2,4] [] [] (λ_ (a:(List UInt8))=>[(3,str a)]) (λ_ _=>[]) (.ix 21 aP.av a1 y0_2 λx5=>.cl 23 (QH n x5) XT aC7 λx6=>.bB 24 (!x6) λx7=>.az [24] x7 (.ix 27 aP.av a1 y0_2 λx8=>.cl 30 (G5 x8.Kind) OZ TV λx9=>.ix 34 aP.av a1 y0_2 λx10=>.cl 37 (rW x10.Kind) uS (λ_=>vC) λx11=>.as (y0_1.length+x11.length<=9223372036854775807) inferInstance<|.bl (y0_1++x11:List UInt8) λx13=>.gv 38<|.jn 1 [0,2,4] [] [] (λ_ (a:(List UInt8))=>[(3,str a)]) (λ_ _=>[]) (.lp [0,2,4,5] [] [] (λ_ (a:(List UInt8)×Int)=>[(3,str a.1),(6,int a.2)]) (λ_ _=>[]) n ((x13:List UInt8),0) (pw λy1_1 y1_2=>.gv 41<|.bB 42 (decide (y1_2<(x9.length:Int))) λx14=>.ifs [42] x14 (.bo (ix x9 y1_2) λx15=>.gv 47<|.bB 48 (decide ((x15.toNat:Int)=115)) λx16=>.az [48] x16 (.dr [] [] [] [] [0,1,2,3,4,5,6,7,8,9,10,11] (.ix 60 aP.av a1 y0_2 λx17=>.bo (ix x9 y1_2) λx18=>.gv 64<|.cl 65 (RZ x17 (x18.toNat:Int)) aCT WO λx19=>.cl 66 (rW x19) uS (λ_=>vC) λx20=>.as (y1_1.length+x20.length<=9223372036854775807) inferInstance<|.bl (y1_1++x20:List UInt8) λx22=>.gv 67<|.bI 44 (bL (y1_2+1)) λx23=>.brk ((x22:List UInt8),x23)))) (.esc (.ret y1_1)))) (λy2_1=>.ret y2_1))) (λy3_1=>.bI 18 (bL (y0_2+1)) λx24=>.brk ((y3_1:List UInt8),x24))) (.esc (.ret y0_1)))) (λy4_1=>.ret ((y4_1:List UInt8))))
def DU (n:Nat) (a1:List aP):Option ((List UInt8)):=(aD3 n a1).run
theorem QE {n a1}:PZ (DU n a1) 6 [aG 9 aP.av a1] str:=by
 refine wm Tryz.func6 ?_
 refine .mk ?_
 refine .mk λx2=>?_
 refine .mk ?_
 refine .mk ?_
 refine .mk λx3 e3=>?_
 refine .mk ?_ ?_
 refine .mk ?_
 intro _ _
 refine .mk ?_
 refine .mk λx4=>?_
 refine .mk ?_ ?_
 refine .mk ?_ ?_
 refine .mk λx5 e5=>?_
 refine .mk λx6 e6=>?_
 refine .mk λx7=>?_
 refine .mk ?_
 refine .mk λx8 e8=>?_
 refine .mk λx9 e9=>?_
 refine .mk λx10 e10=>?_
 refine .mk λx11 e11=>?_
 refine .mk λp12=>?_
 refine .mk λx13 e13=>?_
 refine .mk _ (aF (aN (y:=str x13) (qJ rfl rfl rfl p12) (congrArg str e13))) ?_
 refine .mk ?_ ?_
 refine .mk ?_
 intro _ _
 refine .mk _ (aF (nX rfl Tryz.underlying9 rfl)) ?_
 refine .mk λx14=>?_
 refine .mk ?_ ?_
 refine .mk λx15 e15=>?_
 refine .mk _ (aF (yT rfl Tryz.underlying9 rfl rfl (nR e15).1 (nR e15).2)) ?_
 refine .mk λx16=>?_
 refine .mk ?_
 refine .mk ?_
 refine .mk λx17 e17=>?_
 refine .mk λx18 e18=>?_
 refine .mk _ (λH hH _=>yT rfl Tryz.underlying9 rfl rfl (nR e18).1 (nR e18).2) ?_
 refine .mk λx19 e19=>?_
 refine .mk λx20 e20=>?_
 refine .mk λp21=>?_
 refine .mk λx22 e22=>?_
 refine .mk _ (λH hH _=>aN (y:=str x22) (qJ rfl rfl rfl p21) (congrArg str e22)) ?_
 refine .mk λx23=>?_
 exact .mk
 exact .mk
 intro _ _
 exact .mk
 intro _ _
 refine .mk λx24=>?_
 exact .mk
 exact .mk
 intro _ _
 exact .mk
end
end Go.Pv
