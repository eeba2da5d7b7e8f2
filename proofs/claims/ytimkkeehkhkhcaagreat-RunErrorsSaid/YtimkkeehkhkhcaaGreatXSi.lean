import Derived.Test.YtimkkeehkhkhcaaGreatXSh
set_option linter.unusedVariables false
set_option linter.unusedSimpArgs false
namespace Go.Pv
open Go.Proofs
set_option maxRecDepth 100000
set_option maxHeartbeats 4000000
noncomputable section
noncomputable def aEC (x63:bQ) (y19_3:List UInt8):WB (((List UInt8))) :=
 .jn 1 [] [1,4,6,7,8,9,10,11] [5] (λ_ (a:(List UInt8))=>[]) (λu75 a=>[.kp 2 [[.pt 2 (u75 2) 0 0,.sl 5 (u75 5) 0 a.length,.sc (.pointer none)]],.nw 5 5 1 (bN a)]) (.un 24 (.kB 9 true<|
 .gv 10<|
 .gv 16<|
 .dr [(1,[2]),(2,[2])] [(7,[])] [2] [7] [0,1,2,3,4,5,6,7] (.cl 23 (eX x63.dJ) eU (λ_=>fA) λx68 =>
 .as (x68.length<=1099511627776) inferInstance<|
 .as (y19_3.length<=1099511627776) inferInstance<|
 .bl (y19_3++x68:List UInt8) λx72 =>
 .ge 24 2<|
 .kI 32 1<|
 .kB 9 true<|
 .gv 10<|
 .gv 16<|
 .dr [(1,[2]),(2,[2])] [(7,[])] [2] [7] [0,1,2,3,4,5,6,7] (.cl 23 (eX x63.Value) eU (λ_=>fA) λx73 =>
 .as (x73.length<=1099511627776) inferInstance<|
 .as (x72.length<=1099511627776) inferInstance<|
 .bl (x72++x73:List UInt8) λx77 =>
 .ge 24 2<|
 .kI 32 2<|
 .kB 9 true<|
 .gv 10<|
 .gv 16<|
 .dr [(1,[2]),(2,[2])] [(7,[])] [2] [7] [0,1,2,3,4,5,6,7] (.cl 23 (eX x63.gP) eU (λ_=>fA) λx78 =>
 .as (x78.length<=1099511627776) inferInstance<|
 .as (x77.length<=1099511627776) inferInstance<|
 .bl (x77++x78:List UInt8) λx82 =>
 .ge 24 2<|
 .kI 32 3<|
 .kB 9 false<|
 .ret (x82:List UInt8))))))
  (λy24_2 =>
 .ret (y24_2:List UInt8))
noncomputable def ZJ (n:Nat) (x48:aT) (x58:List UInt8):WB (((List UInt8))) :=
 .al 11<|
 .ln 8 bQ.av x48.jA<|
 .jn 0 [] [1,4,6,7,8,9,10] [5] (λ_ (a:(List UInt8))=>[]) (λu66 a=>[.kp 2 [[.pt 2 (u66 2) 0 0,.sl 5 (u66 5) 0 a.length,.sc (.pointer none)]],.nw 5 5 1 (bN a)]) (.lp [1,2,3,8] [1,4,6,7,8,9,10,11] [5] (λ_ (a:Int×(List UInt8))=>[(9,int a.1)]) (λu69 a=>[.kp 2 [[.pt 2 (u69 2) 0 0,.sl 5 (u69 5) 0 a.2.length,.sc (.pointer none)]],.nw 5 5 1 (bN a.2)]) n ((0:Int),(x58:List UInt8)) (pw λy19_1 y19_3 =>
 .bB 10 (decide (y19_1<(x48.jA.length:Int))) λx62 =>
 .ifs [10] x62 (.dr [(0,[11]),(1,[11])] [(6,[])] [11] [6] [0,1,2,3,4,5,6] (.ix 17 bQ.av x48.jA y19_1 λx63 =>
 .inl 18 SO Tryz.func157 [1,4,6,7,8,9,10,11] [5] (λ_ (a:(List UInt8))=>.aM []) (λu72 a=>[.kp 2 [[.pt 2 (u72 2) 0 0,.sl 5 (u72 5) 0 a.length,.sc (.pointer none)]],.nw 5 5 1 (bN a)]) ( .dr [] [] [] [11] [0,1,2,3,4,5,6,7,8,9,10,11] (.gv 14<|
 .inl 15 jG Tryz.func85 [1,4,6,7,8,9,10,11] [5] (λ_ (a:(List UInt8))=>.aM []) (λu74 a=>[.kp 2 [[.pt 2 (u74 2) 0 0,.sl 5 (u74 5) 0 a.length,.sc (.pointer none)]],.nw 5 5 1 (bN a)]) (aEC x63 y19_3) (λy22_2 =>
 .ret (y22_2:List UInt8)))) (λy20_2 =>
 .bI 19 (bL (y19_1+1)) λx83 =>
 .brk ((x83:Int),(y20_2:List UInt8))))) (.esc (.ret (y19_3:List UInt8)))))
  (λy21_2 =>
 .ret (y21_2:List UInt8))
noncomputable def aEG (a1:bF) (x48:aT) (y17_2:List UInt8):WB (((List UInt8))) :=
 .jn 1 [] [1,4,6,7,8,9] [5] (λ_ (a:(List UInt8))=>[]) (λu78 a=>[.kp 2 [[.pt 2 (u78 2) 0 0,.sl 5 (u78 5) 0 a.length,.sc (.pointer none)]],.nw 5 5 1 (bN a)]) (.un 24 (.kB 9 true<|
 .gv 10<|
 .gv 16<|
 .dr [(1,[2]),(2,[2])] [(7,[])] [2] [7] [0,1,2,3,4,5,6,7] (.cl 23 (eX x48.dU.a0) eU (λ_=>fA) λx86 =>
 .as (x86.length<=1099511627776) inferInstance<|
 .as (y17_2.length<=1099511627776) inferInstance<|
 .bl (y17_2++x86:List UInt8) λx90 =>
 .ge 24 2<|
 .kI 32 1<|
 .kB 9 true<|
 .gv 10<|
 .gv 16<|
 .dr [(1,[2]),(2,[2])] [(7,[])] [2] [7] [0,1,2,3,4,5,6,7] (.cl 23 (eX x48.dU.a1) eU (λ_=>fA) λx91 =>
 .as (x91.length<=1099511627776) inferInstance<|
 .as (x90.length<=1099511627776) inferInstance<|
 .bl (x90++x91:List UInt8) λx95 =>
 .ge 24 2<|
 .kI 32 2<|
 .kB 9 true<|
 .gv 10<|
 .gv 16<|
 .dr [(1,[2]),(2,[2])] [(7,[])] [2] [7] [0,1,2,3,4,5,6,7] (.cl 23 (eX x48.dU.a2) eU (λ_=>fA) λx96 =>
 .as (x96.length<=1099511627776) inferInstance<|
 .as (x95.length<=1099511627776) inferInstance<|
 .bl (x95++x96:List UInt8) λx100 =>
 .ge 24 2<|
 .kI 32 3<|
 .kB 9 false<|
 .ret (x100:List UInt8))))))
  (λy27_2 =>
 .ret (y27_2:List UInt8))
noncomputable def aGS (n:Nat) (a1:bF) (x48:aT) (y14_3:List UInt8):WB (((List UInt8))) :=
 .inl 9 D4 Tryz.func158 [1,4,6,7,8,9] [5] (λ_ (a:(List UInt8))=>.aM []) (λu53 a=>[.kp 2 [[.pt 2 (u53 2) 0 0,.sl 5 (u53 5) 0 a.length,.sc (.pointer none)]],.nw 5 5 1 (bN a)]) ( .al 10<|
 .gv 12<|
 .dr [(1,[2]),(2,[2])] [(8,[])] [2] [8] [0,1,2,3,4,5,6,7,8] (.ln 19 bQ.av x48.jA<|
 .cl 20 (eX (x48.jA.length:Int)) eU (λ_=>fA) λx54 =>
 .as (x54.length<=1099511627776) inferInstance<|
 .as (y14_3.length<=1099511627776) inferInstance<|
 .bl (y14_3++x54:List UInt8) λx58 =>
 .ge 21 2<|
 .dr [(0,[10])] [(5,[])] [10] [5] [0,1,2,3,4,5] (.inl 36 zZ Tryz.func183 [1,4,6,7,8,9,10] [5] (λ_ (a:(List UInt8))=>.aM []) (λu55 a=>[.kp 2 [[.pt 2 (u55 2) 0 0,.sl 5 (u55 5) 0 a.length,.sc (.pointer none)]],.nw 5 5 1 (bN a)]) (ZJ n x48 x58) (λy18_2 =>
 .gv 41<|
 .ret (y18_2:List UInt8))))) (λy17_2 =>
 .dr [] [] [] [14] [0,1,2,3,4,5,6,7,8,9,10,11,12,13,14] (.gv 14<|
 .gv 18<|
 .gv 22<|
 .gv 23<|
 .inl 24 jG Tryz.func85 [1,4,6,7,8,9] [5] (λ_ (a:(List UInt8))=>.aM []) (λu77 a=>[.kp 2 [[.pt 2 (u77 2) 0 0,.sl 5 (u77 5) 0 a.length,.sc (.pointer none)]],.nw 5 5 1 (bN a)]) (aEG a1 x48 y17_2) (λy25_2 =>
 .ret (y25_2:List UInt8))))
noncomputable def aEE (n:Nat) (x27:aH) (y13_2:List UInt8):WB (((List UInt8))) :=
 .al 12<|
 .ln 8 fI x27.jB<|
 .jn 0 [] [1,4,6,7,8] [5] (λ_ (a:(List UInt8))=>[]) (λu91 a=>[.kp 2 [[.pt 2 (u91 2) 0 0,.sl 5 (u91 5) 0 a.length,.sc (.pointer none)]],.nw 5 5 1 (bN a)]) (.lp [1,2,3,8] [1,4,6,7,8,12] [5] (λ_ (a:Int×(List UInt8))=>[(9,int a.1)]) (λu94 a=>[.kp 2 [[.pt 2 (u94 2) 0 0,.sl 5 (u94 5) 0 a.2.length,.sc (.pointer none)]],.nw 5 5 1 (bN a.2)]) n ((0:Int),(y13_2:List UInt8)) (pw λy29_1 y29_3 =>
 .bB 10 (decide (y29_1<(x27.jB.length:Int))) λx105 =>
 .ifs [10] x105 (.dr [(0,[12]),(1,[12])] [(6,[])] [12] [6] [0,1,2,3,4,5,6] (.ix 17 fI x27.jB y29_1 λx106 =>
 .inl 18 o6 Tryz.func120 [1,4,6,7,8,12] [5] (λ_ (a:(List UInt8))=>.aM []) (λu97 a=>[.kp 2 [[.pt 2 (u97 2) 0 0,.sl 5 (u97 5) 0 a.length,.sc (.pointer none)]],.nw 5 5 1 (bN a)]) ( .gv 6<|
 .inl 7 jG Tryz.func85 [1,4,6,7,8,12] [5] (λ_ (a:(List UInt8))=>.aM []) (λu99 a=>[.kp 2 [[.pt 2 (u99 2) 0 0,.sl 5 (u99 5) 0 a.length,.sc (.pointer none)]],.nw 5 5 1 (bN a)]) ( .jn 1 [] [1,4,6,7,8,12] [5] (λ_ (a:(List UInt8))=>[]) (λu100 a=>[.kp 2 [[.pt 2 (u100 2) 0 0,.sl 5 (u100 5) 0 a.length,.sc (.pointer none)]],.nw 5 5 1 (bN a)]) (.un 24 (.kB 9 true<|
 .gv 10<|
 .gv 16<|
 .dr [(1,[2]),(2,[2])] [(7,[])] [2] [7] [0,1,2,3,4,5,6,7] (.cl 23 (eX x106) eU (λ_=>fA) λx111 =>
 .as (x111.length<=1099511627776) inferInstance<|
 .as (y29_3.length<=1099511627776) inferInstance<|
 .bl (y29_3++x111:List UInt8) λx115 =>
 .ge 24 2<|
 .kI 32 1<|
 .kB 9 false<|
 .ret (x115:List UInt8))))
  (λy34_2 =>
 .ret (y34_2:List UInt8))) (λy32_2 =>
 .ret (y32_2:List UInt8))) (λy30_2 =>
 .bI 19 (bL (y29_1+1)) λx116 =>
 .brk ((x116:Int),(y30_2:List UInt8))))) (.esc (.ret (y29_3:List UInt8)))))
  (λy31_2 =>
 .ret (y31_2:List UInt8))
noncomputable def aC9 (x121:bA) (y36_3:List UInt8):WB (((List UInt8))) :=
 .jn 1 [] [1,4,6,7,8,13] [5] (λ_ (a:(List UInt8))=>[]) (λu122 a=>[.kp 2 [[.pt 2 (u122 2) 0 0,.sl 5 (u122 5) 0 a.length,.sc (.pointer none)]],.nw 5 5 1 (bN a)]) (.un 24 (.kB 9 true<|
 .gv 10<|
 .gv 16<|
 .dr [(1,[2]),(2,[2])] [(7,[])] [2] [7] [0,1,2,3,4,5,6,7] (.cl 23 (eX x121.Open) eU (λ_=>fA) λx126 =>
 .as (x126.length<=1099511627776) inferInstance<|
 .as (y36_3.length<=1099511627776) inferInstance<|
 .bl (y36_3++x126:List UInt8) λx130 =>
 .ge 24 2<|
 .kI 32 1<|
 .kB 9 true<|
 .gv 10<|
 .gv 16<|
 .dr [(1,[2]),(2,[2])] [(7,[])] [2] [7] [0,1,2,3,4,5,6,7] (.cl 23 (eX x121.jL) eU (λ_=>fA) λx131 =>
 .as (x131.length<=1099511627776) inferInstance<|
 .as (x130.length<=1099511627776) inferInstance<|
 .bl (x130++x131:List UInt8) λx135 =>
 .ge 24 2<|
 .kI 32 2<|
 .kB 9 true<|
 .gv 10<|
 .gv 16<|
 .dr [(1,[2]),(2,[2])] [(7,[])] [2] [7] [0,1,2,3,4,5,6,7] (.cl 23 (eX x121.jE) eU (λ_=>fA) λx136 =>
 .as (x136.length<=1099511627776) inferInstance<|
 .as (x135.length<=1099511627776) inferInstance<|
 .bl (x135++x136:List UInt8) λx140 =>
 .ge 24 2<|
 .kI 32 3<|
 .kB 9 true<|
 .gv 10<|
 .gv 16<|
 .dr [(1,[2]),(2,[2])] [(7,[])] [2] [7] [0,1,2,3,4,5,6,7] (.cl 23 (eX x121.iR) eU (λ_=>fA) λx141 =>
 .as (x141.length<=1099511627776) inferInstance<|
 .as (x140.length<=1099511627776) inferInstance<|
 .bl (x140++x141:List UInt8) λx145 =>
 .ge 24 2<|
 .kI 32 4<|
 .kB 9 true<|
 .gv 10<|
 .gv 16<|
 .dr [(1,[2]),(2,[2])] [(7,[])] [2] [7] [0,1,2,3,4,5,6,7] (.cl 23 (eX x121.iJ) eU (λ_=>fA) λx146 =>
 .as (x146.length<=1099511627776) inferInstance<|
 .as (x145.length<=1099511627776) inferInstance<|
 .bl (x145++x146:List UInt8) λx150 =>
 .ge 24 2<|
 .kI 32 5<|
 .kB 9 true<|
 .gv 10<|
 .gv 16<|
 .dr [(1,[2]),(2,[2])] [(7,[])] [2] [7] [0,1,2,3,4,5,6,7] (.cl 23 (eX x121.iB) eU (λ_=>fA) λx151 =>
 .as (x151.length<=1099511627776) inferInstance<|
 .as (x150.length<=1099511627776) inferInstance<|
 .bl (x150++x151:List UInt8) λx155 =>
 .ge 24 2<|
 .kI 32 6<|
 .kB 9 true<|
 .gv 10<|
 .gv 16<|
 .dr [(1,[2]),(2,[2])] [(7,[])] [2] [7] [0,1,2,3,4,5,6,7] (.cl 23 (eX x121.gW) eU (λ_=>fA) λx156 =>
 .as (x156.length<=1099511627776) inferInstance<|
 .as (x155.length<=1099511627776) inferInstance<|
 .bl (x155++x156:List UInt8) λx160 =>
 .ge 24 2<|
 .kI 32 7<|
 .kB 9 true<|
 .gv 10<|
 .gv 16<|
 .dr [(1,[2]),(2,[2])] [(7,[])] [2] [7] [0,1,2,3,4,5,6,7] (.cl 23 (eX x121.gL) eU (λ_=>fA) λx161 =>
 .as (x161.length<=1099511627776) inferInstance<|
 .as (x160.length<=1099511627776) inferInstance<|
 .bl (x160++x161:List UInt8) λx165 =>
 .ge 24 2<|
 .kI 32 8<|
 .kB 9 true<|
 .gv 10<|
 .gv 16<|
 .dr [(1,[2]),(2,[2])] [(7,[])] [2] [7] [0,1,2,3,4,5,6,7] (.cl 23 (eX x121.gH) eU (λ_=>fA) λx166 =>
 .as (x166.length<=1099511627776) inferInstance<|
 .as (x165.length<=1099511627776) inferInstance<|
 .bl (x165++x166:List UInt8) λx170 =>
 .ge 24 2<|
 .kI 32 9<|
 .kB 9 true<|
 .gv 10<|
 .gv 16<|
 .dr [(1,[2]),(2,[2])] [(7,[])] [2] [7] [0,1,2,3,4,5,6,7] (.cl 23 (eX x121.gD) eU (λ_=>fA) λx171 =>
 .as (x171.length<=1099511627776) inferInstance<|
 .as (x170.length<=1099511627776) inferInstance<|
 .bl (x170++x171:List UInt8) λx175 =>
 .ge 24 2<|
 .kI 32 10<|
 .kB 9 true<|
 .gv 10<|
 .gv 16<|
 .dr [(1,[2]),(2,[2])] [(7,[])] [2] [7] [0,1,2,3,4,5,6,7] (.cl 23 (eX x121.fU) eU (λ_=>fA) λx176 =>
 .as (x176.length<=1099511627776) inferInstance<|
 .as (x175.length<=1099511627776) inferInstance<|
 .bl (x175++x176:List UInt8) λx180 =>
 .ge 24 2<|
 .kI 32 11<|
 .kB 9 false<|
 .ret (x180:List UInt8))))))))))))))
  (λy41_2 =>
 .ret (y41_2:List UInt8))
noncomputable def aD6 (n:Nat) (x27:aH) (y28_2:List UInt8):WB (((List UInt8))) :=
 .al 13<|
 .ln 8 bA.av x27.iI<|
 .jn 0 [] [1,4,6,7,8] [5] (λ_ (a:(List UInt8))=>[]) (λu113 a=>[.kp 2 [[.pt 2 (u113 2) 0 0,.sl 5 (u113 5) 0 a.length,.sc (.pointer none)]],.nw 5 5 1 (bN a)]) (.lp [1,2,3,8] [1,4,6,7,8,13] [5] (λ_ (a:Int×(List UInt8))=>[(9,int a.1)]) (λu116 a=>[.kp 2 [[.pt 2 (u116 2) 0 0,.sl 5 (u116 5) 0 a.2.length,.sc (.pointer none)]],.nw 5 5 1 (bN a.2)]) n ((0:Int),(y28_2:List UInt8)) (pw λy36_1 y36_3 =>
 .bB 10 (decide (y36_1<(x27.iI.length:Int))) λx120 =>
 .ifs [10] x120 (.dr [(0,[13]),(1,[13])] [(6,[])] [13] [6] [0,1,2,3,4,5,6] (.ix 17 bA.av x27.iI y36_1 λx121 =>
 .inl 18 DY Tryz.func122 [1,4,6,7,8,13] [5] (λ_ (a:(List UInt8))=>.aM []) (λu119 a=>[.kp 2 [[.pt 2 (u119 2) 0 0,.sl 5 (u119 5) 0 a.length,.sc (.pointer none)]],.nw 5 5 1 (bN a)]) ( .dr [] [] [] [35] [0,1,2,3,4,5,6,7,8,9,10,11,12,13,14,15,16,17,18,19,20,21,22,23,24,25,26,27,28,29,30,31,32,33,34,35] (.gv 38<|
 .inl 39 jG Tryz.func85 [1,4,6,7,8,13] [5] (λ_ (a:(List UInt8))=>.aM []) (λu121 a=>[.kp 2 [[.pt 2 (u121 2) 0 0,.sl 5 (u121 5) 0 a.length,.sc (.pointer none)]],.nw 5 5 1 (bN a)]) (aC9 x121 y36_3) (λy39_2 =>
 .ret (y39_2:List UInt8)))) (λy37_2 =>
 .bI 19 (bL (y36_1+1)) λx181 =>
 .brk ((x181:Int),(y37_2:List UInt8))))) (.esc (.ret (y36_3:List UInt8)))))
  (λy38_2 =>
 .ret (y38_2:List UInt8))
noncomputable def aG3 (n:Nat) (x189:List UInt8) (x27:aH):WB (((List UInt8))) :=
 .al 15<|
 .ln 8 fI x27.iL<|
 .jn 0 [] [1,4,6,7,8,14] [5] (λ_ (a:(List UInt8))=>[]) (λu137 a=>[.kp 2 [[.pt 2 (u137 2) 0 0,.sl 5 (u137 5) 0 a.length,.sc (.pointer none)]],.nw 5 5 1 (bN a)]) (.lp [1,2,3,8] [1,4,6,7,8,14,15] [5] (λ_ (a:Int×(List UInt8))=>[(9,int a.1)]) (λu140 a=>[.kp 2 [[.pt 2 (u140 2) 0 0,.sl 5 (u140 5) 0 a.2.length,.sc (.pointer none)]],.nw 5 5 1 (bN a.2)]) n ((0:Int),(x189:List UInt8)) (pw λy44_1 y44_3 =>
 .bB 10 (decide (y44_1<(x27.iL.length:Int))) λx193 =>
 .ifs [10] x193 (.dr [(0,[15]),(1,[15])] [(6,[])] [15] [6] [0,1,2,3,4,5,6] (.ix 17 fI x27.iL y44_1 λx194 =>
 .inl 18 o6 Tryz.func120 [1,4,6,7,8,14,15] [5] (λ_ (a:(List UInt8))=>.aM []) (λu143 a=>[.kp 2 [[.pt 2 (u143 2) 0 0,.sl 5 (u143 5) 0 a.length,.sc (.pointer none)]],.nw 5 5 1 (bN a)]) ( .gv 6<|
 .inl 7 jG Tryz.func85 [1,4,6,7,8,14,15] [5] (λ_ (a:(List UInt8))=>.aM []) (λu145 a=>[.kp 2 [[.pt 2 (u145 2) 0 0,.sl 5 (u145 5) 0 a.length,.sc (.pointer none)]],.nw 5 5 1 (bN a)]) ( .jn 1 [] [1,4,6,7,8,14,15] [5] (λ_ (a:(List UInt8))=>[]) (λu146 a=>[.kp 2 [[.pt 2 (u146 2) 0 0,.sl 5 (u146 5) 0 a.length,.sc (.pointer none)]],.nw 5 5 1 (bN a)]) (.un 24 (.kB 9 true<|
 .gv 10<|
 .gv 16<|
 .dr [(1,[2]),(2,[2])] [(7,[])] [2] [7] [0,1,2,3,4,5,6,7] (.cl 23 (eX x194) eU (λ_=>fA) λx199 =>
 .as (x199.length<=1099511627776) inferInstance<|
 .as (y44_3.length<=1099511627776) inferInstance<|
 .bl (y44_3++x199:List UInt8) λx203 =>
 .ge 24 2<|
 .kI 32 1<|
 .kB 9 false<|
 .ret (x203:List UInt8))))
  (λy49_2 =>
 .ret (y49_2:List UInt8))) (λy47_2 =>
 .ret (y47_2:List UInt8))) (λy45_2 =>
 .bI 19 (bL (y44_1+1)) λx204 =>
 .brk ((x204:Int),(y45_2:List UInt8))))) (.esc (.ret (y44_3:List UInt8)))))
  (λy46_2 =>
 .ret (y46_2:List UInt8))
noncomputable def XN (n:Nat) (x212:List UInt8) (x27:aH):WB (((List UInt8))) :=
 .al 17<|
 .ln 8 fI x27.Down<|
 .jn 0 [] [1,4,6,7,8,16] [5] (λ_ (a:(List UInt8))=>[]) (λu161 a=>[.kp 2 [[.pt 2 (u161 2) 0 0,.sl 5 (u161 5) 0 a.length,.sc (.pointer none)]],.nw 5 5 1 (bN a)]) (.lp [1,2,3,8] [1,4,6,7,8,16,17] [5] (λ_ (a:Int×(List UInt8))=>[(9,int a.1)]) (λu164 a=>[.kp 2 [[.pt 2 (u164 2) 0 0,.sl 5 (u164 5) 0 a.2.length,.sc (.pointer none)]],.nw 5 5 1 (bN a.2)]) n ((0:Int),(x212:List UInt8)) (pw λy52_1 y52_3 =>
 .bB 10 (decide (y52_1<(x27.Down.length:Int))) λx216 =>
 .ifs [10] x216 (.dr [(0,[17]),(1,[17])] [(6,[])] [17] [6] [0,1,2,3,4,5,6] (.ix 17 fI x27.Down y52_1 λx217 =>
 .inl 18 o6 Tryz.func120 [1,4,6,7,8,16,17] [5] (λ_ (a:(List UInt8))=>.aM []) (λu167 a=>[.kp 2 [[.pt 2 (u167 2) 0 0,.sl 5 (u167 5) 0 a.length,.sc (.pointer none)]],.nw 5 5 1 (bN a)]) ( .gv 6<|
 .inl 7 jG Tryz.func85 [1,4,6,7,8,16,17] [5] (λ_ (a:(List UInt8))=>.aM []) (λu169 a=>[.kp 2 [[.pt 2 (u169 2) 0 0,.sl 5 (u169 5) 0 a.length,.sc (.pointer none)]],.nw 5 5 1 (bN a)]) ( .jn 1 [] [1,4,6,7,8,16,17] [5] (λ_ (a:(List UInt8))=>[]) (λu170 a=>[.kp 2 [[.pt 2 (u170 2) 0 0,.sl 5 (u170 5) 0 a.length,.sc (.pointer none)]],.nw 5 5 1 (bN a)]) (.un 24 (.kB 9 true<|
 .gv 10<|
 .gv 16<|
 .dr [(1,[2]),(2,[2])] [(7,[])] [2] [7] [0,1,2,3,4,5,6,7] (.cl 23 (eX x217) eU (λ_=>fA) λx222 =>
 .as (x222.length<=1099511627776) inferInstance<|
 .as (y52_3.length<=1099511627776) inferInstance<|
 .bl (y52_3++x222:List UInt8) λx226 =>
 .ge 24 2<|
 .kI 32 1<|
 .kB 9 false<|
 .ret (x226:List UInt8))))
  (λy57_2 =>
 .ret (y57_2:List UInt8))) (λy55_2 =>
 .ret (y55_2:List UInt8))) (λy53_2 =>
 .bI 19 (bL (y52_1+1)) λx227 =>
 .brk ((x227:Int),(y53_2:List UInt8))))) (.esc (.ret (y52_3:List UInt8)))))
  (λy54_2 =>
 .ret (y54_2:List UInt8))
noncomputable def ZX (x278:bQ) (y75_3:List UInt8):WB (((List UInt8))) :=
 .jn 1 [] [1,4,6,7,8,18,19,20,21,22,23,24] [5] (λ_ (a:(List UInt8))=>[]) (λu242 a=>[.kp 2 [[.pt 2 (u242 2) 0 0,.sl 5 (u242 5) 0 a.length,.sc (.pointer none)]],.nw 5 5 1 (bN a)]) (.un 24 (.kB 9 true<|
 .gv 10<|
 .gv 16<|
 .dr [(1,[2]),(2,[2])] [(7,[])] [2] [7] [0,1,2,3,4,5,6,7] (.cl 23 (eX x278.dJ) eU (λ_=>fA) λx283 =>
 .as (x283.length<=1099511627776) inferInstance<|
 .as (y75_3.length<=1099511627776) inferInstance<|
 .bl (y75_3++x283:List UInt8) λx287 =>
 .ge 24 2<|
 .kI 32 1<|
 .kB 9 true<|
 .gv 10<|
 .gv 16<|
 .dr [(1,[2]),(2,[2])] [(7,[])] [2] [7] [0,1,2,3,4,5,6,7] (.cl 23 (eX x278.Value) eU (λ_=>fA) λx288 =>
 .as (x288.length<=1099511627776) inferInstance<|
 .as (x287.length<=1099511627776) inferInstance<|
 .bl (x287++x288:List UInt8) λx292 =>
 .ge 24 2<|
 .kI 32 2<|
 .kB 9 true<|
 .gv 10<|
 .gv 16<|
 .dr [(1,[2]),(2,[2])] [(7,[])] [2] [7] [0,1,2,3,4,5,6,7] (.cl 23 (eX x278.gP) eU (λ_=>fA) λx293 =>
 .as (x293.length<=1099511627776) inferInstance<|
 .as (x292.length<=1099511627776) inferInstance<|
 .bl (x292++x293:List UInt8) λx297 =>
 .ge 24 2<|
 .kI 32 3<|
 .kB 9 false<|
 .ret (x297:List UInt8))))))
  (λy80_2 =>
 .ret (y80_2:List UInt8))
noncomputable def aDM (n:Nat) (x263:aT) (x273:List UInt8):WB (((List UInt8))) :=
 .al 24<|
 .ln 8 bQ.av x263.jA<|
 .jn 0 [] [1,4,6,7,8,18,19,20,21,22,23] [5] (λ_ (a:(List UInt8))=>[]) (λu233 a=>[.kp 2 [[.pt 2 (u233 2) 0 0,.sl 5 (u233 5) 0 a.length,.sc (.pointer none)]],.nw 5 5 1 (bN a)]) (.lp [1,2,3,8] [1,4,6,7,8,18,19,20,21,22,23,24] [5] (λ_ (a:Int×(List UInt8))=>[(9,int a.1)]) (λu236 a=>[.kp 2 [[.pt 2 (u236 2) 0 0,.sl 5 (u236 5) 0 a.2.length,.sc (.pointer none)]],.nw 5 5 1 (bN a.2)]) n ((0:Int),(x273:List UInt8)) (pw λy75_1 y75_3 =>
 .bB 10 (decide (y75_1<(x263.jA.length:Int))) λx277 =>
 .ifs [10] x277 (.dr [(0,[24]),(1,[24])] [(6,[])] [24] [6] [0,1,2,3,4,5,6] (.ix 17 bQ.av x263.jA y75_1 λx278 =>
 .inl 18 SO Tryz.func157 [1,4,6,7,8,18,19,20,21,22,23,24] [5] (λ_ (a:(List UInt8))=>.aM []) (λu239 a=>[.kp 2 [[.pt 2 (u239 2) 0 0,.sl 5 (u239 5) 0 a.length,.sc (.pointer none)]],.nw 5 5 1 (bN a)]) ( .dr [] [] [] [11] [0,1,2,3,4,5,6,7,8,9,10,11] (.gv 14<|
 .inl 15 jG Tryz.func85 [1,4,6,7,8,18,19,20,21,22,23,24] [5] (λ_ (a:(List UInt8))=>.aM []) (λu241 a=>[.kp 2 [[.pt 2 (u241 2) 0 0,.sl 5 (u241 5) 0 a.length,.sc (.pointer none)]],.nw 5 5 1 (bN a)]) (ZX x278 y75_3) (λy78_2 =>
 .ret (y78_2:List UInt8)))) (λy76_2 =>
 .bI 19 (bL (y75_1+1)) λx298 =>
 .brk ((x298:Int),(y76_2:List UInt8))))) (.esc (.ret (y75_3:List UInt8)))))
  (λy77_2 =>
 .ret (y77_2:List UInt8))
noncomputable def aHJ (a1:bF) (x263:aT) (y73_2:List UInt8):WB (((List UInt8))) :=
 .jn 1 [] [1,4,6,7,8,18,19,20,21,22] [5] (λ_ (a:(List UInt8))=>[]) (λu245 a=>[.kp 2 [[.pt 2 (u245 2) 0 0,.sl 5 (u245 5) 0 a.length,.sc (.pointer none)]],.nw 5 5 1 (bN a)]) (.un 24 (.kB 9 true<|
 .gv 10<|
 .gv 16<|
 .dr [(1,[2]),(2,[2])] [(7,[])] [2] [7] [0,1,2,3,4,5,6,7] (.cl 23 (eX x263.dU.a0) eU (λ_=>fA) λx301 =>
 .as (x301.length<=1099511627776) inferInstance<|
 .as (y73_2.length<=1099511627776) inferInstance<|
 .bl (y73_2++x301:List UInt8) λx305 =>
 .ge 24 2<|
 .kI 32 1<|
 .kB 9 true<|
 .gv 10<|
 .gv 16<|
 .dr [(1,[2]),(2,[2])] [(7,[])] [2] [7] [0,1,2,3,4,5,6,7] (.cl 23 (eX x263.dU.a1) eU (λ_=>fA) λx306 =>
 .as (x306.length<=1099511627776) inferInstance<|
 .as (x305.length<=1099511627776) inferInstance<|
 .bl (x305++x306:List UInt8) λx310 =>
 .ge 24 2<|
 .kI 32 2<|
 .kB 9 true<|
 .gv 10<|
 .gv 16<|
 .dr [(1,[2]),(2,[2])] [(7,[])] [2] [7] [0,1,2,3,4,5,6,7] (.cl 23 (eX x263.dU.a2) eU (λ_=>fA) λx311 =>
 .as (x311.length<=1099511627776) inferInstance<|
 .as (x310.length<=1099511627776) inferInstance<|
 .bl (x310++x311:List UInt8) λx315 =>
 .ge 24 2<|
 .kI 32 3<|
 .kB 9 false<|
 .ret (x315:List UInt8))))))
  (λy83_2 =>
 .ret (y83_2:List UInt8))
noncomputable def aKI (n:Nat) (a1:bF) (x263:aT) (y70_3:List UInt8):WB (((List UInt8))) :=
 .inl 9 D4 Tryz.func158 [1,4,6,7,8,18,19,20,21,22] [5] (λ_ (a:(List UInt8))=>.aM []) (λu220 a=>[.kp 2 [[.pt 2 (u220 2) 0 0,.sl 5 (u220 5) 0 a.length,.sc (.pointer none)]],.nw 5 5 1 (bN a)]) ( .al 23<|
 .gv 12<|
 .dr [(1,[2]),(2,[2])] [(8,[])] [2] [8] [0,1,2,3,4,5,6,7,8] (.ln 19 bQ.av x263.jA<|
 .cl 20 (eX (x263.jA.length:Int)) eU (λ_=>fA) λx269 =>
 .as (x269.length<=1099511627776) inferInstance<|
 .as (y70_3.length<=1099511627776) inferInstance<|
 .bl (y70_3++x269:List UInt8) λx273 =>
 .ge 21 2<|
 .dr [(0,[23])] [(5,[])] [23] [5] [0,1,2,3,4,5] (.inl 36 zZ Tryz.func183 [1,4,6,7,8,18,19,20,21,22,23] [5] (λ_ (a:(List UInt8))=>.aM []) (λu222 a=>[.kp 2 [[.pt 2 (u222 2) 0 0,.sl 5 (u222 5) 0 a.length,.sc (.pointer none)]],.nw 5 5 1 (bN a)]) (aDM n x263 x273) (λy74_2 =>
 .gv 41<|
 .ret (y74_2:List UInt8))))) (λy73_2 =>
 .dr [] [] [] [14] [0,1,2,3,4,5,6,7,8,9,10,11,12,13,14] (.gv 14<|
 .gv 18<|
 .gv 22<|
 .gv 23<|
 .inl 24 jG Tryz.func85 [1,4,6,7,8,18,19,20,21,22] [5] (λ_ (a:(List UInt8))=>.aM []) (λu244 a=>[.kp 2 [[.pt 2 (u244 2) 0 0,.sl 5 (u244 5) 0 a.length,.sc (.pointer none)]],.nw 5 5 1 (bN a)]) (aHJ a1 x263 y73_2) (λy81_2 =>
 .ret (y81_2:List UInt8))))
noncomputable def aBL (n:Nat) (x242:aH) (y69_2:List UInt8):WB (((List UInt8))) :=
 .al 25<|
 .ln 8 fI x242.jB<|
 .jn 0 [] [1,4,6,7,8,18,19,20,21] [5] (λ_ (a:(List UInt8))=>[]) (λu258 a=>[.kp 2 [[.pt 2 (u258 2) 0 0,.sl 5 (u258 5) 0 a.length,.sc (.pointer none)]],.nw 5 5 1 (bN a)]) (.lp [1,2,3,8] [1,4,6,7,8,18,19,20,21,25] [5] (λ_ (a:Int×(List UInt8))=>[(9,int a.1)]) (λu261 a=>[.kp 2 [[.pt 2 (u261 2) 0 0,.sl 5 (u261 5) 0 a.2.length,.sc (.pointer none)]],.nw 5 5 1 (bN a.2)]) n ((0:Int),(y69_2:List UInt8)) (pw λy85_1 y85_3 =>
 .bB 10 (decide (y85_1<(x242.jB.length:Int))) λx320 =>
 .ifs [10] x320 (.dr [(0,[25]),(1,[25])] [(6,[])] [25] [6] [0,1,2,3,4,5,6] (.ix 17 fI x242.jB y85_1 λx321 =>
 .inl 18 o6 Tryz.func120 [1,4,6,7,8,18,19,20,21,25] [5] (λ_ (a:(List UInt8))=>.aM []) (λu264 a=>[.kp 2 [[.pt 2 (u264 2) 0 0,.sl 5 (u264 5) 0 a.length,.sc (.pointer none)]],.nw 5 5 1 (bN a)]) ( .gv 6<|
 .inl 7 jG Tryz.func85 [1,4,6,7,8,18,19,20,21,25] [5] (λ_ (a:(List UInt8))=>.aM []) (λu266 a=>[.kp 2 [[.pt 2 (u266 2) 0 0,.sl 5 (u266 5) 0 a.length,.sc (.pointer none)]],.nw 5 5 1 (bN a)]) ( .jn 1 [] [1,4,6,7,8,18,19,20,21,25] [5] (λ_ (a:(List UInt8))=>[]) (λu267 a=>[.kp 2 [[.pt 2 (u267 2) 0 0,.sl 5 (u267 5) 0 a.length,.sc (.pointer none)]],.nw 5 5 1 (bN a)]) (.un 24 (.kB 9 true<|
 .gv 10<|
 .gv 16<|
 .dr [(1,[2]),(2,[2])] [(7,[])] [2] [7] [0,1,2,3,4,5,6,7] (.cl 23 (eX x321) eU (λ_=>fA) λx326 =>
 .as (x326.length<=1099511627776) inferInstance<|
 .as (y85_3.length<=1099511627776) inferInstance<|
 .bl (y85_3++x326:List UInt8) λx330 =>
 .ge 24 2<|
 .kI 32 1<|
 .kB 9 false<|
 .ret (x330:List UInt8))))
  (λy90_2 =>
 .ret (y90_2:List UInt8))) (λy88_2 =>
 .ret (y88_2:List UInt8))) (λy86_2 =>
 .bI 19 (bL (y85_1+1)) λx331 =>
 .brk ((x331:Int),(y86_2:List UInt8))))) (.esc (.ret (y85_3:List UInt8)))))
  (λy87_2 =>
 .ret (y87_2:List UInt8))
noncomputable def XQ (x336:bA) (y92_3:List UInt8):WB (((List UInt8))) :=
 .jn 1 [] [1,4,6,7,8,18,19,20,21,26] [5] (λ_ (a:(List UInt8))=>[]) (λu289 a=>[.kp 2 [[.pt 2 (u289 2) 0 0,.sl 5 (u289 5) 0 a.length,.sc (.pointer none)]],.nw 5 5 1 (bN a)]) (.un 24 (.kB 9 true<|
 .gv 10<|
 .gv 16<|
 .dr [(1,[2]),(2,[2])] [(7,[])] [2] [7] [0,1,2,3,4,5,6,7] (.cl 23 (eX x336.Open) eU (λ_=>fA) λx341 =>
 .as (x341.length<=1099511627776) inferInstance<|
 .as (y92_3.length<=1099511627776) inferInstance<|
 .bl (y92_3++x341:List UInt8) λx345 =>
 .ge 24 2<|
 .kI 32 1<|
 .kB 9 true<|
 .gv 10<|
 .gv 16<|
 .dr [(1,[2]),(2,[2])] [(7,[])] [2] [7] [0,1,2,3,4,5,6,7] (.cl 23 (eX x336.jL) eU (λ_=>fA) λx346 =>
 .as (x346.length<=1099511627776) inferInstance<|
 .as (x345.length<=1099511627776) inferInstance<|
 .bl (x345++x346:List UInt8) λx350 =>
 .ge 24 2<|
 .kI 32 2<|
 .kB 9 true<|
 .gv 10<|
 .gv 16<|
 .dr [(1,[2]),(2,[2])] [(7,[])] [2] [7] [0,1,2,3,4,5,6,7] (.cl 23 (eX x336.jE) eU (λ_=>fA) λx351 =>
 .as (x351.length<=1099511627776) inferInstance<|
 .as (x350.length<=1099511627776) inferInstance<|
 .bl (x350++x351:List UInt8) λx355 =>
 .ge 24 2<|
 .kI 32 3<|
 .kB 9 true<|
 .gv 10<|
 .gv 16<|
 .dr [(1,[2]),(2,[2])] [(7,[])] [2] [7] [0,1,2,3,4,5,6,7] (.cl 23 (eX x336.iR) eU (λ_=>fA) λx356 =>
 .as (x356.length<=1099511627776) inferInstance<|
 .as (x355.length<=1099511627776) inferInstance<|
 .bl (x355++x356:List UInt8) λx360 =>
 .ge 24 2<|
 .kI 32 4<|
 .kB 9 true<|
 .gv 10<|
 .gv 16<|
 .dr [(1,[2]),(2,[2])] [(7,[])] [2] [7] [0,1,2,3,4,5,6,7] (.cl 23 (eX x336.iJ) eU (λ_=>fA) λx361 =>
 .as (x361.length<=1099511627776) inferInstance<|
 .as (x360.length<=1099511627776) inferInstance<|
 .bl (x360++x361:List UInt8) λx365 =>
 .ge 24 2<|
 .kI 32 5<|
 .kB 9 true<|
 .gv 10<|
 .gv 16<|
 .dr [(1,[2]),(2,[2])] [(7,[])] [2] [7] [0,1,2,3,4,5,6,7] (.cl 23 (eX x336.iB) eU (λ_=>fA) λx366 =>
 .as (x366.length<=1099511627776) inferInstance<|
 .as (x365.length<=1099511627776) inferInstance<|
 .bl (x365++x366:List UInt8) λx370 =>
 .ge 24 2<|
 .kI 32 6<|
 .kB 9 true<|
 .gv 10<|
 .gv 16<|
 .dr [(1,[2]),(2,[2])] [(7,[])] [2] [7] [0,1,2,3,4,5,6,7] (.cl 23 (eX x336.gW) eU (λ_=>fA) λx371 =>
 .as (x371.length<=1099511627776) inferInstance<|
 .as (x370.length<=1099511627776) inferInstance<|
 .bl (x370++x371:List UInt8) λx375 =>
 .ge 24 2<|
 .kI 32 7<|
 .kB 9 true<|
 .gv 10<|
 .gv 16<|
 .dr [(1,[2]),(2,[2])] [(7,[])] [2] [7] [0,1,2,3,4,5,6,7] (.cl 23 (eX x336.gL) eU (λ_=>fA) λx376 =>
 .as (x376.length<=1099511627776) inferInstance<|
 .as (x375.length<=1099511627776) inferInstance<|
 .bl (x375++x376:List UInt8) λx380 =>
 .ge 24 2<|
 .kI 32 8<|
 .kB 9 true<|
 .gv 10<|
 .gv 16<|
 .dr [(1,[2]),(2,[2])] [(7,[])] [2] [7] [0,1,2,3,4,5,6,7] (.cl 23 (eX x336.gH) eU (λ_=>fA) λx381 =>
 .as (x381.length<=1099511627776) inferInstance<|
 .as (x380.length<=1099511627776) inferInstance<|
 .bl (x380++x381:List UInt8) λx385 =>
 .ge 24 2<|
 .kI 32 9<|
 .kB 9 true<|
 .gv 10<|
 .gv 16<|
 .dr [(1,[2]),(2,[2])] [(7,[])] [2] [7] [0,1,2,3,4,5,6,7] (.cl 23 (eX x336.gD) eU (λ_=>fA) λx386 =>
 .as (x386.length<=1099511627776) inferInstance<|
 .as (x385.length<=1099511627776) inferInstance<|
 .bl (x385++x386:List UInt8) λx390 =>
 .ge 24 2<|
 .kI 32 10<|
 .kB 9 true<|
 .gv 10<|
 .gv 16<|
 .dr [(1,[2]),(2,[2])] [(7,[])] [2] [7] [0,1,2,3,4,5,6,7] (.cl 23 (eX x336.fU) eU (λ_=>fA) λx391 =>
 .as (x391.length<=1099511627776) inferInstance<|
 .as (x390.length<=1099511627776) inferInstance<|
 .bl (x390++x391:List UInt8) λx395 =>
 .ge 24 2<|
 .kI 32 11<|
 .kB 9 false<|
 .ret (x395:List UInt8))))))))))))))
  (λy97_2 =>
 .ret (y97_2:List UInt8))
noncomputable def aCW (n:Nat) (x242:aH) (y84_2:List UInt8):WB (((List UInt8))) :=
 .al 26<|
 .ln 8 bA.av x242.iI<|
 .jn 0 [] [1,4,6,7,8,18,19,20,21] [5] (λ_ (a:(List UInt8))=>[]) (λu280 a=>[.kp 2 [[.pt 2 (u280 2) 0 0,.sl 5 (u280 5) 0 a.length,.sc (.pointer none)]],.nw 5 5 1 (bN a)]) (.lp [1,2,3,8] [1,4,6,7,8,18,19,20,21,26] [5] (λ_ (a:Int×(List UInt8))=>[(9,int a.1)]) (λu283 a=>[.kp 2 [[.pt 2 (u283 2) 0 0,.sl 5 (u283 5) 0 a.2.length,.sc (.pointer none)]],.nw 5 5 1 (bN a.2)]) n ((0:Int),(y84_2:List UInt8)) (pw λy92_1 y92_3 =>
 .bB 10 (decide (y92_1<(x242.iI.length:Int))) λx335 =>
 .ifs [10] x335 (.dr [(0,[26]),(1,[26])] [(6,[])] [26] [6] [0,1,2,3,4,5,6] (.ix 17 bA.av x242.iI y92_1 λx336 =>
 .inl 18 DY Tryz.func122 [1,4,6,7,8,18,19,20,21,26] [5] (λ_ (a:(List UInt8))=>.aM []) (λu286 a=>[.kp 2 [[.pt 2 (u286 2) 0 0,.sl 5 (u286 5) 0 a.length,.sc (.pointer none)]],.nw 5 5 1 (bN a)]) ( .dr [] [] [] [35] [0,1,2,3,4,5,6,7,8,9,10,11,12,13,14,15,16,17,18,19,20,21,22,23,24,25,26,27,28,29,30,31,32,33,34,35] (.gv 38<|
 .inl 39 jG Tryz.func85 [1,4,6,7,8,18,19,20,21,26] [5] (λ_ (a:(List UInt8))=>.aM []) (λu288 a=>[.kp 2 [[.pt 2 (u288 2) 0 0,.sl 5 (u288 5) 0 a.length,.sc (.pointer none)]],.nw 5 5 1 (bN a)]) (XQ x336 y92_3) (λy95_2 =>
 .ret (y95_2:List UInt8)))) (λy93_2 =>
 .bI 19 (bL (y92_1+1)) λx396 =>
 .brk ((x396:Int),(y93_2:List UInt8))))) (.esc (.ret (y92_3:List UInt8)))))
  (λy94_2 =>
 .ret (y94_2:List UInt8))
noncomputable def aJY (n:Nat) (x242:aH) (x404:List UInt8):WB (((List UInt8))) :=
 .al 28<|
 .ln 8 fI x242.iL<|
 .jn 0 [] [1,4,6,7,8,18,19,20,21,27] [5] (λ_ (a:(List UInt8))=>[]) (λu304 a=>[.kp 2 [[.pt 2 (u304 2) 0 0,.sl 5 (u304 5) 0 a.length,.sc (.pointer none)]],.nw 5 5 1 (bN a)]) (.lp [1,2,3,8] [1,4,6,7,8,18,19,20,21,27,28] [5] (λ_ (a:Int×(List UInt8))=>[(9,int a.1)]) (λu307 a=>[.kp 2 [[.pt 2 (u307 2) 0 0,.sl 5 (u307 5) 0 a.2.length,.sc (.pointer none)]],.nw 5 5 1 (bN a.2)]) n ((0:Int),(x404:List UInt8)) (pw λy100_1 y100_3 =>
 .bB 10 (decide (y100_1<(x242.iL.length:Int))) λx408 =>
 .ifs [10] x408 (.dr [(0,[28]),(1,[28])] [(6,[])] [28] [6] [0,1,2,3,4,5,6] (.ix 17 fI x242.iL y100_1 λx409 =>
 .inl 18 o6 Tryz.func120 [1,4,6,7,8,18,19,20,21,27,28] [5] (λ_ (a:(List UInt8))=>.aM []) (λu310 a=>[.kp 2 [[.pt 2 (u310 2) 0 0,.sl 5 (u310 5) 0 a.length,.sc (.pointer none)]],.nw 5 5 1 (bN a)]) ( .gv 6<|
 .inl 7 jG Tryz.func85 [1,4,6,7,8,18,19,20,21,27,28] [5] (λ_ (a:(List UInt8))=>.aM []) (λu312 a=>[.kp 2 [[.pt 2 (u312 2) 0 0,.sl 5 (u312 5) 0 a.length,.sc (.pointer none)]],.nw 5 5 1 (bN a)]) ( .jn 1 [] [1,4,6,7,8,18,19,20,21,27,28] [5] (λ_ (a:(List UInt8))=>[]) (λu313 a=>[.kp 2 [[.pt 2 (u313 2) 0 0,.sl 5 (u313 5) 0 a.length,.sc (.pointer none)]],.nw 5 5 1 (bN a)]) (.un 24 (.kB 9 true<|
 .gv 10<|
 .gv 16<|
 .dr [(1,[2]),(2,[2])] [(7,[])] [2] [7] [0,1,2,3,4,5,6,7] (.cl 23 (eX x409) eU (λ_=>fA) λx414 =>
 .as (x414.length<=1099511627776) inferInstance<|
 .as (y100_3.length<=1099511627776) inferInstance<|
 .bl (y100_3++x414:List UInt8) λx418 =>
 .ge 24 2<|
 .kI 32 1<|
 .kB 9 false<|
 .ret (x418:List UInt8))))
  (λy105_2 =>
 .ret (y105_2:List UInt8))) (λy103_2 =>
 .ret (y103_2:List UInt8))) (λy101_2 =>
 .bI 19 (bL (y100_1+1)) λx419 =>
 .brk ((x419:Int),(y101_2:List UInt8))))) (.esc (.ret (y100_3:List UInt8)))))
  (λy102_2 =>
 .ret (y102_2:List UInt8))
noncomputable def Y4 (n:Nat) (x242:aH) (x427:List UInt8):WB (((List UInt8))) :=
 .al 30<|
 .ln 8 fI x242.Down<|
 .jn 0 [] [1,4,6,7,8,18,19,20,21,29] [5] (λ_ (a:(List UInt8))=>[]) (λu328 a=>[.kp 2 [[.pt 2 (u328 2) 0 0,.sl 5 (u328 5) 0 a.length,.sc (.pointer none)]],.nw 5 5 1 (bN a)]) (.lp [1,2,3,8] [1,4,6,7,8,18,19,20,21,29,30] [5] (λ_ (a:Int×(List UInt8))=>[(9,int a.1)]) (λu331 a=>[.kp 2 [[.pt 2 (u331 2) 0 0,.sl 5 (u331 5) 0 a.2.length,.sc (.pointer none)]],.nw 5 5 1 (bN a.2)]) n ((0:Int),(x427:List UInt8)) (pw λy108_1 y108_3 =>
 .bB 10 (decide (y108_1<(x242.Down.length:Int))) λx431 =>
 .ifs [10] x431 (.dr [(0,[30]),(1,[30])] [(6,[])] [30] [6] [0,1,2,3,4,5,6] (.ix 17 fI x242.Down y108_1 λx432 =>
 .inl 18 o6 Tryz.func120 [1,4,6,7,8,18,19,20,21,29,30] [5] (λ_ (a:(List UInt8))=>.aM []) (λu334 a=>[.kp 2 [[.pt 2 (u334 2) 0 0,.sl 5 (u334 5) 0 a.length,.sc (.pointer none)]],.nw 5 5 1 (bN a)]) ( .gv 6<|
 .inl 7 jG Tryz.func85 [1,4,6,7,8,18,19,20,21,29,30] [5] (λ_ (a:(List UInt8))=>.aM []) (λu336 a=>[.kp 2 [[.pt 2 (u336 2) 0 0,.sl 5 (u336 5) 0 a.length,.sc (.pointer none)]],.nw 5 5 1 (bN a)]) ( .jn 1 [] [1,4,6,7,8,18,19,20,21,29,30] [5] (λ_ (a:(List UInt8))=>[]) (λu337 a=>[.kp 2 [[.pt 2 (u337 2) 0 0,.sl 5 (u337 5) 0 a.length,.sc (.pointer none)]],.nw 5 5 1 (bN a)]) (.un 24 (.kB 9 true<|
 .gv 10<|
 .gv 16<|
 .dr [(1,[2]),(2,[2])] [(7,[])] [2] [7] [0,1,2,3,4,5,6,7] (.cl 23 (eX x432) eU (λ_=>fA) λx437 =>
 .as (x437.length<=1099511627776) inferInstance<|
 .as (y108_3.length<=1099511627776) inferInstance<|
 .bl (y108_3++x437:List UInt8) λx441 =>
 .ge 24 2<|
 .kI 32 1<|
 .kB 9 false<|
 .ret (x441:List UInt8))))
  (λy113_2 =>
 .ret (y113_2:List UInt8))) (λy111_2 =>
 .ret (y111_2:List UInt8))) (λy109_2 =>
 .bI 19 (bL (y108_1+1)) λx442 =>
 .brk ((x442:Int),(y109_2:List UInt8))))) (.esc (.ret (y108_3:List UInt8)))))
  (λy110_2 =>
 .ret (y110_2:List UInt8))
noncomputable def aGD (n:Nat) (a1:bF) (x242:aH) (y61_3:List UInt8):WB (((List UInt8))) :=
 .gv 10<|
 .gv 24<|
 .inl 25 jG Tryz.func85 [1,4,6,7,8,18,19,20,21] [5] (λ_ (a:(List UInt8))=>.aM []) (λu195 a=>[.kp 2 [[.pt 2 (u195 2) 0 0,.sl 5 (u195 5) 0 a.length,.sc (.pointer none)]],.nw 5 5 1 (bN a)]) ( .jn 1 [] [1,4,6,7,8,18,19,20,21] [5] (λ_ (a:(List UInt8))=>[]) (λu196 a=>[.kp 2 [[.pt 2 (u196 2) 0 0,.sl 5 (u196 5) 0 a.length,.sc (.pointer none)]],.nw 5 5 1 (bN a)]) (.un 24 (.kB 9 true<|
 .gv 10<|
 .gv 16<|
 .dr [(1,[2]),(2,[2])] [(7,[])] [2] [7] [0,1,2,3,4,5,6,7] (.cl 23 (eX x242.jR) eU (λ_=>fA) λx247 =>
 .as (x247.length<=1099511627776) inferInstance<|
 .as (y61_3.length<=1099511627776) inferInstance<|
 .bl (y61_3++x247:List UInt8) λx251 =>
 .ge 24 2<|
 .kI 32 1<|
 .kB 9 false<|
 .ret (x251:List UInt8))))
  (λy66_2 =>
 .ret (y66_2:List UInt8))) (λy64_2 =>
 .inl 30 zG Tryz.func117 [1,4,6,7,8,18,19,20,21] [5] (λ_ (a:(List UInt8))=>.aM []) (λu198 a=>[.kp 2 [[.pt 2 (u198 2) 0 0,.sl 5 (u198 5) 0 a.length,.sc (.pointer none)]],.nw 5 5 1 (bN a)]) ( .jn 2 [0,1] [1,2,4,5,6,7,8,18,19,20,21] [] (λ_ (a:Int)=>[(4,int a)]) (λ_ _=>[]) (.ifs [7] x242.Closed (.ret (1:Int)) (.ret (0:Int)))
  (λy68_1 =>
 .gv 12<|
 .dr [(1,[2]),(2,[2])] [(5,[])] [2] [5] [0,1,2,3,4,5] (.cl 17 (eX y68_1) eU (λ_=>fA) λx254 =>
 .as (x254.length<=1099511627776) inferInstance<|
 .as (y64_2.length<=1099511627776) inferInstance<|
 .bl (y64_2++x254:List UInt8) λx258 =>
 .ge 18 2<|
 .ret (x258:List UInt8)))) (λy67_2 =>
 .inl 37 CX Tryz.func119 [1,4,6,7,8,18,19,20,21] [5] (λ_ (a:(List UInt8))=>.aM []) (λu201 a=>[.kp 2 [[.pt 2 (u201 2) 0 0,.sl 5 (u201 5) 0 a.length,.sc (.pointer none)]],.nw 5 5 1 (bN a)]) ( .al 22<|
 .ln 8 aT.av x242.gY<|
 .jn 0 [] [1,4,6,7,8,18,19,20,21] [5] (λ_ (a:(List UInt8))=>[]) (λu212 a=>[.kp 2 [[.pt 2 (u212 2) 0 0,.sl 5 (u212 5) 0 a.length,.sc (.pointer none)]],.nw 5 5 1 (bN a)]) (.lp [1,2,3,8] [1,4,6,7,8,18,19,20,21,22] [5] (λ_ (a:Int×(List UInt8))=>[(9,int a.1)]) (λu215 a=>[.kp 2 [[.pt 2 (u215 2) 0 0,.sl 5 (u215 5) 0 a.2.length,.sc (.pointer none)]],.nw 5 5 1 (bN a.2)]) n ((0:Int),(y67_2:List UInt8)) (pw λy70_1 y70_3 =>
 .bB 10 (decide (y70_1<(x242.gY.length:Int))) λx262 =>
 .ifs [10] x262 (.dr [(0,[22]),(1,[22])] [(6,[])] [22] [6] [0,1,2,3,4,5,6] (.ix 17 aT.av x242.gY y70_1 λx263 =>
 .inl 18 C5 Tryz.func118 [1,4,6,7,8,18,19,20,21,22] [5] (λ_ (a:(List UInt8))=>.aM []) (λu218 a=>[.kp 2 [[.pt 2 (u218 2) 0 0,.sl 5 (u218 5) 0 a.length,.sc (.pointer none)]],.nw 5 5 1 (bN a)]) (aKI n a1 x263 y70_3) (λy71_2 =>
 .bI 19 (bL (y70_1+1)) λx316 =>
 .brk ((x316:Int),(y71_2:List UInt8))))) (.esc (.ret (y70_3:List UInt8)))))
  (λy72_2 =>
 .ret (y72_2:List UInt8))) (λy69_2 =>
 .inl 44 pO Tryz.func121 [1,4,6,7,8,18,19,20,21] [5] (λ_ (a:(List UInt8))=>.aM []) (λu247 a=>[.kp 2 [[.pt 2 (u247 2) 0 0,.sl 5 (u247 5) 0 a.length,.sc (.pointer none)]],.nw 5 5 1 (bN a)]) (aBL n x242 y69_2) (λy84_2 =>
 .inl 51 CF Tryz.func123 [1,4,6,7,8,18,19,20,21] [5] (λ_ (a:(List UInt8))=>.aM []) (λu269 a=>[.kp 2 [[.pt 2 (u269 2) 0 0,.sl 5 (u269 5) 0 a.length,.sc (.pointer none)]],.nw 5 5 1 (bN a)]) (aCW n x242 y84_2) (λy91_2 =>
 .inl 57 tF Tryz.func124 [1,4,6,7,8,18,19,20,21] [5] (λ_ (a:(List UInt8))=>.aM []) (λu291 a=>[.kp 2 [[.pt 2 (u291 2) 0 0,.sl 5 (u291 5) 0 a.length,.sc (.pointer none)]],.nw 5 5 1 (bN a)]) ( .al 27<|
 .gv 12<|
 .dr [(1,[2]),(2,[2])] [(8,[])] [2] [8] [0,1,2,3,4,5,6,7,8] (.ln 19 fI x242.iL<|
 .cl 20 (eX (x242.iL.length:Int)) eU (λ_=>fA) λx400 =>
 .as (x400.length<=1099511627776) inferInstance<|
 .as (y91_2.length<=1099511627776) inferInstance<|
 .bl (y91_2++x400:List UInt8) λx404 =>
 .ge 21 2<|
 .dr [(0,[27])] [(5,[])] [27] [5] [0,1,2,3,4,5] (.inl 36 pO Tryz.func121 [1,4,6,7,8,18,19,20,21,27] [5] (λ_ (a:(List UInt8))=>.aM []) (λu293 a=>[.kp 2 [[.pt 2 (u293 2) 0 0,.sl 5 (u293 5) 0 a.length,.sc (.pointer none)]],.nw 5 5 1 (bN a)]) (aJY n x242 x404) (λy99_2 =>
 .gv 41<|
 .ret (y99_2:List UInt8))))) (λy98_2 =>
 .inl 63 tF Tryz.func124 [1,4,6,7,8,18,19,20,21] [5] (λ_ (a:(List UInt8))=>.aM []) (λu315 a=>[.kp 2 [[.pt 2 (u315 2) 0 0,.sl 5 (u315 5) 0 a.length,.sc (.pointer none)]],.nw 5 5 1 (bN a)]) ( .al 29<|
 .gv 12<|
 .dr [(1,[2]),(2,[2])] [(8,[])] [2] [8] [0,1,2,3,4,5,6,7,8] (.ln 19 fI x242.Down<|
 .cl 20 (eX (x242.Down.length:Int)) eU (λ_=>fA) λx423 =>
 .as (x423.length<=1099511627776) inferInstance<|
 .as (y98_2.length<=1099511627776) inferInstance<|
 .bl (y98_2++x423:List UInt8) λx427 =>
 .ge 21 2<|
 .dr [(0,[29])] [(5,[])] [29] [5] [0,1,2,3,4,5] (.inl 36 pO Tryz.func121 [1,4,6,7,8,18,19,20,21,29] [5] (λ_ (a:(List UInt8))=>.aM []) (λu317 a=>[.kp 2 [[.pt 2 (u317 2) 0 0,.sl 5 (u317 5) 0 a.length,.sc (.pointer none)]],.nw 5 5 1 (bN a)]) (Y4 n x242 x427) (λy107_2 =>
 .gv 41<|
 .ret (y107_2:List UInt8))))) (λy106_2 =>
 .dr [(0,[18]),(7,[19])] [(1,[19]),(8,[])] [18,19] [1,8] [0,3,4,5,6,7,1,2,8] (.inl 65 vS Tryz.func77 [1,2,4,5,6,7,8,18,19,20,21] [31,32] (λu340 (a:Unit)=>.fn (.func 116) [] [.pt 31 (u340 31) 0 0,.pt 32 (u340 32) 0 0]) (λ_ _=>[.nw 31 3 1 [[int (a1.fJ.bC.length:Int)]],.nw 32 3 1 [[int 0]]]) ( .al 31<|
 .al 32<|
 .ret ()) (λ_ =>
 .inl 72 BP Tryz.func125 [1,4,6,7,8,18,19,20,21,31,32] [5] (λ_ (a:(List UInt8))=>.aM []) (λu341 a=>[.kp 2 [[.pt 2 (u341 2) 0 0,.sl 5 (u341 5) 0 a.length,.sc (.pointer none)]],.nw 5 5 1 (bN a)]) ( .al 33<|
 .gv 12<|
 .dr [(1,[2]),(2,[2])] [(8,[])] [2] [8] [0,1,2,3,4,5,6,7,8] (.ln 19 aH.av x242.iQ<|
 .cl 20 (eX (x242.iQ.length:Int)) eU (λ_=>fA) λx448 =>
 .as (x448.length<=1099511627776) inferInstance<|
 .as (y106_2.length<=1099511627776) inferInstance<|
 .bl (y106_2++x448:List UInt8) λx452 =>
 .ge 21 2<|
 .dr [(0,[33])] [(5,[])] [33] [5] [0,1,2,3,4,5] (.inl 36 wN Tryz.func78 [1,4,6,7,8,18,19,20,21,31,32,33] [5] (λ_ (a:(List UInt8))=>.aM []) (λu343 a=>[.kp 2 [[.pt 2 (u343 2) 0 0,.sl 5 (u343 5) 0 a.length,.sc (.pointer none)]],.nw 5 5 1 (bN a)]) ( .al 34<|
 .ln 8 aH.av x242.iQ<|
 .jn 0 [] [1,2,4,5,6,7,8,18,19,20,21,31,32,33] [] (λ_ (a:Unit)=>[]) (λ_ _=>[]) (.lp [1,2,3,8,9] [1,2,4,5,6,7,8,18,19,20,21,31,32,33,34] [] (λ_ (a:Unit)=>[]) (λ_ _=>[]) n () (λ_ =>
 .bB 10 (decide (0<(x242.iQ.length:Int))) λx456 =>
 .az [10] x456 (.esc (.ret ()))))
  (λ_ =>
 .ret (x452:List UInt8))) (λy116_2 =>
 .gv 41<|
 .ret (y116_2:List UInt8))))) (λy115_2 =>
 .ret (y115_2:List UInt8)))))))))))
noncomputable def aH4 (n:Nat) (a1:bF) (x237:List UInt8) (x27:aH):WB (((List UInt8))) :=
 .al 21<|
 .ln 8 aH.av x27.iQ<|
 .jn 0 [] [1,4,6,7,8,18,19,20] [5] (λ_ (a:(List UInt8))=>[]) (λu187 a=>[.kp 2 [[.pt 2 (u187 2) 0 0,.sl 5 (u187 5) 0 a.length,.sc (.pointer none)]],.nw 5 5 1 (bN a)]) (.lp [1,2,3,8] [1,4,6,7,8,18,19,20,21] [5] (λ_ (a:Int×(List UInt8))=>[(9,int a.1)]) (λu190 a=>[.kp 2 [[.pt 2 (u190 2) 0 0,.sl 5 (u190 5) 0 a.2.length,.sc (.pointer none)]],.nw 5 5 1 (bN a.2)]) n ((0:Int),(x237:List UInt8)) (pw λy61_1 y61_3 =>
 .bB 10 (decide (y61_1<(x27.iQ.length:Int))) λx241 =>
 .ifs [10] x241 (.dr [(0,[21]),(1,[21])] [(6,[])] [21] [6] [0,1,2,3,4,5,6] (.lV 17 aH.av (λx=>[int x.jR,aA x.Closed,aG 4 aT.av x.gY,aG 1 fI x.jB,aG 11 bA.av x.iI,aG 1 fI x.iL,aG 1 fI x.Down,aG 8 aH.av x.iQ]) aH.gI x27.iQ y61_1 λx242 =>
 .inl 18 B7 Tryz.func116 [1,4,6,7,8,18,19,20,21] [5] (λ_ (a:(List UInt8))=>.aM []) (λu193 a=>[.kp 2 [[.pt 2 (u193 2) 0 0,.sl 5 (u193 5) 0 a.length,.sc (.pointer none)]],.nw 5 5 1 (bN a)]) (aGD n a1 x242 y61_3) (λy62_2 =>
 .bI 19 (bL (y61_1+1)) λx457 =>
 .brk ((x457:Int),(y62_2:List UInt8))))) (.esc (.ret (y61_3:List UInt8)))))
  (λy63_2 =>
 .ret (y63_2:List UInt8))
noncomputable def ZT (n:Nat) (a1:bF) (x27:aH) (y5_3:List UInt8):WB (((List UInt8))) :=
 .gv 10<|
 .gv 24<|
 .inl 25 jG Tryz.func85 [1,4,6,7,8] [5] (λ_ (a:(List UInt8))=>.aM []) (λu28 a=>[.kp 2 [[.pt 2 (u28 2) 0 0,.sl 5 (u28 5) 0 a.length,.sc (.pointer none)]],.nw 5 5 1 (bN a)]) ( .jn 1 [] [1,4,6,7,8] [5] (λ_ (a:(List UInt8))=>[]) (λu29 a=>[.kp 2 [[.pt 2 (u29 2) 0 0,.sl 5 (u29 5) 0 a.length,.sc (.pointer none)]],.nw 5 5 1 (bN a)]) (.un 24 (.kB 9 true<|
 .gv 10<|
 .gv 16<|
 .dr [(1,[2]),(2,[2])] [(7,[])] [2] [7] [0,1,2,3,4,5,6,7] (.cl 23 (eX x27.jR) eU (λ_=>fA) λx32 =>
 .as (x32.length<=1099511627776) inferInstance<|
 .as (y5_3.length<=1099511627776) inferInstance<|
 .bl (y5_3++x32:List UInt8) λx36 =>
 .ge 24 2<|
 .kI 32 1<|
 .kB 9 false<|
 .ret (x36:List UInt8))))
  (λy10_2 =>
 .ret (y10_2:List UInt8))) (λy8_2 =>
 .inl 30 zG Tryz.func117 [1,4,6,7,8] [5] (λ_ (a:(List UInt8))=>.aM []) (λu31 a=>[.kp 2 [[.pt 2 (u31 2) 0 0,.sl 5 (u31 5) 0 a.length,.sc (.pointer none)]],.nw 5 5 1 (bN a)]) ( .jn 2 [0,1] [1,2,4,5,6,7,8] [] (λ_ (a:Int)=>[(4,int a)]) (λ_ _=>[]) (.ifs [7] x27.Closed (.ret (1:Int)) (.ret (0:Int)))
  (λy12_1 =>
 .gv 12<|
 .dr [(1,[2]),(2,[2])] [(5,[])] [2] [5] [0,1,2,3,4,5] (.cl 17 (eX y12_1) eU (λ_=>fA) λx39 =>
 .as (x39.length<=1099511627776) inferInstance<|
 .as (y8_2.length<=1099511627776) inferInstance<|
 .bl (y8_2++x39:List UInt8) λx43 =>
 .ge 18 2<|
 .ret (x43:List UInt8)))) (λy11_2 =>
 .inl 37 CX Tryz.func119 [1,4,6,7,8] [5] (λ_ (a:(List UInt8))=>.aM []) (λu34 a=>[.kp 2 [[.pt 2 (u34 2) 0 0,.sl 5 (u34 5) 0 a.length,.sc (.pointer none)]],.nw 5 5 1 (bN a)]) ( .al 9<|
 .ln 8 aT.av x27.gY<|
 .jn 0 [] [1,4,6,7,8] [5] (λ_ (a:(List UInt8))=>[]) (λu45 a=>[.kp 2 [[.pt 2 (u45 2) 0 0,.sl 5 (u45 5) 0 a.length,.sc (.pointer none)]],.nw 5 5 1 (bN a)]) (.lp [1,2,3,8] [1,4,6,7,8,9] [5] (λ_ (a:Int×(List UInt8))=>[(9,int a.1)]) (λu48 a=>[.kp 2 [[.pt 2 (u48 2) 0 0,.sl 5 (u48 5) 0 a.2.length,.sc (.pointer none)]],.nw 5 5 1 (bN a.2)]) n ((0:Int),(y11_2:List UInt8)) (pw λy14_1 y14_3 =>
 .bB 10 (decide (y14_1<(x27.gY.length:Int))) λx47 =>
 .ifs [10] x47 (.dr [(0,[9]),(1,[9])] [(6,[])] [9] [6] [0,1,2,3,4,5,6] (.ix 17 aT.av x27.gY y14_1 λx48 =>
 .inl 18 C5 Tryz.func118 [1,4,6,7,8,9] [5] (λ_ (a:(List UInt8))=>.aM []) (λu51 a=>[.kp 2 [[.pt 2 (u51 2) 0 0,.sl 5 (u51 5) 0 a.length,.sc (.pointer none)]],.nw 5 5 1 (bN a)]) (aGS n a1 x48 y14_3) (λy15_2 =>
 .bI 19 (bL (y14_1+1)) λx101 =>
 .brk ((x101:Int),(y15_2:List UInt8))))) (.esc (.ret (y14_3:List UInt8)))))
  (λy16_2 =>
 .ret (y16_2:List UInt8))) (λy13_2 =>
 .inl 44 pO Tryz.func121 [1,4,6,7,8] [5] (λ_ (a:(List UInt8))=>.aM []) (λu80 a=>[.kp 2 [[.pt 2 (u80 2) 0 0,.sl 5 (u80 5) 0 a.length,.sc (.pointer none)]],.nw 5 5 1 (bN a)]) (aEE n x27 y13_2) (λy28_2 =>
 .inl 51 CF Tryz.func123 [1,4,6,7,8] [5] (λ_ (a:(List UInt8))=>.aM []) (λu102 a=>[.kp 2 [[.pt 2 (u102 2) 0 0,.sl 5 (u102 5) 0 a.length,.sc (.pointer none)]],.nw 5 5 1 (bN a)]) (aD6 n x27 y28_2) (λy35_2 =>
 .inl 57 tF Tryz.func124 [1,4,6,7,8] [5] (λ_ (a:(List UInt8))=>.aM []) (λu124 a=>[.kp 2 [[.pt 2 (u124 2) 0 0,.sl 5 (u124 5) 0 a.length,.sc (.pointer none)]],.nw 5 5 1 (bN a)]) ( .al 14<|
 .gv 12<|
 .dr [(1,[2]),(2,[2])] [(8,[])] [2] [8] [0,1,2,3,4,5,6,7,8] (.ln 19 fI x27.iL<|
 .cl 20 (eX (x27.iL.length:Int)) eU (λ_=>fA) λx185 =>
 .as (x185.length<=1099511627776) inferInstance<|
 .as (y35_2.length<=1099511627776) inferInstance<|
 .bl (y35_2++x185:List UInt8) λx189 =>
 .ge 21 2<|
 .dr [(0,[14])] [(5,[])] [14] [5] [0,1,2,3,4,5] (.inl 36 pO Tryz.func121 [1,4,6,7,8,14] [5] (λ_ (a:(List UInt8))=>.aM []) (λu126 a=>[.kp 2 [[.pt 2 (u126 2) 0 0,.sl 5 (u126 5) 0 a.length,.sc (.pointer none)]],.nw 5 5 1 (bN a)]) (aG3 n x189 x27) (λy43_2 =>
 .gv 41<|
 .ret (y43_2:List UInt8))))) (λy42_2 =>
 .inl 63 tF Tryz.func124 [1,4,6,7,8] [5] (λ_ (a:(List UInt8))=>.aM []) (λu148 a=>[.kp 2 [[.pt 2 (u148 2) 0 0,.sl 5 (u148 5) 0 a.length,.sc (.pointer none)]],.nw 5 5 1 (bN a)]) ( .al 16<|
 .gv 12<|
 .dr [(1,[2]),(2,[2])] [(8,[])] [2] [8] [0,1,2,3,4,5,6,7,8] (.ln 19 fI x27.Down<|
 .cl 20 (eX (x27.Down.length:Int)) eU (λ_=>fA) λx208 =>
 .as (x208.length<=1099511627776) inferInstance<|
 .as (y42_2.length<=1099511627776) inferInstance<|
 .bl (y42_2++x208:List UInt8) λx212 =>
 .ge 21 2<|
 .dr [(0,[16])] [(5,[])] [16] [5] [0,1,2,3,4,5] (.inl 36 pO Tryz.func121 [1,4,6,7,8,16] [5] (λ_ (a:(List UInt8))=>.aM []) (λu150 a=>[.kp 2 [[.pt 2 (u150 2) 0 0,.sl 5 (u150 5) 0 a.length,.sc (.pointer none)]],.nw 5 5 1 (bN a)]) (XN n x212 x27) (λy51_2 =>
 .gv 41<|
 .ret (y51_2:List UInt8))))) (λy50_2 =>
 .dr [(0,[6]),(7,[7])] [(1,[7]),(8,[])] [6,7] [1,8] [0,3,4,5,6,7,1,2,8] (.inl 65 vS Tryz.func77 [1,2,4,5,6,7,8] [18,19] (λu173 (a:Unit)=>.fn (.func 116) [] [.pt 18 (u173 18) 0 0,.pt 19 (u173 19) 0 0]) (λ_ _=>[.nw 18 3 1 [[int (a1.fJ.bC.length:Int)]],.nw 19 3 1 [[int 0]]]) ( .al 18<|
 .al 19<|
 .ret ()) (λ_ =>
 .inl 72 BP Tryz.func125 [1,4,6,7,8,18,19] [5] (λ_ (a:(List UInt8))=>.aM []) (λu174 a=>[.kp 2 [[.pt 2 (u174 2) 0 0,.sl 5 (u174 5) 0 a.length,.sc (.pointer none)]],.nw 5 5 1 (bN a)]) ( .al 20<|
 .gv 12<|
 .dr [(1,[2]),(2,[2])] [(8,[])] [2] [8] [0,1,2,3,4,5,6,7,8] (.ln 19 aH.av x27.iQ<|
 .cl 20 (eX (x27.iQ.length:Int)) eU (λ_=>fA) λx233 =>
 .as (x233.length<=1099511627776) inferInstance<|
 .as (y50_2.length<=1099511627776) inferInstance<|
 .bl (y50_2++x233:List UInt8) λx237 =>
 .ge 21 2<|
 .dr [(0,[20])] [(5,[])] [20] [5] [0,1,2,3,4,5] (.inl 36 wN Tryz.func78 [1,4,6,7,8,18,19,20] [5] (λ_ (a:(List UInt8))=>.aM []) (λu176 a=>[.kp 2 [[.pt 2 (u176 2) 0 0,.sl 5 (u176 5) 0 a.length,.sc (.pointer none)]],.nw 5 5 1 (bN a)]) (aH4 n a1 x237 x27) (λy60_2 =>
 .gv 41<|
 .ret (y60_2:List UInt8))))) (λy59_2 =>
 .ret (y59_2:List UInt8)))))))))))
noncomputable def aIQ (n:Nat) (a1:bF) (x16:(List UInt8)):WB (((List UInt8))) :=
 .al 8<|
 .ln 8 aH.av a1.fO<|
 .jn 0 [] [1,4,6,7] [5] (λ_ (a:(List UInt8))=>[]) (λu20 a=>[.kp 2 [[.pt 2 (u20 2) 0 0,.sl 5 (u20 5) 0 a.length,.sc (.pointer none)]],.nw 5 5 1 (bN a)]) (.lp [1,2,3,8] [1,4,6,7,8] [5] (λ_ (a:Int×(List UInt8))=>[(9,int a.1)]) (λu23 a=>[.kp 2 [[.pt 2 (u23 2) 0 0,.sl 5 (u23 5) 0 a.2.length,.sc (.pointer none)]],.nw 5 5 1 (bN a.2)]) n ((0:Int),(x16:List UInt8)) (pw λy5_1 y5_3 =>
 .bB 10 (decide (y5_1<(a1.fO.length:Int))) λx26 =>
 .ifs [10] x26 (.dr [(0,[8]),(1,[8])] [(6,[])] [8] [6] [0,1,2,3,4,5,6] (.lV 17 aH.av (λx=>[int x.jR,aA x.Closed,aG 4 aT.av x.gY,aG 1 fI x.jB,aG 11 bA.av x.iI,aG 1 fI x.iL,aG 1 fI x.Down,aG 8 aH.av x.iQ]) aH.gI a1.fO y5_1 λx27 =>
 .inl 18 B7 Tryz.func116 [1,4,6,7,8] [5] (λ_ (a:(List UInt8))=>.aM []) (λu26 a=>[.kp 2 [[.pt 2 (u26 2) 0 0,.sl 5 (u26 5) 0 a.length,.sc (.pointer none)]],.nw 5 5 1 (bN a)]) (ZT n a1 x27 y5_3) (λy6_2 =>
 .bI 19 (bL (y5_1+1)) λx458 =>
 .brk ((x458:Int),(y6_2:List UInt8))))) (.esc (.ret (y5_3:List UInt8)))))
  (λy7_2 =>
 .ret (y7_2:List UInt8))
noncomputable def aIH (x471:fP) (y121_3:List UInt8):WB (((List UInt8))) :=
 .jn 1 [] [1,4,6,7,35,36] [5] (λ_ (a:(List UInt8))=>[]) (λu370 a=>[.kp 2 [[.pt 2 (u370 2) 0 0,.sl 5 (u370 5) 0 a.length,.sc (.pointer none)]],.nw 5 5 1 (bN a)]) (.un 24 (.kB 9 true<|
 .gv 10<|
 .gv 16<|
 .dr [(1,[2]),(2,[2])] [(7,[])] [2] [7] [0,1,2,3,4,5,6,7] (.cl 23 (eX x471.rO) eU (λ_=>fA) λx476 =>
 .as (x476.length<=1099511627776) inferInstance<|
 .as (y121_3.length<=1099511627776) inferInstance<|
 .bl (y121_3++x476:List UInt8) λx480 =>
 .ge 24 2<|
 .kI 32 1<|
 .kB 9 true<|
 .gv 10<|
 .gv 16<|
 .dr [(1,[2]),(2,[2])] [(7,[])] [2] [7] [0,1,2,3,4,5,6,7] (.cl 23 (eX x471.Item) eU (λ_=>fA) λx481 =>
 .as (x481.length<=1099511627776) inferInstance<|
 .as (x480.length<=1099511627776) inferInstance<|
 .bl (x480++x481:List UInt8) λx485 =>
 .ge 24 2<|
 .kI 32 2<|
 .kB 9 true<|
 .gv 10<|
 .gv 16<|
 .dr [(1,[2]),(2,[2])] [(7,[])] [2] [7] [0,1,2,3,4,5,6,7] (.cl 23 (eX x471.Loc) eU (λ_=>fA) λx486 =>
 .as (x486.length<=1099511627776) inferInstance<|
 .as (x485.length<=1099511627776) inferInstance<|
 .bl (x485++x486:List UInt8) λx490 =>
 .ge 24 2<|
 .kI 32 3<|
 .kB 9 true<|
 .gv 10<|
 .gv 16<|
 .dr [(1,[2]),(2,[2])] [(7,[])] [2] [7] [0,1,2,3,4,5,6,7] (.cl 23 (eX x471.dJ) eU (λ_=>fA) λx491 =>
 .as (x491.length<=1099511627776) inferInstance<|
 .as (x490.length<=1099511627776) inferInstance<|
 .bl (x490++x491:List UInt8) λx495 =>
 .ge 24 2<|
 .kI 32 4<|
 .kB 9 true<|
 .gv 10<|
 .gv 16<|
 .dr [(1,[2]),(2,[2])] [(7,[])] [2] [7] [0,1,2,3,4,5,6,7] (.cl 23 (eX x471.Value) eU (λ_=>fA) λx496 =>
 .as (x496.length<=1099511627776) inferInstance<|
 .as (x495.length<=1099511627776) inferInstance<|
 .bl (x495++x496:List UInt8) λx500 =>
 .ge 24 2<|
 .kI 32 5<|
 .kB 9 true<|
 .gv 10<|
 .gv 16<|
 .dr [(1,[2]),(2,[2])] [(7,[])] [2] [7] [0,1,2,3,4,5,6,7] (.cl 23 (eX x471.Open) eU (λ_=>fA) λx501 =>
 .as (x501.length<=1099511627776) inferInstance<|
 .as (x500.length<=1099511627776) inferInstance<|
 .bl (x500++x501:List UInt8) λx505 =>
 .ge 24 2<|
 .kI 32 6<|
 .kB 9 true<|
 .gv 10<|
 .gv 16<|
 .dr [(1,[2]),(2,[2])] [(7,[])] [2] [7] [0,1,2,3,4,5,6,7] (.cl 23 (eX x471.pX) eU (λ_=>fA) λx506 =>
 .as (x506.length<=1099511627776) inferInstance<|
 .as (x505.length<=1099511627776) inferInstance<|
 .bl (x505++x506:List UInt8) λx510 =>
 .ge 24 2<|
 .kI 32 7<|
 .kB 9 true<|
 .gv 10<|
 .gv 16<|
 .dr [(1,[2]),(2,[2])] [(7,[])] [2] [7] [0,1,2,3,4,5,6,7] (.cl 23 (eX x471.lJ) eU (λ_=>fA) λx511 =>
 .as (x511.length<=1099511627776) inferInstance<|
 .as (x510.length<=1099511627776) inferInstance<|
 .bl (x510++x511:List UInt8) λx515 =>
 .ge 24 2<|
 .kI 32 8<|
 .kB 9 false<|
 .ret (x515:List UInt8)))))))))))
  (λy126_2 =>
 .ret (y126_2:List UInt8))
noncomputable def aFV (n:Nat) (a1:bF) (x466:List UInt8):WB (((List UInt8))) :=
 .al 36<|
 .ln 8 fP.av a1.jD<|
 .jn 0 [] [1,4,6,7,35] [5] (λ_ (a:(List UInt8))=>[]) (λu361 a=>[.kp 2 [[.pt 2 (u361 2) 0 0,.sl 5 (u361 5) 0 a.length,.sc (.pointer none)]],.nw 5 5 1 (bN a)]) (.lp [1,2,3,8] [1,4,6,7,35,36] [5] (λ_ (a:Int×(List UInt8))=>[(9,int a.1)]) (λu364 a=>[.kp 2 [[.pt 2 (u364 2) 0 0,.sl 5 (u364 5) 0 a.2.length,.sc (.pointer none)]],.nw 5 5 1 (bN a.2)]) n ((0:Int),(x466:List UInt8)) (pw λy121_1 y121_3 =>
 .bB 10 (decide (y121_1<(a1.jD.length:Int))) λx470 =>
 .ifs [10] x470 (.dr [(0,[36]),(1,[36])] [(6,[])] [36] [6] [0,1,2,3,4,5,6] (.ix 17 fP.av a1.jD y121_1 λx471 =>
 .inl 18 Y1 Tryz.func79 [1,4,6,7,35,36] [5] (λ_ (a:(List UInt8))=>.aM []) (λu367 a=>[.kp 2 [[.pt 2 (u367 2) 0 0,.sl 5 (u367 5) 0 a.length,.sc (.pointer none)]],.nw 5 5 1 (bN a)]) ( .dr [] [] [] [26] [0,1,2,3,4,5,6,7,8,9,10,11,12,13,14,15,16,17,18,19,20,21,22,23,24,25,26] (.gv 29<|
 .inl 30 jG Tryz.func85 [1,4,6,7,35,36] [5] (λ_ (a:(List UInt8))=>.aM []) (λu369 a=>[.kp 2 [[.pt 2 (u369 2) 0 0,.sl 5 (u369 5) 0 a.length,.sc (.pointer none)]],.nw 5 5 1 (bN a)]) (aIH x471 y121_3) (λy124_2 =>
 .ret (y124_2:List UInt8)))) (λy122_2 =>
 .bI 19 (bL (y121_1+1)) λx516 =>
 .brk ((x516:Int),(y122_2:List UInt8))))) (.esc (.ret (y121_3:List UInt8)))))
  (λy123_2 =>
 .ret (y123_2:List UInt8))
noncomputable def Y9 (x529:gV) (y129_3:List UInt8):WB (((List UInt8))) :=
 .jn 1 [] [1,4,6,7,37,38] [5] (λ_ (a:(List UInt8))=>[]) (λu394 a=>[.kp 2 [[.pt 2 (u394 2) 0 0,.sl 5 (u394 5) 0 a.length,.sc (.pointer none)]],.nw 5 5 1 (bN a)]) (.un 24 (.kB 9 true<|
 .gv 10<|
 .gv 16<|
 .dr [(1,[2]),(2,[2])] [(7,[])] [2] [7] [0,1,2,3,4,5,6,7] (.cl 23 (eX x529.rO) eU (λ_=>fA) λx534 =>
 .as (x534.length<=1099511627776) inferInstance<|
 .as (y129_3.length<=1099511627776) inferInstance<|
 .bl (y129_3++x534:List UInt8) λx538 =>
 .ge 24 2<|
 .kI 32 1<|
 .kB 9 true<|
 .gv 10<|
 .gv 16<|
 .dr [(1,[2]),(2,[2])] [(7,[])] [2] [7] [0,1,2,3,4,5,6,7] (.cl 23 (eX x529.Item) eU (λ_=>fA) λx539 =>
 .as (x539.length<=1099511627776) inferInstance<|
 .as (x538.length<=1099511627776) inferInstance<|
 .bl (x538++x539:List UInt8) λx543 =>
 .ge 24 2<|
 .kI 32 2<|
 .kB 9 true<|
 .gv 10<|
 .gv 16<|
 .dr [(1,[2]),(2,[2])] [(7,[])] [2] [7] [0,1,2,3,4,5,6,7] (.cl 23 (eX x529.Loc) eU (λ_=>fA) λx544 =>
 .as (x544.length<=1099511627776) inferInstance<|
 .as (x543.length<=1099511627776) inferInstance<|
 .bl (x543++x544:List UInt8) λx548 =>
 .ge 24 2<|
 .kI 32 3<|
 .kB 9 true<|
 .gv 10<|
 .gv 16<|
 .dr [(1,[2]),(2,[2])] [(7,[])] [2] [7] [0,1,2,3,4,5,6,7] (.cl 23 (eX x529.dJ) eU (λ_=>fA) λx549 =>
 .as (x549.length<=1099511627776) inferInstance<|
 .as (x548.length<=1099511627776) inferInstance<|
 .bl (x548++x549:List UInt8) λx553 =>
 .ge 24 2<|
 .kI 32 4<|
 .kB 9 true<|
 .gv 10<|
 .gv 16<|
 .dr [(1,[2]),(2,[2])] [(7,[])] [2] [7] [0,1,2,3,4,5,6,7] (.cl 23 (eX x529.lJ) eU (λ_=>fA) λx554 =>
 .as (x554.length<=1099511627776) inferInstance<|
 .as (x553.length<=1099511627776) inferInstance<|
 .bl (x553++x554:List UInt8) λx558 =>
 .ge 24 2<|
 .kI 32 5<|
 .kB 9 true<|
 .gv 10<|
 .gv 16<|
 .dr [(1,[2]),(2,[2])] [(7,[])] [2] [7] [0,1,2,3,4,5,6,7] (.cl 23 (eX x529.qU) eU (λ_=>fA) λx559 =>
 .as (x559.length<=1099511627776) inferInstance<|
 .as (x558.length<=1099511627776) inferInstance<|
 .bl (x558++x559:List UInt8) λx563 =>
 .ge 24 2<|
 .kI 32 6<|
 .kB 9 true<|
 .gv 10<|
 .gv 16<|
 .dr [(1,[2]),(2,[2])] [(7,[])] [2] [7] [0,1,2,3,4,5,6,7] (.cl 23 (eX x529.gP) eU (λ_=>fA) λx564 =>
 .as (x564.length<=1099511627776) inferInstance<|
 .as (x563.length<=1099511627776) inferInstance<|
 .bl (x563++x564:List UInt8) λx568 =>
 .ge 24 2<|
 .kI 32 7<|
 .kB 9 true<|
 .gv 10<|
 .gv 16<|
 .dr [(1,[2]),(2,[2])] [(7,[])] [2] [7] [0,1,2,3,4,5,6,7] (.cl 23 (eX x529.qE) eU (λ_=>fA) λx569 =>
 .as (x569.length<=1099511627776) inferInstance<|
 .as (x568.length<=1099511627776) inferInstance<|
 .bl (x568++x569:List UInt8) λx573 =>
 .ge 24 2<|
 .kI 32 8<|
 .kB 9 false<|
 .ret (x573:List UInt8)))))))))))
  (λy134_2 =>
 .ret (y134_2:List UInt8))
noncomputable def aJG (n:Nat) (a1:bF) (x524:List UInt8):WB (((List UInt8))) :=
 .al 38<|
 .ln 8 gV.av a1.jP<|
 .jn 0 [] [1,4,6,7,37] [5] (λ_ (a:(List UInt8))=>[]) (λu385 a=>[.kp 2 [[.pt 2 (u385 2) 0 0,.sl 5 (u385 5) 0 a.length,.sc (.pointer none)]],.nw 5 5 1 (bN a)]) (.lp [1,2,3,8] [1,4,6,7,37,38] [5] (λ_ (a:Int×(List UInt8))=>[(9,int a.1)]) (λu388 a=>[.kp 2 [[.pt 2 (u388 2) 0 0,.sl 5 (u388 5) 0 a.2.length,.sc (.pointer none)]],.nw 5 5 1 (bN a.2)]) n ((0:Int),(x524:List UInt8)) (pw λy129_1 y129_3 =>
 .bB 10 (decide (y129_1<(a1.jP.length:Int))) λx528 =>
 .ifs [10] x528 (.dr [(0,[38]),(1,[38])] [(6,[])] [38] [6] [0,1,2,3,4,5,6] (.ix 17 gV.av a1.jP y129_1 λx529 =>
 .inl 18 aBM Tryz.func81 [1,4,6,7,37,38] [5] (λ_ (a:(List UInt8))=>.aM []) (λu391 a=>[.kp 2 [[.pt 2 (u391 2) 0 0,.sl 5 (u391 5) 0 a.length,.sc (.pointer none)]],.nw 5 5 1 (bN a)]) ( .dr [] [] [] [26] [0,1,2,3,4,5,6,7,8,9,10,11,12,13,14,15,16,17,18,19,20,21,22,23,24,25,26] (.gv 29<|
 .inl 30 jG Tryz.func85 [1,4,6,7,37,38] [5] (λ_ (a:(List UInt8))=>.aM []) (λu393 a=>[.kp 2 [[.pt 2 (u393 2) 0 0,.sl 5 (u393 5) 0 a.length,.sc (.pointer none)]],.nw 5 5 1 (bN a)]) (Y9 x529 y129_3) (λy132_2 =>
 .inl 35 zG Tryz.func117 [1,4,6,7,37,38] [5] (λ_ (a:(List UInt8))=>.aM []) (λu396 a=>[.kp 2 [[.pt 2 (u396 2) 0 0,.sl 5 (u396 5) 0 a.length,.sc (.pointer none)]],.nw 5 5 1 (bN a)]) ( .jn 2 [0,1] [1,2,4,5,6,7,37,38] [] (λ_ (a:Int)=>[(4,int a)]) (λ_ _=>[]) (.ifs [7] x529.qO (.ret (1:Int)) (.ret (0:Int)))
  (λy136_1 =>
 .gv 12<|
 .dr [(1,[2]),(2,[2])] [(5,[])] [2] [5] [0,1,2,3,4,5] (.cl 17 (eX y136_1) eU (λ_=>fA) λx576 =>
 .as (x576.length<=1099511627776) inferInstance<|
 .as (y132_2.length<=1099511627776) inferInstance<|
 .bl (y132_2++x576:List UInt8) λx580 =>
 .ge 18 2<|
 .ret (x580:List UInt8)))) (λy135_2 =>
 .ret (y135_2:List UInt8))))) (λy130_2 =>
 .bI 19 (bL (y129_1+1)) λx581 =>
 .brk ((x581:Int),(y130_2:List UInt8))))) (.esc (.ret (y129_3:List UInt8)))))
  (λy131_2 =>
 .ret (y131_2:List UInt8))
noncomputable def aKQ (x594:iD) (y139_3:List UInt8):WB (((List UInt8))) :=
 .jn 1 [] [1,4,6,7,39,40] [5] (λ_ (a:(List UInt8))=>[]) (λu421 a=>[.kp 2 [[.pt 2 (u421 2) 0 0,.sl 5 (u421 5) 0 a.length,.sc (.pointer none)]],.nw 5 5 1 (bN a)]) (.un 24 (.kB 9 true<|
 .gv 10<|
 .gv 16<|
 .dr [(1,[2]),(2,[2])] [(7,[])] [2] [7] [0,1,2,3,4,5,6,7] (.cl 23 (eX x594.DR) eU (λ_=>fA) λx599 =>
 .as (x599.length<=1099511627776) inferInstance<|
 .as (y139_3.length<=1099511627776) inferInstance<|
 .bl (y139_3++x599:List UInt8) λx603 =>
 .ge 24 2<|
 .kI 32 1<|
 .kB 9 true<|
 .gv 10<|
 .gv 16<|
 .dr [(1,[2]),(2,[2])] [(7,[])] [2] [7] [0,1,2,3,4,5,6,7] (.cl 23 (eX x594.To) eU (λ_=>fA) λx604 =>
 .as (x604.length<=1099511627776) inferInstance<|
 .as (x603.length<=1099511627776) inferInstance<|
 .bl (x603++x604:List UInt8) λx608 =>
 .ge 24 2<|
 .kI 32 2<|
 .kB 9 true<|
 .gv 10<|
 .gv 16<|
 .dr [(1,[2]),(2,[2])] [(7,[])] [2] [7] [0,1,2,3,4,5,6,7] (.cl 23 (eX x594.Item) eU (λ_=>fA) λx609 =>
 .as (x609.length<=1099511627776) inferInstance<|
 .as (x608.length<=1099511627776) inferInstance<|
 .bl (x608++x609:List UInt8) λx613 =>
 .ge 24 2<|
 .kI 32 3<|
 .kB 9 true<|
 .gv 10<|
 .gv 16<|
 .dr [(1,[2]),(2,[2])] [(7,[])] [2] [7] [0,1,2,3,4,5,6,7] (.cl 23 (eX x594.dJ) eU (λ_=>fA) λx614 =>
 .as (x614.length<=1099511627776) inferInstance<|
 .as (x613.length<=1099511627776) inferInstance<|
 .bl (x613++x614:List UInt8) λx618 =>
 .ge 24 2<|
 .kI 32 4<|
 .kB 9 true<|
 .gv 10<|
 .gv 16<|
 .dr [(1,[2]),(2,[2])] [(7,[])] [2] [7] [0,1,2,3,4,5,6,7] (.cl 23 (eX x594.Value) eU (λ_=>fA) λx619 =>
 .as (x619.length<=1099511627776) inferInstance<|
 .as (x618.length<=1099511627776) inferInstance<|
 .bl (x618++x619:List UInt8) λx623 =>
 .ge 24 2<|
 .kI 32 5<|
 .kB 9 true<|
 .gv 10<|
 .gv 16<|
 .dr [(1,[2]),(2,[2])] [(7,[])] [2] [7] [0,1,2,3,4,5,6,7] (.cl 23 (eX x594.gP) eU (λ_=>fA) λx624 =>
 .as (x624.length<=1099511627776) inferInstance<|
 .as (x623.length<=1099511627776) inferInstance<|
 .bl (x623++x624:List UInt8) λx628 =>
 .ge 24 2<|
 .kI 32 6<|
 .kB 9 false<|
 .ret (x628:List UInt8)))))))))
  (λy144_2 =>
 .ret (y144_2:List UInt8))
noncomputable def aGE (n:Nat) (a1:bF) (x589:List UInt8):WB (((List UInt8))) :=
 .al 40<|
 .ln 8 iD.av a1.jW<|
 .jn 0 [] [1,4,6,7,39] [5] (λ_ (a:(List UInt8))=>[]) (λu412 a=>[.kp 2 [[.pt 2 (u412 2) 0 0,.sl 5 (u412 5) 0 a.length,.sc (.pointer none)]],.nw 5 5 1 (bN a)]) (.lp [1,2,3,8] [1,4,6,7,39,40] [5] (λ_ (a:Int×(List UInt8))=>[(9,int a.1)]) (λu415 a=>[.kp 2 [[.pt 2 (u415 2) 0 0,.sl 5 (u415 5) 0 a.2.length,.sc (.pointer none)]],.nw 5 5 1 (bN a.2)]) n ((0:Int),(x589:List UInt8)) (pw λy139_1 y139_3 =>
 .bB 10 (decide (y139_1<(a1.jW.length:Int))) λx593 =>
 .ifs [10] x593 (.dr [(0,[40]),(1,[40])] [(6,[])] [40] [6] [0,1,2,3,4,5,6] (.ix 17 iD.av a1.jW y139_1 λx594 =>
 .inl 18 aGP Tryz.func83 [1,4,6,7,39,40] [5] (λ_ (a:(List UInt8))=>.aM []) (λu418 a=>[.kp 2 [[.pt 2 (u418 2) 0 0,.sl 5 (u418 5) 0 a.length,.sc (.pointer none)]],.nw 5 5 1 (bN a)]) ( .dr [] [] [] [20] [0,1,2,3,4,5,6,7,8,9,10,11,12,13,14,15,16,17,18,19,20] (.gv 23<|
 .inl 24 jG Tryz.func85 [1,4,6,7,39,40] [5] (λ_ (a:(List UInt8))=>.aM []) (λu420 a=>[.kp 2 [[.pt 2 (u420 2) 0 0,.sl 5 (u420 5) 0 a.length,.sc (.pointer none)]],.nw 5 5 1 (bN a)]) (aKQ x594 y139_3) (λy142_2 =>
 .ret (y142_2:List UInt8)))) (λy140_2 =>
 .bI 19 (bL (y139_1+1)) λx629 =>
 .brk ((x629:Int),(y140_2:List UInt8))))) (.esc (.ret (y139_3:List UInt8)))))
  (λy141_2 =>
 .ret (y141_2:List UInt8))
noncomputable def aHG (n:Nat) (a1:bF) (x16:(List UInt8)):WB (((List UInt8))) :=
 .dr [(1,[1]),(2,[1]),(3,[1]),(4,[1]),(10,[1]),(11,[1]),(12,[1])] [(13,[])] [1] [6,13] [0,1,2,3,4,5,8,9,10,11,12,6,7,13] (.ln 9 fI a1.fJ.bC<|
 .inl 10 vS Tryz.func77 [1,2,4,5] [6,7] (λu8 (a:Unit)=>.fn (.func 116) [] [.pt 6 (u8 6) 0 0,.pt 7 (u8 7) 0 0]) (λ_ _=>[.nw 6 3 1 [[int (a1.fJ.bC.length:Int)]],.nw 7 3 1 [[int 1]]]) ( .al 6<|
 .al 7<|
 .ret ()) (λ_ =>
 .inl 17 wN Tryz.func78 [1,4,6,7] [5] (λ_ (a:(List UInt8))=>.aM []) (λu9 a=>[.kp 2 [[.pt 2 (u9 2) 0 0,.sl 5 (u9 5) 0 a.length,.sc (.pointer none)]],.nw 5 5 1 (bN a)]) (aIQ n a1 x16) (λy4_2 =>
 .inl 23 QO Tryz.func80 [1,4,6,7] [5] (λ_ (a:(List UInt8))=>.aM []) (λu348 a=>[.kp 2 [[.pt 2 (u348 2) 0 0,.sl 5 (u348 5) 0 a.length,.sc (.pointer none)]],.nw 5 5 1 (bN a)]) ( .al 35<|
 .gv 12<|
 .dr [(1,[2]),(2,[2]),(4,[1]),(5,[1])] [(8,[])] [1,2] [8] [0,1,2,3,4,5,6,7,8] (.ln 19 fP.av a1.jD<|
 .cl 20 (eX (a1.jD.length:Int)) eU (λ_=>fA) λx462 =>
 .as (x462.length<=1099511627776) inferInstance<|
 .as (y4_2.length<=1099511627776) inferInstance<|
 .bl (y4_2++x462:List UInt8) λx466 =>
 .ge 21 2<|
 .dr [(0,[35]),(3,[1]),(4,[1])] [(5,[])] [1,35] [5] [0,1,2,3,4,5] (.inl 36 PU Tryz.func126 [1,4,6,7,35] [5] (λ_ (a:(List UInt8))=>.aM []) (λu350 a=>[.kp 2 [[.pt 2 (u350 2) 0 0,.sl 5 (u350 5) 0 a.length,.sc (.pointer none)]],.nw 5 5 1 (bN a)]) (aFV n a1 x466) (λy120_2 =>
 .gv 41<|
 .ret (y120_2:List UInt8))))) (λy119_2 =>
 .inl 29 PY Tryz.func82 [1,4,6,7] [5] (λ_ (a:(List UInt8))=>.aM []) (λu372 a=>[.kp 2 [[.pt 2 (u372 2) 0 0,.sl 5 (u372 5) 0 a.length,.sc (.pointer none)]],.nw 5 5 1 (bN a)]) ( .al 37<|
 .gv 12<|
 .dr [(1,[2]),(2,[2]),(4,[1]),(5,[1])] [(8,[])] [1,2] [8] [0,1,2,3,4,5,6,7,8] (.ln 19 gV.av a1.jP<|
 .cl 20 (eX (a1.jP.length:Int)) eU (λ_=>fA) λx520 =>
 .as (x520.length<=1099511627776) inferInstance<|
 .as (y119_2.length<=1099511627776) inferInstance<|
 .bl (y119_2++x520:List UInt8) λx524 =>
 .ge 21 2<|
 .dr [(0,[37]),(3,[1]),(4,[1])] [(5,[])] [1,37] [5] [0,1,2,3,4,5] (.inl 36 TW Tryz.func127 [1,4,6,7,37] [5] (λ_ (a:(List UInt8))=>.aM []) (λu374 a=>[.kp 2 [[.pt 2 (u374 2) 0 0,.sl 5 (u374 5) 0 a.length,.sc (.pointer none)]],.nw 5 5 1 (bN a)]) (aJG n a1 x524) (λy128_2 =>
 .gv 41<|
 .ret (y128_2:List UInt8))))) (λy127_2 =>
 .inl 35 LX Tryz.func84 [1,4,6,7] [5] (λ_ (a:(List UInt8))=>.aM []) (λu399 a=>[.kp 2 [[.pt 2 (u399 2) 0 0,.sl 5 (u399 5) 0 a.length,.sc (.pointer none)]],.nw 5 5 1 (bN a)]) ( .al 39<|
 .gv 12<|
 .dr [(1,[2]),(2,[2]),(4,[1]),(5,[1])] [(8,[])] [1,2] [8] [0,1,2,3,4,5,6,7,8] (.ln 19 iD.av a1.jW<|
 .cl 20 (eX (a1.jW.length:Int)) eU (λ_=>fA) λx585 =>
 .as (x585.length<=1099511627776) inferInstance<|
 .as (y127_2.length<=1099511627776) inferInstance<|
 .bl (y127_2++x585:List UInt8) λx589 =>
 .ge 21 2<|
 .dr [(0,[39]),(3,[1]),(4,[1])] [(5,[])] [1,39] [5] [0,1,2,3,4,5] (.inl 36 QF Tryz.func128 [1,4,6,7,39] [5] (λ_ (a:(List UInt8))=>.aM []) (λu401 a=>[.kp 2 [[.pt 2 (u401 2) 0 0,.sl 5 (u401 5) 0 a.length,.sc (.pointer none)]],.nw 5 5 1 (bN a)]) (aGE n a1 x589) (λy138_2 =>
 .gv 41<|
 .ret (y138_2:List UInt8))))) (λy137_2 =>
 .gv 40<|
 .inl 41 jG Tryz.func85 [1,4,6,7] [5] (λ_ (a:(List UInt8))=>.aM []) (λu423 a=>[.kp 2 [[.pt 2 (u423 2) 0 0,.sl 5 (u423 5) 0 a.length,.sc (.pointer none)]],.nw 5 5 1 (bN a)]) ( .jn 1 [] [1,4,6,7] [5] (λ_ (a:(List UInt8))=>[]) (λu424 a=>[.kp 2 [[.pt 2 (u424 2) 0 0,.sl 5 (u424 5) 0 a.length,.sc (.pointer none)]],.nw 5 5 1 (bN a)]) (.un 24 (.kB 9 true<|
 .gv 10<|
 .gv 16<|
 .dr [(1,[2]),(2,[2]),(4,[1]),(5,[1])] [(7,[])] [1,2] [7] [0,1,2,3,4,5,6,7] (.cl 23 (eX a1.Done) eU (λ_=>fA) λx632 =>
 .as (x632.length<=1099511627776) inferInstance<|
 .as (y137_2.length<=1099511627776) inferInstance<|
 .bl (y137_2++x632:List UInt8) λx636 =>
 .ge 24 2<|
 .kI 32 1<|
 .kB 9 false<|
 .ret (x636:List UInt8))))
  (λy147_2 =>
 .ret (y147_2:List UInt8))) (λy145_2 =>
 .ret (y145_2:List UInt8))))))))
noncomputable def aI2 (n:Nat) (a1:bF):WB ((List UInt8)) :=
 .al 1<|
 .cl 8 (FO n a1) UO QG λx3 =>
 .bB 9 (!x3) λx4 =>
 .az [9] x4 (.al 2<|
 .cl 14 (TI n a1.fJ) aD2 aF5 λx6 =>
 .as (x6.length<=1099511627776) inferInstance<|
 .gv 15<|
 .ln 16 (fK .u8) (x6.map λc=>(c.toNat:Int))<|
 .jn 0 [1,2,3] [1,2] [4] (λu2 (a:(List Int))=>[(4,.sl 4 (u2 4) 0 a.length)]) (λ_ a=>[.nw 4 3 1 (a.map fI)]) (.no 4 4 3 1<|
 .lp [1,2,3,15,16] [1,2] [4] (λu3 (a:Int×(List Int))=>[(4,.sl 4 (u3 4) 0 a.2.length),(17,int a.1)]) (λ_ a=>[.nw 4 3 1 (a.2.map fI)]) n ((0:Int),(([]:List Int):List Int)) (pw λy0_2 y0_3 =>
 .bB 18 (decide (y0_2<((x6.map λc=>(c.toNat:Int)).length:Int))) λx9 =>
 .ifs [18] x9 (.ix 19 (fK .u8) (x6.map λc=>(c.toNat:Int)) y0_2 λx10 =>
 .bI 23 (bL x10) λx11 =>
 .to 24 (aG 1 fI ([x11]:List Int))<|
 .bl (y0_3++([x11]:List Int):List Int) λx12 =>
 .as (x12.length<=68719476736) inferInstance<|
 .ge 25 0<|
 .bI 26 (bL (y0_2+1)) λx15 =>
 .brk ((x15:Int),(x12:List Int))) (.esc (.ret (y0_3:List Int)))))
  (λy1_2 =>
 .dr [(1,[2]),(2,[2]),(4,[4])] [(5,[])] [2,4] [5] [0,1,2,3,4,5] (.mW 31 (yG y1_2) EK (λ_=>EO) (λ_=>rfl) λx16 =>
 .as (x16.length<=1099511627776) inferInstance<|
 .ge 32 2<|
 .inl 34 TZ Tryz.func44 [1,4] [5] (λ_ (a:(List UInt8))=>.aM []) (λu5 a=>[.kp 2 [[.pt 2 (u5 2) 0 0,.sl 5 (u5 5) 0 a.length,.sc (.pointer none)]],.nw 5 5 1 (bN a)]) (aHG n a1 x16) (λy2_2 =>
 .as (y2_2≠[]) inferInstance<|
 .as (y2_2.length<=1099511627776) inferInstance<|
 .ge 38 2<|
 .ret ((y2_2:List UInt8))))))
def O8 (n:Nat) (a1:bF):Option ((List UInt8)):=(aI2 n a1).run
theorem Z0 {n a1}:PZ (O8 n a1) 21 [.agg (bF.av a1)] str:=by
 refine wm Tryz.func21 ?_
 intro v2
 conv=>whnf
 refine .mk λx3 e3=>?_
 conv=>whnf
 refine .mk λx4=>?_
 conv=>whnf
 refine .mk ?_
 intro v5
 conv=>whnf
 refine .mk λx6 e6=>?_
 conv=>whnf
 refine .mk λp7=>?_
 conv=>whnf
 refine .mk _ (aF (Z4 (l:=x6) rfl Tryz.underlying9 Tryz.underlying37 Tryz.underlying5 rfl p7)) ?_
 conv=>whnf
 refine .mk ?_
 conv=>whnf
 refine .mk ?_ ?_
 intro v8
 conv=>whnf
 refine .mk ?_
 rintro ⟨y0_2,y0_3⟩ _
 conv=>whnf
 try dsimp only
 repeat (conv in (uV _ _ _ _)=>whnf)
 refine .mk λx9=>?_
 conv=>whnf
 refine .mk ?_ ?_
 conv=>whnf
 refine .mk λx10 e10=>?_
 conv=>whnf
 refine .mk λx11=>?_
 conv=>whnf
 refine .mk (aF (aN (y:=aG 1 fI ([x11]:List Int)) (dY (ps:=[(0,_)]) (rows:=[[int x11]]) rfl Tryz.underlying23 kR (.cons rfl .nil) (by kernel_rfl) rfl rfl rfl) rfl)) ?_
 conv=>whnf
 refine .mk λx12 e12=>?_
 conv=>whnf
 refine .mk λp13=>?_
 conv=>whnf
 refine .mk _ ⟨λ_=>iP (g:=fI) (l:=y0_3) (m:=([x11]:List Int)) .any rfl Tryz.underlying23 kR oP rfl rfl rfl rfl rfl rfl rfl rfl rfl rfl (Eq.symm rfl) (.refl _) (λ_=>rfl) e12 p13,λ_ _ _=>trivial⟩ ?_
 rintro _ _ ⟨v14,-,rfl,rfl⟩
 try dsimp only
 conv=>whnf
 refine .mk λx15=>?_
 conv=>whnf
 exact .mk
 conv=>whnf
 exact .mk
 intro y1_2 u2
 conv=>whnf
 try dsimp only
 repeat (conv in (uV _ _ _ _)=>whnf)
 refine .mk ?_
 conv=>whnf
 refine .mk (λx16 e16=>?_) rfl (λH hH=>(.cons (gB (ob:=(⟨3,1,false,true,(u2 4),y1_2.map fI⟩:aW)) (aFA ((hH 4 (by decide)).trans rfl)) rfl rfl rfl rfl (Eq.symm rfl)) .nil))
 conv=>whnf
 refine .mk λp17=>?_
 conv=>whnf
 refine .mk _ ⟨λ_=>aQ rfl rfl (.cons rfl (.cons rfl .nil)) eT (aKB (id:=2) (aD:=v5) (ib:=5) (t:=x16) (by decide) rfl rfl p17),by rintro _ _ ⟨rfl,v18,rfl⟩;exact trivial⟩ ?_
 rintro _ _ ⟨rfl,v18,rfl⟩
 try dsimp only
 conv=>whnf
 refine .mk ?_ ?_
 conv=>whnf
 refine .mk ?_
 conv=>whnf
 refine .mk ?_
 conv=>whnf
 refine .mk ?_ ?_
 intro v21
 intro v22
 conv=>whnf
 exact .mk
 intro _ _
 conv=>whnf
 try dsimp only
 repeat (conv in (uV _ _ _ _)=>whnf)
 refine .mk ⟨rfl,trivial⟩ ?_
 conv=>whnf
 refine .mk ?_ ?_
 intro v25
 conv=>whnf
 refine .mk ?_
 conv=>whnf
 refine .mk ?_ ?_
 conv=>whnf
 refine .mk ?_
 rintro ⟨y5_1,y5_3⟩ u23
 conv=>whnf
 try dsimp only
 repeat (conv in (uV _ _ _ _)=>whnf)
 refine .mk λx26=>?_
 conv=>whnf
 refine .mk ?_ ?_
 conv=>whnf
 refine .mk ?_
 conv=>whnf
 refine .mk λx27 e27=>?_
 conv=>whnf
 refine .mk ?_ ?_
 conv=>whnf
 refine .mk _ (aF (oF rfl Tryz.underlying75 rfl rfl)) ?_
 conv=>whnf
 refine .mk _ (aF (dY (ps:=[(0,_)]) (rows:=[[.pp [int x27.jR,aA x27.Closed,aG 4 aT.av x27.gY,aG 1 fI x27.jB,aG 11 bA.av x27.iI,aG 1 fI x27.iL,aG 1 fI x27.Down,aG 8 aH.av x27.iQ]]]) rfl Tryz.underlying225 iH (.cons rfl .nil) (by kernel_rfl) rfl rfl rfl)) ?_
 conv=>whnf
 refine .mk ?_ ?_
 conv=>whnf
 refine .mk ?_ ?_
 conv=>whnf
 refine .mk ?_
 conv=>whnf
 refine .mk _ (aF (dA (j:=0) rfl Tryz.underlying225 dM rfl rfl rfl (.list rfl))) ?_
 conv=>whnf
 refine .mk _ (aF (eY rfl Tryz.underlying75 rfl rfl)) ?_
 conv=>whnf
 refine .mk ?_
 conv=>whnf
 refine .mk λx32 e32=>?_
 conv=>whnf
 refine .mk λp33=>?_
 conv=>whnf
 refine .mk λp35=>?_
 conv=>whnf
 refine .mk λx36 e36=>?_
 conv=>whnf
 refine .mk _ ⟨λ_=>aQ rfl rfl (.cons rfl (.cons rfl .nil)) eT (PC.mono (fD (id:=2) (aD:=v5) (ib:=5) (vb:=(u23 5)) (l:=y5_3) (t:=x32) (by decide) rfl rfl p35 p33) (R':=λy H'=>y=.aM [int (x32.length:Int),.sc .nilIface]/\∃ vb',H'=upd (upd _ 5 (some (dV 5 vb' x36))) 2 (some (eG 94 2 v5 5 (.sc (.pointer none)) (some (vb',x36))))) (λy H' h=>by subst e36;exact h)),by rintro _ _ ⟨rfl,v34,rfl⟩;exact trivial⟩ ?_
 rintro _ _ ⟨rfl,v34,rfl⟩
 try dsimp only
 conv=>whnf
 refine .mk ?_
 conv=>whnf
 refine .mk ?_
 conv=>whnf
 exact .mk
 intro _ _
 conv=>whnf
 try dsimp only
 repeat (conv in (uV _ _ _ _)=>whnf)
 exact .mk
 intro y8_2 u28
 conv=>whnf
 refine .mk trivial ?_
 try dsimp only
 repeat (conv in (uV _ _ _ _)=>whnf)
 conv=>whnf
 refine .mk ?_ ?_
 conv=>whnf
 refine .mk ?_ ?_
 conv=>whnf
 refine .mk ?_ ?_
 conv=>whnf
 exact .mk
 conv=>whnf
 exact .mk
 intro _ _
 conv=>whnf
 try dsimp only
 repeat (conv in (uV _ _ _ _)=>whnf)
 refine .mk _ (aF (eY rfl Tryz.underlying75 rfl rfl)) ?_
 conv=>whnf
 refine .mk ?_
 conv=>whnf
 refine .mk λx39 e39=>?_
 conv=>whnf
 refine .mk λp40=>?_
 conv=>whnf
 refine .mk λp42=>?_
 conv=>whnf
 refine .mk λx43 e43=>?_
 conv=>whnf
 refine .mk _ ⟨λ_=>aQ rfl rfl (.cons rfl (.cons rfl .nil)) eT (PC.mono (fD (id:=2) (aD:=v5) (ib:=5) (vb:=(u28 5)) (l:=y8_2) (t:=x39) (by decide) rfl rfl p42 p40) (R':=λy H'=>y=.aM [int (x39.length:Int),.sc .nilIface]/\∃ vb',H'=upd (upd _ 5 (some (dV 5 vb' x43))) 2 (some (eG 94 2 v5 5 (.sc (.pointer none)) (some (vb',x43))))) (λy H' h=>by subst e43;exact h)),by rintro _ _ ⟨rfl,v41,rfl⟩;exact trivial⟩ ?_
 rintro _ _ ⟨rfl,v41,rfl⟩
 try dsimp only
 conv=>whnf
 exact .mk
 intro _ _
 conv=>whnf
 refine .mk trivial ?_
 try dsimp only
 repeat (conv in (uV _ _ _ _)=>whnf)
 conv=>whnf
 refine .mk ?_ ?_
 intro v46
 conv=>whnf
 refine .mk ?_
 conv=>whnf
 refine .mk ?_ ?_
 conv=>whnf
 refine .mk ?_
 rintro ⟨y14_1,y14_3⟩ u48
 conv=>whnf
 try dsimp only
 repeat (conv in (uV _ _ _ _)=>whnf)
 refine .mk λx47=>?_
 conv=>whnf
 refine .mk ?_ ?_
 conv=>whnf
 refine .mk ?_
 conv=>whnf
 refine .mk λx48 e48=>?_
 conv=>whnf
 refine .mk ?_ ?_
 conv=>whnf
 refine .mk ?_ ?_
 intro v53
 conv=>whnf
 refine .mk _ (aF (eY rfl Tryz.underlying75 rfl rfl)) ?_
 conv=>whnf
 refine .mk ?_
 conv=>whnf
 refine .mk ?_
 conv=>whnf
 refine .mk λx54 e54=>?_
 conv=>whnf
 refine .mk λp55=>?_
 conv=>whnf
 refine .mk λp57=>?_
 conv=>whnf
 refine .mk λx58 e58=>?_
 conv=>whnf
 refine .mk _ ⟨λ_=>aQ rfl rfl (.cons rfl (.cons rfl .nil)) eT (PC.mono (fD (id:=2) (aD:=v5) (ib:=5) (vb:=(u48 5)) (l:=y14_3) (t:=x54) (by decide) rfl rfl p57 p55) (R':=λy H'=>y=.aM [int (x54.length:Int),.sc .nilIface]/\∃ vb',H'=upd (upd _ 5 (some (dV 5 vb' x58))) 2 (some (eG 94 2 v5 5 (.sc (.pointer none)) (some (vb',x58))))) (λy H' h=>by subst e58;exact h)),by rintro _ _ ⟨rfl,v56,rfl⟩;exact trivial⟩ ?_
 rintro _ _ ⟨rfl,v56,rfl⟩
 try dsimp only
 conv=>whnf
 refine .mk ?_
 conv=>whnf
 refine .mk ?_ ?_
 intro v61
 conv=>whnf
 refine .mk ?_
 conv=>whnf
 refine .mk ?_ ?_
 conv=>whnf
 refine .mk ?_
 rintro ⟨y19_1,y19_3⟩ u69
 conv=>whnf
 try dsimp only
 repeat (conv in (uV _ _ _ _)=>whnf)
 refine .mk λx62=>?_
 conv=>whnf
 refine .mk ?_ ?_
 conv=>whnf
 refine .mk ?_
 conv=>whnf
 refine .mk λx63 e63=>?_
 conv=>whnf
 refine .mk ?_ ?_
 conv=>whnf
 refine .mk ?_
 conv=>whnf
 refine .mk _ (λH hH _=>dY (ps:=[(0,_),(1,_),(2,_)]) (rows:=[[.pp [int x63.dJ,int x63.Value,int x63.gP]],[.pp [int x63.Value,int x63.gP]],[.pp [int x63.gP]]]) rfl Tryz.underlying225 iH (.cons rfl (.cons rfl (.cons rfl .nil))) (by kernel_rfl) rfl rfl rfl) ?_
 conv=>whnf
 refine .mk ?_ ?_
 conv=>whnf
 refine .mk ?_ ?_
 conv=>whnf
 refine .mk ?_
 conv=>whnf
 refine .mk _ (aF (dA (j:=0) rfl Tryz.underlying225 dM rfl rfl rfl (.list rfl))) ?_
 conv=>whnf
 refine .mk _ (aF (eY rfl Tryz.underlying75 rfl rfl)) ?_
 conv=>whnf
 refine .mk ?_
 conv=>whnf
 refine .mk λx68 e68=>?_
 conv=>whnf
 refine .mk λp69=>?_
 conv=>whnf
 refine .mk λp71=>?_
 conv=>whnf
 refine .mk λx72 e72=>?_
 conv=>whnf
 refine .mk _ ⟨λ_=>aQ rfl rfl (.cons rfl (.cons rfl .nil)) eT (PC.mono (fD (id:=2) (aD:=v5) (ib:=5) (vb:=(u69 5)) (l:=y19_3) (t:=x68) (by decide) rfl rfl p71 p69) (R':=λy H'=>y=.aM [int (x68.length:Int),.sc .nilIface]/\∃ vb',H'=upd (upd _ 5 (some (dV 5 vb' x72))) 2 (some (eG 94 2 v5 5 (.sc (.pointer none)) (some (vb',x72))))) (λy H' h=>by subst e72;exact h)),by rintro _ _ ⟨rfl,v70,rfl⟩;exact trivial⟩ ?_
 rintro _ _ ⟨rfl,v70,rfl⟩
 try dsimp only
 conv=>whnf
 refine .mk ?_
 conv=>whnf
 refine .mk ?_
 conv=>whnf
 refine .mk _ (aF (dA (j:=1) rfl Tryz.underlying225 dM rfl rfl rfl (.list rfl))) ?_
 conv=>whnf
 refine .mk _ (aF (eY rfl Tryz.underlying75 rfl rfl)) ?_
 conv=>whnf
 refine .mk ?_
 conv=>whnf
 refine .mk λx73 e73=>?_
 conv=>whnf
 refine .mk λp74=>?_
 conv=>whnf
 refine .mk λp76=>?_
 conv=>whnf
 refine .mk λx77 e77=>?_
 conv=>whnf
 refine .mk _ ⟨λ_=>aQ rfl rfl (.cons rfl (.cons rfl .nil)) eT (PC.mono (fD (id:=2) (aD:=v5) (ib:=5) (vb:=v70) (l:=x72) (t:=x73) (by decide) rfl rfl p76 p74) (R':=λy H'=>y=.aM [int (x73.length:Int),.sc .nilIface]/\∃ vb',H'=upd (upd _ 5 (some (dV 5 vb' x77))) 2 (some (eG 94 2 v5 5 (.sc (.pointer none)) (some (vb',x77))))) (λy H' h=>by subst e77;exact h)),by rintro _ _ ⟨rfl,v75,rfl⟩;exact trivial⟩ ?_
 rintro _ _ ⟨rfl,v75,rfl⟩
 try dsimp only
 conv=>whnf
 refine .mk ?_
 conv=>whnf
 refine .mk ?_
 conv=>whnf
 refine .mk _ (aF (dA (j:=2) rfl Tryz.underlying225 dM rfl rfl rfl (.list rfl))) ?_
 conv=>whnf
 refine .mk _ (aF (eY rfl Tryz.underlying75 rfl rfl)) ?_
 conv=>whnf
 refine .mk ?_
 conv=>whnf
 refine .mk λx78 e78=>?_
 conv=>whnf
 refine .mk λp79=>?_
 conv=>whnf
 refine .mk λp81=>?_
 conv=>whnf
 refine .mk λx82 e82=>?_
 conv=>whnf
 refine .mk _ ⟨λ_=>aQ rfl rfl (.cons rfl (.cons rfl .nil)) eT (PC.mono (fD (id:=2) (aD:=v5) (ib:=5) (vb:=v75) (l:=x77) (t:=x78) (by decide) rfl rfl p81 p79) (R':=λy H'=>y=.aM [int (x78.length:Int),.sc .nilIface]/\∃ vb',H'=upd (upd _ 5 (some (dV 5 vb' x82))) 2 (some (eG 94 2 v5 5 (.sc (.pointer none)) (some (vb',x82))))) (λy H' h=>by subst e82;exact h)),by rintro _ _ ⟨rfl,v80,rfl⟩;exact trivial⟩ ?_
 rintro _ _ ⟨rfl,v80,rfl⟩
 try dsimp only
 conv=>whnf
 refine .mk ?_
 conv=>whnf
 refine .mk ?_
 conv=>whnf
 exact .mk
 intro _ _
 conv=>whnf
 try dsimp only
 repeat (conv in (uV _ _ _ _)=>whnf)
 exact .mk
 intro _ _
 conv=>whnf
 refine .mk trivial ?_
 try dsimp only
 repeat (conv in (uV _ _ _ _)=>whnf)
 conv=>whnf
 exact .mk
 intro _ _
 conv=>whnf
 refine .mk trivial ?_
 try dsimp only
 repeat (conv in (uV _ _ _ _)=>whnf)
 conv=>whnf
 refine .mk λx83=>?_
 conv=>whnf
 exact .mk
 conv=>whnf
 exact .mk
 intro _ _
 conv=>whnf
 try dsimp only
 repeat (conv in (uV _ _ _ _)=>whnf)
 exact .mk
 intro _ _
 conv=>whnf
 refine .mk trivial ?_
 try dsimp only
 repeat (conv in (uV _ _ _ _)=>whnf)
 conv=>whnf
 refine .mk _ (aF (oF rfl Tryz.underlying75 rfl rfl)) ?_
 conv=>whnf
 exact .mk
 intro y17_2 u53
 conv=>whnf
 refine .mk trivial ?_
 try dsimp only
 repeat (conv in (uV _ _ _ _)=>whnf)
 conv=>whnf
 refine .mk ?_
 conv=>whnf
 refine .mk _ (λH hH _=>aN (y:=.pp [int x48.dU.a0,int x48.dU.a1,int x48.dU.a2]) (xG rfl Tryz.underlying188 bX rfl rfl (by decide)) rfl) ?_
 conv=>whnf
 refine .mk _ (λH hH _=>aN (y:=.pp [int x48.dU.a1,int x48.dU.a2]) (xG rfl Tryz.underlying188 bX rfl rfl (by decide)) rfl) ?_
 conv=>whnf
 refine .mk _ (λH hH _=>aN (y:=.pp [int x48.dU.a2]) (xG rfl Tryz.underlying188 bX rfl rfl (by decide)) rfl) ?_
 conv=>whnf
 refine .mk _ (λH hH _=>dY (ps:=[(0,_),(1,_),(2,_)]) (rows:=[[.pp [int x48.dU.a0,int x48.dU.a1,int x48.dU.a2]],[.pp [int x48.dU.a1,int x48.dU.a2]],[.pp [int x48.dU.a2]]]) rfl Tryz.underlying225 iH (.cons rfl (.cons rfl (.cons rfl .nil))) (by kernel_rfl) rfl rfl rfl) ?_
 conv=>whnf
 refine .mk ?_ ?_
 conv=>whnf
 refine .mk ?_ ?_
 conv=>whnf
 refine .mk ?_
 conv=>whnf
 refine .mk _ (aF (dA (j:=0) rfl Tryz.underlying225 dM rfl rfl rfl (.list rfl))) ?_
 conv=>whnf
 refine .mk _ (aF (eY rfl Tryz.underlying75 rfl rfl)) ?_
 conv=>whnf
 refine .mk ?_
 conv=>whnf
 refine .mk λx86 e86=>?_
 conv=>whnf
 refine .mk λp87=>?_
 conv=>whnf
 refine .mk λp89=>?_
 conv=>whnf
 refine .mk λx90 e90=>?_
 conv=>whnf
 refine .mk _ ⟨λ_=>aQ rfl rfl (.cons rfl (.cons rfl .nil)) eT (PC.mono (fD (id:=2) (aD:=v5) (ib:=5) (vb:=(u53 5)) (l:=y17_2) (t:=x86) (by decide) rfl rfl p89 p87) (R':=λy H'=>y=.aM [int (x86.length:Int),.sc .nilIface]/\∃ vb',H'=upd (upd _ 5 (some (dV 5 vb' x90))) 2 (some (eG 94 2 v5 5 (.sc (.pointer none)) (some (vb',x90))))) (λy H' h=>by subst e90;exact h)),by rintro _ _ ⟨rfl,v88,rfl⟩;exact trivial⟩ ?_
 rintro _ _ ⟨rfl,v88,rfl⟩
 try dsimp only
 conv=>whnf
 refine .mk ?_
 conv=>whnf
 refine .mk ?_
 conv=>whnf
 refine .mk _ (aF (dA (j:=1) rfl Tryz.underlying225 dM rfl rfl rfl (.list rfl))) ?_
 conv=>whnf
 refine .mk _ (aF (eY rfl Tryz.underlying75 rfl rfl)) ?_
 conv=>whnf
 refine .mk ?_
 conv=>whnf
 refine .mk λx91 e91=>?_
 conv=>whnf
 refine .mk λp92=>?_
 conv=>whnf
 refine .mk λp94=>?_
 conv=>whnf
 refine .mk λx95 e95=>?_
 conv=>whnf
 refine .mk _ ⟨λ_=>aQ rfl rfl (.cons rfl (.cons rfl .nil)) eT (PC.mono (fD (id:=2) (aD:=v5) (ib:=5) (vb:=v88) (l:=x90) (t:=x91) (by decide) rfl rfl p94 p92) (R':=λy H'=>y=.aM [int (x91.length:Int),.sc .nilIface]/\∃ vb',H'=upd (upd _ 5 (some (dV 5 vb' x95))) 2 (some (eG 94 2 v5 5 (.sc (.pointer none)) (some (vb',x95))))) (λy H' h=>by subst e95;exact h)),by rintro _ _ ⟨rfl,v93,rfl⟩;exact trivial⟩ ?_
 rintro _ _ ⟨rfl,v93,rfl⟩
 try dsimp only
 conv=>whnf
 refine .mk ?_
 conv=>whnf
 refine .mk ?_
 conv=>whnf
 refine .mk _ (aF (dA (j:=2) rfl Tryz.underlying225 dM rfl rfl rfl (.list rfl))) ?_
 conv=>whnf
 refine .mk _ (aF (eY rfl Tryz.underlying75 rfl rfl)) ?_
 conv=>whnf
 refine .mk ?_
 conv=>whnf
 refine .mk λx96 e96=>?_
 conv=>whnf
 refine .mk λp97=>?_
 conv=>whnf
 refine .mk λp99=>?_
 conv=>whnf
 refine .mk λx100 e100=>?_
 conv=>whnf
 refine .mk _ ⟨λ_=>aQ rfl rfl (.cons rfl (.cons rfl .nil)) eT (PC.mono (fD (id:=2) (aD:=v5) (ib:=5) (vb:=v93) (l:=x95) (t:=x96) (by decide) rfl rfl p99 p97) (R':=λy H'=>y=.aM [int (x96.length:Int),.sc .nilIface]/\∃ vb',H'=upd (upd _ 5 (some (dV 5 vb' x100))) 2 (some (eG 94 2 v5 5 (.sc (.pointer none)) (some (vb',x100))))) (λy H' h=>by subst e100;exact h)),by rintro _ _ ⟨rfl,v98,rfl⟩;exact trivial⟩ ?_
 rintro _ _ ⟨rfl,v98,rfl⟩
 try dsimp only
 conv=>whnf
 refine .mk ?_
 conv=>whnf
 refine .mk ?_
 conv=>whnf
 exact .mk
 intro _ _
 conv=>whnf
 try dsimp only
 repeat (conv in (uV _ _ _ _)=>whnf)
 exact .mk
 intro _ _
 conv=>whnf
 refine .mk trivial ?_
 try dsimp only
 repeat (conv in (uV _ _ _ _)=>whnf)
 conv=>whnf
 exact .mk
 intro _ _
 conv=>whnf
 refine .mk trivial ?_
 try dsimp only
 repeat (conv in (uV _ _ _ _)=>whnf)
 conv=>whnf
 refine .mk λx101=>?_
 conv=>whnf
 exact .mk
 conv=>whnf
 exact .mk
 intro _ _
 conv=>whnf
 try dsimp only
 repeat (conv in (uV _ _ _ _)=>whnf)
 exact .mk
 intro _ _
 conv=>whnf
 refine .mk trivial ?_
 try dsimp only
 repeat (conv in (uV _ _ _ _)=>whnf)
 conv=>whnf
 refine .mk ?_ ?_
 intro v104
 conv=>whnf
 refine .mk ?_
 conv=>whnf
 refine .mk ?_ ?_
 conv=>whnf
 refine .mk ?_
 rintro ⟨y29_1,y29_3⟩ u94
 conv=>whnf
 try dsimp only
 repeat (conv in (uV _ _ _ _)=>whnf)
 refine .mk λx105=>?_
 conv=>whnf
 refine .mk ?_ ?_
 conv=>whnf
 refine .mk ?_
 conv=>whnf
 refine .mk λx106 e106=>?_
 conv=>whnf
 refine .mk ?_ ?_
 conv=>whnf
 refine .mk _ (aF (dY (ps:=[(0,_)]) (rows:=[[.pp [int x106]]]) rfl Tryz.underlying225 iH (.cons rfl .nil) (by kernel_rfl) rfl rfl rfl)) ?_
 conv=>whnf
 refine .mk ?_ ?_
 conv=>whnf
 refine .mk ?_ ?_
 conv=>whnf
 refine .mk ?_
 conv=>whnf
 refine .mk _ (aF (dA (j:=0) rfl Tryz.underlying225 dM rfl rfl rfl (.list rfl))) ?_
 conv=>whnf
 refine .mk _ (aF (eY rfl Tryz.underlying75 rfl rfl)) ?_
 conv=>whnf
 refine .mk ?_
 conv=>whnf
 refine .mk λx111 e111=>?_
 conv=>whnf
 refine .mk λp112=>?_
 conv=>whnf
 refine .mk λp114=>?_
 conv=>whnf
 refine .mk λx115 e115=>?_
 conv=>whnf
 refine .mk _ ⟨λ_=>aQ rfl rfl (.cons rfl (.cons rfl .nil)) eT (PC.mono (fD (id:=2) (aD:=v5) (ib:=5) (vb:=(u94 5)) (l:=y29_3) (t:=x111) (by decide) rfl rfl p114 p112) (R':=λy H'=>y=.aM [int (x111.length:Int),.sc .nilIface]/\∃ vb',H'=upd (upd _ 5 (some (dV 5 vb' x115))) 2 (some (eG 94 2 v5 5 (.sc (.pointer none)) (some (vb',x115))))) (λy H' h=>by subst e115;exact h)),by rintro _ _ ⟨rfl,v113,rfl⟩;exact trivial⟩ ?_
 rintro _ _ ⟨rfl,v113,rfl⟩
 try dsimp only
 conv=>whnf
 refine .mk ?_
 conv=>whnf
 refine .mk ?_
 conv=>whnf
 exact .mk
 intro _ _
 conv=>whnf
 try dsimp only
 repeat (conv in (uV _ _ _ _)=>whnf)
 exact .mk
 intro _ _
 conv=>whnf
 refine .mk trivial ?_
 try dsimp only
 repeat (conv in (uV _ _ _ _)=>whnf)
 conv=>whnf
 exact .mk
 intro _ _
 conv=>whnf
 refine .mk trivial ?_
 try dsimp only
 repeat (conv in (uV _ _ _ _)=>whnf)
 conv=>whnf
 refine .mk λx116=>?_
 conv=>whnf
 exact .mk
 conv=>whnf
 exact .mk
 intro _ _
 conv=>whnf
 try dsimp only
 repeat (conv in (uV _ _ _ _)=>whnf)
 exact .mk
 intro _ _
 conv=>whnf
 refine .mk trivial ?_
 try dsimp only
 repeat (conv in (uV _ _ _ _)=>whnf)
 conv=>whnf
 refine .mk ?_ ?_
 intro v119
 conv=>whnf
 refine .mk ?_
 conv=>whnf
 refine .mk ?_ ?_
 conv=>whnf
 refine .mk ?_
 rintro ⟨y36_1,y36_3⟩ u116
 conv=>whnf
 try dsimp only
 repeat (conv in (uV _ _ _ _)=>whnf)
 refine .mk λx120=>?_
 conv=>whnf
 refine .mk ?_ ?_
 conv=>whnf
 refine .mk ?_
 conv=>whnf
 refine .mk λx121 e121=>?_
 conv=>whnf
 refine .mk ?_ ?_
 conv=>whnf
 refine .mk ?_
 conv=>whnf
 refine .mk _ (λH hH _=>dY (ps:=[(0,_),(1,_),(2,_),(3,_),(4,_),(5,_),(6,_),(7,_),(8,_),(9,_),(10,_)]) (rows:=[[.pp [int x121.Open,int x121.jL,int x121.jE,int x121.iR,int x121.iJ,int x121.iB,int x121.gW,int x121.gL,int x121.gH,int x121.gD,int x121.fU]],[.pp [int x121.jL,int x121.jE,int x121.iR,int x121.iJ,int x121.iB,int x121.gW,int x121.gL,int x121.gH,int x121.gD,int x121.fU]],[.pp [int x121.jE,int x121.iR,int x121.iJ,int x121.iB,int x121.gW,int x121.gL,int x121.gH,int x121.gD,int x121.fU]],[.pp [int x121.iR,int x121.iJ,int x121.iB,int x121.gW,int x121.gL,int x121.gH,int x121.gD,int x121.fU]],[.pp [int x121.iJ,int x121.iB,int x121.gW,int x121.gL,int x121.gH,int x121.gD,int x121.fU]],[.pp [int x121.iB,int x121.gW,int x121.gL,int x121.gH,int x121.gD,int x121.fU]],[.pp [int x121.gW,int x121.gL,int x121.gH,int x121.gD,int x121.fU]],[.pp [int x121.gL,int x121.gH,int x121.gD,int x121.fU]],[.pp [int x121.gH,int x121.gD,int x121.fU]],[.pp [int x121.gD,int x121.fU]],[.pp [int x121.fU]]]) rfl Tryz.underlying225 iH (.cons rfl (.cons rfl (.cons rfl (.cons rfl (.cons rfl (.cons rfl (.cons rfl (.cons rfl (.cons rfl (.cons rfl (.cons rfl .nil))))))))))) (by kernel_rfl) rfl rfl rfl) ?_
 conv=>whnf
 refine .mk ?_ ?_
 conv=>whnf
 refine .mk ?_ ?_
 conv=>whnf
 refine .mk ?_
 conv=>whnf
 refine .mk _ (aF (dA (j:=0) rfl Tryz.underlying225 dM rfl rfl rfl (.list rfl))) ?_
 conv=>whnf
 refine .mk _ (aF (eY rfl Tryz.underlying75 rfl rfl)) ?_
 conv=>whnf
 refine .mk ?_
 conv=>whnf
 refine .mk λx126 e126=>?_
 conv=>whnf
 refine .mk λp127=>?_
 conv=>whnf
 refine .mk λp129=>?_
 conv=>whnf
 refine .mk λx130 e130=>?_
 conv=>whnf
 refine .mk _ ⟨λ_=>aQ rfl rfl (.cons rfl (.cons rfl .nil)) eT (PC.mono (fD (id:=2) (aD:=v5) (ib:=5) (vb:=(u116 5)) (l:=y36_3) (t:=x126) (by decide) rfl rfl p129 p127) (R':=λy H'=>y=.aM [int (x126.length:Int),.sc .nilIface]/\∃ vb',H'=upd (upd _ 5 (some (dV 5 vb' x130))) 2 (some (eG 94 2 v5 5 (.sc (.pointer none)) (some (vb',x130))))) (λy H' h=>by subst e130;exact h)),by rintro _ _ ⟨rfl,v128,rfl⟩;exact trivial⟩ ?_
 rintro _ _ ⟨rfl,v128,rfl⟩
 try dsimp only
 conv=>whnf
 refine .mk ?_
 conv=>whnf
 refine .mk ?_
 conv=>whnf
 refine .mk _ (aF (dA (j:=1) rfl Tryz.underlying225 dM rfl rfl rfl (.list rfl))) ?_
 conv=>whnf
 refine .mk _ (aF (eY rfl Tryz.underlying75 rfl rfl)) ?_
 conv=>whnf
 refine .mk ?_
 conv=>whnf
 refine .mk λx131 e131=>?_
 conv=>whnf
 refine .mk λp132=>?_
 conv=>whnf
 refine .mk λp134=>?_
 conv=>whnf
 refine .mk λx135 e135=>?_
 conv=>whnf
 refine .mk _ ⟨λ_=>aQ rfl rfl (.cons rfl (.cons rfl .nil)) eT (PC.mono (fD (id:=2) (aD:=v5) (ib:=5) (vb:=v128) (l:=x130) (t:=x131) (by decide) rfl rfl p134 p132) (R':=λy H'=>y=.aM [int (x131.length:Int),.sc .nilIface]/\∃ vb',H'=upd (upd _ 5 (some (dV 5 vb' x135))) 2 (some (eG 94 2 v5 5 (.sc (.pointer none)) (some (vb',x135))))) (λy H' h=>by subst e135;exact h)),by rintro _ _ ⟨rfl,v133,rfl⟩;exact trivial⟩ ?_
 rintro _ _ ⟨rfl,v133,rfl⟩
 try dsimp only
 conv=>whnf
 refine .mk ?_
 conv=>whnf
 refine .mk ?_
 conv=>whnf
 refine .mk _ (aF (dA (j:=2) rfl Tryz.underlying225 dM rfl rfl rfl (.list rfl))) ?_
 conv=>whnf
 refine .mk _ (aF (eY rfl Tryz.underlying75 rfl rfl)) ?_
 conv=>whnf
 refine .mk ?_
 conv=>whnf
 refine .mk λx136 e136=>?_
 conv=>whnf
 refine .mk λp137=>?_
 conv=>whnf
 refine .mk λp139=>?_
 conv=>whnf
 refine .mk λx140 e140=>?_
 conv=>whnf
 refine .mk _ ⟨λ_=>aQ rfl rfl (.cons rfl (.cons rfl .nil)) eT (PC.mono (fD (id:=2) (aD:=v5) (ib:=5) (vb:=v133) (l:=x135) (t:=x136) (by decide) rfl rfl p139 p137) (R':=λy H'=>y=.aM [int (x136.length:Int),.sc .nilIface]/\∃ vb',H'=upd (upd _ 5 (some (dV 5 vb' x140))) 2 (some (eG 94 2 v5 5 (.sc (.pointer none)) (some (vb',x140))))) (λy H' h=>by subst e140;exact h)),by rintro _ _ ⟨rfl,v138,rfl⟩;exact trivial⟩ ?_
 rintro _ _ ⟨rfl,v138,rfl⟩
 try dsimp only
 conv=>whnf
 refine .mk ?_
 conv=>whnf
 refine .mk ?_
 conv=>whnf
 refine .mk _ (aF (dA (j:=3) rfl Tryz.underlying225 dM rfl rfl rfl (.list rfl))) ?_
 conv=>whnf
 refine .mk _ (aF (eY rfl Tryz.underlying75 rfl rfl)) ?_
 conv=>whnf
 refine .mk ?_
 conv=>whnf
 refine .mk λx141 e141=>?_
 conv=>whnf
 refine .mk λp142=>?_
 conv=>whnf
 refine .mk λp144=>?_
 conv=>whnf
 refine .mk λx145 e145=>?_
 conv=>whnf
 refine .mk _ ⟨λ_=>aQ rfl rfl (.cons rfl (.cons rfl .nil)) eT (PC.mono (fD (id:=2) (aD:=v5) (ib:=5) (vb:=v138) (l:=x140) (t:=x141) (by decide) rfl rfl p144 p142) (R':=λy H'=>y=.aM [int (x141.length:Int),.sc .nilIface]/\∃ vb',H'=upd (upd _ 5 (some (dV 5 vb' x145))) 2 (some (eG 94 2 v5 5 (.sc (.pointer none)) (some (vb',x145))))) (λy H' h=>by subst e145;exact h)),by rintro _ _ ⟨rfl,v143,rfl⟩;exact trivial⟩ ?_
 rintro _ _ ⟨rfl,v143,rfl⟩
 try dsimp only
 conv=>whnf
 refine .mk ?_
 conv=>whnf
 refine .mk ?_
 conv=>whnf
 refine .mk _ (aF (dA (j:=4) rfl Tryz.underlying225 dM rfl rfl rfl (.list rfl))) ?_
 conv=>whnf
 refine .mk _ (aF (eY rfl Tryz.underlying75 rfl rfl)) ?_
 conv=>whnf
 refine .mk ?_
 conv=>whnf
 refine .mk λx146 e146=>?_
 conv=>whnf
 refine .mk λp147=>?_
 conv=>whnf
 refine .mk λp149=>?_
 conv=>whnf
 refine .mk λx150 e150=>?_
 conv=>whnf
 refine .mk _ ⟨λ_=>aQ rfl rfl (.cons rfl (.cons rfl .nil)) eT (PC.mono (fD (id:=2) (aD:=v5) (ib:=5) (vb:=v143) (l:=x145) (t:=x146) (by decide) rfl rfl p149 p147) (R':=λy H'=>y=.aM [int (x146.length:Int),.sc .nilIface]/\∃ vb',H'=upd (upd _ 5 (some (dV 5 vb' x150))) 2 (some (eG 94 2 v5 5 (.sc (.pointer none)) (some (vb',x150))))) (λy H' h=>by subst e150;exact h)),by rintro _ _ ⟨rfl,v148,rfl⟩;exact trivial⟩ ?_
 rintro _ _ ⟨rfl,v148,rfl⟩
 try dsimp only
 conv=>whnf
 refine .mk ?_
 conv=>whnf
 refine .mk ?_
 conv=>whnf
 refine .mk _ (aF (dA (j:=5) rfl Tryz.underlying225 dM rfl rfl rfl (.list rfl))) ?_
 conv=>whnf
 refine .mk _ (aF (eY rfl Tryz.underlying75 rfl rfl)) ?_
 conv=>whnf
 refine .mk ?_
 conv=>whnf
 refine .mk λx151 e151=>?_
 conv=>whnf
 refine .mk λp152=>?_
 conv=>whnf
 refine .mk λp154=>?_
 conv=>whnf
 refine .mk λx155 e155=>?_
 conv=>whnf
 refine .mk _ ⟨λ_=>aQ rfl rfl (.cons rfl (.cons rfl .nil)) eT (PC.mono (fD (id:=2) (aD:=v5) (ib:=5) (vb:=v148) (l:=x150) (t:=x151) (by decide) rfl rfl p154 p152) (R':=λy H'=>y=.aM [int (x151.length:Int),.sc .nilIface]/\∃ vb',H'=upd (upd _ 5 (some (dV 5 vb' x155))) 2 (some (eG 94 2 v5 5 (.sc (.pointer none)) (some (vb',x155))))) (λy H' h=>by subst e155;exact h)),by rintro _ _ ⟨rfl,v153,rfl⟩;exact trivial⟩ ?_
 rintro _ _ ⟨rfl,v153,rfl⟩
 try dsimp only
 conv=>whnf
 refine .mk ?_
 conv=>whnf
 refine .mk ?_
 conv=>whnf
 refine .mk _ (aF (dA (j:=6) rfl Tryz.underlying225 dM rfl rfl rfl (.list rfl))) ?_
 conv=>whnf
 refine .mk _ (aF (eY rfl Tryz.underlying75 rfl rfl)) ?_
 conv=>whnf
 refine .mk ?_
 conv=>whnf
 refine .mk λx156 e156=>?_
 conv=>whnf
 refine .mk λp157=>?_
 conv=>whnf
 refine .mk λp159=>?_
 conv=>whnf
 refine .mk λx160 e160=>?_
 conv=>whnf
 refine .mk _ ⟨λ_=>aQ rfl rfl (.cons rfl (.cons rfl .nil)) eT (PC.mono (fD (id:=2) (aD:=v5) (ib:=5) (vb:=v153) (l:=x155) (t:=x156) (by decide) rfl rfl p159 p157) (R':=λy H'=>y=.aM [int (x156.length:Int),.sc .nilIface]/\∃ vb',H'=upd (upd _ 5 (some (dV 5 vb' x160))) 2 (some (eG 94 2 v5 5 (.sc (.pointer none)) (some (vb',x160))))) (λy H' h=>by subst e160;exact h)),by rintro _ _ ⟨rfl,v158,rfl⟩;exact trivial⟩ ?_
 rintro _ _ ⟨rfl,v158,rfl⟩
 try dsimp only
 conv=>whnf
 refine .mk ?_
 conv=>whnf
 refine .mk ?_
 conv=>whnf
 refine .mk _ (aF (dA (j:=7) rfl Tryz.underlying225 dM rfl rfl rfl (.list rfl))) ?_
 conv=>whnf
 refine .mk _ (aF (eY rfl Tryz.underlying75 rfl rfl)) ?_
 conv=>whnf
 refine .mk ?_
 conv=>whnf
 refine .mk λx161 e161=>?_
 conv=>whnf
 refine .mk λp162=>?_
 conv=>whnf
 refine .mk λp164=>?_
 conv=>whnf
 refine .mk λx165 e165=>?_
 conv=>whnf
 refine .mk _ ⟨λ_=>aQ rfl rfl (.cons rfl (.cons rfl .nil)) eT (PC.mono (fD (id:=2) (aD:=v5) (ib:=5) (vb:=v158) (l:=x160) (t:=x161) (by decide) rfl rfl p164 p162) (R':=λy H'=>y=.aM [int (x161.length:Int),.sc .nilIface]/\∃ vb',H'=upd (upd _ 5 (some (dV 5 vb' x165))) 2 (some (eG 94 2 v5 5 (.sc (.pointer none)) (some (vb',x165))))) (λy H' h=>by subst e165;exact h)),by rintro _ _ ⟨rfl,v163,rfl⟩;exact trivial⟩ ?_
 rintro _ _ ⟨rfl,v163,rfl⟩
 try dsimp only
 conv=>whnf
 refine .mk ?_
 conv=>whnf
 refine .mk ?_
 conv=>whnf
 refine .mk _ (aF (dA (j:=8) rfl Tryz.underlying225 dM rfl rfl rfl (.list rfl))) ?_
 conv=>whnf
 refine .mk _ (aF (eY rfl Tryz.underlying75 rfl rfl)) ?_
 conv=>whnf
 refine .mk ?_
 conv=>whnf
 refine .mk λx166 e166=>?_
 conv=>whnf
 refine .mk λp167=>?_
 conv=>whnf
 refine .mk λp169=>?_
 conv=>whnf
 refine .mk λx170 e170=>?_
 conv=>whnf
 refine .mk _ ⟨λ_=>aQ rfl rfl (.cons rfl (.cons rfl .nil)) eT (PC.mono (fD (id:=2) (aD:=v5) (ib:=5) (vb:=v163) (l:=x165) (t:=x166) (by decide) rfl rfl p169 p167) (R':=λy H'=>y=.aM [int (x166.length:Int),.sc .nilIface]/\∃ vb',H'=upd (upd _ 5 (some (dV 5 vb' x170))) 2 (some (eG 94 2 v5 5 (.sc (.pointer none)) (some (vb',x170))))) (λy H' h=>by subst e170;exact h)),by rintro _ _ ⟨rfl,v168,rfl⟩;exact trivial⟩ ?_
 rintro _ _ ⟨rfl,v168,rfl⟩
 try dsimp only
 conv=>whnf
 refine .mk ?_
 conv=>whnf
 refine .mk ?_
 conv=>whnf
 refine .mk _ (aF (dA (j:=9) rfl Tryz.underlying225 dM rfl rfl rfl (.list rfl))) ?_
 conv=>whnf
 refine .mk _ (aF (eY rfl Tryz.underlying75 rfl rfl)) ?_
 conv=>whnf
 refine .mk ?_
 conv=>whnf
 refine .mk λx171 e171=>?_
 conv=>whnf
 refine .mk λp172=>?_
 conv=>whnf
 refine .mk λp174=>?_
 conv=>whnf
 refine .mk λx175 e175=>?_
 conv=>whnf
 refine .mk _ ⟨λ_=>aQ rfl rfl (.cons rfl (.cons rfl .nil)) eT (PC.mono (fD (id:=2) (aD:=v5) (ib:=5) (vb:=v168) (l:=x170) (t:=x171) (by decide) rfl rfl p174 p172) (R':=λy H'=>y=.aM [int (x171.length:Int),.sc .nilIface]/\∃ vb',H'=upd (upd _ 5 (some (dV 5 vb' x175))) 2 (some (eG 94 2 v5 5 (.sc (.pointer none)) (some (vb',x175))))) (λy H' h=>by subst e175;exact h)),by rintro _ _ ⟨rfl,v173,rfl⟩;exact trivial⟩ ?_
 rintro _ _ ⟨rfl,v173,rfl⟩
 try dsimp only
 conv=>whnf
 refine .mk ?_
 conv=>whnf
 refine .mk ?_
 conv=>whnf
 refine .mk _ (aF (dA (j:=10) rfl Tryz.underlying225 dM rfl rfl rfl (.list rfl))) ?_
 conv=>whnf
 refine .mk _ (aF (eY rfl Tryz.underlying75 rfl rfl)) ?_
 conv=>whnf
 refine .mk ?_
 conv=>whnf
 refine .mk λx176 e176=>?_
 conv=>whnf
 refine .mk λp177=>?_
 conv=>whnf
 refine .mk λp179=>?_
 conv=>whnf
 refine .mk λx180 e180=>?_
 conv=>whnf
 refine .mk _ ⟨λ_=>aQ rfl rfl (.cons rfl (.cons rfl .nil)) eT (PC.mono (fD (id:=2) (aD:=v5) (ib:=5) (vb:=v173) (l:=x175) (t:=x176) (by decide) rfl rfl p179 p177) (R':=λy H'=>y=.aM [int (x176.length:Int),.sc .nilIface]/\∃ vb',H'=upd (upd _ 5 (some (dV 5 vb' x180))) 2 (some (eG 94 2 v5 5 (.sc (.pointer none)) (some (vb',x180))))) (λy H' h=>by subst e180;exact h)),by rintro _ _ ⟨rfl,v178,rfl⟩;exact trivial⟩ ?_
 rintro _ _ ⟨rfl,v178,rfl⟩
 try dsimp only
 conv=>whnf
 refine .mk ?_
 conv=>whnf
 refine .mk ?_
 conv=>whnf
 exact .mk
 intro _ _
 conv=>whnf
 try dsimp only
 repeat (conv in (uV _ _ _ _)=>whnf)
 exact .mk
 intro _ _
 conv=>whnf
 refine .mk trivial ?_
 try dsimp only
 repeat (conv in (uV _ _ _ _)=>whnf)
 conv=>whnf
 exact .mk
 intro _ _
 conv=>whnf
 refine .mk trivial ?_
 try dsimp only
 repeat (conv in (uV _ _ _ _)=>whnf)
 conv=>whnf
 refine .mk λx181=>?_
 conv=>whnf
 exact .mk
 conv=>whnf
 exact .mk
 intro _ _
 conv=>whnf
 try dsimp only
 repeat (conv in (uV _ _ _ _)=>whnf)
 exact .mk
 intro y35_2 u102
 conv=>whnf
 refine .mk trivial ?_
 try dsimp only
 repeat (conv in (uV _ _ _ _)=>whnf)
 conv=>whnf
 refine .mk ?_ ?_
 intro v184
 conv=>whnf
 refine .mk _ (aF (eY rfl Tryz.underlying75 rfl rfl)) ?_
 conv=>whnf
 refine .mk ?_
 conv=>whnf
 refine .mk ?_
 conv=>whnf
 refine .mk λx185 e185=>?_
 conv=>whnf
 refine .mk λp186=>?_
 conv=>whnf
 refine .mk λp188=>?_
 conv=>whnf
 refine .mk λx189 e189=>?_
 conv=>whnf
 refine .mk _ ⟨λ_=>aQ rfl rfl (.cons rfl (.cons rfl .nil)) eT (PC.mono (fD (id:=2) (aD:=v5) (ib:=5) (vb:=(u102 5)) (l:=y35_2) (t:=x185) (by decide) rfl rfl p188 p186) (R':=λy H'=>y=.aM [int (x185.length:Int),.sc .nilIface]/\∃ vb',H'=upd (upd _ 5 (some (dV 5 vb' x189))) 2 (some (eG 94 2 v5 5 (.sc (.pointer none)) (some (vb',x189))))) (λy H' h=>by subst e189;exact h)),by rintro _ _ ⟨rfl,v187,rfl⟩;exact trivial⟩ ?_
 rintro _ _ ⟨rfl,v187,rfl⟩
 try dsimp only
 conv=>whnf
 refine .mk ?_
 conv=>whnf
 refine .mk ?_ ?_
 intro v192
 conv=>whnf
 refine .mk ?_
 conv=>whnf
 refine .mk ?_ ?_
 conv=>whnf
 refine .mk ?_
 rintro ⟨y44_1,y44_3⟩ u140
 conv=>whnf
 try dsimp only
 repeat (conv in (uV _ _ _ _)=>whnf)
 refine .mk λx193=>?_
 conv=>whnf
 refine .mk ?_ ?_
 conv=>whnf
 refine .mk ?_
 conv=>whnf
 refine .mk λx194 e194=>?_
 conv=>whnf
 refine .mk ?_ ?_
 conv=>whnf
 refine .mk _ (aF (dY (ps:=[(0,_)]) (rows:=[[.pp [int x194]]]) rfl Tryz.underlying225 iH (.cons rfl .nil) (by kernel_rfl) rfl rfl rfl)) ?_
 conv=>whnf
 refine .mk ?_ ?_
 conv=>whnf
 refine .mk ?_ ?_
 conv=>whnf
 refine .mk ?_
 conv=>whnf
 refine .mk _ (aF (dA (j:=0) rfl Tryz.underlying225 dM rfl rfl rfl (.list rfl))) ?_
 conv=>whnf
 refine .mk _ (aF (eY rfl Tryz.underlying75 rfl rfl)) ?_
 conv=>whnf
 refine .mk ?_
 conv=>whnf
 refine .mk λx199 e199=>?_
 conv=>whnf
 refine .mk λp200=>?_
 conv=>whnf
 refine .mk λp202=>?_
 conv=>whnf
 refine .mk λx203 e203=>?_
 conv=>whnf
 refine .mk _ ⟨λ_=>aQ rfl rfl (.cons rfl (.cons rfl .nil)) eT (PC.mono (fD (id:=2) (aD:=v5) (ib:=5) (vb:=(u140 5)) (l:=y44_3) (t:=x199) (by decide) rfl rfl p202 p200) (R':=λy H'=>y=.aM [int (x199.length:Int),.sc .nilIface]/\∃ vb',H'=upd (upd _ 5 (some (dV 5 vb' x203))) 2 (some (eG 94 2 v5 5 (.sc (.pointer none)) (some (vb',x203))))) (λy H' h=>by subst e203;exact h)),by rintro _ _ ⟨rfl,v201,rfl⟩;exact trivial⟩ ?_
 rintro _ _ ⟨rfl,v201,rfl⟩
 try dsimp only
 conv=>whnf
 refine .mk ?_
 conv=>whnf
 refine .mk ?_
 conv=>whnf
 exact .mk
 intro _ _
 conv=>whnf
 try dsimp only
 repeat (conv in (uV _ _ _ _)=>whnf)
 exact .mk
 intro _ _
 conv=>whnf
 refine .mk trivial ?_
 try dsimp only
 repeat (conv in (uV _ _ _ _)=>whnf)
 conv=>whnf
 exact .mk
 intro _ _
 conv=>whnf
 refine .mk trivial ?_
 try dsimp only
 repeat (conv in (uV _ _ _ _)=>whnf)
 conv=>whnf
 refine .mk λx204=>?_
 conv=>whnf
 exact .mk
 conv=>whnf
 exact .mk
 intro _ _
 conv=>whnf
 try dsimp only
 repeat (conv in (uV _ _ _ _)=>whnf)
 exact .mk
 intro _ _
 conv=>whnf
 refine .mk trivial ?_
 try dsimp only
 repeat (conv in (uV _ _ _ _)=>whnf)
 conv=>whnf
 refine .mk _ (aF (oF rfl Tryz.underlying75 rfl rfl)) ?_
 conv=>whnf
 exact .mk
 intro y42_2 u124
 conv=>whnf
 refine .mk trivial ?_
 try dsimp only
 repeat (conv in (uV _ _ _ _)=>whnf)
 conv=>whnf
 refine .mk ?_ ?_
 intro v207
 conv=>whnf
 refine .mk _ (aF (eY rfl Tryz.underlying75 rfl rfl)) ?_
 conv=>whnf
 refine .mk ?_
 conv=>whnf
 refine .mk ?_
 conv=>whnf
 refine .mk λx208 e208=>?_
 conv=>whnf
 refine .mk λp209=>?_
 conv=>whnf
 refine .mk λp211=>?_
 conv=>whnf
 refine .mk λx212 e212=>?_
 conv=>whnf
 refine .mk _ ⟨λ_=>aQ rfl rfl (.cons rfl (.cons rfl .nil)) eT (PC.mono (fD (id:=2) (aD:=v5) (ib:=5) (vb:=(u124 5)) (l:=y42_2) (t:=x208) (by decide) rfl rfl p211 p209) (R':=λy H'=>y=.aM [int (x208.length:Int),.sc .nilIface]/\∃ vb',H'=upd (upd _ 5 (some (dV 5 vb' x212))) 2 (some (eG 94 2 v5 5 (.sc (.pointer none)) (some (vb',x212))))) (λy H' h=>by subst e212;exact h)),by rintro _ _ ⟨rfl,v210,rfl⟩;exact trivial⟩ ?_
 rintro _ _ ⟨rfl,v210,rfl⟩
 try dsimp only
 conv=>whnf
 refine .mk ?_
 conv=>whnf
 refine .mk ?_ ?_
 intro v215
 conv=>whnf
 refine .mk ?_
 conv=>whnf
 refine .mk ?_ ?_
 conv=>whnf
 refine .mk ?_
 rintro ⟨y52_1,y52_3⟩ u164
 conv=>whnf
 try dsimp only
 repeat (conv in (uV _ _ _ _)=>whnf)
 refine .mk λx216=>?_
 conv=>whnf
 refine .mk ?_ ?_
 conv=>whnf
 refine .mk ?_
 conv=>whnf
 refine .mk λx217 e217=>?_
 conv=>whnf
 refine .mk ?_ ?_
 conv=>whnf
 refine .mk _ (aF (dY (ps:=[(0,_)]) (rows:=[[.pp [int x217]]]) rfl Tryz.underlying225 iH (.cons rfl .nil) (by kernel_rfl) rfl rfl rfl)) ?_
 conv=>whnf
 refine .mk ?_ ?_
 conv=>whnf
 refine .mk ?_ ?_
 conv=>whnf
 refine .mk ?_
 conv=>whnf
 refine .mk _ (aF (dA (j:=0) rfl Tryz.underlying225 dM rfl rfl rfl (.list rfl))) ?_
 conv=>whnf
 refine .mk _ (aF (eY rfl Tryz.underlying75 rfl rfl)) ?_
 conv=>whnf
 refine .mk ?_
 conv=>whnf
 refine .mk λx222 e222=>?_
 conv=>whnf
 refine .mk λp223=>?_
 conv=>whnf
 refine .mk λp225=>?_
 conv=>whnf
 refine .mk λx226 e226=>?_
 conv=>whnf
 refine .mk _ ⟨λ_=>aQ rfl rfl (.cons rfl (.cons rfl .nil)) eT (PC.mono (fD (id:=2) (aD:=v5) (ib:=5) (vb:=(u164 5)) (l:=y52_3) (t:=x222) (by decide) rfl rfl p225 p223) (R':=λy H'=>y=.aM [int (x222.length:Int),.sc .nilIface]/\∃ vb',H'=upd (upd _ 5 (some (dV 5 vb' x226))) 2 (some (eG 94 2 v5 5 (.sc (.pointer none)) (some (vb',x226))))) (λy H' h=>by subst e226;exact h)),by rintro _ _ ⟨rfl,v224,rfl⟩;exact trivial⟩ ?_
 rintro _ _ ⟨rfl,v224,rfl⟩
 try dsimp only
 conv=>whnf
 refine .mk ?_
 conv=>whnf
 refine .mk ?_
 conv=>whnf
 exact .mk
 intro _ _
 conv=>whnf
 try dsimp only
 repeat (conv in (uV _ _ _ _)=>whnf)
 exact .mk
 intro _ _
 conv=>whnf
 refine .mk trivial ?_
 try dsimp only
 repeat (conv in (uV _ _ _ _)=>whnf)
 conv=>whnf
 exact .mk
 intro _ _
 conv=>whnf
 refine .mk trivial ?_
 try dsimp only
 repeat (conv in (uV _ _ _ _)=>whnf)
 conv=>whnf
 refine .mk λx227=>?_
 conv=>whnf
 exact .mk
 conv=>whnf
 exact .mk
 intro _ _
 conv=>whnf
 try dsimp only
 repeat (conv in (uV _ _ _ _)=>whnf)
 exact .mk
 intro _ _
 conv=>whnf
 refine .mk trivial ?_
 try dsimp only
 repeat (conv in (uV _ _ _ _)=>whnf)
 conv=>whnf
 refine .mk _ (aF (oF rfl Tryz.underlying75 rfl rfl)) ?_
 conv=>whnf
 exact .mk
 intro y50_2 u148
 conv=>whnf
 refine .mk trivial ?_
 try dsimp only
 repeat (conv in (uV _ _ _ _)=>whnf)
 conv=>whnf
 refine .mk ?_
 conv=>whnf
 refine .mk ?_ ?_
 intro v228
 intro v229
 conv=>whnf
 exact .mk
 intro _ _
 conv=>whnf
 try dsimp only
 repeat (conv in (uV _ _ _ _)=>whnf)
 refine .mk ⟨rfl,trivial⟩ ?_
 conv=>whnf
 refine .mk ?_ ?_
 intro v232
 conv=>whnf
 refine .mk _ (aF (eY rfl Tryz.underlying75 rfl rfl)) ?_
 conv=>whnf
 refine .mk ?_
 conv=>whnf
 refine .mk ?_
 conv=>whnf
 refine .mk λx233 e233=>?_
 conv=>whnf
 refine .mk λp234=>?_
 conv=>whnf
 refine .mk λp236=>?_
 conv=>whnf
 refine .mk λx237 e237=>?_
 conv=>whnf
 refine .mk _ ⟨λ_=>aQ rfl rfl (.cons rfl (.cons rfl .nil)) eT (PC.mono (fD (id:=2) (aD:=v5) (ib:=5) (vb:=(u148 5)) (l:=y50_2) (t:=x233) (by decide) rfl rfl p236 p234) (R':=λy H'=>y=.aM [int (x233.length:Int),.sc .nilIface]/\∃ vb',H'=upd (upd _ 5 (some (dV 5 vb' x237))) 2 (some (eG 94 2 v5 5 (.sc (.pointer none)) (some (vb',x237))))) (λy H' h=>by subst e237;exact h)),by rintro _ _ ⟨rfl,v235,rfl⟩;exact trivial⟩ ?_
 rintro _ _ ⟨rfl,v235,rfl⟩
 try dsimp only
 conv=>whnf
 refine .mk ?_
 conv=>whnf
 refine .mk ?_ ?_
 intro v240
 conv=>whnf
 refine .mk ?_
 conv=>whnf
 refine .mk ?_ ?_
 conv=>whnf
 refine .mk ?_
 rintro ⟨y61_1,y61_3⟩ u190
 conv=>whnf
 try dsimp only
 repeat (conv in (uV _ _ _ _)=>whnf)
 refine .mk λx241=>?_
 conv=>whnf
 refine .mk ?_ ?_
 conv=>whnf
 refine .mk ?_
 conv=>whnf
 refine .mk λx242 e242=>?_
 conv=>whnf
 refine .mk ?_ ?_
 conv=>whnf
 refine .mk _ (aF (oF rfl Tryz.underlying75 rfl rfl)) ?_
 conv=>whnf
 refine .mk _ (aF (dY (ps:=[(0,_)]) (rows:=[[.pp [int x242.jR,aA x242.Closed,aG 4 aT.av x242.gY,aG 1 fI x242.jB,aG 11 bA.av x242.iI,aG 1 fI x242.iL,aG 1 fI x242.Down,aG 8 aH.av x242.iQ]]]) rfl Tryz.underlying225 iH (.cons rfl .nil) (by kernel_rfl) rfl rfl rfl)) ?_
 conv=>whnf
 refine .mk ?_ ?_
 conv=>whnf
 refine .mk ?_ ?_
 conv=>whnf
 refine .mk ?_
 conv=>whnf
 refine .mk _ (aF (dA (j:=0) rfl Tryz.underlying225 dM rfl rfl rfl (.list rfl))) ?_
 conv=>whnf
 refine .mk _ (aF (eY rfl Tryz.underlying75 rfl rfl)) ?_
 conv=>whnf
 refine .mk ?_
 conv=>whnf
 refine .mk λx247 e247=>?_
 conv=>whnf
 refine .mk λp248=>?_
 conv=>whnf
 refine .mk λp250=>?_
 conv=>whnf
 refine .mk λx251 e251=>?_
 conv=>whnf
 refine .mk _ ⟨λ_=>aQ rfl rfl (.cons rfl (.cons rfl .nil)) eT (PC.mono (fD (id:=2) (aD:=v5) (ib:=5) (vb:=(u190 5)) (l:=y61_3) (t:=x247) (by decide) rfl rfl p250 p248) (R':=λy H'=>y=.aM [int (x247.length:Int),.sc .nilIface]/\∃ vb',H'=upd (upd _ 5 (some (dV 5 vb' x251))) 2 (some (eG 94 2 v5 5 (.sc (.pointer none)) (some (vb',x251))))) (λy H' h=>by subst e251;exact h)),by rintro _ _ ⟨rfl,v249,rfl⟩;exact trivial⟩ ?_
 rintro _ _ ⟨rfl,v249,rfl⟩
 try dsimp only
 conv=>whnf
 refine .mk ?_
 conv=>whnf
 refine .mk ?_
 conv=>whnf
 exact .mk
 intro _ _
 conv=>whnf
 try dsimp only
 repeat (conv in (uV _ _ _ _)=>whnf)
 exact .mk
 intro y64_2 u195
 conv=>whnf
 refine .mk trivial ?_
 try dsimp only
 repeat (conv in (uV _ _ _ _)=>whnf)
 conv=>whnf
 refine .mk ?_ ?_
 conv=>whnf
 refine .mk ?_ ?_
 conv=>whnf
 refine .mk ?_ ?_
 conv=>whnf
 exact .mk
 conv=>whnf
 exact .mk
 intro _ _
 conv=>whnf
 try dsimp only
 repeat (conv in (uV _ _ _ _)=>whnf)
 refine .mk _ (aF (eY rfl Tryz.underlying75 rfl rfl)) ?_
 conv=>whnf
 refine .mk ?_
 conv=>whnf
 refine .mk λx254 e254=>?_
 conv=>whnf
 refine .mk λp255=>?_
 conv=>whnf
 refine .mk λp257=>?_
 conv=>whnf
 refine .mk λx258 e258=>?_
 conv=>whnf
 refine .mk _ ⟨λ_=>aQ rfl rfl (.cons rfl (.cons rfl .nil)) eT (PC.mono (fD (id:=2) (aD:=v5) (ib:=5) (vb:=(u195 5)) (l:=y64_2) (t:=x254) (by decide) rfl rfl p257 p255) (R':=λy H'=>y=.aM [int (x254.length:Int),.sc .nilIface]/\∃ vb',H'=upd (upd _ 5 (some (dV 5 vb' x258))) 2 (some (eG 94 2 v5 5 (.sc (.pointer none)) (some (vb',x258))))) (λy H' h=>by subst e258;exact h)),by rintro _ _ ⟨rfl,v256,rfl⟩;exact trivial⟩ ?_
 rintro _ _ ⟨rfl,v256,rfl⟩
 try dsimp only
 conv=>whnf
 exact .mk
 intro _ _
 conv=>whnf
 refine .mk trivial ?_
 try dsimp only
 repeat (conv in (uV _ _ _ _)=>whnf)
 conv=>whnf
 refine .mk ?_ ?_
 intro v261
 conv=>whnf
 refine .mk ?_
 conv=>whnf
 refine .mk ?_ ?_
 conv=>whnf
 refine .mk ?_
 rintro ⟨y70_1,y70_3⟩ u215
 conv=>whnf
 try dsimp only
 repeat (conv in (uV _ _ _ _)=>whnf)
 refine .mk λx262=>?_
 conv=>whnf
 refine .mk ?_ ?_
 conv=>whnf
 refine .mk ?_
 conv=>whnf
 refine .mk λx263 e263=>?_
 conv=>whnf
 refine .mk ?_ ?_
 conv=>whnf
 refine .mk ?_ ?_
 intro v268
 conv=>whnf
 refine .mk _ (aF (eY rfl Tryz.underlying75 rfl rfl)) ?_
 conv=>whnf
 refine .mk ?_
 conv=>whnf
 refine .mk ?_
 conv=>whnf
 refine .mk λx269 e269=>?_
 conv=>whnf
 refine .mk λp270=>?_
 conv=>whnf
 refine .mk λp272=>?_
 conv=>whnf
 refine .mk λx273 e273=>?_
 conv=>whnf
 refine .mk _ ⟨λ_=>aQ rfl rfl (.cons rfl (.cons rfl .nil)) eT (PC.mono (fD (id:=2) (aD:=v5) (ib:=5) (vb:=(u215 5)) (l:=y70_3) (t:=x269) (by decide) rfl rfl p272 p270) (R':=λy H'=>y=.aM [int (x269.length:Int),.sc .nilIface]/\∃ vb',H'=upd (upd _ 5 (some (dV 5 vb' x273))) 2 (some (eG 94 2 v5 5 (.sc (.pointer none)) (some (vb',x273))))) (λy H' h=>by subst e273;exact h)),by rintro _ _ ⟨rfl,v271,rfl⟩;exact trivial⟩ ?_
 rintro _ _ ⟨rfl,v271,rfl⟩
 try dsimp only
 conv=>whnf
 refine .mk ?_
 conv=>whnf
 refine .mk ?_ ?_
 intro v276
 conv=>whnf
 refine .mk ?_
 conv=>whnf
 refine .mk ?_ ?_
 conv=>whnf
 refine .mk ?_
 rintro ⟨y75_1,y75_3⟩ u236
 conv=>whnf
 try dsimp only
 repeat (conv in (uV _ _ _ _)=>whnf)
 refine .mk λx277=>?_
 conv=>whnf
 refine .mk ?_ ?_
 conv=>whnf
 refine .mk ?_
 conv=>whnf
 refine .mk λx278 e278=>?_
 conv=>whnf
 refine .mk ?_ ?_
 conv=>whnf
 refine .mk ?_
 conv=>whnf
 refine .mk _ (λH hH _=>dY (ps:=[(0,_),(1,_),(2,_)]) (rows:=[[.pp [int x278.dJ,int x278.Value,int x278.gP]],[.pp [int x278.Value,int x278.gP]],[.pp [int x278.gP]]]) rfl Tryz.underlying225 iH (.cons rfl (.cons rfl (.cons rfl .nil))) (by kernel_rfl) rfl rfl rfl) ?_
 conv=>whnf
 refine .mk ?_ ?_
 conv=>whnf
 refine .mk ?_ ?_
 conv=>whnf
 refine .mk ?_
 conv=>whnf
 refine .mk _ (aF (dA (j:=0) rfl Tryz.underlying225 dM rfl rfl rfl (.list rfl))) ?_
 conv=>whnf
 refine .mk _ (aF (eY rfl Tryz.underlying75 rfl rfl)) ?_
 conv=>whnf
 refine .mk ?_
 conv=>whnf
 refine .mk λx283 e283=>?_
 conv=>whnf
 refine .mk λp284=>?_
 conv=>whnf
 refine .mk λp286=>?_
 conv=>whnf
 refine .mk λx287 e287=>?_
 conv=>whnf
 refine .mk _ ⟨λ_=>aQ rfl rfl (.cons rfl (.cons rfl .nil)) eT (PC.mono (fD (id:=2) (aD:=v5) (ib:=5) (vb:=(u236 5)) (l:=y75_3) (t:=x283) (by decide) rfl rfl p286 p284) (R':=λy H'=>y=.aM [int (x283.length:Int),.sc .nilIface]/\∃ vb',H'=upd (upd _ 5 (some (dV 5 vb' x287))) 2 (some (eG 94 2 v5 5 (.sc (.pointer none)) (some (vb',x287))))) (λy H' h=>by subst e287;exact h)),by rintro _ _ ⟨rfl,v285,rfl⟩;exact trivial⟩ ?_
 rintro _ _ ⟨rfl,v285,rfl⟩
 try dsimp only
 conv=>whnf
 refine .mk ?_
 conv=>whnf
 refine .mk ?_
 conv=>whnf
 refine .mk _ (aF (dA (j:=1) rfl Tryz.underlying225 dM rfl rfl rfl (.list rfl))) ?_
 conv=>whnf
 refine .mk _ (aF (eY rfl Tryz.underlying75 rfl rfl)) ?_
 conv=>whnf
 refine .mk ?_
 conv=>whnf
 refine .mk λx288 e288=>?_
 conv=>whnf
 refine .mk λp289=>?_
 conv=>whnf
 refine .mk λp291=>?_
 conv=>whnf
 refine .mk λx292 e292=>?_
 conv=>whnf
 refine .mk _ ⟨λ_=>aQ rfl rfl (.cons rfl (.cons rfl .nil)) eT (PC.mono (fD (id:=2) (aD:=v5) (ib:=5) (vb:=v285) (l:=x287) (t:=x288) (by decide) rfl rfl p291 p289) (R':=λy H'=>y=.aM [int (x288.length:Int),.sc .nilIface]/\∃ vb',H'=upd (upd _ 5 (some (dV 5 vb' x292))) 2 (some (eG 94 2 v5 5 (.sc (.pointer none)) (some (vb',x292))))) (λy H' h=>by subst e292;exact h)),by rintro _ _ ⟨rfl,v290,rfl⟩;exact trivial⟩ ?_
 rintro _ _ ⟨rfl,v290,rfl⟩
 try dsimp only
 conv=>whnf
 refine .mk ?_
 conv=>whnf
 refine .mk ?_
 conv=>whnf
 refine .mk _ (aF (dA (j:=2) rfl Tryz.underlying225 dM rfl rfl rfl (.list rfl))) ?_
 conv=>whnf
 refine .mk _ (aF (eY rfl Tryz.underlying75 rfl rfl)) ?_
 conv=>whnf
 refine .mk ?_
 conv=>whnf
 refine .mk λx293 e293=>?_
 conv=>whnf
 refine .mk λp294=>?_
 conv=>whnf
 refine .mk λp296=>?_
 conv=>whnf
 refine .mk λx297 e297=>?_
 conv=>whnf
 refine .mk _ ⟨λ_=>aQ rfl rfl (.cons rfl (.cons rfl .nil)) eT (PC.mono (fD (id:=2) (aD:=v5) (ib:=5) (vb:=v290) (l:=x292) (t:=x293) (by decide) rfl rfl p296 p294) (R':=λy H'=>y=.aM [int (x293.length:Int),.sc .nilIface]/\∃ vb',H'=upd (upd _ 5 (some (dV 5 vb' x297))) 2 (some (eG 94 2 v5 5 (.sc (.pointer none)) (some (vb',x297))))) (λy H' h=>by subst e297;exact h)),by rintro _ _ ⟨rfl,v295,rfl⟩;exact trivial⟩ ?_
 rintro _ _ ⟨rfl,v295,rfl⟩
 try dsimp only
 conv=>whnf
 refine .mk ?_
 conv=>whnf
 refine .mk ?_
 conv=>whnf
 exact .mk
 intro _ _
 conv=>whnf
 try dsimp only
 repeat (conv in (uV _ _ _ _)=>whnf)
 exact .mk
 intro _ _
 conv=>whnf
 refine .mk trivial ?_
 try dsimp only
 repeat (conv in (uV _ _ _ _)=>whnf)
 conv=>whnf
 exact .mk
 intro _ _
 conv=>whnf
 refine .mk trivial ?_
 try dsimp only
 repeat (conv in (uV _ _ _ _)=>whnf)
 conv=>whnf
 refine .mk λx298=>?_
 conv=>whnf
 exact .mk
 conv=>whnf
 exact .mk
 intro _ _
 conv=>whnf
 try dsimp only
 repeat (conv in (uV _ _ _ _)=>whnf)
 exact .mk
 intro _ _
 conv=>whnf
 refine .mk trivial ?_
 try dsimp only
 repeat (conv in (uV _ _ _ _)=>whnf)
 conv=>whnf
 refine .mk _ (aF (oF rfl Tryz.underlying75 rfl rfl)) ?_
 conv=>whnf
 exact .mk
 intro y73_2 u220
 conv=>whnf
 refine .mk trivial ?_
 try dsimp only
 repeat (conv in (uV _ _ _ _)=>whnf)
 conv=>whnf
 refine .mk ?_
 conv=>whnf
 refine .mk _ (λH hH _=>aN (y:=.pp [int x263.dU.a0,int x263.dU.a1,int x263.dU.a2]) (xG rfl Tryz.underlying188 bX rfl rfl (by decide)) rfl) ?_
 conv=>whnf
 refine .mk _ (λH hH _=>aN (y:=.pp [int x263.dU.a1,int x263.dU.a2]) (xG rfl Tryz.underlying188 bX rfl rfl (by decide)) rfl) ?_
 conv=>whnf
 refine .mk _ (λH hH _=>aN (y:=.pp [int x263.dU.a2]) (xG rfl Tryz.underlying188 bX rfl rfl (by decide)) rfl) ?_
 conv=>whnf
 refine .mk _ (λH hH _=>dY (ps:=[(0,_),(1,_),(2,_)]) (rows:=[[.pp [int x263.dU.a0,int x263.dU.a1,int x263.dU.a2]],[.pp [int x263.dU.a1,int x263.dU.a2]],[.pp [int x263.dU.a2]]]) rfl Tryz.underlying225 iH (.cons rfl (.cons rfl (.cons rfl .nil))) (by kernel_rfl) rfl rfl rfl) ?_
 conv=>whnf
 refine .mk ?_ ?_
 conv=>whnf
 refine .mk ?_ ?_
 conv=>whnf
 refine .mk ?_
 conv=>whnf
 refine .mk _ (aF (dA (j:=0) rfl Tryz.underlying225 dM rfl rfl rfl (.list rfl))) ?_
 conv=>whnf
 refine .mk _ (aF (eY rfl Tryz.underlying75 rfl rfl)) ?_
 conv=>whnf
 refine .mk ?_
 conv=>whnf
 refine .mk λx301 e301=>?_
 conv=>whnf
 refine .mk λp302=>?_
 conv=>whnf
 refine .mk λp304=>?_
 conv=>whnf
 refine .mk λx305 e305=>?_
 conv=>whnf
 refine .mk _ ⟨λ_=>aQ rfl rfl (.cons rfl (.cons rfl .nil)) eT (PC.mono (fD (id:=2) (aD:=v5) (ib:=5) (vb:=(u220 5)) (l:=y73_2) (t:=x301) (by decide) rfl rfl p304 p302) (R':=λy H'=>y=.aM [int (x301.length:Int),.sc .nilIface]/\∃ vb',H'=upd (upd _ 5 (some (dV 5 vb' x305))) 2 (some (eG 94 2 v5 5 (.sc (.pointer none)) (some (vb',x305))))) (λy H' h=>by subst e305;exact h)),by rintro _ _ ⟨rfl,v303,rfl⟩;exact trivial⟩ ?_
 rintro _ _ ⟨rfl,v303,rfl⟩
 try dsimp only
 conv=>whnf
 refine .mk ?_
 conv=>whnf
 refine .mk ?_
 conv=>whnf
 refine .mk _ (aF (dA (j:=1) rfl Tryz.underlying225 dM rfl rfl rfl (.list rfl))) ?_
 conv=>whnf
 refine .mk _ (aF (eY rfl Tryz.underlying75 rfl rfl)) ?_
 conv=>whnf
 refine .mk ?_
 conv=>whnf
 refine .mk λx306 e306=>?_
 conv=>whnf
 refine .mk λp307=>?_
 conv=>whnf
 refine .mk λp309=>?_
 conv=>whnf
 refine .mk λx310 e310=>?_
 conv=>whnf
 refine .mk _ ⟨λ_=>aQ rfl rfl (.cons rfl (.cons rfl .nil)) eT (PC.mono (fD (id:=2) (aD:=v5) (ib:=5) (vb:=v303) (l:=x305) (t:=x306) (by decide) rfl rfl p309 p307) (R':=λy H'=>y=.aM [int (x306.length:Int),.sc .nilIface]/\∃ vb',H'=upd (upd _ 5 (some (dV 5 vb' x310))) 2 (some (eG 94 2 v5 5 (.sc (.pointer none)) (some (vb',x310))))) (λy H' h=>by subst e310;exact h)),by rintro _ _ ⟨rfl,v308,rfl⟩;exact trivial⟩ ?_
 rintro _ _ ⟨rfl,v308,rfl⟩
 try dsimp only
 conv=>whnf
 refine .mk ?_
 conv=>whnf
 refine .mk ?_
 conv=>whnf
 refine .mk _ (aF (dA (j:=2) rfl Tryz.underlying225 dM rfl rfl rfl (.list rfl))) ?_
 conv=>whnf
 refine .mk _ (aF (eY rfl Tryz.underlying75 rfl rfl)) ?_
 conv=>whnf
 refine .mk ?_
 conv=>whnf
 refine .mk λx311 e311=>?_
 conv=>whnf
 refine .mk λp312=>?_
 conv=>whnf
 refine .mk λp314=>?_
 conv=>whnf
 refine .mk λx315 e315=>?_
 conv=>whnf
 refine .mk _ ⟨λ_=>aQ rfl rfl (.cons rfl (.cons rfl .nil)) eT (PC.mono (fD (id:=2) (aD:=v5) (ib:=5) (vb:=v308) (l:=x310) (t:=x311) (by decide) rfl rfl p314 p312) (R':=λy H'=>y=.aM [int (x311.length:Int),.sc .nilIface]/\∃ vb',H'=upd (upd _ 5 (some (dV 5 vb' x315))) 2 (some (eG 94 2 v5 5 (.sc (.pointer none)) (some (vb',x315))))) (λy H' h=>by subst e315;exact h)),by rintro _ _ ⟨rfl,v313,rfl⟩;exact trivial⟩ ?_
 rintro _ _ ⟨rfl,v313,rfl⟩
 try dsimp only
 conv=>whnf
 refine .mk ?_
 conv=>whnf
 refine .mk ?_
 conv=>whnf
 exact .mk
 intro _ _
 conv=>whnf
 try dsimp only
 repeat (conv in (uV _ _ _ _)=>whnf)
 exact .mk
 intro _ _
 conv=>whnf
 refine .mk trivial ?_
 try dsimp only
 repeat (conv in (uV _ _ _ _)=>whnf)
 conv=>whnf
 exact .mk
 intro _ _
 conv=>whnf
 refine .mk trivial ?_
 try dsimp only
 repeat (conv in (uV _ _ _ _)=>whnf)
 conv=>whnf
 refine .mk λx316=>?_
 conv=>whnf
 exact .mk
 conv=>whnf
 exact .mk
 intro _ _
 conv=>whnf
 try dsimp only
 repeat (conv in (uV _ _ _ _)=>whnf)
 exact .mk
 intro _ _
 conv=>whnf
 refine .mk trivial ?_
 try dsimp only
 repeat (conv in (uV _ _ _ _)=>whnf)
 conv=>whnf
 refine .mk ?_ ?_
 intro v319
 conv=>whnf
 refine .mk ?_
 conv=>whnf
 refine .mk ?_ ?_
 conv=>whnf
 refine .mk ?_
 rintro ⟨y85_1,y85_3⟩ u261
 conv=>whnf
 try dsimp only
 repeat (conv in (uV _ _ _ _)=>whnf)
 refine .mk λx320=>?_
 conv=>whnf
 refine .mk ?_ ?_
 conv=>whnf
 refine .mk ?_
 conv=>whnf
 refine .mk λx321 e321=>?_
 conv=>whnf
 refine .mk ?_ ?_
 conv=>whnf
 refine .mk _ (aF (dY (ps:=[(0,_)]) (rows:=[[.pp [int x321]]]) rfl Tryz.underlying225 iH (.cons rfl .nil) (by kernel_rfl) rfl rfl rfl)) ?_
 conv=>whnf
 refine .mk ?_ ?_
 conv=>whnf
 refine .mk ?_ ?_
 conv=>whnf
 refine .mk ?_
 conv=>whnf
 refine .mk _ (aF (dA (j:=0) rfl Tryz.underlying225 dM rfl rfl rfl (.list rfl))) ?_
 conv=>whnf
 refine .mk _ (aF (eY rfl Tryz.underlying75 rfl rfl)) ?_
 conv=>whnf
 refine .mk ?_
 conv=>whnf
 refine .mk λx326 e326=>?_
 conv=>whnf
 refine .mk λp327=>?_
 conv=>whnf
 refine .mk λp329=>?_
 conv=>whnf
 refine .mk λx330 e330=>?_
 conv=>whnf
 refine .mk _ ⟨λ_=>aQ rfl rfl (.cons rfl (.cons rfl .nil)) eT (PC.mono (fD (id:=2) (aD:=v5) (ib:=5) (vb:=(u261 5)) (l:=y85_3) (t:=x326) (by decide) rfl rfl p329 p327) (R':=λy H'=>y=.aM [int (x326.length:Int),.sc .nilIface]/\∃ vb',H'=upd (upd _ 5 (some (dV 5 vb' x330))) 2 (some (eG 94 2 v5 5 (.sc (.pointer none)) (some (vb',x330))))) (λy H' h=>by subst e330;exact h)),by rintro _ _ ⟨rfl,v328,rfl⟩;exact trivial⟩ ?_
 rintro _ _ ⟨rfl,v328,rfl⟩
 try dsimp only
 conv=>whnf
 refine .mk ?_
 conv=>whnf
 refine .mk ?_
 conv=>whnf
 exact .mk
 intro _ _
 conv=>whnf
 try dsimp only
 repeat (conv in (uV _ _ _ _)=>whnf)
 exact .mk
 intro _ _
 conv=>whnf
 refine .mk trivial ?_
 try dsimp only
 repeat (conv in (uV _ _ _ _)=>whnf)
 conv=>whnf
 exact .mk
 intro _ _
 conv=>whnf
 refine .mk trivial ?_
 try dsimp only
 repeat (conv in (uV _ _ _ _)=>whnf)
 conv=>whnf
 refine .mk λx331=>?_
 conv=>whnf
 exact .mk
 conv=>whnf
 exact .mk
 intro _ _
 conv=>whnf
 try dsimp only
 repeat (conv in (uV _ _ _ _)=>whnf)
 exact .mk
 intro _ _
 conv=>whnf
 refine .mk trivial ?_
 try dsimp only
 repeat (conv in (uV _ _ _ _)=>whnf)
 conv=>whnf
 refine .mk ?_ ?_
 intro v334
 conv=>whnf
 refine .mk ?_
 conv=>whnf
 refine .mk ?_ ?_
 conv=>whnf
 refine .mk ?_
 rintro ⟨y92_1,y92_3⟩ u283
 conv=>whnf
 try dsimp only
 repeat (conv in (uV _ _ _ _)=>whnf)
 refine .mk λx335=>?_
 conv=>whnf
 refine .mk ?_ ?_
 conv=>whnf
 refine .mk ?_
 conv=>whnf
 refine .mk λx336 e336=>?_
 conv=>whnf
 refine .mk ?_ ?_
 conv=>whnf
 refine .mk ?_
 conv=>whnf
 refine .mk _ (λH hH _=>dY (ps:=[(0,_),(1,_),(2,_),(3,_),(4,_),(5,_),(6,_),(7,_),(8,_),(9,_),(10,_)]) (rows:=[[.pp [int x336.Open,int x336.jL,int x336.jE,int x336.iR,int x336.iJ,int x336.iB,int x336.gW,int x336.gL,int x336.gH,int x336.gD,int x336.fU]],[.pp [int x336.jL,int x336.jE,int x336.iR,int x336.iJ,int x336.iB,int x336.gW,int x336.gL,int x336.gH,int x336.gD,int x336.fU]],[.pp [int x336.jE,int x336.iR,int x336.iJ,int x336.iB,int x336.gW,int x336.gL,int x336.gH,int x336.gD,int x336.fU]],[.pp [int x336.iR,int x336.iJ,int x336.iB,int x336.gW,int x336.gL,int x336.gH,int x336.gD,int x336.fU]],[.pp [int x336.iJ,int x336.iB,int x336.gW,int x336.gL,int x336.gH,int x336.gD,int x336.fU]],[.pp [int x336.iB,int x336.gW,int x336.gL,int x336.gH,int x336.gD,int x336.fU]],[.pp [int x336.gW,int x336.gL,int x336.gH,int x336.gD,int x336.fU]],[.pp [int x336.gL,int x336.gH,int x336.gD,int x336.fU]],[.pp [int x336.gH,int x336.gD,int x336.fU]],[.pp [int x336.gD,int x336.fU]],[.pp [int x336.fU]]]) rfl Tryz.underlying225 iH (.cons rfl (.cons rfl (.cons rfl (.cons rfl (.cons rfl (.cons rfl (.cons rfl (.cons rfl (.cons rfl (.cons rfl (.cons rfl .nil))))))))))) (by kernel_rfl) rfl rfl rfl) ?_
 conv=>whnf
 refine .mk ?_ ?_
 conv=>whnf
 refine .mk ?_ ?_
 conv=>whnf
 refine .mk ?_
 conv=>whnf
 refine .mk _ (aF (dA (j:=0) rfl Tryz.underlying225 dM rfl rfl rfl (.list rfl))) ?_
 conv=>whnf
 refine .mk _ (aF (eY rfl Tryz.underlying75 rfl rfl)) ?_
 conv=>whnf
 refine .mk ?_
 conv=>whnf
 refine .mk λx341 e341=>?_
 conv=>whnf
 refine .mk λp342=>?_
 conv=>whnf
 refine .mk λp344=>?_
 conv=>whnf
 refine .mk λx345 e345=>?_
 conv=>whnf
 refine .mk _ ⟨λ_=>aQ rfl rfl (.cons rfl (.cons rfl .nil)) eT (PC.mono (fD (id:=2) (aD:=v5) (ib:=5) (vb:=(u283 5)) (l:=y92_3) (t:=x341) (by decide) rfl rfl p344 p342) (R':=λy H'=>y=.aM [int (x341.length:Int),.sc .nilIface]/\∃ vb',H'=upd (upd _ 5 (some (dV 5 vb' x345))) 2 (some (eG 94 2 v5 5 (.sc (.pointer none)) (some (vb',x345))))) (λy H' h=>by subst e345;exact h)),by rintro _ _ ⟨rfl,v343,rfl⟩;exact trivial⟩ ?_
 rintro _ _ ⟨rfl,v343,rfl⟩
 try dsimp only
 conv=>whnf
 refine .mk ?_
 conv=>whnf
 refine .mk ?_
 conv=>whnf
 refine .mk _ (aF (dA (j:=1) rfl Tryz.underlying225 dM rfl rfl rfl (.list rfl))) ?_
 conv=>whnf
 refine .mk _ (aF (eY rfl Tryz.underlying75 rfl rfl)) ?_
 conv=>whnf
 refine .mk ?_
 conv=>whnf
 refine .mk λx346 e346=>?_
 conv=>whnf
 refine .mk λp347=>?_
 conv=>whnf
 refine .mk λp349=>?_
 conv=>whnf
 refine .mk λx350 e350=>?_
 conv=>whnf
 refine .mk _ ⟨λ_=>aQ rfl rfl (.cons rfl (.cons rfl .nil)) eT (PC.mono (fD (id:=2) (aD:=v5) (ib:=5) (vb:=v343) (l:=x345) (t:=x346) (by decide) rfl rfl p349 p347) (R':=λy H'=>y=.aM [int (x346.length:Int),.sc .nilIface]/\∃ vb',H'=upd (upd _ 5 (some (dV 5 vb' x350))) 2 (some (eG 94 2 v5 5 (.sc (.pointer none)) (some (vb',x350))))) (λy H' h=>by subst e350;exact h)),by rintro _ _ ⟨rfl,v348,rfl⟩;exact trivial⟩ ?_
 rintro _ _ ⟨rfl,v348,rfl⟩
 try dsimp only
 conv=>whnf
 refine .mk ?_
 conv=>whnf
 refine .mk ?_
 conv=>whnf
 refine .mk _ (aF (dA (j:=2) rfl Tryz.underlying225 dM rfl rfl rfl (.list rfl))) ?_
 conv=>whnf
 refine .mk _ (aF (eY rfl Tryz.underlying75 rfl rfl)) ?_
 conv=>whnf
 refine .mk ?_
 conv=>whnf
 refine .mk λx351 e351=>?_
 conv=>whnf
 refine .mk λp352=>?_
 conv=>whnf
 refine .mk λp354=>?_
 conv=>whnf
 refine .mk λx355 e355=>?_
 conv=>whnf
 refine .mk _ ⟨λ_=>aQ rfl rfl (.cons rfl (.cons rfl .nil)) eT (PC.mono (fD (id:=2) (aD:=v5) (ib:=5) (vb:=v348) (l:=x350) (t:=x351) (by decide) rfl rfl p354 p352) (R':=λy H'=>y=.aM [int (x351.length:Int),.sc .nilIface]/\∃ vb',H'=upd (upd _ 5 (some (dV 5 vb' x355))) 2 (some (eG 94 2 v5 5 (.sc (.pointer none)) (some (vb',x355))))) (λy H' h=>by subst e355;exact h)),by rintro _ _ ⟨rfl,v353,rfl⟩;exact trivial⟩ ?_
 rintro _ _ ⟨rfl,v353,rfl⟩
 try dsimp only
 conv=>whnf
 refine .mk ?_
 conv=>whnf
 refine .mk ?_
 conv=>whnf
 refine .mk _ (aF (dA (j:=3) rfl Tryz.underlying225 dM rfl rfl rfl (.list rfl))) ?_
 conv=>whnf
 refine .mk _ (aF (eY rfl Tryz.underlying75 rfl rfl)) ?_
 conv=>whnf
 refine .mk ?_
 conv=>whnf
 refine .mk λx356 e356=>?_
 conv=>whnf
 refine .mk λp357=>?_
 conv=>whnf
 refine .mk λp359=>?_
 conv=>whnf
 refine .mk λx360 e360=>?_
 conv=>whnf
 refine .mk _ ⟨λ_=>aQ rfl rfl (.cons rfl (.cons rfl .nil)) eT (PC.mono (fD (id:=2) (aD:=v5) (ib:=5) (vb:=v353) (l:=x355) (t:=x356) (by decide) rfl rfl p359 p357) (R':=λy H'=>y=.aM [int (x356.length:Int),.sc .nilIface]/\∃ vb',H'=upd (upd _ 5 (some (dV 5 vb' x360))) 2 (some (eG 94 2 v5 5 (.sc (.pointer none)) (some (vb',x360))))) (λy H' h=>by subst e360;exact h)),by rintro _ _ ⟨rfl,v358,rfl⟩;exact trivial⟩ ?_
 rintro _ _ ⟨rfl,v358,rfl⟩
 try dsimp only
 conv=>whnf
 refine .mk ?_
 conv=>whnf
 refine .mk ?_
 conv=>whnf
 refine .mk _ (aF (dA (j:=4) rfl Tryz.underlying225 dM rfl rfl rfl (.list rfl))) ?_
 conv=>whnf
 refine .mk _ (aF (eY rfl Tryz.underlying75 rfl rfl)) ?_
 conv=>whnf
 refine .mk ?_
 conv=>whnf
 refine .mk λx361 e361=>?_
 conv=>whnf
 refine .mk λp362=>?_
 conv=>whnf
 refine .mk λp364=>?_
 conv=>whnf
 refine .mk λx365 e365=>?_
 conv=>whnf
 refine .mk _ ⟨λ_=>aQ rfl rfl (.cons rfl (.cons rfl .nil)) eT (PC.mono (fD (id:=2) (aD:=v5) (ib:=5) (vb:=v358) (l:=x360) (t:=x361) (by decide) rfl rfl p364 p362) (R':=λy H'=>y=.aM [int (x361.length:Int),.sc .nilIface]/\∃ vb',H'=upd (upd _ 5 (some (dV 5 vb' x365))) 2 (some (eG 94 2 v5 5 (.sc (.pointer none)) (some (vb',x365))))) (λy H' h=>by subst e365;exact h)),by rintro _ _ ⟨rfl,v363,rfl⟩;exact trivial⟩ ?_
 rintro _ _ ⟨rfl,v363,rfl⟩
 try dsimp only
 conv=>whnf
 refine .mk ?_
 conv=>whnf
 refine .mk ?_
 conv=>whnf
 refine .mk _ (aF (dA (j:=5) rfl Tryz.underlying225 dM rfl rfl rfl (.list rfl))) ?_
 conv=>whnf
 refine .mk _ (aF (eY rfl Tryz.underlying75 rfl rfl)) ?_
 conv=>whnf
 refine .mk ?_
 conv=>whnf
 refine .mk λx366 e366=>?_
 conv=>whnf
 refine .mk λp367=>?_
 conv=>whnf
 refine .mk λp369=>?_
 conv=>whnf
 refine .mk λx370 e370=>?_
 conv=>whnf
 refine .mk _ ⟨λ_=>aQ rfl rfl (.cons rfl (.cons rfl .nil)) eT (PC.mono (fD (id:=2) (aD:=v5) (ib:=5) (vb:=v363) (l:=x365) (t:=x366) (by decide) rfl rfl p369 p367) (R':=λy H'=>y=.aM [int (x366.length:Int),.sc .nilIface]/\∃ vb',H'=upd (upd _ 5 (some (dV 5 vb' x370))) 2 (some (eG 94 2 v5 5 (.sc (.pointer none)) (some (vb',x370))))) (λy H' h=>by subst e370;exact h)),by rintro _ _ ⟨rfl,v368,rfl⟩;exact trivial⟩ ?_
 rintro _ _ ⟨rfl,v368,rfl⟩
 try dsimp only
 conv=>whnf
 refine .mk ?_
 conv=>whnf
 refine .mk ?_
 conv=>whnf
 refine .mk _ (aF (dA (j:=6) rfl Tryz.underlying225 dM rfl rfl rfl (.list rfl))) ?_
 conv=>whnf
 refine .mk _ (aF (eY rfl Tryz.underlying75 rfl rfl)) ?_
 conv=>whnf
 refine .mk ?_
 conv=>whnf
 refine .mk λx371 e371=>?_
 conv=>whnf
 refine .mk λp372=>?_
 conv=>whnf
 refine .mk λp374=>?_
 conv=>whnf
 refine .mk λx375 e375=>?_
 conv=>whnf
 refine .mk _ ⟨λ_=>aQ rfl rfl (.cons rfl (.cons rfl .nil)) eT (PC.mono (fD (id:=2) (aD:=v5) (ib:=5) (vb:=v368) (l:=x370) (t:=x371) (by decide) rfl rfl p374 p372) (R':=λy H'=>y=.aM [int (x371.length:Int),.sc .nilIface]/\∃ vb',H'=upd (upd _ 5 (some (dV 5 vb' x375))) 2 (some (eG 94 2 v5 5 (.sc (.pointer none)) (some (vb',x375))))) (λy H' h=>by subst e375;exact h)),by rintro _ _ ⟨rfl,v373,rfl⟩;exact trivial⟩ ?_
 rintro _ _ ⟨rfl,v373,rfl⟩
 try dsimp only
 conv=>whnf
 refine .mk ?_
 conv=>whnf
 refine .mk ?_
 conv=>whnf
 refine .mk _ (aF (dA (j:=7) rfl Tryz.underlying225 dM rfl rfl rfl (.list rfl))) ?_
 conv=>whnf
 refine .mk _ (aF (eY rfl Tryz.underlying75 rfl rfl)) ?_
 conv=>whnf
 refine .mk ?_
 conv=>whnf
 refine .mk λx376 e376=>?_
 conv=>whnf
 refine .mk λp377=>?_
 conv=>whnf
 refine .mk λp379=>?_
 conv=>whnf
 refine .mk λx380 e380=>?_
 conv=>whnf
 refine .mk _ ⟨λ_=>aQ rfl rfl (.cons rfl (.cons rfl .nil)) eT (PC.mono (fD (id:=2) (aD:=v5) (ib:=5) (vb:=v373) (l:=x375) (t:=x376) (by decide) rfl rfl p379 p377) (R':=λy H'=>y=.aM [int (x376.length:Int),.sc .nilIface]/\∃ vb',H'=upd (upd _ 5 (some (dV 5 vb' x380))) 2 (some (eG 94 2 v5 5 (.sc (.pointer none)) (some (vb',x380))))) (λy H' h=>by subst e380;exact h)),by rintro _ _ ⟨rfl,v378,rfl⟩;exact trivial⟩ ?_
 rintro _ _ ⟨rfl,v378,rfl⟩
 try dsimp only
 conv=>whnf
 refine .mk ?_
 conv=>whnf
 refine .mk ?_
 conv=>whnf
 refine .mk _ (aF (dA (j:=8) rfl Tryz.underlying225 dM rfl rfl rfl (.list rfl))) ?_
 conv=>whnf
 refine .mk _ (aF (eY rfl Tryz.underlying75 rfl rfl)) ?_
 conv=>whnf
 refine .mk ?_
 conv=>whnf
 refine .mk λx381 e381=>?_
 conv=>whnf
 refine .mk λp382=>?_
 conv=>whnf
 refine .mk λp384=>?_
 conv=>whnf
 refine .mk λx385 e385=>?_
 conv=>whnf
 refine .mk _ ⟨λ_=>aQ rfl rfl (.cons rfl (.cons rfl .nil)) eT (PC.mono (fD (id:=2) (aD:=v5) (ib:=5) (vb:=v378) (l:=x380) (t:=x381) (by decide) rfl rfl p384 p382) (R':=λy H'=>y=.aM [int (x381.length:Int),.sc .nilIface]/\∃ vb',H'=upd (upd _ 5 (some (dV 5 vb' x385))) 2 (some (eG 94 2 v5 5 (.sc (.pointer none)) (some (vb',x385))))) (λy H' h=>by subst e385;exact h)),by rintro _ _ ⟨rfl,v383,rfl⟩;exact trivial⟩ ?_
 rintro _ _ ⟨rfl,v383,rfl⟩
 try dsimp only
 conv=>whnf
 refine .mk ?_
 conv=>whnf
 refine .mk ?_
 conv=>whnf
 refine .mk _ (aF (dA (j:=9) rfl Tryz.underlying225 dM rfl rfl rfl (.list rfl))) ?_
 conv=>whnf
 refine .mk _ (aF (eY rfl Tryz.underlying75 rfl rfl)) ?_
 conv=>whnf
 refine .mk ?_
 conv=>whnf
 refine .mk λx386 e386=>?_
 conv=>whnf
 refine .mk λp387=>?_
 conv=>whnf
 refine .mk λp389=>?_
 conv=>whnf
 refine .mk λx390 e390=>?_
 conv=>whnf
 refine .mk _ ⟨λ_=>aQ rfl rfl (.cons rfl (.cons rfl .nil)) eT (PC.mono (fD (id:=2) (aD:=v5) (ib:=5) (vb:=v383) (l:=x385) (t:=x386) (by decide) rfl rfl p389 p387) (R':=λy H'=>y=.aM [int (x386.length:Int),.sc .nilIface]/\∃ vb',H'=upd (upd _ 5 (some (dV 5 vb' x390))) 2 (some (eG 94 2 v5 5 (.sc (.pointer none)) (some (vb',x390))))) (λy H' h=>by subst e390;exact h)),by rintro _ _ ⟨rfl,v388,rfl⟩;exact trivial⟩ ?_
 rintro _ _ ⟨rfl,v388,rfl⟩
 try dsimp only
 conv=>whnf
 refine .mk ?_
 conv=>whnf
 refine .mk ?_
 conv=>whnf
 refine .mk _ (aF (dA (j:=10) rfl Tryz.underlying225 dM rfl rfl rfl (.list rfl))) ?_
 conv=>whnf
 refine .mk _ (aF (eY rfl Tryz.underlying75 rfl rfl)) ?_
 conv=>whnf
 refine .mk ?_
 conv=>whnf
 refine .mk λx391 e391=>?_
 conv=>whnf
 refine .mk λp392=>?_
 conv=>whnf
 refine .mk λp394=>?_
 conv=>whnf
 refine .mk λx395 e395=>?_
 conv=>whnf
 refine .mk _ ⟨λ_=>aQ rfl rfl (.cons rfl (.cons rfl .nil)) eT (PC.mono (fD (id:=2) (aD:=v5) (ib:=5) (vb:=v388) (l:=x390) (t:=x391) (by decide) rfl rfl p394 p392) (R':=λy H'=>y=.aM [int (x391.length:Int),.sc .nilIface]/\∃ vb',H'=upd (upd _ 5 (some (dV 5 vb' x395))) 2 (some (eG 94 2 v5 5 (.sc (.pointer none)) (some (vb',x395))))) (λy H' h=>by subst e395;exact h)),by rintro _ _ ⟨rfl,v393,rfl⟩;exact trivial⟩ ?_
 rintro _ _ ⟨rfl,v393,rfl⟩
 try dsimp only
 conv=>whnf
 refine .mk ?_
 conv=>whnf
 refine .mk ?_
 conv=>whnf
 exact .mk
 intro _ _
 conv=>whnf
 try dsimp only
 repeat (conv in (uV _ _ _ _)=>whnf)
 exact .mk
 intro _ _
 conv=>whnf
 refine .mk trivial ?_
 try dsimp only
 repeat (conv in (uV _ _ _ _)=>whnf)
 conv=>whnf
 exact .mk
 intro _ _
 conv=>whnf
 refine .mk trivial ?_
 try dsimp only
 repeat (conv in (uV _ _ _ _)=>whnf)
 conv=>whnf
 refine .mk λx396=>?_
 conv=>whnf
 exact .mk
 conv=>whnf
 exact .mk
 intro _ _
 conv=>whnf
 try dsimp only
 repeat (conv in (uV _ _ _ _)=>whnf)
 exact .mk
 intro y91_2 u269
 conv=>whnf
 refine .mk trivial ?_
 try dsimp only
 repeat (conv in (uV _ _ _ _)=>whnf)
 conv=>whnf
 refine .mk ?_ ?_
 intro v399
 conv=>whnf
 refine .mk _ (aF (eY rfl Tryz.underlying75 rfl rfl)) ?_
 conv=>whnf
 refine .mk ?_
 conv=>whnf
 refine .mk ?_
 conv=>whnf
 refine .mk λx400 e400=>?_
 conv=>whnf
 refine .mk λp401=>?_
 conv=>whnf
 refine .mk λp403=>?_
 conv=>whnf
 refine .mk λx404 e404=>?_
 conv=>whnf
 refine .mk _ ⟨λ_=>aQ rfl rfl (.cons rfl (.cons rfl .nil)) eT (PC.mono (fD (id:=2) (aD:=v5) (ib:=5) (vb:=(u269 5)) (l:=y91_2) (t:=x400) (by decide) rfl rfl p403 p401) (R':=λy H'=>y=.aM [int (x400.length:Int),.sc .nilIface]/\∃ vb',H'=upd (upd _ 5 (some (dV 5 vb' x404))) 2 (some (eG 94 2 v5 5 (.sc (.pointer none)) (some (vb',x404))))) (λy H' h=>by subst e404;exact h)),by rintro _ _ ⟨rfl,v402,rfl⟩;exact trivial⟩ ?_
 rintro _ _ ⟨rfl,v402,rfl⟩
 try dsimp only
 conv=>whnf
 refine .mk ?_
 conv=>whnf
 refine .mk ?_ ?_
 intro v407
 conv=>whnf
 refine .mk ?_
 conv=>whnf
 refine .mk ?_ ?_
 conv=>whnf
 refine .mk ?_
 rintro ⟨y100_1,y100_3⟩ u307
 conv=>whnf
 try dsimp only
 repeat (conv in (uV _ _ _ _)=>whnf)
 refine .mk λx408=>?_
 conv=>whnf
 refine .mk ?_ ?_
 conv=>whnf
 refine .mk ?_
 conv=>whnf
 refine .mk λx409 e409=>?_
 conv=>whnf
 refine .mk ?_ ?_
 conv=>whnf
 refine .mk _ (aF (dY (ps:=[(0,_)]) (rows:=[[.pp [int x409]]]) rfl Tryz.underlying225 iH (.cons rfl .nil) (by kernel_rfl) rfl rfl rfl)) ?_
 conv=>whnf
 refine .mk ?_ ?_
 conv=>whnf
 refine .mk ?_ ?_
 conv=>whnf
 refine .mk ?_
 conv=>whnf
 refine .mk _ (aF (dA (j:=0) rfl Tryz.underlying225 dM rfl rfl rfl (.list rfl))) ?_
 conv=>whnf
 refine .mk _ (aF (eY rfl Tryz.underlying75 rfl rfl)) ?_
 conv=>whnf
 refine .mk ?_
 conv=>whnf
 refine .mk λx414 e414=>?_
 conv=>whnf
 refine .mk λp415=>?_
 conv=>whnf
 refine .mk λp417=>?_
 conv=>whnf
 refine .mk λx418 e418=>?_
 conv=>whnf
 refine .mk _ ⟨λ_=>aQ rfl rfl (.cons rfl (.cons rfl .nil)) eT (PC.mono (fD (id:=2) (aD:=v5) (ib:=5) (vb:=(u307 5)) (l:=y100_3) (t:=x414) (by decide) rfl rfl p417 p415) (R':=λy H'=>y=.aM [int (x414.length:Int),.sc .nilIface]/\∃ vb',H'=upd (upd _ 5 (some (dV 5 vb' x418))) 2 (some (eG 94 2 v5 5 (.sc (.pointer none)) (some (vb',x418))))) (λy H' h=>by subst e418;exact h)),by rintro _ _ ⟨rfl,v416,rfl⟩;exact trivial⟩ ?_
 rintro _ _ ⟨rfl,v416,rfl⟩
 try dsimp only
 conv=>whnf
 refine .mk ?_
 conv=>whnf
 refine .mk ?_
 conv=>whnf
 exact .mk
 intro _ _
 conv=>whnf
 try dsimp only
 repeat (conv in (uV _ _ _ _)=>whnf)
 exact .mk
 intro _ _
 conv=>whnf
 refine .mk trivial ?_
 try dsimp only
 repeat (conv in (uV _ _ _ _)=>whnf)
 conv=>whnf
 exact .mk
 intro _ _
 conv=>whnf
 refine .mk trivial ?_
 try dsimp only
 repeat (conv in (uV _ _ _ _)=>whnf)
 conv=>whnf
 refine .mk λx419=>?_
 conv=>whnf
 exact .mk
 conv=>whnf
 exact .mk
 intro _ _
 conv=>whnf
 try dsimp only
 repeat (conv in (uV _ _ _ _)=>whnf)
 exact .mk
 intro _ _
 conv=>whnf
 refine .mk trivial ?_
 try dsimp only
 repeat (conv in (uV _ _ _ _)=>whnf)
 conv=>whnf
 refine .mk _ (aF (oF rfl Tryz.underlying75 rfl rfl)) ?_
 conv=>whnf
 exact .mk
 intro y98_2 u291
 conv=>whnf
 refine .mk trivial ?_
 try dsimp only
 repeat (conv in (uV _ _ _ _)=>whnf)
 conv=>whnf
 refine .mk ?_ ?_
 intro v422
 conv=>whnf
 refine .mk _ (aF (eY rfl Tryz.underlying75 rfl rfl)) ?_
 conv=>whnf
 refine .mk ?_
 conv=>whnf
 refine .mk ?_
 conv=>whnf
 refine .mk λx423 e423=>?_
 conv=>whnf
 refine .mk λp424=>?_
 conv=>whnf
 refine .mk λp426=>?_
 conv=>whnf
 refine .mk λx427 e427=>?_
 conv=>whnf
 refine .mk _ ⟨λ_=>aQ rfl rfl (.cons rfl (.cons rfl .nil)) eT (PC.mono (fD (id:=2) (aD:=v5) (ib:=5) (vb:=(u291 5)) (l:=y98_2) (t:=x423) (by decide) rfl rfl p426 p424) (R':=λy H'=>y=.aM [int (x423.length:Int),.sc .nilIface]/\∃ vb',H'=upd (upd _ 5 (some (dV 5 vb' x427))) 2 (some (eG 94 2 v5 5 (.sc (.pointer none)) (some (vb',x427))))) (λy H' h=>by subst e427;exact h)),by rintro _ _ ⟨rfl,v425,rfl⟩;exact trivial⟩ ?_
 rintro _ _ ⟨rfl,v425,rfl⟩
 try dsimp only
 conv=>whnf
 refine .mk ?_
 conv=>whnf
 refine .mk ?_ ?_
 intro v430
 conv=>whnf
 refine .mk ?_
 conv=>whnf
 refine .mk ?_ ?_
 conv=>whnf
 refine .mk ?_
 rintro ⟨y108_1,y108_3⟩ u331
 conv=>whnf
 try dsimp only
 repeat (conv in (uV _ _ _ _)=>whnf)
 refine .mk λx431=>?_
 conv=>whnf
 refine .mk ?_ ?_
 conv=>whnf
 refine .mk ?_
 conv=>whnf
 refine .mk λx432 e432=>?_
 conv=>whnf
 refine .mk ?_ ?_
 conv=>whnf
 refine .mk _ (aF (dY (ps:=[(0,_)]) (rows:=[[.pp [int x432]]]) rfl Tryz.underlying225 iH (.cons rfl .nil) (by kernel_rfl) rfl rfl rfl)) ?_
 conv=>whnf
 refine .mk ?_ ?_
 conv=>whnf
 refine .mk ?_ ?_
 conv=>whnf
 refine .mk ?_
 conv=>whnf
 refine .mk _ (aF (dA (j:=0) rfl Tryz.underlying225 dM rfl rfl rfl (.list rfl))) ?_
 conv=>whnf
 refine .mk _ (aF (eY rfl Tryz.underlying75 rfl rfl)) ?_
 conv=>whnf
 refine .mk ?_
 conv=>whnf
 refine .mk λx437 e437=>?_
 conv=>whnf
 refine .mk λp438=>?_
 conv=>whnf
 refine .mk λp440=>?_
 conv=>whnf
 refine .mk λx441 e441=>?_
 conv=>whnf
 refine .mk _ ⟨λ_=>aQ rfl rfl (.cons rfl (.cons rfl .nil)) eT (PC.mono (fD (id:=2) (aD:=v5) (ib:=5) (vb:=(u331 5)) (l:=y108_3) (t:=x437) (by decide) rfl rfl p440 p438) (R':=λy H'=>y=.aM [int (x437.length:Int),.sc .nilIface]/\∃ vb',H'=upd (upd _ 5 (some (dV 5 vb' x441))) 2 (some (eG 94 2 v5 5 (.sc (.pointer none)) (some (vb',x441))))) (λy H' h=>by subst e441;exact h)),by rintro _ _ ⟨rfl,v439,rfl⟩;exact trivial⟩ ?_
 rintro _ _ ⟨rfl,v439,rfl⟩
 try dsimp only
 conv=>whnf
 refine .mk ?_
 conv=>whnf
 refine .mk ?_
 conv=>whnf
 exact .mk
 intro _ _
 conv=>whnf
 try dsimp only
 repeat (conv in (uV _ _ _ _)=>whnf)
 exact .mk
 intro _ _
 conv=>whnf
 refine .mk trivial ?_
 try dsimp only
 repeat (conv in (uV _ _ _ _)=>whnf)
 conv=>whnf
 exact .mk
 intro _ _
 conv=>whnf
 refine .mk trivial ?_
 try dsimp only
 repeat (conv in (uV _ _ _ _)=>whnf)
 conv=>whnf
 refine .mk λx442=>?_
 conv=>whnf
 exact .mk
 conv=>whnf
 exact .mk
 intro _ _
 conv=>whnf
 try dsimp only
 repeat (conv in (uV _ _ _ _)=>whnf)
 exact .mk
 intro _ _
 conv=>whnf
 refine .mk trivial ?_
 try dsimp only
 repeat (conv in (uV _ _ _ _)=>whnf)
 conv=>whnf
 refine .mk _ (aF (oF rfl Tryz.underlying75 rfl rfl)) ?_
 conv=>whnf
 exact .mk
 intro y106_2 u315
 conv=>whnf
 refine .mk trivial ?_
 try dsimp only
 repeat (conv in (uV _ _ _ _)=>whnf)
 conv=>whnf
 refine .mk ?_
 conv=>whnf
 refine .mk ?_ ?_
 intro v443
 intro v444
 conv=>whnf
 exact .mk
 intro _ _
 conv=>whnf
 try dsimp only
 repeat (conv in (uV _ _ _ _)=>whnf)
 refine .mk ⟨rfl,trivial⟩ ?_
 conv=>whnf
 refine .mk ?_ ?_
 intro v447
 conv=>whnf
 refine .mk _ (aF (eY rfl Tryz.underlying75 rfl rfl)) ?_
 conv=>whnf
 refine .mk ?_
 conv=>whnf
 refine .mk ?_
 conv=>whnf
 refine .mk λx448 e448=>?_
 conv=>whnf
 refine .mk λp449=>?_
 conv=>whnf
 refine .mk λp451=>?_
 conv=>whnf
 refine .mk λx452 e452=>?_
 conv=>whnf
 refine .mk _ ⟨λ_=>aQ rfl rfl (.cons rfl (.cons rfl .nil)) eT (PC.mono (fD (id:=2) (aD:=v5) (ib:=5) (vb:=(u315 5)) (l:=y106_2) (t:=x448) (by decide) rfl rfl p451 p449) (R':=λy H'=>y=.aM [int (x448.length:Int),.sc .nilIface]/\∃ vb',H'=upd (upd _ 5 (some (dV 5 vb' x452))) 2 (some (eG 94 2 v5 5 (.sc (.pointer none)) (some (vb',x452))))) (λy H' h=>by subst e452;exact h)),by rintro _ _ ⟨rfl,v450,rfl⟩;exact trivial⟩ ?_
 rintro _ _ ⟨rfl,v450,rfl⟩
 try dsimp only
 conv=>whnf
 refine .mk ?_
 conv=>whnf
 refine .mk ?_ ?_
 intro v455
 conv=>whnf
 refine .mk ?_
 conv=>whnf
 refine .mk ?_ ?_
 conv=>whnf
 refine .mk ?_
 intro _ _
 conv=>whnf
 try dsimp only
 repeat (conv in (uV _ _ _ _)=>whnf)
 refine .mk λx456=>?_
 conv=>whnf
 refine .mk ?_
 conv=>whnf
 exact .mk
 intro _ _
 conv=>whnf
 try dsimp only
 repeat (conv in (uV _ _ _ _)=>whnf)
 exact .mk
 intro _ _
 conv=>whnf
 refine .mk trivial ?_
 try dsimp only
 repeat (conv in (uV _ _ _ _)=>whnf)
 conv=>whnf
 refine .mk _ (aF (oF rfl Tryz.underlying75 rfl rfl)) ?_
 conv=>whnf
 exact .mk
 intro _ _
 conv=>whnf
 refine .mk trivial ?_
 try dsimp only
 repeat (conv in (uV _ _ _ _)=>whnf)
 conv=>whnf
 exact .mk
 intro _ _
 conv=>whnf
 refine .mk trivial ?_
 try dsimp only
 repeat (conv in (uV _ _ _ _)=>whnf)
 conv=>whnf
 refine .mk λx457=>?_
 conv=>whnf
 exact .mk
 conv=>whnf
 exact .mk
 intro _ _
 conv=>whnf
 try dsimp only
 repeat (conv in (uV _ _ _ _)=>whnf)
 exact .mk
 intro _ _
 conv=>whnf
 refine .mk trivial ?_
 try dsimp only
 repeat (conv in (uV _ _ _ _)=>whnf)
 conv=>whnf
 refine .mk _ (aF (oF rfl Tryz.underlying75 rfl rfl)) ?_
 conv=>whnf
 exact .mk
 intro _ _
 conv=>whnf
 refine .mk trivial ?_
 try dsimp only
 repeat (conv in (uV _ _ _ _)=>whnf)
 conv=>whnf
 exact .mk
 intro _ _
 conv=>whnf
 refine .mk trivial ?_
 try dsimp only
 repeat (conv in (uV _ _ _ _)=>whnf)
 conv=>whnf
 refine .mk λx458=>?_
 conv=>whnf
 exact .mk
 conv=>whnf
 exact .mk
 intro _ _
 conv=>whnf
 try dsimp only
 repeat (conv in (uV _ _ _ _)=>whnf)
 exact .mk
 intro y4_2 u9
 conv=>whnf
 refine .mk trivial ?_
 try dsimp only
 repeat (conv in (uV _ _ _ _)=>whnf)
 conv=>whnf
 refine .mk ?_ ?_
 intro v461
 conv=>whnf
 refine .mk _ (aF (eY rfl Tryz.underlying75 rfl rfl)) ?_
 conv=>whnf
 refine .mk ?_
 conv=>whnf
 refine .mk ?_
 conv=>whnf
 refine .mk λx462 e462=>?_
 conv=>whnf
 refine .mk λp463=>?_
 conv=>whnf
 refine .mk λp465=>?_
 conv=>whnf
 refine .mk λx466 e466=>?_
 conv=>whnf
 refine .mk _ ⟨λ_=>aQ rfl rfl (.cons rfl (.cons rfl .nil)) eT (PC.mono (fD (id:=2) (aD:=v5) (ib:=5) (vb:=(u9 5)) (l:=y4_2) (t:=x462) (by decide) rfl rfl p465 p463) (R':=λy H'=>y=.aM [int (x462.length:Int),.sc .nilIface]/\∃ vb',H'=upd (upd _ 5 (some (dV 5 vb' x466))) 2 (some (eG 94 2 v5 5 (.sc (.pointer none)) (some (vb',x466))))) (λy H' h=>by subst e466;exact h)),by rintro _ _ ⟨rfl,v464,rfl⟩;exact trivial⟩ ?_
 rintro _ _ ⟨rfl,v464,rfl⟩
 try dsimp only
 conv=>whnf
 refine .mk ?_
 conv=>whnf
 refine .mk ?_ ?_
 intro v469
 conv=>whnf
 refine .mk ?_
 conv=>whnf
 refine .mk ?_ ?_
 conv=>whnf
 refine .mk ?_
 rintro ⟨y121_1,y121_3⟩ u364
 conv=>whnf
 try dsimp only
 repeat (conv in (uV _ _ _ _)=>whnf)
 refine .mk λx470=>?_
 conv=>whnf
 refine .mk ?_ ?_
 conv=>whnf
 refine .mk ?_
 conv=>whnf
 refine .mk λx471 e471=>?_
 conv=>whnf
 refine .mk ?_ ?_
 conv=>whnf
 refine .mk ?_
 conv=>whnf
 refine .mk _ (λH hH _=>dY (ps:=[(0,_),(1,_),(2,_),(3,_),(4,_),(5,_),(6,_),(7,_)]) (rows:=[[.pp [int x471.rO,int x471.Item,int x471.Loc,int x471.dJ,int x471.Value,int x471.Open,int x471.pX,int x471.lJ]],[.pp [int x471.Item,int x471.Loc,int x471.dJ,int x471.Value,int x471.Open,int x471.pX,int x471.lJ]],[.pp [int x471.Loc,int x471.dJ,int x471.Value,int x471.Open,int x471.pX,int x471.lJ]],[.pp [int x471.dJ,int x471.Value,int x471.Open,int x471.pX,int x471.lJ]],[.pp [int x471.Value,int x471.Open,int x471.pX,int x471.lJ]],[.pp [int x471.Open,int x471.pX,int x471.lJ]],[.pp [int x471.pX,int x471.lJ]],[.pp [int x471.lJ]]]) rfl Tryz.underlying225 iH (.cons rfl (.cons rfl (.cons rfl (.cons rfl (.cons rfl (.cons rfl (.cons rfl (.cons rfl .nil)))))))) (by kernel_rfl) rfl rfl rfl) ?_
 conv=>whnf
 refine .mk ?_ ?_
 conv=>whnf
 refine .mk ?_ ?_
 conv=>whnf
 refine .mk ?_
 conv=>whnf
 refine .mk _ (aF (dA (j:=0) rfl Tryz.underlying225 dM rfl rfl rfl (.list rfl))) ?_
 conv=>whnf
 refine .mk _ (aF (eY rfl Tryz.underlying75 rfl rfl)) ?_
 conv=>whnf
 refine .mk ?_
 conv=>whnf
 refine .mk λx476 e476=>?_
 conv=>whnf
 refine .mk λp477=>?_
 conv=>whnf
 refine .mk λp479=>?_
 conv=>whnf
 refine .mk λx480 e480=>?_
 conv=>whnf
 refine .mk _ ⟨λ_=>aQ rfl rfl (.cons rfl (.cons rfl .nil)) eT (PC.mono (fD (id:=2) (aD:=v5) (ib:=5) (vb:=(u364 5)) (l:=y121_3) (t:=x476) (by decide) rfl rfl p479 p477) (R':=λy H'=>y=.aM [int (x476.length:Int),.sc .nilIface]/\∃ vb',H'=upd (upd _ 5 (some (dV 5 vb' x480))) 2 (some (eG 94 2 v5 5 (.sc (.pointer none)) (some (vb',x480))))) (λy H' h=>by subst e480;exact h)),by rintro _ _ ⟨rfl,v478,rfl⟩;exact trivial⟩ ?_
 rintro _ _ ⟨rfl,v478,rfl⟩
 try dsimp only
 conv=>whnf
 refine .mk ?_
 conv=>whnf
 refine .mk ?_
 conv=>whnf
 refine .mk _ (aF (dA (j:=1) rfl Tryz.underlying225 dM rfl rfl rfl (.list rfl))) ?_
 conv=>whnf
 refine .mk _ (aF (eY rfl Tryz.underlying75 rfl rfl)) ?_
 conv=>whnf
 refine .mk ?_
 conv=>whnf
 refine .mk λx481 e481=>?_
 conv=>whnf
 refine .mk λp482=>?_
 conv=>whnf
 refine .mk λp484=>?_
 conv=>whnf
 refine .mk λx485 e485=>?_
 conv=>whnf
 refine .mk _ ⟨λ_=>aQ rfl rfl (.cons rfl (.cons rfl .nil)) eT (PC.mono (fD (id:=2) (aD:=v5) (ib:=5) (vb:=v478) (l:=x480) (t:=x481) (by decide) rfl rfl p484 p482) (R':=λy H'=>y=.aM [int (x481.length:Int),.sc .nilIface]/\∃ vb',H'=upd (upd _ 5 (some (dV 5 vb' x485))) 2 (some (eG 94 2 v5 5 (.sc (.pointer none)) (some (vb',x485))))) (λy H' h=>by subst e485;exact h)),by rintro _ _ ⟨rfl,v483,rfl⟩;exact trivial⟩ ?_
 rintro _ _ ⟨rfl,v483,rfl⟩
 try dsimp only
 conv=>whnf
 refine .mk ?_
 conv=>whnf
 refine .mk ?_
 conv=>whnf
 refine .mk _ (aF (dA (j:=2) rfl Tryz.underlying225 dM rfl rfl rfl (.list rfl))) ?_
 conv=>whnf
 refine .mk _ (aF (eY rfl Tryz.underlying75 rfl rfl)) ?_
 conv=>whnf
 refine .mk ?_
 conv=>whnf
 refine .mk λx486 e486=>?_
 conv=>whnf
 refine .mk λp487=>?_
 conv=>whnf
 refine .mk λp489=>?_
 conv=>whnf
 refine .mk λx490 e490=>?_
 conv=>whnf
 refine .mk _ ⟨λ_=>aQ rfl rfl (.cons rfl (.cons rfl .nil)) eT (PC.mono (fD (id:=2) (aD:=v5) (ib:=5) (vb:=v483) (l:=x485) (t:=x486) (by decide) rfl rfl p489 p487) (R':=λy H'=>y=.aM [int (x486.length:Int),.sc .nilIface]/\∃ vb',H'=upd (upd _ 5 (some (dV 5 vb' x490))) 2 (some (eG 94 2 v5 5 (.sc (.pointer none)) (some (vb',x490))))) (λy H' h=>by subst e490;exact h)),by rintro _ _ ⟨rfl,v488,rfl⟩;exact trivial⟩ ?_
 rintro _ _ ⟨rfl,v488,rfl⟩
 try dsimp only
 conv=>whnf
 refine .mk ?_
 conv=>whnf
 refine .mk ?_
 conv=>whnf
 refine .mk _ (aF (dA (j:=3) rfl Tryz.underlying225 dM rfl rfl rfl (.list rfl))) ?_
 conv=>whnf
 refine .mk _ (aF (eY rfl Tryz.underlying75 rfl rfl)) ?_
 conv=>whnf
 refine .mk ?_
 conv=>whnf
 refine .mk λx491 e491=>?_
 conv=>whnf
 refine .mk λp492=>?_
 conv=>whnf
 refine .mk λp494=>?_
 conv=>whnf
 refine .mk λx495 e495=>?_
 conv=>whnf
 refine .mk _ ⟨λ_=>aQ rfl rfl (.cons rfl (.cons rfl .nil)) eT (PC.mono (fD (id:=2) (aD:=v5) (ib:=5) (vb:=v488) (l:=x490) (t:=x491) (by decide) rfl rfl p494 p492) (R':=λy H'=>y=.aM [int (x491.length:Int),.sc .nilIface]/\∃ vb',H'=upd (upd _ 5 (some (dV 5 vb' x495))) 2 (some (eG 94 2 v5 5 (.sc (.pointer none)) (some (vb',x495))))) (λy H' h=>by subst e495;exact h)),by rintro _ _ ⟨rfl,v493,rfl⟩;exact trivial⟩ ?_
 rintro _ _ ⟨rfl,v493,rfl⟩
 try dsimp only
 conv=>whnf
 refine .mk ?_
 conv=>whnf
 refine .mk ?_
 conv=>whnf
 refine .mk _ (aF (dA (j:=4) rfl Tryz.underlying225 dM rfl rfl rfl (.list rfl))) ?_
 conv=>whnf
 refine .mk _ (aF (eY rfl Tryz.underlying75 rfl rfl)) ?_
 conv=>whnf
 refine .mk ?_
 conv=>whnf
 refine .mk λx496 e496=>?_
 conv=>whnf
 refine .mk λp497=>?_
 conv=>whnf
 refine .mk λp499=>?_
 conv=>whnf
 refine .mk λx500 e500=>?_
 conv=>whnf
 refine .mk _ ⟨λ_=>aQ rfl rfl (.cons rfl (.cons rfl .nil)) eT (PC.mono (fD (id:=2) (aD:=v5) (ib:=5) (vb:=v493) (l:=x495) (t:=x496) (by decide) rfl rfl p499 p497) (R':=λy H'=>y=.aM [int (x496.length:Int),.sc .nilIface]/\∃ vb',H'=upd (upd _ 5 (some (dV 5 vb' x500))) 2 (some (eG 94 2 v5 5 (.sc (.pointer none)) (some (vb',x500))))) (λy H' h=>by subst e500;exact h)),by rintro _ _ ⟨rfl,v498,rfl⟩;exact trivial⟩ ?_
 rintro _ _ ⟨rfl,v498,rfl⟩
 try dsimp only
 conv=>whnf
 refine .mk ?_
 conv=>whnf
 refine .mk ?_
 conv=>whnf
 refine .mk _ (aF (dA (j:=5) rfl Tryz.underlying225 dM rfl rfl rfl (.list rfl))) ?_
 conv=>whnf
 refine .mk _ (aF (eY rfl Tryz.underlying75 rfl rfl)) ?_
 conv=>whnf
 refine .mk ?_
 conv=>whnf
 refine .mk λx501 e501=>?_
 conv=>whnf
 refine .mk λp502=>?_
 conv=>whnf
 refine .mk λp504=>?_
 conv=>whnf
 refine .mk λx505 e505=>?_
 conv=>whnf
 refine .mk _ ⟨λ_=>aQ rfl rfl (.cons rfl (.cons rfl .nil)) eT (PC.mono (fD (id:=2) (aD:=v5) (ib:=5) (vb:=v498) (l:=x500) (t:=x501) (by decide) rfl rfl p504 p502) (R':=λy H'=>y=.aM [int (x501.length:Int),.sc .nilIface]/\∃ vb',H'=upd (upd _ 5 (some (dV 5 vb' x505))) 2 (some (eG 94 2 v5 5 (.sc (.pointer none)) (some (vb',x505))))) (λy H' h=>by subst e505;exact h)),by rintro _ _ ⟨rfl,v503,rfl⟩;exact trivial⟩ ?_
 rintro _ _ ⟨rfl,v503,rfl⟩
 try dsimp only
 conv=>whnf
 refine .mk ?_
 conv=>whnf
 refine .mk ?_
 conv=>whnf
 refine .mk _ (aF (dA (j:=6) rfl Tryz.underlying225 dM rfl rfl rfl (.list rfl))) ?_
 conv=>whnf
 refine .mk _ (aF (eY rfl Tryz.underlying75 rfl rfl)) ?_
 conv=>whnf
 refine .mk ?_
 conv=>whnf
 refine .mk λx506 e506=>?_
 conv=>whnf
 refine .mk λp507=>?_
 conv=>whnf
 refine .mk λp509=>?_
 conv=>whnf
 refine .mk λx510 e510=>?_
 conv=>whnf
 refine .mk _ ⟨λ_=>aQ rfl rfl (.cons rfl (.cons rfl .nil)) eT (PC.mono (fD (id:=2) (aD:=v5) (ib:=5) (vb:=v503) (l:=x505) (t:=x506) (by decide) rfl rfl p509 p507) (R':=λy H'=>y=.aM [int (x506.length:Int),.sc .nilIface]/\∃ vb',H'=upd (upd _ 5 (some (dV 5 vb' x510))) 2 (some (eG 94 2 v5 5 (.sc (.pointer none)) (some (vb',x510))))) (λy H' h=>by subst e510;exact h)),by rintro _ _ ⟨rfl,v508,rfl⟩;exact trivial⟩ ?_
 rintro _ _ ⟨rfl,v508,rfl⟩
 try dsimp only
 conv=>whnf
 refine .mk ?_
 conv=>whnf
 refine .mk ?_
 conv=>whnf
 refine .mk _ (aF (dA (j:=7) rfl Tryz.underlying225 dM rfl rfl rfl (.list rfl))) ?_
 conv=>whnf
 refine .mk _ (aF (eY rfl Tryz.underlying75 rfl rfl)) ?_
 conv=>whnf
 refine .mk ?_
 conv=>whnf
 refine .mk λx511 e511=>?_
 conv=>whnf
 refine .mk λp512=>?_
 conv=>whnf
 refine .mk λp514=>?_
 conv=>whnf
 refine .mk λx515 e515=>?_
 conv=>whnf
 refine .mk _ ⟨λ_=>aQ rfl rfl (.cons rfl (.cons rfl .nil)) eT (PC.mono (fD (id:=2) (aD:=v5) (ib:=5) (vb:=v508) (l:=x510) (t:=x511) (by decide) rfl rfl p514 p512) (R':=λy H'=>y=.aM [int (x511.length:Int),.sc .nilIface]/\∃ vb',H'=upd (upd _ 5 (some (dV 5 vb' x515))) 2 (some (eG 94 2 v5 5 (.sc (.pointer none)) (some (vb',x515))))) (λy H' h=>by subst e515;exact h)),by rintro _ _ ⟨rfl,v513,rfl⟩;exact trivial⟩ ?_
 rintro _ _ ⟨rfl,v513,rfl⟩
 try dsimp only
 conv=>whnf
 refine .mk ?_
 conv=>whnf
 refine .mk ?_
 conv=>whnf
 exact .mk
 intro _ _
 conv=>whnf
 try dsimp only
 repeat (conv in (uV _ _ _ _)=>whnf)
 exact .mk
 intro _ _
 conv=>whnf
 refine .mk trivial ?_
 try dsimp only
 repeat (conv in (uV _ _ _ _)=>whnf)
 conv=>whnf
 exact .mk
 intro _ _
 conv=>whnf
 refine .mk trivial ?_
 try dsimp only
 repeat (conv in (uV _ _ _ _)=>whnf)
 conv=>whnf
 refine .mk λx516=>?_
 conv=>whnf
 exact .mk
 conv=>whnf
 exact .mk
 intro _ _
 conv=>whnf
 try dsimp only
 repeat (conv in (uV _ _ _ _)=>whnf)
 exact .mk
 intro _ _
 conv=>whnf
 refine .mk trivial ?_
 try dsimp only
 repeat (conv in (uV _ _ _ _)=>whnf)
 conv=>whnf
 refine .mk _ (aF (oF rfl Tryz.underlying75 rfl rfl)) ?_
 conv=>whnf
 exact .mk
 intro y119_2 u348
 conv=>whnf
 refine .mk trivial ?_
 try dsimp only
 repeat (conv in (uV _ _ _ _)=>whnf)
 conv=>whnf
 refine .mk ?_ ?_
 intro v519
 conv=>whnf
 refine .mk _ (aF (eY rfl Tryz.underlying75 rfl rfl)) ?_
 conv=>whnf
 refine .mk ?_
 conv=>whnf
 refine .mk ?_
 conv=>whnf
 refine .mk λx520 e520=>?_
 conv=>whnf
 refine .mk λp521=>?_
 conv=>whnf
 refine .mk λp523=>?_
 conv=>whnf
 refine .mk λx524 e524=>?_
 conv=>whnf
 refine .mk _ ⟨λ_=>aQ rfl rfl (.cons rfl (.cons rfl .nil)) eT (PC.mono (fD (id:=2) (aD:=v5) (ib:=5) (vb:=(u348 5)) (l:=y119_2) (t:=x520) (by decide) rfl rfl p523 p521) (R':=λy H'=>y=.aM [int (x520.length:Int),.sc .nilIface]/\∃ vb',H'=upd (upd _ 5 (some (dV 5 vb' x524))) 2 (some (eG 94 2 v5 5 (.sc (.pointer none)) (some (vb',x524))))) (λy H' h=>by subst e524;exact h)),by rintro _ _ ⟨rfl,v522,rfl⟩;exact trivial⟩ ?_
 rintro _ _ ⟨rfl,v522,rfl⟩
 try dsimp only
 conv=>whnf
 refine .mk ?_
 conv=>whnf
 refine .mk ?_ ?_
 intro v527
 conv=>whnf
 refine .mk ?_
 conv=>whnf
 refine .mk ?_ ?_
 conv=>whnf
 refine .mk ?_
 rintro ⟨y129_1,y129_3⟩ u388
 conv=>whnf
 try dsimp only
 repeat (conv in (uV _ _ _ _)=>whnf)
 refine .mk λx528=>?_
 conv=>whnf
 refine .mk ?_ ?_
 conv=>whnf
 refine .mk ?_
 conv=>whnf
 refine .mk λx529 e529=>?_
 conv=>whnf
 refine .mk ?_ ?_
 conv=>whnf
 refine .mk ?_
 conv=>whnf
 refine .mk _ (λH hH _=>dY (ps:=[(0,_),(1,_),(2,_),(3,_),(4,_),(5,_),(6,_),(7,_)]) (rows:=[[.pp [int x529.rO,int x529.Item,int x529.Loc,int x529.dJ,int x529.lJ,int x529.qU,int x529.gP,int x529.qE,aA x529.qO]],[.pp [int x529.Item,int x529.Loc,int x529.dJ,int x529.lJ,int x529.qU,int x529.gP,int x529.qE,aA x529.qO]],[.pp [int x529.Loc,int x529.dJ,int x529.lJ,int x529.qU,int x529.gP,int x529.qE,aA x529.qO]],[.pp [int x529.dJ,int x529.lJ,int x529.qU,int x529.gP,int x529.qE,aA x529.qO]],[.pp [int x529.lJ,int x529.qU,int x529.gP,int x529.qE,aA x529.qO]],[.pp [int x529.qU,int x529.gP,int x529.qE,aA x529.qO]],[.pp [int x529.gP,int x529.qE,aA x529.qO]],[.pp [int x529.qE,aA x529.qO]]]) rfl Tryz.underlying225 iH (.cons rfl (.cons rfl (.cons rfl (.cons rfl (.cons rfl (.cons rfl (.cons rfl (.cons rfl .nil)))))))) (by kernel_rfl) rfl rfl rfl) ?_
 conv=>whnf
 refine .mk ?_ ?_
 conv=>whnf
 refine .mk ?_ ?_
 conv=>whnf
 refine .mk ?_
 conv=>whnf
 refine .mk _ (aF (dA (j:=0) rfl Tryz.underlying225 dM rfl rfl rfl (.list rfl))) ?_
 conv=>whnf
 refine .mk _ (aF (eY rfl Tryz.underlying75 rfl rfl)) ?_
 conv=>whnf
 refine .mk ?_
 conv=>whnf
 refine .mk λx534 e534=>?_
 conv=>whnf
 refine .mk λp535=>?_
 conv=>whnf
 refine .mk λp537=>?_
 conv=>whnf
 refine .mk λx538 e538=>?_
 conv=>whnf
 refine .mk _ ⟨λ_=>aQ rfl rfl (.cons rfl (.cons rfl .nil)) eT (PC.mono (fD (id:=2) (aD:=v5) (ib:=5) (vb:=(u388 5)) (l:=y129_3) (t:=x534) (by decide) rfl rfl p537 p535) (R':=λy H'=>y=.aM [int (x534.length:Int),.sc .nilIface]/\∃ vb',H'=upd (upd _ 5 (some (dV 5 vb' x538))) 2 (some (eG 94 2 v5 5 (.sc (.pointer none)) (some (vb',x538))))) (λy H' h=>by subst e538;exact h)),by rintro _ _ ⟨rfl,v536,rfl⟩;exact trivial⟩ ?_
 rintro _ _ ⟨rfl,v536,rfl⟩
 try dsimp only
 conv=>whnf
 refine .mk ?_
 conv=>whnf
 refine .mk ?_
 conv=>whnf
 refine .mk _ (aF (dA (j:=1) rfl Tryz.underlying225 dM rfl rfl rfl (.list rfl))) ?_
 conv=>whnf
 refine .mk _ (aF (eY rfl Tryz.underlying75 rfl rfl)) ?_
 conv=>whnf
 refine .mk ?_
 conv=>whnf
 refine .mk λx539 e539=>?_
 conv=>whnf
 refine .mk λp540=>?_
 conv=>whnf
 refine .mk λp542=>?_
 conv=>whnf
 refine .mk λx543 e543=>?_
 conv=>whnf
 refine .mk _ ⟨λ_=>aQ rfl rfl (.cons rfl (.cons rfl .nil)) eT (PC.mono (fD (id:=2) (aD:=v5) (ib:=5) (vb:=v536) (l:=x538) (t:=x539) (by decide) rfl rfl p542 p540) (R':=λy H'=>y=.aM [int (x539.length:Int),.sc .nilIface]/\∃ vb',H'=upd (upd _ 5 (some (dV 5 vb' x543))) 2 (some (eG 94 2 v5 5 (.sc (.pointer none)) (some (vb',x543))))) (λy H' h=>by subst e543;exact h)),by rintro _ _ ⟨rfl,v541,rfl⟩;exact trivial⟩ ?_
 rintro _ _ ⟨rfl,v541,rfl⟩
 try dsimp only
 conv=>whnf
 refine .mk ?_
 conv=>whnf
 refine .mk ?_
 conv=>whnf
 refine .mk _ (aF (dA (j:=2) rfl Tryz.underlying225 dM rfl rfl rfl (.list rfl))) ?_
 conv=>whnf
 refine .mk _ (aF (eY rfl Tryz.underlying75 rfl rfl)) ?_
 conv=>whnf
 refine .mk ?_
 conv=>whnf
 refine .mk λx544 e544=>?_
 conv=>whnf
 refine .mk λp545=>?_
 conv=>whnf
 refine .mk λp547=>?_
 conv=>whnf
 refine .mk λx548 e548=>?_
 conv=>whnf
 refine .mk _ ⟨λ_=>aQ rfl rfl (.cons rfl (.cons rfl .nil)) eT (PC.mono (fD (id:=2) (aD:=v5) (ib:=5) (vb:=v541) (l:=x543) (t:=x544) (by decide) rfl rfl p547 p545) (R':=λy H'=>y=.aM [int (x544.length:Int),.sc .nilIface]/\∃ vb',H'=upd (upd _ 5 (some (dV 5 vb' x548))) 2 (some (eG 94 2 v5 5 (.sc (.pointer none)) (some (vb',x548))))) (λy H' h=>by subst e548;exact h)),by rintro _ _ ⟨rfl,v546,rfl⟩;exact trivial⟩ ?_
 rintro _ _ ⟨rfl,v546,rfl⟩
 try dsimp only
 conv=>whnf
 refine .mk ?_
 conv=>whnf
 refine .mk ?_
 conv=>whnf
 refine .mk _ (aF (dA (j:=3) rfl Tryz.underlying225 dM rfl rfl rfl (.list rfl))) ?_
 conv=>whnf
 refine .mk _ (aF (eY rfl Tryz.underlying75 rfl rfl)) ?_
 conv=>whnf
 refine .mk ?_
 conv=>whnf
 refine .mk λx549 e549=>?_
 conv=>whnf
 refine .mk λp550=>?_
 conv=>whnf
 refine .mk λp552=>?_
 conv=>whnf
 refine .mk λx553 e553=>?_
 conv=>whnf
 refine .mk _ ⟨λ_=>aQ rfl rfl (.cons rfl (.cons rfl .nil)) eT (PC.mono (fD (id:=2) (aD:=v5) (ib:=5) (vb:=v546) (l:=x548) (t:=x549) (by decide) rfl rfl p552 p550) (R':=λy H'=>y=.aM [int (x549.length:Int),.sc .nilIface]/\∃ vb',H'=upd (upd _ 5 (some (dV 5 vb' x553))) 2 (some (eG 94 2 v5 5 (.sc (.pointer none)) (some (vb',x553))))) (λy H' h=>by subst e553;exact h)),by rintro _ _ ⟨rfl,v551,rfl⟩;exact trivial⟩ ?_
 rintro _ _ ⟨rfl,v551,rfl⟩
 try dsimp only
 conv=>whnf
 refine .mk ?_
 conv=>whnf
 refine .mk ?_
 conv=>whnf
 refine .mk _ (aF (dA (j:=4) rfl Tryz.underlying225 dM rfl rfl rfl (.list rfl))) ?_
 conv=>whnf
 refine .mk _ (aF (eY rfl Tryz.underlying75 rfl rfl)) ?_
 conv=>whnf
 refine .mk ?_
 conv=>whnf
 refine .mk λx554 e554=>?_
 conv=>whnf
 refine .mk λp555=>?_
 conv=>whnf
 refine .mk λp557=>?_
 conv=>whnf
 refine .mk λx558 e558=>?_
 conv=>whnf
 refine .mk _ ⟨λ_=>aQ rfl rfl (.cons rfl (.cons rfl .nil)) eT (PC.mono (fD (id:=2) (aD:=v5) (ib:=5) (vb:=v551) (l:=x553) (t:=x554) (by decide) rfl rfl p557 p555) (R':=λy H'=>y=.aM [int (x554.length:Int),.sc .nilIface]/\∃ vb',H'=upd (upd _ 5 (some (dV 5 vb' x558))) 2 (some (eG 94 2 v5 5 (.sc (.pointer none)) (some (vb',x558))))) (λy H' h=>by subst e558;exact h)),by rintro _ _ ⟨rfl,v556,rfl⟩;exact trivial⟩ ?_
 rintro _ _ ⟨rfl,v556,rfl⟩
 try dsimp only
 conv=>whnf
 refine .mk ?_
 conv=>whnf
 refine .mk ?_
 conv=>whnf
 refine .mk _ (aF (dA (j:=5) rfl Tryz.underlying225 dM rfl rfl rfl (.list rfl))) ?_
 conv=>whnf
 refine .mk _ (aF (eY rfl Tryz.underlying75 rfl rfl)) ?_
 conv=>whnf
 refine .mk ?_
 conv=>whnf
 refine .mk λx559 e559=>?_
 conv=>whnf
 refine .mk λp560=>?_
 conv=>whnf
 refine .mk λp562=>?_
 conv=>whnf
 refine .mk λx563 e563=>?_
 conv=>whnf
 refine .mk _ ⟨λ_=>aQ rfl rfl (.cons rfl (.cons rfl .nil)) eT (PC.mono (fD (id:=2) (aD:=v5) (ib:=5) (vb:=v556) (l:=x558) (t:=x559) (by decide) rfl rfl p562 p560) (R':=λy H'=>y=.aM [int (x559.length:Int),.sc .nilIface]/\∃ vb',H'=upd (upd _ 5 (some (dV 5 vb' x563))) 2 (some (eG 94 2 v5 5 (.sc (.pointer none)) (some (vb',x563))))) (λy H' h=>by subst e563;exact h)),by rintro _ _ ⟨rfl,v561,rfl⟩;exact trivial⟩ ?_
 rintro _ _ ⟨rfl,v561,rfl⟩
 try dsimp only
 conv=>whnf
 refine .mk ?_
 conv=>whnf
 refine .mk ?_
 conv=>whnf
 refine .mk _ (aF (dA (j:=6) rfl Tryz.underlying225 dM rfl rfl rfl (.list rfl))) ?_
 conv=>whnf
 refine .mk _ (aF (eY rfl Tryz.underlying75 rfl rfl)) ?_
 conv=>whnf
 refine .mk ?_
 conv=>whnf
 refine .mk λx564 e564=>?_
 conv=>whnf
 refine .mk λp565=>?_
 conv=>whnf
 refine .mk λp567=>?_
 conv=>whnf
 refine .mk λx568 e568=>?_
 conv=>whnf
 refine .mk _ ⟨λ_=>aQ rfl rfl (.cons rfl (.cons rfl .nil)) eT (PC.mono (fD (id:=2) (aD:=v5) (ib:=5) (vb:=v561) (l:=x563) (t:=x564) (by decide) rfl rfl p567 p565) (R':=λy H'=>y=.aM [int (x564.length:Int),.sc .nilIface]/\∃ vb',H'=upd (upd _ 5 (some (dV 5 vb' x568))) 2 (some (eG 94 2 v5 5 (.sc (.pointer none)) (some (vb',x568))))) (λy H' h=>by subst e568;exact h)),by rintro _ _ ⟨rfl,v566,rfl⟩;exact trivial⟩ ?_
 rintro _ _ ⟨rfl,v566,rfl⟩
 try dsimp only
 conv=>whnf
 refine .mk ?_
 conv=>whnf
 refine .mk ?_
 conv=>whnf
 refine .mk _ (aF (dA (j:=7) rfl Tryz.underlying225 dM rfl rfl rfl (.list rfl))) ?_
 conv=>whnf
 refine .mk _ (aF (eY rfl Tryz.underlying75 rfl rfl)) ?_
 conv=>whnf
 refine .mk ?_
 conv=>whnf
 refine .mk λx569 e569=>?_
 conv=>whnf
 refine .mk λp570=>?_
 conv=>whnf
 refine .mk λp572=>?_
 conv=>whnf
 refine .mk λx573 e573=>?_
 conv=>whnf
 refine .mk _ ⟨λ_=>aQ rfl rfl (.cons rfl (.cons rfl .nil)) eT (PC.mono (fD (id:=2) (aD:=v5) (ib:=5) (vb:=v566) (l:=x568) (t:=x569) (by decide) rfl rfl p572 p570) (R':=λy H'=>y=.aM [int (x569.length:Int),.sc .nilIface]/\∃ vb',H'=upd (upd _ 5 (some (dV 5 vb' x573))) 2 (some (eG 94 2 v5 5 (.sc (.pointer none)) (some (vb',x573))))) (λy H' h=>by subst e573;exact h)),by rintro _ _ ⟨rfl,v571,rfl⟩;exact trivial⟩ ?_
 rintro _ _ ⟨rfl,v571,rfl⟩
 try dsimp only
 conv=>whnf
 refine .mk ?_
 conv=>whnf
 refine .mk ?_
 conv=>whnf
 exact .mk
 intro _ _
 conv=>whnf
 try dsimp only
 repeat (conv in (uV _ _ _ _)=>whnf)
 exact .mk
 intro y132_2 u393
 conv=>whnf
 refine .mk trivial ?_
 try dsimp only
 repeat (conv in (uV _ _ _ _)=>whnf)
 conv=>whnf
 refine .mk ?_ ?_
 conv=>whnf
 refine .mk ?_ ?_
 conv=>whnf
 refine .mk ?_ ?_
 conv=>whnf
 exact .mk
 conv=>whnf
 exact .mk
 intro _ _
 conv=>whnf
 try dsimp only
 repeat (conv in (uV _ _ _ _)=>whnf)
 refine .mk _ (aF (eY rfl Tryz.underlying75 rfl rfl)) ?_
 conv=>whnf
 refine .mk ?_
 conv=>whnf
 refine .mk λx576 e576=>?_
 conv=>whnf
 refine .mk λp577=>?_
 conv=>whnf
 refine .mk λp579=>?_
 conv=>whnf
 refine .mk λx580 e580=>?_
 conv=>whnf
 refine .mk _ ⟨λ_=>aQ rfl rfl (.cons rfl (.cons rfl .nil)) eT (PC.mono (fD (id:=2) (aD:=v5) (ib:=5) (vb:=(u393 5)) (l:=y132_2) (t:=x576) (by decide) rfl rfl p579 p577) (R':=λy H'=>y=.aM [int (x576.length:Int),.sc .nilIface]/\∃ vb',H'=upd (upd _ 5 (some (dV 5 vb' x580))) 2 (some (eG 94 2 v5 5 (.sc (.pointer none)) (some (vb',x580))))) (λy H' h=>by subst e580;exact h)),by rintro _ _ ⟨rfl,v578,rfl⟩;exact trivial⟩ ?_
 rintro _ _ ⟨rfl,v578,rfl⟩
 try dsimp only
 conv=>whnf
 exact .mk
 intro _ _
 conv=>whnf
 refine .mk trivial ?_
 try dsimp only
 repeat (conv in (uV _ _ _ _)=>whnf)
 conv=>whnf
 exact .mk
 intro _ _
 conv=>whnf
 refine .mk trivial ?_
 try dsimp only
 repeat (conv in (uV _ _ _ _)=>whnf)
 conv=>whnf
 refine .mk λx581=>?_
 conv=>whnf
 exact .mk
 conv=>whnf
 exact .mk
 intro _ _
 conv=>whnf
 try dsimp only
 repeat (conv in (uV _ _ _ _)=>whnf)
 exact .mk
 intro _ _
 conv=>whnf
 refine .mk trivial ?_
 try dsimp only
 repeat (conv in (uV _ _ _ _)=>whnf)
 conv=>whnf
 refine .mk _ (aF (oF rfl Tryz.underlying75 rfl rfl)) ?_
 conv=>whnf
 exact .mk
 intro y127_2 u372
 conv=>whnf
 refine .mk trivial ?_
 try dsimp only
 repeat (conv in (uV _ _ _ _)=>whnf)
 conv=>whnf
 refine .mk ?_ ?_
 intro v584
 conv=>whnf
 refine .mk _ (aF (eY rfl Tryz.underlying75 rfl rfl)) ?_
 conv=>whnf
 refine .mk ?_
 conv=>whnf
 refine .mk ?_
 conv=>whnf
 refine .mk λx585 e585=>?_
 conv=>whnf
 refine .mk λp586=>?_
 conv=>whnf
 refine .mk λp588=>?_
 conv=>whnf
 refine .mk λx589 e589=>?_
 conv=>whnf
 refine .mk _ ⟨λ_=>aQ rfl rfl (.cons rfl (.cons rfl .nil)) eT (PC.mono (fD (id:=2) (aD:=v5) (ib:=5) (vb:=(u372 5)) (l:=y127_2) (t:=x585) (by decide) rfl rfl p588 p586) (R':=λy H'=>y=.aM [int (x585.length:Int),.sc .nilIface]/\∃ vb',H'=upd (upd _ 5 (some (dV 5 vb' x589))) 2 (some (eG 94 2 v5 5 (.sc (.pointer none)) (some (vb',x589))))) (λy H' h=>by subst e589;exact h)),by rintro _ _ ⟨rfl,v587,rfl⟩;exact trivial⟩ ?_
 rintro _ _ ⟨rfl,v587,rfl⟩
 try dsimp only
 conv=>whnf
 refine .mk ?_
 conv=>whnf
 refine .mk ?_ ?_
 intro v592
 conv=>whnf
 refine .mk ?_
 conv=>whnf
 refine .mk ?_ ?_
 conv=>whnf
 refine .mk ?_
 rintro ⟨y139_1,y139_3⟩ u415
 conv=>whnf
 try dsimp only
 repeat (conv in (uV _ _ _ _)=>whnf)
 refine .mk λx593=>?_
 conv=>whnf
 refine .mk ?_ ?_
 conv=>whnf
 refine .mk ?_
 conv=>whnf
 refine .mk λx594 e594=>?_
 conv=>whnf
 refine .mk ?_ ?_
 conv=>whnf
 refine .mk ?_
 conv=>whnf
 refine .mk _ (λH hH _=>dY (ps:=[(0,_),(1,_),(2,_),(3,_),(4,_),(5,_)]) (rows:=[[.pp [int x594.DR,int x594.To,int x594.Item,int x594.dJ,int x594.Value,int x594.gP]],[.pp [int x594.To,int x594.Item,int x594.dJ,int x594.Value,int x594.gP]],[.pp [int x594.Item,int x594.dJ,int x594.Value,int x594.gP]],[.pp [int x594.dJ,int x594.Value,int x594.gP]],[.pp [int x594.Value,int x594.gP]],[.pp [int x594.gP]]]) rfl Tryz.underlying225 iH (.cons rfl (.cons rfl (.cons rfl (.cons rfl (.cons rfl (.cons rfl .nil)))))) (by kernel_rfl) rfl rfl rfl) ?_
 conv=>whnf
 refine .mk ?_ ?_
 conv=>whnf
 refine .mk ?_ ?_
 conv=>whnf
 refine .mk ?_
 conv=>whnf
 refine .mk _ (aF (dA (j:=0) rfl Tryz.underlying225 dM rfl rfl rfl (.list rfl))) ?_
 conv=>whnf
 refine .mk _ (aF (eY rfl Tryz.underlying75 rfl rfl)) ?_
 conv=>whnf
 refine .mk ?_
 conv=>whnf
 refine .mk λx599 e599=>?_
 conv=>whnf
 refine .mk λp600=>?_
 conv=>whnf
 refine .mk λp602=>?_
 conv=>whnf
 refine .mk λx603 e603=>?_
 conv=>whnf
 refine .mk _ ⟨λ_=>aQ rfl rfl (.cons rfl (.cons rfl .nil)) eT (PC.mono (fD (id:=2) (aD:=v5) (ib:=5) (vb:=(u415 5)) (l:=y139_3) (t:=x599) (by decide) rfl rfl p602 p600) (R':=λy H'=>y=.aM [int (x599.length:Int),.sc .nilIface]/\∃ vb',H'=upd (upd _ 5 (some (dV 5 vb' x603))) 2 (some (eG 94 2 v5 5 (.sc (.pointer none)) (some (vb',x603))))) (λy H' h=>by subst e603;exact h)),by rintro _ _ ⟨rfl,v601,rfl⟩;exact trivial⟩ ?_
 rintro _ _ ⟨rfl,v601,rfl⟩
 try dsimp only
 conv=>whnf
 refine .mk ?_
 conv=>whnf
 refine .mk ?_
 conv=>whnf
 refine .mk _ (aF (dA (j:=1) rfl Tryz.underlying225 dM rfl rfl rfl (.list rfl))) ?_
 conv=>whnf
 refine .mk _ (aF (eY rfl Tryz.underlying75 rfl rfl)) ?_
 conv=>whnf
 refine .mk ?_
 conv=>whnf
 refine .mk λx604 e604=>?_
 conv=>whnf
 refine .mk λp605=>?_
 conv=>whnf
 refine .mk λp607=>?_
 conv=>whnf
 refine .mk λx608 e608=>?_
 conv=>whnf
 refine .mk _ ⟨λ_=>aQ rfl rfl (.cons rfl (.cons rfl .nil)) eT (PC.mono (fD (id:=2) (aD:=v5) (ib:=5) (vb:=v601) (l:=x603) (t:=x604) (by decide) rfl rfl p607 p605) (R':=λy H'=>y=.aM [int (x604.length:Int),.sc .nilIface]/\∃ vb',H'=upd (upd _ 5 (some (dV 5 vb' x608))) 2 (some (eG 94 2 v5 5 (.sc (.pointer none)) (some (vb',x608))))) (λy H' h=>by subst e608;exact h)),by rintro _ _ ⟨rfl,v606,rfl⟩;exact trivial⟩ ?_
 rintro _ _ ⟨rfl,v606,rfl⟩
 try dsimp only
 conv=>whnf
 refine .mk ?_
 conv=>whnf
 refine .mk ?_
 conv=>whnf
 refine .mk _ (aF (dA (j:=2) rfl Tryz.underlying225 dM rfl rfl rfl (.list rfl))) ?_
 conv=>whnf
 refine .mk _ (aF (eY rfl Tryz.underlying75 rfl rfl)) ?_
 conv=>whnf
 refine .mk ?_
 conv=>whnf
 refine .mk λx609 e609=>?_
 conv=>whnf
 refine .mk λp610=>?_
 conv=>whnf
 refine .mk λp612=>?_
 conv=>whnf
 refine .mk λx613 e613=>?_
 conv=>whnf
 refine .mk _ ⟨λ_=>aQ rfl rfl (.cons rfl (.cons rfl .nil)) eT (PC.mono (fD (id:=2) (aD:=v5) (ib:=5) (vb:=v606) (l:=x608) (t:=x609) (by decide) rfl rfl p612 p610) (R':=λy H'=>y=.aM [int (x609.length:Int),.sc .nilIface]/\∃ vb',H'=upd (upd _ 5 (some (dV 5 vb' x613))) 2 (some (eG 94 2 v5 5 (.sc (.pointer none)) (some (vb',x613))))) (λy H' h=>by subst e613;exact h)),by rintro _ _ ⟨rfl,v611,rfl⟩;exact trivial⟩ ?_
 rintro _ _ ⟨rfl,v611,rfl⟩
 try dsimp only
 conv=>whnf
 refine .mk ?_
 conv=>whnf
 refine .mk ?_
 conv=>whnf
 refine .mk _ (aF (dA (j:=3) rfl Tryz.underlying225 dM rfl rfl rfl (.list rfl))) ?_
 conv=>whnf
 refine .mk _ (aF (eY rfl Tryz.underlying75 rfl rfl)) ?_
 conv=>whnf
 refine .mk ?_
 conv=>whnf
 refine .mk λx614 e614=>?_
 conv=>whnf
 refine .mk λp615=>?_
 conv=>whnf
 refine .mk λp617=>?_
 conv=>whnf
 refine .mk λx618 e618=>?_
 conv=>whnf
 refine .mk _ ⟨λ_=>aQ rfl rfl (.cons rfl (.cons rfl .nil)) eT (PC.mono (fD (id:=2) (aD:=v5) (ib:=5) (vb:=v611) (l:=x613) (t:=x614) (by decide) rfl rfl p617 p615) (R':=λy H'=>y=.aM [int (x614.length:Int),.sc .nilIface]/\∃ vb',H'=upd (upd _ 5 (some (dV 5 vb' x618))) 2 (some (eG 94 2 v5 5 (.sc (.pointer none)) (some (vb',x618))))) (λy H' h=>by subst e618;exact h)),by rintro _ _ ⟨rfl,v616,rfl⟩;exact trivial⟩ ?_
 rintro _ _ ⟨rfl,v616,rfl⟩
 try dsimp only
 conv=>whnf
 refine .mk ?_
 conv=>whnf
 refine .mk ?_
 conv=>whnf
 refine .mk _ (aF (dA (j:=4) rfl Tryz.underlying225 dM rfl rfl rfl (.list rfl))) ?_
 conv=>whnf
 refine .mk _ (aF (eY rfl Tryz.underlying75 rfl rfl)) ?_
 conv=>whnf
 refine .mk ?_
 conv=>whnf
 refine .mk λx619 e619=>?_
 conv=>whnf
 refine .mk λp620=>?_
 conv=>whnf
 refine .mk λp622=>?_
 conv=>whnf
 refine .mk λx623 e623=>?_
 conv=>whnf
 refine .mk _ ⟨λ_=>aQ rfl rfl (.cons rfl (.cons rfl .nil)) eT (PC.mono (fD (id:=2) (aD:=v5) (ib:=5) (vb:=v616) (l:=x618) (t:=x619) (by decide) rfl rfl p622 p620) (R':=λy H'=>y=.aM [int (x619.length:Int),.sc .nilIface]/\∃ vb',H'=upd (upd _ 5 (some (dV 5 vb' x623))) 2 (some (eG 94 2 v5 5 (.sc (.pointer none)) (some (vb',x623))))) (λy H' h=>by subst e623;exact h)),by rintro _ _ ⟨rfl,v621,rfl⟩;exact trivial⟩ ?_
 rintro _ _ ⟨rfl,v621,rfl⟩
 try dsimp only
 conv=>whnf
 refine .mk ?_
 conv=>whnf
 refine .mk ?_
 conv=>whnf
 refine .mk _ (aF (dA (j:=5) rfl Tryz.underlying225 dM rfl rfl rfl (.list rfl))) ?_
 conv=>whnf
 refine .mk _ (aF (eY rfl Tryz.underlying75 rfl rfl)) ?_
 conv=>whnf
 refine .mk ?_
 conv=>whnf
 refine .mk λx624 e624=>?_
 conv=>whnf
 refine .mk λp625=>?_
 conv=>whnf
 refine .mk λp627=>?_
 conv=>whnf
 refine .mk λx628 e628=>?_
 conv=>whnf
 refine .mk _ ⟨λ_=>aQ rfl rfl (.cons rfl (.cons rfl .nil)) eT (PC.mono (fD (id:=2) (aD:=v5) (ib:=5) (vb:=v621) (l:=x623) (t:=x624) (by decide) rfl rfl p627 p625) (R':=λy H'=>y=.aM [int (x624.length:Int),.sc .nilIface]/\∃ vb',H'=upd (upd _ 5 (some (dV 5 vb' x628))) 2 (some (eG 94 2 v5 5 (.sc (.pointer none)) (some (vb',x628))))) (λy H' h=>by subst e628;exact h)),by rintro _ _ ⟨rfl,v626,rfl⟩;exact trivial⟩ ?_
 rintro _ _ ⟨rfl,v626,rfl⟩
 try dsimp only
 conv=>whnf
 refine .mk ?_
 conv=>whnf
 refine .mk ?_
 conv=>whnf
 exact .mk
 intro _ _
 conv=>whnf
 try dsimp only
 repeat (conv in (uV _ _ _ _)=>whnf)
 exact .mk
 intro _ _
 conv=>whnf
 refine .mk trivial ?_
 try dsimp only
 repeat (conv in (uV _ _ _ _)=>whnf)
 conv=>whnf
 exact .mk
 intro _ _
 conv=>whnf
 refine .mk trivial ?_
 try dsimp only
 repeat (conv in (uV _ _ _ _)=>whnf)
 conv=>whnf
 refine .mk λx629=>?_
 conv=>whnf
 exact .mk
 conv=>whnf
 exact .mk
 intro _ _
 conv=>whnf
 try dsimp only
 repeat (conv in (uV _ _ _ _)=>whnf)
 exact .mk
 intro _ _
 conv=>whnf
 refine .mk trivial ?_
 try dsimp only
 repeat (conv in (uV _ _ _ _)=>whnf)
 conv=>whnf
 refine .mk _ (aF (oF rfl Tryz.underlying75 rfl rfl)) ?_
 conv=>whnf
 exact .mk
 intro y137_2 u399
 conv=>whnf
 refine .mk trivial ?_
 try dsimp only
 repeat (conv in (uV _ _ _ _)=>whnf)
 conv=>whnf
 refine .mk _ (aF (dY (ps:=[(0,_)]) (rows:=[[.pt 1 v2 0 9]]) rfl Tryz.underlying225 iH (.cons rfl .nil) (by kernel_rfl) rfl rfl rfl)) ?_
 conv=>whnf
 refine .mk ?_ ?_
 conv=>whnf
 refine .mk ?_ ?_
 conv=>whnf
 refine .mk ?_
 conv=>whnf
 refine .mk _ (aF (dA (j:=0) rfl Tryz.underlying225 dM rfl rfl rfl (.list rfl))) ?_
 conv=>whnf
 refine .mk _ (aF (eY rfl Tryz.underlying75 rfl rfl)) ?_
 conv=>whnf
 refine .mk ?_
 conv=>whnf
 refine .mk λx632 e632=>?_
 conv=>whnf
 refine .mk λp633=>?_
 conv=>whnf
 refine .mk λp635=>?_
 conv=>whnf
 refine .mk λx636 e636=>?_
 conv=>whnf
 refine .mk _ ⟨λ_=>aQ rfl rfl (.cons rfl (.cons rfl .nil)) eT (PC.mono (fD (id:=2) (aD:=v5) (ib:=5) (vb:=(u399 5)) (l:=y137_2) (t:=x632) (by decide) rfl rfl p635 p633) (R':=λy H'=>y=.aM [int (x632.length:Int),.sc .nilIface]/\∃ vb',H'=upd (upd _ 5 (some (dV 5 vb' x636))) 2 (some (eG 94 2 v5 5 (.sc (.pointer none)) (some (vb',x636))))) (λy H' h=>by subst e636;exact h)),by rintro _ _ ⟨rfl,v634,rfl⟩;exact trivial⟩ ?_
 rintro _ _ ⟨rfl,v634,rfl⟩
 try dsimp only
 conv=>whnf
 refine .mk ?_
 conv=>whnf
 refine .mk ?_
 conv=>whnf
 exact .mk
 intro _ _
 conv=>whnf
 try dsimp only
 repeat (conv in (uV _ _ _ _)=>whnf)
 exact .mk
 intro _ _
 conv=>whnf
 refine .mk trivial ?_
 try dsimp only
 repeat (conv in (uV _ _ _ _)=>whnf)
 conv=>whnf
 exact .mk
 intro y2_2 u5
 conv=>whnf
 refine .mk trivial ?_
 try dsimp only
 repeat (conv in (uV _ _ _ _)=>whnf)
 conv=>whnf
 refine .mk λp637=>?_
 conv=>whnf
 refine .mk λp638=>?_
 conv=>whnf
 refine .mk _ ⟨λ_=>aQ rfl rfl (.cons rfl .nil) BF (aDO (id:=2) (aD:=v5) (ib:=5) (vb:=(u5 5)) (l:=y2_2) rfl rfl p637 p638),λ_ _ _=>trivial⟩ ?_
 rintro _ _ ⟨rfl,rfl⟩
 try dsimp only
 conv=>whnf
 exact .mk
end
end Go.Pv
