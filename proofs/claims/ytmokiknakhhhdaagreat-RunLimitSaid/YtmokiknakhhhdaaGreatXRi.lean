import Derived.Test.YtmokiknakhhhdaaGreatXRh
set_option linter.unusedVariables false
set_option linter.unusedSimpArgs false
namespace Go.Pv
open Go.Proofs
set_option maxRecDepth 100000
set_option maxHeartbeats 4000000
noncomputable section
theorem fJ {H:AH} {id aD ib vb:Nat} {x:AV} {l t z:List UInt8} (e:l++t=z) (hd:id≠ib) (hob:H id=some (qX 99 id aD ib x (some (vb,l)))) (hbuf:H ib=some (jY 5 vb l)) (hl:l.length<=1099511627776) (ht:t.length<=1099511627776):PC Tryz.prog 44 [.pt id aD 0 0,str t] H (λy H'=>y=.aS [int (t.length:Int),.sc .nilIface]/\∃ vb',H'=upd (upd H ib (some (jY 5 vb' z))) id (some (qX 99 id aD ib x (some (vb',z))))):=by
 subst e
 exact PC.mono (aG3 hd hob hbuf hl ht) λy H' h=>h
noncomputable def aN0 (x63:dB) (y18_3:List UInt8):WB (((List UInt8))) :=
 .jn 1 [] [1,4,6,7,8,9,10,11] [5] (λ_ (a:(List UInt8))=>[]) (λu74 a=>[.kp 2 [[.pt 2 (u74 2) 0 0,.sl 5 (u74 5) 0 a.length,.sc (.pointer none)]],.nw 5 5 1 (cB a)]) (.un 24 (.kB 9 true<|
 .gv 10<|
 .gv 16<|
 .dr [(1,[2]),(2,[2])] [(7,[])] [2] [7] [0,1,2,3,4,5,6,7] (.cl 23 (eB x63.aM) eY (λ_=>fG) λx68 =>
 .as (x68.length<=1099511627776) inferInstance<|
 .as (y18_3.length<=1099511627776) inferInstance<|
 .bl (y18_3++x68:List UInt8) λx72 =>
 .ge 24 2<|
 .kI 32 1<|
 .kB 9 true<|
 .gv 10<|
 .gv 16<|
 .dr [(1,[2]),(2,[2])] [(7,[])] [2] [7] [0,1,2,3,4,5,6,7] (.cl 23 (eB x63.Value) eY (λ_=>fG) λx73 =>
 .as (x73.length<=1099511627776) inferInstance<|
 .as (x72.length<=1099511627776) inferInstance<|
 .bl (x72++x73:List UInt8) λx77 =>
 .ge 24 2<|
 .kI 32 2<|
 .kB 9 true<|
 .gv 10<|
 .gv 16<|
 .dr [(1,[2]),(2,[2])] [(7,[])] [2] [7] [0,1,2,3,4,5,6,7] (.cl 23 (eB x63.gG) eY (λ_=>fG) λx78 =>
 .as (x78.length<=1099511627776) inferInstance<|
 .as (x77.length<=1099511627776) inferInstance<|
 .bl (x77++x78:List UInt8) λx82 =>
 .ge 24 2<|
 .kI 32 3<|
 .kB 9 false<|
 .ret (x82:List UInt8))))))
  (λy23_2 =>
 .ret (y23_2:List UInt8))
noncomputable def JZ (n:Nat) (x48:dK) (x58:List UInt8):WB (((List UInt8))) :=
 .al 11<|
 .ln 8 dB.av x48.kJ<|
 .jn 0 [] [1,4,6,7,8,9,10] [5] (λ_ (a:(List UInt8))=>[]) (λu65 a=>[.kp 2 [[.pt 2 (u65 2) 0 0,.sl 5 (u65 5) 0 a.length,.sc (.pointer none)]],.nw 5 5 1 (cB a)]) (.lp [1,2,3,8] [1,4,6,7,8,9,10,11] [5] (λ_ (a:Int×(List UInt8))=>[(9,int a.1)]) (λu68 a=>[.kp 2 [[.pt 2 (u68 2) 0 0,.sl 5 (u68 5) 0 a.2.length,.sc (.pointer none)]],.nw 5 5 1 (cB a.2)]) n ((0:Int),(x58:List UInt8)) (pw λy18_1 y18_3 =>
 .bB 10 (decide (y18_1<(x48.kJ.length:Int))) λx62 =>
 .ifs [10] x62 (.dr [(0,[11]),(1,[11])] [(6,[])] [11] [6] [0,1,2,3,4,5,6] (.ix 17 dB.av x48.kJ y18_1 λx63 =>
 .inl 18 aNB Tryz.func172 [1,4,6,7,8,9,10,11] [5] (λ_ (a:(List UInt8))=>.aS []) (λu71 a=>[.kp 2 [[.pt 2 (u71 2) 0 0,.sl 5 (u71 5) 0 a.length,.sc (.pointer none)]],.nw 5 5 1 (cB a)]) ( .dr [] [] [] [11] [0,1,2,3,4,5,6,7,8,9,10,11] (.gv 14<|
 .inl 15 qR Tryz.func88 [1,4,6,7,8,9,10,11] [5] (λ_ (a:(List UInt8))=>.aS []) (λu73 a=>[.kp 2 [[.pt 2 (u73 2) 0 0,.sl 5 (u73 5) 0 a.length,.sc (.pointer none)]],.nw 5 5 1 (cB a)]) (aN0 x63 y18_3) (λy21_2 =>
 .ret (y21_2:List UInt8)))) (λy19_2 =>
 .bI 19 (bM (y18_1+1)) λx83 =>
 .brk ((x83:Int),(y19_2:List UInt8))))) (.esc (.ret (y18_3:List UInt8)))))
  (λy20_2 =>
 .ret (y20_2:List UInt8))
noncomputable def JN (a1:bD) (x48:dK) (y16_2:List UInt8):WB (((List UInt8))) :=
 .jn 1 [] [1,4,6,7,8,9] [5] (λ_ (a:(List UInt8))=>[]) (λu77 a=>[.kp 2 [[.pt 2 (u77 2) 0 0,.sl 5 (u77 5) 0 a.length,.sc (.pointer none)]],.nw 5 5 1 (cB a)]) (.un 24 (.kB 9 true<|
 .gv 10<|
 .gv 16<|
 .dr [(1,[2]),(2,[2])] [(7,[])] [2] [7] [0,1,2,3,4,5,6,7] (.cl 23 (eB x48.gK.a0) eY (λ_=>fG) λx86 =>
 .as (x86.length<=1099511627776) inferInstance<|
 .as (y16_2.length<=1099511627776) inferInstance<|
 .bl (y16_2++x86:List UInt8) λx90 =>
 .ge 24 2<|
 .kI 32 1<|
 .kB 9 true<|
 .gv 10<|
 .gv 16<|
 .dr [(1,[2]),(2,[2])] [(7,[])] [2] [7] [0,1,2,3,4,5,6,7] (.cl 23 (eB x48.gK.a1) eY (λ_=>fG) λx91 =>
 .as (x91.length<=1099511627776) inferInstance<|
 .as (x90.length<=1099511627776) inferInstance<|
 .bl (x90++x91:List UInt8) λx95 =>
 .ge 24 2<|
 .kI 32 2<|
 .kB 9 true<|
 .gv 10<|
 .gv 16<|
 .dr [(1,[2]),(2,[2])] [(7,[])] [2] [7] [0,1,2,3,4,5,6,7] (.cl 23 (eB x48.gK.a2) eY (λ_=>fG) λx96 =>
 .as (x96.length<=1099511627776) inferInstance<|
 .as (x95.length<=1099511627776) inferInstance<|
 .bl (x95++x96:List UInt8) λx100 =>
 .ge 24 2<|
 .kI 32 3<|
 .kB 9 false<|
 .ret (x100:List UInt8))))))
  (λy26_2 =>
 .ret (y26_2:List UInt8))
noncomputable def NL (n:Nat) (a1:bD) (x48:dK) (y13_3:List UInt8):WB (((List UInt8))) :=
 .inl 9 aH4 Tryz.func173 [1,4,6,7,8,9] [5] (λ_ (a:(List UInt8))=>.aS []) (λu52 a=>[.kp 2 [[.pt 2 (u52 2) 0 0,.sl 5 (u52 5) 0 a.length,.sc (.pointer none)]],.nw 5 5 1 (cB a)]) ( .al 10<|
 .gv 12<|
 .dr [(1,[2]),(2,[2])] [(8,[])] [2] [8] [0,1,2,3,4,5,6,7,8] (.ln 19 dB.av x48.kJ<|
 .cl 20 (eB (x48.kJ.length:Int)) eY (λ_=>fG) λx54 =>
 .as (x54.length<=1099511627776) inferInstance<|
 .as (y13_3.length<=1099511627776) inferInstance<|
 .bl (y13_3++x54:List UInt8) λx58 =>
 .ge 21 2<|
 .dr [(0,[10])] [(5,[])] [10] [5] [0,1,2,3,4,5] (.inl 36 aD2 Tryz.func215 [1,4,6,7,8,9,10] [5] (λ_ (a:(List UInt8))=>.aS []) (λu54 a=>[.kp 2 [[.pt 2 (u54 2) 0 0,.sl 5 (u54 5) 0 a.length,.sc (.pointer none)]],.nw 5 5 1 (cB a)]) (JZ n x48 x58) (λy17_2 =>
 .gv 41<|
 .ret (y17_2:List UInt8))))) (λy16_2 =>
 .dr [] [] [] [14] [0,1,2,3,4,5,6,7,8,9,10,11,12,13,14] (.gv 14<|
 .gv 18<|
 .gv 22<|
 .gv 23<|
 .inl 24 qR Tryz.func88 [1,4,6,7,8,9] [5] (λ_ (a:(List UInt8))=>.aS []) (λu76 a=>[.kp 2 [[.pt 2 (u76 2) 0 0,.sl 5 (u76 5) 0 a.length,.sc (.pointer none)]],.nw 5 5 1 (cB a)]) (JN a1 x48 y16_2) (λy24_2 =>
 .ret (y24_2:List UInt8))))
noncomputable def IM (n:Nat) (x27:bC) (y12_2:List UInt8):WB (((List UInt8))) :=
 .al 12<|
 .ln 8 fI x27.jJ<|
 .jn 0 [] [1,4,6,7,8] [5] (λ_ (a:(List UInt8))=>[]) (λu90 a=>[.kp 2 [[.pt 2 (u90 2) 0 0,.sl 5 (u90 5) 0 a.length,.sc (.pointer none)]],.nw 5 5 1 (cB a)]) (.lp [1,2,3,8] [1,4,6,7,8,12] [5] (λ_ (a:Int×(List UInt8))=>[(9,int a.1)]) (λu93 a=>[.kp 2 [[.pt 2 (u93 2) 0 0,.sl 5 (u93 5) 0 a.2.length,.sc (.pointer none)]],.nw 5 5 1 (cB a.2)]) n ((0:Int),(y12_2:List UInt8)) (pw λy28_1 y28_3 =>
 .bB 10 (decide (y28_1<(x27.jJ.length:Int))) λx105 =>
 .ifs [10] x105 (.dr [(0,[12]),(1,[12])] [(6,[])] [12] [6] [0,1,2,3,4,5,6] (.ix 17 fI x27.jJ y28_1 λx106 =>
 .inl 18 KJ Tryz.func128 [1,4,6,7,8,12] [5] (λ_ (a:(List UInt8))=>.aS []) (λu96 a=>[.kp 2 [[.pt 2 (u96 2) 0 0,.sl 5 (u96 5) 0 a.length,.sc (.pointer none)]],.nw 5 5 1 (cB a)]) ( .gv 6<|
 .inl 7 qR Tryz.func88 [1,4,6,7,8,12] [5] (λ_ (a:(List UInt8))=>.aS []) (λu98 a=>[.kp 2 [[.pt 2 (u98 2) 0 0,.sl 5 (u98 5) 0 a.length,.sc (.pointer none)]],.nw 5 5 1 (cB a)]) ( .jn 1 [] [1,4,6,7,8,12] [5] (λ_ (a:(List UInt8))=>[]) (λu99 a=>[.kp 2 [[.pt 2 (u99 2) 0 0,.sl 5 (u99 5) 0 a.length,.sc (.pointer none)]],.nw 5 5 1 (cB a)]) (.un 24 (.kB 9 true<|
 .gv 10<|
 .gv 16<|
 .dr [(1,[2]),(2,[2])] [(7,[])] [2] [7] [0,1,2,3,4,5,6,7] (.cl 23 (eB x106) eY (λ_=>fG) λx111 =>
 .as (x111.length<=1099511627776) inferInstance<|
 .as (y28_3.length<=1099511627776) inferInstance<|
 .bl (y28_3++x111:List UInt8) λx115 =>
 .ge 24 2<|
 .kI 32 1<|
 .kB 9 false<|
 .ret (x115:List UInt8))))
  (λy33_2 =>
 .ret (y33_2:List UInt8))) (λy31_2 =>
 .ret (y31_2:List UInt8))) (λy29_2 =>
 .bI 19 (bM (y28_1+1)) λx116 =>
 .brk ((x116:Int),(y29_2:List UInt8))))) (.esc (.ret (y28_3:List UInt8)))))
  (λy30_2 =>
 .ret (y30_2:List UInt8))
noncomputable def N5 (x121:gI) (y35_3:List UInt8):WB (((List UInt8))) :=
 .jn 1 [] [1,4,6,7,8,13] [5] (λ_ (a:(List UInt8))=>[]) (λu121 a=>[.kp 2 [[.pt 2 (u121 2) 0 0,.sl 5 (u121 5) 0 a.length,.sc (.pointer none)]],.nw 5 5 1 (cB a)]) (.un 24 (.kB 9 true<|
 .gv 10<|
 .gv 16<|
 .dr [(1,[2]),(2,[2])] [(7,[])] [2] [7] [0,1,2,3,4,5,6,7] (.cl 23 (eB x121.Open) eY (λ_=>fG) λx126 =>
 .as (x126.length<=1099511627776) inferInstance<|
 .as (y35_3.length<=1099511627776) inferInstance<|
 .bl (y35_3++x126:List UInt8) λx130 =>
 .ge 24 2<|
 .kI 32 1<|
 .kB 9 true<|
 .gv 10<|
 .gv 16<|
 .dr [(1,[2]),(2,[2])] [(7,[])] [2] [7] [0,1,2,3,4,5,6,7] (.cl 23 (eB x121.kD) eY (λ_=>fG) λx131 =>
 .as (x131.length<=1099511627776) inferInstance<|
 .as (x130.length<=1099511627776) inferInstance<|
 .bl (x130++x131:List UInt8) λx135 =>
 .ge 24 2<|
 .kI 32 2<|
 .kB 9 true<|
 .gv 10<|
 .gv 16<|
 .dr [(1,[2]),(2,[2])] [(7,[])] [2] [7] [0,1,2,3,4,5,6,7] (.cl 23 (eB x121.jP) eY (λ_=>fG) λx136 =>
 .as (x136.length<=1099511627776) inferInstance<|
 .as (x135.length<=1099511627776) inferInstance<|
 .bl (x135++x136:List UInt8) λx140 =>
 .ge 24 2<|
 .kI 32 3<|
 .kB 9 true<|
 .gv 10<|
 .gv 16<|
 .dr [(1,[2]),(2,[2])] [(7,[])] [2] [7] [0,1,2,3,4,5,6,7] (.cl 23 (eB x121.jL) eY (λ_=>fG) λx141 =>
 .as (x141.length<=1099511627776) inferInstance<|
 .as (x140.length<=1099511627776) inferInstance<|
 .bl (x140++x141:List UInt8) λx145 =>
 .ge 24 2<|
 .kI 32 4<|
 .kB 9 true<|
 .gv 10<|
 .gv 16<|
 .dr [(1,[2]),(2,[2])] [(7,[])] [2] [7] [0,1,2,3,4,5,6,7] (.cl 23 (eB x121.jG) eY (λ_=>fG) λx146 =>
 .as (x146.length<=1099511627776) inferInstance<|
 .as (x145.length<=1099511627776) inferInstance<|
 .bl (x145++x146:List UInt8) λx150 =>
 .ge 24 2<|
 .kI 32 5<|
 .kB 9 true<|
 .gv 10<|
 .gv 16<|
 .dr [(1,[2]),(2,[2])] [(7,[])] [2] [7] [0,1,2,3,4,5,6,7] (.cl 23 (eB x121.jA) eY (λ_=>fG) λx151 =>
 .as (x151.length<=1099511627776) inferInstance<|
 .as (x150.length<=1099511627776) inferInstance<|
 .bl (x150++x151:List UInt8) λx155 =>
 .ge 24 2<|
 .kI 32 6<|
 .kB 9 true<|
 .gv 10<|
 .gv 16<|
 .dr [(1,[2]),(2,[2])] [(7,[])] [2] [7] [0,1,2,3,4,5,6,7] (.cl 23 (eB x121.iY) eY (λ_=>fG) λx156 =>
 .as (x156.length<=1099511627776) inferInstance<|
 .as (x155.length<=1099511627776) inferInstance<|
 .bl (x155++x156:List UInt8) λx160 =>
 .ge 24 2<|
 .kI 32 7<|
 .kB 9 true<|
 .gv 10<|
 .gv 16<|
 .dr [(1,[2]),(2,[2])] [(7,[])] [2] [7] [0,1,2,3,4,5,6,7] (.cl 23 (eB x121.iU) eY (λ_=>fG) λx161 =>
 .as (x161.length<=1099511627776) inferInstance<|
 .as (x160.length<=1099511627776) inferInstance<|
 .bl (x160++x161:List UInt8) λx165 =>
 .ge 24 2<|
 .kI 32 8<|
 .kB 9 true<|
 .gv 10<|
 .gv 16<|
 .dr [(1,[2]),(2,[2])] [(7,[])] [2] [7] [0,1,2,3,4,5,6,7] (.cl 23 (eB x121.iP) eY (λ_=>fG) λx166 =>
 .as (x166.length<=1099511627776) inferInstance<|
 .as (x165.length<=1099511627776) inferInstance<|
 .bl (x165++x166:List UInt8) λx170 =>
 .ge 24 2<|
 .kI 32 9<|
 .kB 9 true<|
 .gv 10<|
 .gv 16<|
 .dr [(1,[2]),(2,[2])] [(7,[])] [2] [7] [0,1,2,3,4,5,6,7] (.cl 23 (eB x121.iK) eY (λ_=>fG) λx171 =>
 .as (x171.length<=1099511627776) inferInstance<|
 .as (x170.length<=1099511627776) inferInstance<|
 .bl (x170++x171:List UInt8) λx175 =>
 .ge 24 2<|
 .kI 32 10<|
 .kB 9 true<|
 .gv 10<|
 .gv 16<|
 .dr [(1,[2]),(2,[2])] [(7,[])] [2] [7] [0,1,2,3,4,5,6,7] (.cl 23 (eB x121.iI) eY (λ_=>fG) λx176 =>
 .as (x176.length<=1099511627776) inferInstance<|
 .as (x175.length<=1099511627776) inferInstance<|
 .bl (x175++x176:List UInt8) λx180 =>
 .ge 24 2<|
 .kI 32 11<|
 .kB 9 false<|
 .ret (x180:List UInt8))))))))))))))
  (λy40_2 =>
 .ret (y40_2:List UInt8))
noncomputable def IY (n:Nat) (x27:bC) (y27_2:List UInt8):WB (((List UInt8))) :=
 .al 13<|
 .ln 8 gI.av x27.gZ<|
 .jn 0 [] [1,4,6,7,8] [5] (λ_ (a:(List UInt8))=>[]) (λu112 a=>[.kp 2 [[.pt 2 (u112 2) 0 0,.sl 5 (u112 5) 0 a.length,.sc (.pointer none)]],.nw 5 5 1 (cB a)]) (.lp [1,2,3,8] [1,4,6,7,8,13] [5] (λ_ (a:Int×(List UInt8))=>[(9,int a.1)]) (λu115 a=>[.kp 2 [[.pt 2 (u115 2) 0 0,.sl 5 (u115 5) 0 a.2.length,.sc (.pointer none)]],.nw 5 5 1 (cB a.2)]) n ((0:Int),(y27_2:List UInt8)) (pw λy35_1 y35_3 =>
 .bB 10 (decide (y35_1<(x27.gZ.length:Int))) λx120 =>
 .ifs [10] x120 (.dr [(0,[13]),(1,[13])] [(6,[])] [13] [6] [0,1,2,3,4,5,6] (.ix 17 gI.av x27.gZ y35_1 λx121 =>
 .inl 18 aBE Tryz.func130 [1,4,6,7,8,13] [5] (λ_ (a:(List UInt8))=>.aS []) (λu118 a=>[.kp 2 [[.pt 2 (u118 2) 0 0,.sl 5 (u118 5) 0 a.length,.sc (.pointer none)]],.nw 5 5 1 (cB a)]) ( .dr [] [] [] [35] [0,1,2,3,4,5,6,7,8,9,10,11,12,13,14,15,16,17,18,19,20,21,22,23,24,25,26,27,28,29,30,31,32,33,34,35] (.gv 38<|
 .inl 39 qR Tryz.func88 [1,4,6,7,8,13] [5] (λ_ (a:(List UInt8))=>.aS []) (λu120 a=>[.kp 2 [[.pt 2 (u120 2) 0 0,.sl 5 (u120 5) 0 a.length,.sc (.pointer none)]],.nw 5 5 1 (cB a)]) (N5 x121 y35_3) (λy38_2 =>
 .ret (y38_2:List UInt8)))) (λy36_2 =>
 .bI 19 (bM (y35_1+1)) λx181 =>
 .brk ((x181:Int),(y36_2:List UInt8))))) (.esc (.ret (y35_3:List UInt8)))))
  (λy37_2 =>
 .ret (y37_2:List UInt8))
noncomputable def ML (n:Nat) (x189:List UInt8) (x27:bC):WB (((List UInt8))) :=
 .al 15<|
 .ln 8 fI x27.gW<|
 .jn 0 [] [1,4,6,7,8,14] [5] (λ_ (a:(List UInt8))=>[]) (λu136 a=>[.kp 2 [[.pt 2 (u136 2) 0 0,.sl 5 (u136 5) 0 a.length,.sc (.pointer none)]],.nw 5 5 1 (cB a)]) (.lp [1,2,3,8] [1,4,6,7,8,14,15] [5] (λ_ (a:Int×(List UInt8))=>[(9,int a.1)]) (λu139 a=>[.kp 2 [[.pt 2 (u139 2) 0 0,.sl 5 (u139 5) 0 a.2.length,.sc (.pointer none)]],.nw 5 5 1 (cB a.2)]) n ((0:Int),(x189:List UInt8)) (pw λy43_1 y43_3 =>
 .bB 10 (decide (y43_1<(x27.gW.length:Int))) λx193 =>
 .ifs [10] x193 (.dr [(0,[15]),(1,[15])] [(6,[])] [15] [6] [0,1,2,3,4,5,6] (.ix 17 fI x27.gW y43_1 λx194 =>
 .inl 18 KJ Tryz.func128 [1,4,6,7,8,14,15] [5] (λ_ (a:(List UInt8))=>.aS []) (λu142 a=>[.kp 2 [[.pt 2 (u142 2) 0 0,.sl 5 (u142 5) 0 a.length,.sc (.pointer none)]],.nw 5 5 1 (cB a)]) ( .gv 6<|
 .inl 7 qR Tryz.func88 [1,4,6,7,8,14,15] [5] (λ_ (a:(List UInt8))=>.aS []) (λu144 a=>[.kp 2 [[.pt 2 (u144 2) 0 0,.sl 5 (u144 5) 0 a.length,.sc (.pointer none)]],.nw 5 5 1 (cB a)]) ( .jn 1 [] [1,4,6,7,8,14,15] [5] (λ_ (a:(List UInt8))=>[]) (λu145 a=>[.kp 2 [[.pt 2 (u145 2) 0 0,.sl 5 (u145 5) 0 a.length,.sc (.pointer none)]],.nw 5 5 1 (cB a)]) (.un 24 (.kB 9 true<|
 .gv 10<|
 .gv 16<|
 .dr [(1,[2]),(2,[2])] [(7,[])] [2] [7] [0,1,2,3,4,5,6,7] (.cl 23 (eB x194) eY (λ_=>fG) λx199 =>
 .as (x199.length<=1099511627776) inferInstance<|
 .as (y43_3.length<=1099511627776) inferInstance<|
 .bl (y43_3++x199:List UInt8) λx203 =>
 .ge 24 2<|
 .kI 32 1<|
 .kB 9 false<|
 .ret (x203:List UInt8))))
  (λy48_2 =>
 .ret (y48_2:List UInt8))) (λy46_2 =>
 .ret (y46_2:List UInt8))) (λy44_2 =>
 .bI 19 (bM (y43_1+1)) λx204 =>
 .brk ((x204:Int),(y44_2:List UInt8))))) (.esc (.ret (y43_3:List UInt8)))))
  (λy45_2 =>
 .ret (y45_2:List UInt8))
noncomputable def II (n:Nat) (x212:List UInt8) (x27:bC):WB (((List UInt8))) :=
 .al 17<|
 .ln 8 fI x27.Down<|
 .jn 0 [] [1,4,6,7,8,16] [5] (λ_ (a:(List UInt8))=>[]) (λu160 a=>[.kp 2 [[.pt 2 (u160 2) 0 0,.sl 5 (u160 5) 0 a.length,.sc (.pointer none)]],.nw 5 5 1 (cB a)]) (.lp [1,2,3,8] [1,4,6,7,8,16,17] [5] (λ_ (a:Int×(List UInt8))=>[(9,int a.1)]) (λu163 a=>[.kp 2 [[.pt 2 (u163 2) 0 0,.sl 5 (u163 5) 0 a.2.length,.sc (.pointer none)]],.nw 5 5 1 (cB a.2)]) n ((0:Int),(x212:List UInt8)) (pw λy51_1 y51_3 =>
 .bB 10 (decide (y51_1<(x27.Down.length:Int))) λx216 =>
 .ifs [10] x216 (.dr [(0,[17]),(1,[17])] [(6,[])] [17] [6] [0,1,2,3,4,5,6] (.ix 17 fI x27.Down y51_1 λx217 =>
 .inl 18 KJ Tryz.func128 [1,4,6,7,8,16,17] [5] (λ_ (a:(List UInt8))=>.aS []) (λu166 a=>[.kp 2 [[.pt 2 (u166 2) 0 0,.sl 5 (u166 5) 0 a.length,.sc (.pointer none)]],.nw 5 5 1 (cB a)]) ( .gv 6<|
 .inl 7 qR Tryz.func88 [1,4,6,7,8,16,17] [5] (λ_ (a:(List UInt8))=>.aS []) (λu168 a=>[.kp 2 [[.pt 2 (u168 2) 0 0,.sl 5 (u168 5) 0 a.length,.sc (.pointer none)]],.nw 5 5 1 (cB a)]) ( .jn 1 [] [1,4,6,7,8,16,17] [5] (λ_ (a:(List UInt8))=>[]) (λu169 a=>[.kp 2 [[.pt 2 (u169 2) 0 0,.sl 5 (u169 5) 0 a.length,.sc (.pointer none)]],.nw 5 5 1 (cB a)]) (.un 24 (.kB 9 true<|
 .gv 10<|
 .gv 16<|
 .dr [(1,[2]),(2,[2])] [(7,[])] [2] [7] [0,1,2,3,4,5,6,7] (.cl 23 (eB x217) eY (λ_=>fG) λx222 =>
 .as (x222.length<=1099511627776) inferInstance<|
 .as (y51_3.length<=1099511627776) inferInstance<|
 .bl (y51_3++x222:List UInt8) λx226 =>
 .ge 24 2<|
 .kI 32 1<|
 .kB 9 false<|
 .ret (x226:List UInt8))))
  (λy56_2 =>
 .ret (y56_2:List UInt8))) (λy54_2 =>
 .ret (y54_2:List UInt8))) (λy52_2 =>
 .bI 19 (bM (y51_1+1)) λx227 =>
 .brk ((x227:Int),(y52_2:List UInt8))))) (.esc (.ret (y51_3:List UInt8)))))
  (λy53_2 =>
 .ret (y53_2:List UInt8))
noncomputable def JU (n:Nat) (a1:bD) (x27:bC) (y5_3:List UInt8):WB (((List UInt8))) :=
 .gv 10<|
 .gv 24<|
 .inl 25 qR Tryz.func88 [1,4,6,7,8] [5] (λ_ (a:(List UInt8))=>.aS []) (λu28 a=>[.kp 2 [[.pt 2 (u28 2) 0 0,.sl 5 (u28 5) 0 a.length,.sc (.pointer none)]],.nw 5 5 1 (cB a)]) ( .jn 1 [] [1,4,6,7,8] [5] (λ_ (a:(List UInt8))=>[]) (λu29 a=>[.kp 2 [[.pt 2 (u29 2) 0 0,.sl 5 (u29 5) 0 a.length,.sc (.pointer none)]],.nw 5 5 1 (cB a)]) (.un 24 (.kB 9 true<|
 .gv 10<|
 .gv 16<|
 .dr [(1,[2]),(2,[2])] [(7,[])] [2] [7] [0,1,2,3,4,5,6,7] (.cl 23 (eB x27.l5) eY (λ_=>fG) λx32 =>
 .as (x32.length<=1099511627776) inferInstance<|
 .as (y5_3.length<=1099511627776) inferInstance<|
 .bl (y5_3++x32:List UInt8) λx36 =>
 .ge 24 2<|
 .kI 32 1<|
 .kB 9 false<|
 .ret (x36:List UInt8))))
  (λy10_2 =>
 .ret (y10_2:List UInt8))) (λy8_2 =>
 .inl 30 QZ Tryz.func125 [1,4,6,7,8] [5] (λ_ (a:(List UInt8))=>.aS []) (λu31 a=>[.kp 2 [[.pt 2 (u31 2) 0 0,.sl 5 (u31 5) 0 a.length,.sc (.pointer none)]],.nw 5 5 1 (cB a)]) ( .wt 7 <|.az [7] x27.Closed (.gv 12<|
 .dr [(1,[2]),(2,[2])] [(5,[])] [2] [5] [0,1,2,3,4,5] (.cl 17 (eB 0) eY (λ_=>fG) λx39 =>
 .as (x39.length<=1099511627776) inferInstance<|
 .as (y8_2.length<=1099511627776) inferInstance<|
 .bl (y8_2++x39:List UInt8) λx43 =>
 .ge 18 2<|
 .ret (x43:List UInt8)))) (λy11_2 =>
 .inl 37 aFF Tryz.func127 [1,4,6,7,8] [5] (λ_ (a:(List UInt8))=>.aS []) (λu33 a=>[.kp 2 [[.pt 2 (u33 2) 0 0,.sl 5 (u33 5) 0 a.length,.sc (.pointer none)]],.nw 5 5 1 (cB a)]) ( .al 9<|
 .ln 8 dK.av x27.iF<|
 .jn 0 [] [1,4,6,7,8] [5] (λ_ (a:(List UInt8))=>[]) (λu44 a=>[.kp 2 [[.pt 2 (u44 2) 0 0,.sl 5 (u44 5) 0 a.length,.sc (.pointer none)]],.nw 5 5 1 (cB a)]) (.lp [1,2,3,8] [1,4,6,7,8,9] [5] (λ_ (a:Int×(List UInt8))=>[(9,int a.1)]) (λu47 a=>[.kp 2 [[.pt 2 (u47 2) 0 0,.sl 5 (u47 5) 0 a.2.length,.sc (.pointer none)]],.nw 5 5 1 (cB a.2)]) n ((0:Int),(y11_2:List UInt8)) (pw λy13_1 y13_3 =>
 .bB 10 (decide (y13_1<(x27.iF.length:Int))) λx47 =>
 .ifs [10] x47 (.dr [(0,[9]),(1,[9])] [(6,[])] [9] [6] [0,1,2,3,4,5,6] (.ix 17 dK.av x27.iF y13_1 λx48 =>
 .inl 18 aN8 Tryz.func126 [1,4,6,7,8,9] [5] (λ_ (a:(List UInt8))=>.aS []) (λu50 a=>[.kp 2 [[.pt 2 (u50 2) 0 0,.sl 5 (u50 5) 0 a.length,.sc (.pointer none)]],.nw 5 5 1 (cB a)]) (NL n a1 x48 y13_3) (λy14_2 =>
 .bI 19 (bM (y13_1+1)) λx101 =>
 .brk ((x101:Int),(y14_2:List UInt8))))) (.esc (.ret (y13_3:List UInt8)))))
  (λy15_2 =>
 .ret (y15_2:List UInt8))) (λy12_2 =>
 .inl 44 IJ Tryz.func129 [1,4,6,7,8] [5] (λ_ (a:(List UInt8))=>.aS []) (λu79 a=>[.kp 2 [[.pt 2 (u79 2) 0 0,.sl 5 (u79 5) 0 a.length,.sc (.pointer none)]],.nw 5 5 1 (cB a)]) (IM n x27 y12_2) (λy27_2 =>
 .inl 51 aML Tryz.func131 [1,4,6,7,8] [5] (λ_ (a:(List UInt8))=>.aS []) (λu101 a=>[.kp 2 [[.pt 2 (u101 2) 0 0,.sl 5 (u101 5) 0 a.length,.sc (.pointer none)]],.nw 5 5 1 (cB a)]) (IY n x27 y27_2) (λy34_2 =>
 .inl 57 UK Tryz.func132 [1,4,6,7,8] [5] (λ_ (a:(List UInt8))=>.aS []) (λu123 a=>[.kp 2 [[.pt 2 (u123 2) 0 0,.sl 5 (u123 5) 0 a.length,.sc (.pointer none)]],.nw 5 5 1 (cB a)]) ( .al 14<|
 .gv 12<|
 .dr [(1,[2]),(2,[2])] [(8,[])] [2] [8] [0,1,2,3,4,5,6,7,8] (.ln 19 fI x27.gW<|
 .cl 20 (eB (x27.gW.length:Int)) eY (λ_=>fG) λx185 =>
 .as (x185.length<=1099511627776) inferInstance<|
 .as (y34_2.length<=1099511627776) inferInstance<|
 .bl (y34_2++x185:List UInt8) λx189 =>
 .ge 21 2<|
 .dr [(0,[14])] [(5,[])] [14] [5] [0,1,2,3,4,5] (.inl 36 IJ Tryz.func129 [1,4,6,7,8,14] [5] (λ_ (a:(List UInt8))=>.aS []) (λu125 a=>[.kp 2 [[.pt 2 (u125 2) 0 0,.sl 5 (u125 5) 0 a.length,.sc (.pointer none)]],.nw 5 5 1 (cB a)]) (ML n x189 x27) (λy42_2 =>
 .gv 41<|
 .ret (y42_2:List UInt8))))) (λy41_2 =>
 .inl 63 UK Tryz.func132 [1,4,6,7,8] [5] (λ_ (a:(List UInt8))=>.aS []) (λu147 a=>[.kp 2 [[.pt 2 (u147 2) 0 0,.sl 5 (u147 5) 0 a.length,.sc (.pointer none)]],.nw 5 5 1 (cB a)]) ( .al 16<|
 .gv 12<|
 .dr [(1,[2]),(2,[2])] [(8,[])] [2] [8] [0,1,2,3,4,5,6,7,8] (.ln 19 fI x27.Down<|
 .cl 20 (eB (x27.Down.length:Int)) eY (λ_=>fG) λx208 =>
 .as (x208.length<=1099511627776) inferInstance<|
 .as (y41_2.length<=1099511627776) inferInstance<|
 .bl (y41_2++x208:List UInt8) λx212 =>
 .ge 21 2<|
 .dr [(0,[16])] [(5,[])] [16] [5] [0,1,2,3,4,5] (.inl 36 IJ Tryz.func129 [1,4,6,7,8,16] [5] (λ_ (a:(List UInt8))=>.aS []) (λu149 a=>[.kp 2 [[.pt 2 (u149 2) 0 0,.sl 5 (u149 5) 0 a.length,.sc (.pointer none)]],.nw 5 5 1 (cB a)]) (II n x212 x27) (λy50_2 =>
 .gv 41<|
 .ret (y50_2:List UInt8))))) (λy49_2 =>
 .dr [(0,[6]),(7,[7])] [(1,[7]),(8,[])] [6,7] [1,8] [0,3,4,5,6,7,1,2,8] (.inl 65 YJ Tryz.func80 [1,2,4,5,6,7,8] [18,19] (λu172 (a:Unit)=>.fn (.func 124) [] [.pt 18 (u172 18) 0 0,.pt 19 (u172 19) 0 0]) (λ_ _=>[.nw 18 3 1 [[int (a1.dR.dH.length:Int)]],.nw 19 3 1 [[int 0]]]) ( .al 18<|
 .al 19<|
 .ret ()) (λ_ =>
 .inl 72 aKR Tryz.func133 [1,4,6,7,8,18,19] [5] (λ_ (a:(List UInt8))=>.aS []) (λu173 a=>[.kp 2 [[.pt 2 (u173 2) 0 0,.sl 5 (u173 5) 0 a.length,.sc (.pointer none)]],.nw 5 5 1 (cB a)]) ( .al 20<|
 .gv 12<|
 .dr [(1,[2]),(2,[2])] [(8,[])] [2] [8] [0,1,2,3,4,5,6,7,8] (.ln 19 bC.av x27.iX<|
 .cl 20 (eB (x27.iX.length:Int)) eY (λ_=>fG) λx233 =>
 .as (x233.length<=1099511627776) inferInstance<|
 .as (y49_2.length<=1099511627776) inferInstance<|
 .bl (y49_2++x233:List UInt8) λx237 =>
 .ge 21 2<|
 .dr [(0,[20])] [(5,[])] [20] [5] [0,1,2,3,4,5] (.inl 36 R7 Tryz.func81 [1,4,6,7,8,18,19,20] [5] (λ_ (a:(List UInt8))=>.aS []) (λu175 a=>[.kp 2 [[.pt 2 (u175 2) 0 0,.sl 5 (u175 5) 0 a.length,.sc (.pointer none)]],.nw 5 5 1 (cB a)]) ( .al 21<|
 .ln 8 bC.av x27.iX<|
 .jn 0 [] [1,2,4,5,6,7,8,18,19,20] [] (λ_ (a:Unit)=>[]) (λ_ _=>[]) (.lp [1,2,3,8,9] [1,2,4,5,6,7,8,18,19,20,21] [] (λ_ (a:Unit)=>[]) (λ_ _=>[]) n () (λ_ =>
 .bB 10 (decide (0<(x27.iX.length:Int))) λx241 =>
 .az [10] x241 (.esc (.ret ()))))
  (λ_ =>
 .ret (x237:List UInt8))) (λy59_2 =>
 .gv 41<|
 .ret (y59_2:List UInt8))))) (λy58_2 =>
 .ret (y58_2:List UInt8)))))))))))
noncomputable def L3 (n:Nat) (a1:bD) (x16:(List UInt8)):WB (((List UInt8))) :=
 .al 8<|
 .ln 8 bC.av a1.dX<|
 .jn 0 [] [1,4,6,7] [5] (λ_ (a:(List UInt8))=>[]) (λu20 a=>[.kp 2 [[.pt 2 (u20 2) 0 0,.sl 5 (u20 5) 0 a.length,.sc (.pointer none)]],.nw 5 5 1 (cB a)]) (.lp [1,2,3,8] [1,4,6,7,8] [5] (λ_ (a:Int×(List UInt8))=>[(9,int a.1)]) (λu23 a=>[.kp 2 [[.pt 2 (u23 2) 0 0,.sl 5 (u23 5) 0 a.2.length,.sc (.pointer none)]],.nw 5 5 1 (cB a.2)]) n ((0:Int),(x16:List UInt8)) (pw λy5_1 y5_3 =>
 .bB 10 (decide (y5_1<(a1.dX.length:Int))) λx26 =>
 .ifs [10] x26 (.dr [(0,[8]),(1,[8])] [(6,[])] [8] [6] [0,1,2,3,4,5,6] (.oC 17 bC.av (λx=>[int x.l5,aB x.Closed,aG 4 dK.av x.iF,aG 1 fI x.jJ,aG 11 gI.av x.gZ,aG 1 fI x.gW,aG 1 fI x.Down,aG 8 bC.av x.iX]) bC.gU a1.dX y5_1 λx27 =>
 .inl 18 ZP Tryz.func124 [1,4,6,7,8] [5] (λ_ (a:(List UInt8))=>.aS []) (λu26 a=>[.kp 2 [[.pt 2 (u26 2) 0 0,.sl 5 (u26 5) 0 a.length,.sc (.pointer none)]],.nw 5 5 1 (cB a)]) (JU n a1 x27 y5_3) (λy6_2 =>
 .bI 19 (bM (y5_1+1)) λx242 =>
 .brk ((x242:Int),(y6_2:List UInt8))))) (.esc (.ret (y5_3:List UInt8)))))
  (λy7_2 =>
 .ret (y7_2:List UInt8))
noncomputable def aBP (x255:iJ) (y64_3:List UInt8):WB (((List UInt8))) :=
 .jn 1 [] [1,4,6,7,22,23] [5] (λ_ (a:(List UInt8))=>[]) (λu202 a=>[.kp 2 [[.pt 2 (u202 2) 0 0,.sl 5 (u202 5) 0 a.length,.sc (.pointer none)]],.nw 5 5 1 (cB a)]) (.un 24 (.kB 9 true<|
 .gv 10<|
 .gv 16<|
 .dr [(1,[2]),(2,[2])] [(7,[])] [2] [7] [0,1,2,3,4,5,6,7] (.cl 23 (eB x255.uD) eY (λ_=>fG) λx260 =>
 .as (x260.length<=1099511627776) inferInstance<|
 .as (y64_3.length<=1099511627776) inferInstance<|
 .bl (y64_3++x260:List UInt8) λx264 =>
 .ge 24 2<|
 .kI 32 1<|
 .kB 9 true<|
 .gv 10<|
 .gv 16<|
 .dr [(1,[2]),(2,[2])] [(7,[])] [2] [7] [0,1,2,3,4,5,6,7] (.cl 23 (eB x255.Item) eY (λ_=>fG) λx265 =>
 .as (x265.length<=1099511627776) inferInstance<|
 .as (x264.length<=1099511627776) inferInstance<|
 .bl (x264++x265:List UInt8) λx269 =>
 .ge 24 2<|
 .kI 32 2<|
 .kB 9 true<|
 .gv 10<|
 .gv 16<|
 .dr [(1,[2]),(2,[2])] [(7,[])] [2] [7] [0,1,2,3,4,5,6,7] (.cl 23 (eB x255.Loc) eY (λ_=>fG) λx270 =>
 .as (x270.length<=1099511627776) inferInstance<|
 .as (x269.length<=1099511627776) inferInstance<|
 .bl (x269++x270:List UInt8) λx274 =>
 .ge 24 2<|
 .kI 32 3<|
 .kB 9 true<|
 .gv 10<|
 .gv 16<|
 .dr [(1,[2]),(2,[2])] [(7,[])] [2] [7] [0,1,2,3,4,5,6,7] (.cl 23 (eB x255.aM) eY (λ_=>fG) λx275 =>
 .as (x275.length<=1099511627776) inferInstance<|
 .as (x274.length<=1099511627776) inferInstance<|
 .bl (x274++x275:List UInt8) λx279 =>
 .ge 24 2<|
 .kI 32 4<|
 .kB 9 true<|
 .gv 10<|
 .gv 16<|
 .dr [(1,[2]),(2,[2])] [(7,[])] [2] [7] [0,1,2,3,4,5,6,7] (.cl 23 (eB x255.Value) eY (λ_=>fG) λx280 =>
 .as (x280.length<=1099511627776) inferInstance<|
 .as (x279.length<=1099511627776) inferInstance<|
 .bl (x279++x280:List UInt8) λx284 =>
 .ge 24 2<|
 .kI 32 5<|
 .kB 9 true<|
 .gv 10<|
 .gv 16<|
 .dr [(1,[2]),(2,[2])] [(7,[])] [2] [7] [0,1,2,3,4,5,6,7] (.cl 23 (eB x255.Open) eY (λ_=>fG) λx285 =>
 .as (x285.length<=1099511627776) inferInstance<|
 .as (x284.length<=1099511627776) inferInstance<|
 .bl (x284++x285:List UInt8) λx289 =>
 .ge 24 2<|
 .kI 32 6<|
 .kB 9 true<|
 .gv 10<|
 .gv 16<|
 .dr [(1,[2]),(2,[2])] [(7,[])] [2] [7] [0,1,2,3,4,5,6,7] (.cl 23 (eB x255.qV) eY (λ_=>fG) λx290 =>
 .as (x290.length<=1099511627776) inferInstance<|
 .as (x289.length<=1099511627776) inferInstance<|
 .bl (x289++x290:List UInt8) λx294 =>
 .ge 24 2<|
 .kI 32 7<|
 .kB 9 true<|
 .gv 10<|
 .gv 16<|
 .dr [(1,[2]),(2,[2])] [(7,[])] [2] [7] [0,1,2,3,4,5,6,7] (.cl 23 (eB x255.lZ) eY (λ_=>fG) λx295 =>
 .as (x295.length<=1099511627776) inferInstance<|
 .as (x294.length<=1099511627776) inferInstance<|
 .bl (x294++x295:List UInt8) λx299 =>
 .ge 24 2<|
 .kI 32 8<|
 .kB 9 false<|
 .ret (x299:List UInt8)))))))))))
  (λy69_2 =>
 .ret (y69_2:List UInt8))
noncomputable def NJ (n:Nat) (a1:bD) (x250:List UInt8):WB (((List UInt8))) :=
 .al 23<|
 .ln 8 iJ.av a1.iO<|
 .jn 0 [] [1,4,6,7,22] [5] (λ_ (a:(List UInt8))=>[]) (λu193 a=>[.kp 2 [[.pt 2 (u193 2) 0 0,.sl 5 (u193 5) 0 a.length,.sc (.pointer none)]],.nw 5 5 1 (cB a)]) (.lp [1,2,3,8] [1,4,6,7,22,23] [5] (λ_ (a:Int×(List UInt8))=>[(9,int a.1)]) (λu196 a=>[.kp 2 [[.pt 2 (u196 2) 0 0,.sl 5 (u196 5) 0 a.2.length,.sc (.pointer none)]],.nw 5 5 1 (cB a.2)]) n ((0:Int),(x250:List UInt8)) (pw λy64_1 y64_3 =>
 .bB 10 (decide (y64_1<(a1.iO.length:Int))) λx254 =>
 .ifs [10] x254 (.dr [(0,[23]),(1,[23])] [(6,[])] [23] [6] [0,1,2,3,4,5,6] (.ix 17 iJ.av a1.iO y64_1 λx255 =>
 .inl 18 aNS Tryz.func82 [1,4,6,7,22,23] [5] (λ_ (a:(List UInt8))=>.aS []) (λu199 a=>[.kp 2 [[.pt 2 (u199 2) 0 0,.sl 5 (u199 5) 0 a.length,.sc (.pointer none)]],.nw 5 5 1 (cB a)]) ( .dr [] [] [] [26] [0,1,2,3,4,5,6,7,8,9,10,11,12,13,14,15,16,17,18,19,20,21,22,23,24,25,26] (.gv 29<|
 .inl 30 qR Tryz.func88 [1,4,6,7,22,23] [5] (λ_ (a:(List UInt8))=>.aS []) (λu201 a=>[.kp 2 [[.pt 2 (u201 2) 0 0,.sl 5 (u201 5) 0 a.length,.sc (.pointer none)]],.nw 5 5 1 (cB a)]) (aBP x255 y64_3) (λy67_2 =>
 .ret (y67_2:List UInt8)))) (λy65_2 =>
 .bI 19 (bM (y64_1+1)) λx300 =>
 .brk ((x300:Int),(y65_2:List UInt8))))) (.esc (.ret (y64_3:List UInt8)))))
  (λy66_2 =>
 .ret (y66_2:List UInt8))
noncomputable def aJF (x313:mG) (y72_3:List UInt8):WB (((List UInt8))) :=
 .jn 1 [] [1,4,6,7,24,25] [5] (λ_ (a:(List UInt8))=>[]) (λu226 a=>[.kp 2 [[.pt 2 (u226 2) 0 0,.sl 5 (u226 5) 0 a.length,.sc (.pointer none)]],.nw 5 5 1 (cB a)]) (.un 24 (.kB 9 true<|
 .gv 10<|
 .gv 16<|
 .dr [(1,[2]),(2,[2])] [(7,[])] [2] [7] [0,1,2,3,4,5,6,7] (.cl 23 (eB x313.uD) eY (λ_=>fG) λx318 =>
 .as (x318.length<=1099511627776) inferInstance<|
 .as (y72_3.length<=1099511627776) inferInstance<|
 .bl (y72_3++x318:List UInt8) λx322 =>
 .ge 24 2<|
 .kI 32 1<|
 .kB 9 true<|
 .gv 10<|
 .gv 16<|
 .dr [(1,[2]),(2,[2])] [(7,[])] [2] [7] [0,1,2,3,4,5,6,7] (.cl 23 (eB x313.Item) eY (λ_=>fG) λx323 =>
 .as (x323.length<=1099511627776) inferInstance<|
 .as (x322.length<=1099511627776) inferInstance<|
 .bl (x322++x323:List UInt8) λx327 =>
 .ge 24 2<|
 .kI 32 2<|
 .kB 9 true<|
 .gv 10<|
 .gv 16<|
 .dr [(1,[2]),(2,[2])] [(7,[])] [2] [7] [0,1,2,3,4,5,6,7] (.cl 23 (eB x313.Loc) eY (λ_=>fG) λx328 =>
 .as (x328.length<=1099511627776) inferInstance<|
 .as (x327.length<=1099511627776) inferInstance<|
 .bl (x327++x328:List UInt8) λx332 =>
 .ge 24 2<|
 .kI 32 3<|
 .kB 9 true<|
 .gv 10<|
 .gv 16<|
 .dr [(1,[2]),(2,[2])] [(7,[])] [2] [7] [0,1,2,3,4,5,6,7] (.cl 23 (eB x313.aM) eY (λ_=>fG) λx333 =>
 .as (x333.length<=1099511627776) inferInstance<|
 .as (x332.length<=1099511627776) inferInstance<|
 .bl (x332++x333:List UInt8) λx337 =>
 .ge 24 2<|
 .kI 32 4<|
 .kB 9 true<|
 .gv 10<|
 .gv 16<|
 .dr [(1,[2]),(2,[2])] [(7,[])] [2] [7] [0,1,2,3,4,5,6,7] (.cl 23 (eB x313.lZ) eY (λ_=>fG) λx338 =>
 .as (x338.length<=1099511627776) inferInstance<|
 .as (x337.length<=1099511627776) inferInstance<|
 .bl (x337++x338:List UInt8) λx342 =>
 .ge 24 2<|
 .kI 32 5<|
 .kB 9 true<|
 .gv 10<|
 .gv 16<|
 .dr [(1,[2]),(2,[2])] [(7,[])] [2] [7] [0,1,2,3,4,5,6,7] (.cl 23 (eB x313.sM) eY (λ_=>fG) λx343 =>
 .as (x343.length<=1099511627776) inferInstance<|
 .as (x342.length<=1099511627776) inferInstance<|
 .bl (x342++x343:List UInt8) λx347 =>
 .ge 24 2<|
 .kI 32 6<|
 .kB 9 true<|
 .gv 10<|
 .gv 16<|
 .dr [(1,[2]),(2,[2])] [(7,[])] [2] [7] [0,1,2,3,4,5,6,7] (.cl 23 (eB x313.gG) eY (λ_=>fG) λx348 =>
 .as (x348.length<=1099511627776) inferInstance<|
 .as (x347.length<=1099511627776) inferInstance<|
 .bl (x347++x348:List UInt8) λx352 =>
 .ge 24 2<|
 .kI 32 7<|
 .kB 9 true<|
 .gv 10<|
 .gv 16<|
 .dr [(1,[2]),(2,[2])] [(7,[])] [2] [7] [0,1,2,3,4,5,6,7] (.cl 23 (eB x313.qU) eY (λ_=>fG) λx353 =>
 .as (x353.length<=1099511627776) inferInstance<|
 .as (x352.length<=1099511627776) inferInstance<|
 .bl (x352++x353:List UInt8) λx357 =>
 .ge 24 2<|
 .kI 32 8<|
 .kB 9 false<|
 .ret (x357:List UInt8)))))))))))
  (λy77_2 =>
 .ret (y77_2:List UInt8))
noncomputable def NI (n:Nat) (a1:bD) (x308:List UInt8):WB (((List UInt8))) :=
 .al 25<|
 .ln 8 mG.av a1.jH<|
 .jn 0 [] [1,4,6,7,24] [5] (λ_ (a:(List UInt8))=>[]) (λu217 a=>[.kp 2 [[.pt 2 (u217 2) 0 0,.sl 5 (u217 5) 0 a.length,.sc (.pointer none)]],.nw 5 5 1 (cB a)]) (.lp [1,2,3,8] [1,4,6,7,24,25] [5] (λ_ (a:Int×(List UInt8))=>[(9,int a.1)]) (λu220 a=>[.kp 2 [[.pt 2 (u220 2) 0 0,.sl 5 (u220 5) 0 a.2.length,.sc (.pointer none)]],.nw 5 5 1 (cB a.2)]) n ((0:Int),(x308:List UInt8)) (pw λy72_1 y72_3 =>
 .bB 10 (decide (y72_1<(a1.jH.length:Int))) λx312 =>
 .ifs [10] x312 (.dr [(0,[25]),(1,[25])] [(6,[])] [25] [6] [0,1,2,3,4,5,6] (.ix 17 mG.av a1.jH y72_1 λx313 =>
 .inl 18 aLV Tryz.func84 [1,4,6,7,24,25] [5] (λ_ (a:(List UInt8))=>.aS []) (λu223 a=>[.kp 2 [[.pt 2 (u223 2) 0 0,.sl 5 (u223 5) 0 a.length,.sc (.pointer none)]],.nw 5 5 1 (cB a)]) ( .dr [] [] [] [26] [0,1,2,3,4,5,6,7,8,9,10,11,12,13,14,15,16,17,18,19,20,21,22,23,24,25,26] (.gv 29<|
 .inl 30 qR Tryz.func88 [1,4,6,7,24,25] [5] (λ_ (a:(List UInt8))=>.aS []) (λu225 a=>[.kp 2 [[.pt 2 (u225 2) 0 0,.sl 5 (u225 5) 0 a.length,.sc (.pointer none)]],.nw 5 5 1 (cB a)]) (aJF x313 y72_3) (λy75_2 =>
 .inl 35 QZ Tryz.func125 [1,4,6,7,24,25] [5] (λ_ (a:(List UInt8))=>.aS []) (λu228 a=>[.kp 2 [[.pt 2 (u228 2) 0 0,.sl 5 (u228 5) 0 a.length,.sc (.pointer none)]],.nw 5 5 1 (cB a)]) ( .wt 7 <|.az [7] x313.rX (.gv 12<|
 .dr [(1,[2]),(2,[2])] [(5,[])] [2] [5] [0,1,2,3,4,5] (.cl 17 (eB 0) eY (λ_=>fG) λx360 =>
 .as (x360.length<=1099511627776) inferInstance<|
 .as (y75_2.length<=1099511627776) inferInstance<|
 .bl (y75_2++x360:List UInt8) λx364 =>
 .ge 18 2<|
 .ret (x364:List UInt8)))) (λy78_2 =>
 .ret (y78_2:List UInt8))))) (λy73_2 =>
 .bI 19 (bM (y72_1+1)) λx365 =>
 .brk ((x365:Int),(y73_2:List UInt8))))) (.esc (.ret (y72_3:List UInt8)))))
  (λy74_2 =>
 .ret (y74_2:List UInt8))
noncomputable def aCG (x378:mO) (y81_3:List UInt8):WB (((List UInt8))) :=
 .jn 1 [] [1,4,6,7,26,27] [5] (λ_ (a:(List UInt8))=>[]) (λu252 a=>[.kp 2 [[.pt 2 (u252 2) 0 0,.sl 5 (u252 5) 0 a.length,.sc (.pointer none)]],.nw 5 5 1 (cB a)]) (.un 24 (.kB 9 true<|
 .gv 10<|
 .gv 16<|
 .dr [(1,[2]),(2,[2])] [(7,[])] [2] [7] [0,1,2,3,4,5,6,7] (.cl 23 (eB x378.D4) eY (λ_=>fG) λx383 =>
 .as (x383.length<=1099511627776) inferInstance<|
 .as (y81_3.length<=1099511627776) inferInstance<|
 .bl (y81_3++x383:List UInt8) λx387 =>
 .ge 24 2<|
 .kI 32 1<|
 .kB 9 true<|
 .gv 10<|
 .gv 16<|
 .dr [(1,[2]),(2,[2])] [(7,[])] [2] [7] [0,1,2,3,4,5,6,7] (.cl 23 (eB x378.To) eY (λ_=>fG) λx388 =>
 .as (x388.length<=1099511627776) inferInstance<|
 .as (x387.length<=1099511627776) inferInstance<|
 .bl (x387++x388:List UInt8) λx392 =>
 .ge 24 2<|
 .kI 32 2<|
 .kB 9 true<|
 .gv 10<|
 .gv 16<|
 .dr [(1,[2]),(2,[2])] [(7,[])] [2] [7] [0,1,2,3,4,5,6,7] (.cl 23 (eB x378.Item) eY (λ_=>fG) λx393 =>
 .as (x393.length<=1099511627776) inferInstance<|
 .as (x392.length<=1099511627776) inferInstance<|
 .bl (x392++x393:List UInt8) λx397 =>
 .ge 24 2<|
 .kI 32 3<|
 .kB 9 true<|
 .gv 10<|
 .gv 16<|
 .dr [(1,[2]),(2,[2])] [(7,[])] [2] [7] [0,1,2,3,4,5,6,7] (.cl 23 (eB x378.aM) eY (λ_=>fG) λx398 =>
 .as (x398.length<=1099511627776) inferInstance<|
 .as (x397.length<=1099511627776) inferInstance<|
 .bl (x397++x398:List UInt8) λx402 =>
 .ge 24 2<|
 .kI 32 4<|
 .kB 9 true<|
 .gv 10<|
 .gv 16<|
 .dr [(1,[2]),(2,[2])] [(7,[])] [2] [7] [0,1,2,3,4,5,6,7] (.cl 23 (eB x378.Value) eY (λ_=>fG) λx403 =>
 .as (x403.length<=1099511627776) inferInstance<|
 .as (x402.length<=1099511627776) inferInstance<|
 .bl (x402++x403:List UInt8) λx407 =>
 .ge 24 2<|
 .kI 32 5<|
 .kB 9 true<|
 .gv 10<|
 .gv 16<|
 .dr [(1,[2]),(2,[2])] [(7,[])] [2] [7] [0,1,2,3,4,5,6,7] (.cl 23 (eB x378.gG) eY (λ_=>fG) λx408 =>
 .as (x408.length<=1099511627776) inferInstance<|
 .as (x407.length<=1099511627776) inferInstance<|
 .bl (x407++x408:List UInt8) λx412 =>
 .ge 24 2<|
 .kI 32 6<|
 .kB 9 false<|
 .ret (x412:List UInt8)))))))))
  (λy86_2 =>
 .ret (y86_2:List UInt8))
noncomputable def LV (n:Nat) (a1:bD) (x373:List UInt8):WB (((List UInt8))) :=
 .al 27<|
 .ln 8 mO.av a1.jQ<|
 .jn 0 [] [1,4,6,7,26] [5] (λ_ (a:(List UInt8))=>[]) (λu243 a=>[.kp 2 [[.pt 2 (u243 2) 0 0,.sl 5 (u243 5) 0 a.length,.sc (.pointer none)]],.nw 5 5 1 (cB a)]) (.lp [1,2,3,8] [1,4,6,7,26,27] [5] (λ_ (a:Int×(List UInt8))=>[(9,int a.1)]) (λu246 a=>[.kp 2 [[.pt 2 (u246 2) 0 0,.sl 5 (u246 5) 0 a.2.length,.sc (.pointer none)]],.nw 5 5 1 (cB a.2)]) n ((0:Int),(x373:List UInt8)) (pw λy81_1 y81_3 =>
 .bB 10 (decide (y81_1<(a1.jQ.length:Int))) λx377 =>
 .ifs [10] x377 (.dr [(0,[27]),(1,[27])] [(6,[])] [27] [6] [0,1,2,3,4,5,6] (.ix 17 mO.av a1.jQ y81_1 λx378 =>
 .inl 18 aM3 Tryz.func86 [1,4,6,7,26,27] [5] (λ_ (a:(List UInt8))=>.aS []) (λu249 a=>[.kp 2 [[.pt 2 (u249 2) 0 0,.sl 5 (u249 5) 0 a.length,.sc (.pointer none)]],.nw 5 5 1 (cB a)]) ( .dr [] [] [] [20] [0,1,2,3,4,5,6,7,8,9,10,11,12,13,14,15,16,17,18,19,20] (.gv 23<|
 .inl 24 qR Tryz.func88 [1,4,6,7,26,27] [5] (λ_ (a:(List UInt8))=>.aS []) (λu251 a=>[.kp 2 [[.pt 2 (u251 2) 0 0,.sl 5 (u251 5) 0 a.length,.sc (.pointer none)]],.nw 5 5 1 (cB a)]) (aCG x378 y81_3) (λy84_2 =>
 .ret (y84_2:List UInt8)))) (λy82_2 =>
 .bI 19 (bM (y81_1+1)) λx413 =>
 .brk ((x413:Int),(y82_2:List UInt8))))) (.esc (.ret (y81_3:List UInt8)))))
  (λy83_2 =>
 .ret (y83_2:List UInt8))
noncomputable def M3 (n:Nat) (a1:bD) (x16:(List UInt8)):WB (((List UInt8))) :=
 .dr [(1,[1]),(2,[1]),(3,[1]),(4,[1]),(10,[1]),(11,[1]),(12,[1])] [(13,[])] [1] [6,13] [0,1,2,3,4,5,8,9,10,11,12,6,7,13] (.ln 9 fI a1.dR.dH<|
 .inl 10 YJ Tryz.func80 [1,2,4,5] [6,7] (λu8 (a:Unit)=>.fn (.func 124) [] [.pt 6 (u8 6) 0 0,.pt 7 (u8 7) 0 0]) (λ_ _=>[.nw 6 3 1 [[int (a1.dR.dH.length:Int)]],.nw 7 3 1 [[int 1]]]) ( .al 6<|
 .al 7<|
 .ret ()) (λ_ =>
 .inl 17 R7 Tryz.func81 [1,4,6,7] [5] (λ_ (a:(List UInt8))=>.aS []) (λu9 a=>[.kp 2 [[.pt 2 (u9 2) 0 0,.sl 5 (u9 5) 0 a.length,.sc (.pointer none)]],.nw 5 5 1 (cB a)]) (L3 n a1 x16) (λy4_2 =>
 .inl 23 aDI Tryz.func83 [1,4,6,7] [5] (λ_ (a:(List UInt8))=>.aS []) (λu180 a=>[.kp 2 [[.pt 2 (u180 2) 0 0,.sl 5 (u180 5) 0 a.length,.sc (.pointer none)]],.nw 5 5 1 (cB a)]) ( .al 22<|
 .gv 12<|
 .dr [(1,[2]),(2,[2]),(4,[1]),(5,[1])] [(8,[])] [1,2] [8] [0,1,2,3,4,5,6,7,8] (.ln 19 iJ.av a1.iO<|
 .cl 20 (eB (a1.iO.length:Int)) eY (λ_=>fG) λx246 =>
 .as (x246.length<=1099511627776) inferInstance<|
 .as (y4_2.length<=1099511627776) inferInstance<|
 .bl (y4_2++x246:List UInt8) λx250 =>
 .ge 21 2<|
 .dr [(0,[22]),(3,[1]),(4,[1])] [(5,[])] [1,22] [5] [0,1,2,3,4,5] (.inl 36 aMB Tryz.func134 [1,4,6,7,22] [5] (λ_ (a:(List UInt8))=>.aS []) (λu182 a=>[.kp 2 [[.pt 2 (u182 2) 0 0,.sl 5 (u182 5) 0 a.length,.sc (.pointer none)]],.nw 5 5 1 (cB a)]) (NJ n a1 x250) (λy63_2 =>
 .gv 41<|
 .ret (y63_2:List UInt8))))) (λy62_2 =>
 .inl 29 aBO Tryz.func85 [1,4,6,7] [5] (λ_ (a:(List UInt8))=>.aS []) (λu204 a=>[.kp 2 [[.pt 2 (u204 2) 0 0,.sl 5 (u204 5) 0 a.length,.sc (.pointer none)]],.nw 5 5 1 (cB a)]) ( .al 24<|
 .gv 12<|
 .dr [(1,[2]),(2,[2]),(4,[1]),(5,[1])] [(8,[])] [1,2] [8] [0,1,2,3,4,5,6,7,8] (.ln 19 mG.av a1.jH<|
 .cl 20 (eB (a1.jH.length:Int)) eY (λ_=>fG) λx304 =>
 .as (x304.length<=1099511627776) inferInstance<|
 .as (y62_2.length<=1099511627776) inferInstance<|
 .bl (y62_2++x304:List UInt8) λx308 =>
 .ge 21 2<|
 .dr [(0,[24]),(3,[1]),(4,[1])] [(5,[])] [1,24] [5] [0,1,2,3,4,5] (.inl 36 aGM Tryz.func135 [1,4,6,7,24] [5] (λ_ (a:(List UInt8))=>.aS []) (λu206 a=>[.kp 2 [[.pt 2 (u206 2) 0 0,.sl 5 (u206 5) 0 a.length,.sc (.pointer none)]],.nw 5 5 1 (cB a)]) (NI n a1 x308) (λy71_2 =>
 .gv 41<|
 .ret (y71_2:List UInt8))))) (λy70_2 =>
 .inl 35 aBZ Tryz.func87 [1,4,6,7] [5] (λ_ (a:(List UInt8))=>.aS []) (λu230 a=>[.kp 2 [[.pt 2 (u230 2) 0 0,.sl 5 (u230 5) 0 a.length,.sc (.pointer none)]],.nw 5 5 1 (cB a)]) ( .al 26<|
 .gv 12<|
 .dr [(1,[2]),(2,[2]),(4,[1]),(5,[1])] [(8,[])] [1,2] [8] [0,1,2,3,4,5,6,7,8] (.ln 19 mO.av a1.jQ<|
 .cl 20 (eB (a1.jQ.length:Int)) eY (λ_=>fG) λx369 =>
 .as (x369.length<=1099511627776) inferInstance<|
 .as (y70_2.length<=1099511627776) inferInstance<|
 .bl (y70_2++x369:List UInt8) λx373 =>
 .ge 21 2<|
 .dr [(0,[26]),(3,[1]),(4,[1])] [(5,[])] [1,26] [5] [0,1,2,3,4,5] (.inl 36 aAN Tryz.func136 [1,4,6,7,26] [5] (λ_ (a:(List UInt8))=>.aS []) (λu232 a=>[.kp 2 [[.pt 2 (u232 2) 0 0,.sl 5 (u232 5) 0 a.length,.sc (.pointer none)]],.nw 5 5 1 (cB a)]) (LV n a1 x373) (λy80_2 =>
 .gv 41<|
 .ret (y80_2:List UInt8))))) (λy79_2 =>
 .gv 40<|
 .inl 41 qR Tryz.func88 [1,4,6,7] [5] (λ_ (a:(List UInt8))=>.aS []) (λu254 a=>[.kp 2 [[.pt 2 (u254 2) 0 0,.sl 5 (u254 5) 0 a.length,.sc (.pointer none)]],.nw 5 5 1 (cB a)]) ( .jn 1 [] [1,4,6,7] [5] (λ_ (a:(List UInt8))=>[]) (λu255 a=>[.kp 2 [[.pt 2 (u255 2) 0 0,.sl 5 (u255 5) 0 a.length,.sc (.pointer none)]],.nw 5 5 1 (cB a)]) (.un 24 (.kB 9 true<|
 .gv 10<|
 .gv 16<|
 .dr [(1,[2]),(2,[2]),(4,[1]),(5,[1])] [(7,[])] [1,2] [7] [0,1,2,3,4,5,6,7] (.cl 23 (eB a1.Done) eY (λ_=>fG) λx416 =>
 .as (x416.length<=1099511627776) inferInstance<|
 .as (y79_2.length<=1099511627776) inferInstance<|
 .bl (y79_2++x416:List UInt8) λx420 =>
 .ge 24 2<|
 .kI 32 1<|
 .kB 9 false<|
 .ret (x420:List UInt8))))
  (λy89_2 =>
 .ret (y89_2:List UInt8))) (λy87_2 =>
 .ret (y87_2:List UInt8))))))))
noncomputable def V9 (n:Nat) (a1:bD):WB ((List UInt8)) :=
 .al 1<|
 .cl 8 (EH n a1) aLF aB0 λx3 =>
 .bB 9 (!x3) λx4 =>
 .az [9] x4 (.al 2<|
 .cl 14 (AO n a1.dR) aFT aK8 λx6 =>
 .as (x6.length<=1099511627776) inferInstance<|
 .gv 15<|
 .ln 16 (fK .u8) (x6.map λc=>(c.toNat:Int))<|
 .jn 0 [1,2,3] [1,2] [4] (λu2 (a:(List Int))=>[(4,.sl 4 (u2 4) 0 a.length)]) (λ_ a=>[.nw 4 3 1 (a.map fI)]) (.no 4 4 3 1<|
 .lp [1,2,3,15,16] [1,2] [4] (λu3 (a:Int×(List Int))=>[(4,.sl 4 (u3 4) 0 a.2.length),(17,int a.1)]) (λ_ a=>[.nw 4 3 1 (a.2.map fI)]) n ((0:Int),(([]:List Int):List Int)) (pw λy0_2 y0_3 =>
 .bB 18 (decide (y0_2<((x6.map λc=>(c.toNat:Int)).length:Int))) λx9 =>
 .ifs [18] x9 (.ix 19 (fK .u8) (x6.map λc=>(c.toNat:Int)) y0_2 λx10 =>
 .bI 23 (bM x10) λx11 =>
 .to 24 (aG 1 fI ([x11]:List Int))<|
 .bl (y0_3++([x11]:List Int):List Int) λx12 =>
 .as (x12.length<=68719476736) inferInstance<|
 .ge 25 0<|
 .bI 26 (bM (y0_2+1)) λx15 =>
 .brk ((x15:Int),(x12:List Int))) (.esc (.ret (y0_3:List Int)))))
  (λy1_2 =>
 .dr [(1,[2]),(2,[2]),(4,[4])] [(5,[])] [2,4] [5] [0,1,2,3,4,5] (.nS 31 (zK y1_2) OD (λ_=>OA) (λ_=>rfl) λx16 =>
 .as (x16.length<=1099511627776) inferInstance<|
 .ge 32 2<|
 .inl 34 aN2 Tryz.func46 [1,4] [5] (λ_ (a:(List UInt8))=>.aS []) (λu5 a=>[.kp 2 [[.pt 2 (u5 2) 0 0,.sl 5 (u5 5) 0 a.length,.sc (.pointer none)]],.nw 5 5 1 (cB a)]) (M3 n a1 x16) (λy2_2 =>
 .as (y2_2≠[]) inferInstance<|
 .as (y2_2.length<=1099511627776) inferInstance<|
 .ge 38 2<|
 .ret ((y2_2:List UInt8))))))
def BO (n:Nat) (a1:bD):Option ((List UInt8)):=(V9 n a1).run
theorem aNP {n a1}:PZ (BO n a1) 18 [.agg (bD.av a1)] str:=by
 refine wm Tryz.func18 ?_
 intro v2
 conv=>whnf
 refine .mk λx3 e3=>?_
 conv=>whnf
 refine .mk λx4=>?_
 conv=>whnf
 refine .mk ?_
 intro v5
 conv=>whnf
 refine .mk λx6 e6=>?_
 conv=>whnf
 refine .mk λp7=>?_
 conv=>whnf
 refine .mk _ (aT (ZN (l:=x6) rfl Tryz.underlying9 Tryz.underlying51 Tryz.underlying5 rfl p7)) ?_
 conv=>whnf
 refine .mk ?_
 conv=>whnf
 refine .mk ?_ ?_
 intro v8
 conv=>whnf
 refine .mk ?_
 rintro ⟨y0_2,y0_3⟩ _
 conv=>whnf
 try dsimp only
 repeat (conv in (uV _ _ _ _)=>whnf)
 refine .mk λx9=>?_
 conv=>whnf
 refine .mk ?_ ?_
 conv=>whnf
 refine .mk λx10 e10=>?_
 conv=>whnf
 refine .mk λx11=>?_
 conv=>whnf
 refine .mk (aT (aH (y:=aG 1 fI ([x11]:List Int)) (dQ (ps:=[(0,_)]) (rows:=[[int x11]]) rfl Tryz.underlying23 kN (.cons rfl .nil) (by kernel_rfl) rfl rfl rfl) rfl)) ?_
 conv=>whnf
 refine .mk λx12 e12=>?_
 conv=>whnf
 refine .mk λp13=>?_
 conv=>whnf
 refine .mk _ ⟨λ_=>iB (g:=fI) (l:=y0_3) (m:=([x11]:List Int)) .any rfl Tryz.underlying23 kN pZ rfl rfl rfl rfl rfl rfl rfl rfl rfl rfl (Eq.symm rfl) (.refl _) (λ_=>rfl) e12 p13,λ_ _ _=>trivial⟩ ?_
 rintro _ _ ⟨v14,-,rfl,rfl⟩
 try dsimp only
 conv=>whnf
 refine .mk λx15=>?_
 conv=>whnf
 exact .mk
 conv=>whnf
 exact .mk
 intro y1_2 u2
 conv=>whnf
 try dsimp only
 repeat (conv in (uV _ _ _ _)=>whnf)
 refine .mk ?_
 conv=>whnf
 refine .mk (λx16 e16=>?_) rfl (λH hH=>(.cons (gJ (ob:=(⟨3,1,false,true,(u2 4),y1_2.map fI⟩:bA)) (aNX ((hH 4 (by decide)).trans rfl)) rfl rfl rfl rfl (Eq.symm rfl)) .nil))
 conv=>whnf
 refine .mk λp17=>?_
 conv=>whnf
 refine .mk _ ⟨λ_=>aN rfl rfl (.cons rfl (.cons rfl .nil)) eO (aM5 (id:=2) (aD:=v5) (ib:=5) (t:=x16) (by decide) rfl rfl p17),by rintro _ _ ⟨rfl,v18,rfl⟩;exact trivial⟩ ?_
 rintro _ _ ⟨rfl,v18,rfl⟩
 try dsimp only
 conv=>whnf
 refine .mk ?_ ?_
 conv=>whnf
 refine .mk ?_
 conv=>whnf
 refine .mk ?_
 conv=>whnf
 refine .mk ?_ ?_
 intro v21
 intro v22
 conv=>whnf
 exact .mk
 intro _ _
 conv=>whnf
 try dsimp only
 repeat (conv in (uV _ _ _ _)=>whnf)
 refine .mk ⟨rfl,trivial⟩ ?_
 conv=>whnf
 refine .mk ?_ ?_
 intro v25
 conv=>whnf
 refine .mk ?_
 conv=>whnf
 refine .mk ?_ ?_
 conv=>whnf
 refine .mk ?_
 rintro ⟨y5_1,y5_3⟩ u23
 conv=>whnf
 try dsimp only
 repeat (conv in (uV _ _ _ _)=>whnf)
 refine .mk λx26=>?_
 conv=>whnf
 refine .mk ?_ ?_
 conv=>whnf
 refine .mk ?_
 conv=>whnf
 refine .mk λx27 e27=>?_
 conv=>whnf
 refine .mk ?_ ?_
 conv=>whnf
 refine .mk _ (aT (uR rfl Tryz.underlying81 rfl rfl)) ?_
 conv=>whnf
 refine .mk _ (aT (dQ (ps:=[(0,_)]) (rows:=[[.pp [int x27.l5,aB x27.Closed,aG 4 dK.av x27.iF,aG 1 fI x27.jJ,aG 11 gI.av x27.gZ,aG 1 fI x27.gW,aG 1 fI x27.Down,aG 8 bC.av x27.iX]]]) rfl Tryz.underlying233 lI (.cons rfl .nil) (by kernel_rfl) rfl rfl rfl)) ?_
 conv=>whnf
 refine .mk ?_ ?_
 conv=>whnf
 refine .mk ?_ ?_
 conv=>whnf
 refine .mk ?_
 conv=>whnf
 refine .mk _ (aT (dV (j:=0) rfl Tryz.underlying233 fC rfl rfl rfl (.list rfl))) ?_
 conv=>whnf
 refine .mk _ (aT (fE rfl Tryz.underlying81 rfl rfl)) ?_
 conv=>whnf
 refine .mk ?_
 conv=>whnf
 refine .mk λx32 e32=>?_
 conv=>whnf
 refine .mk λp33=>?_
 conv=>whnf
 refine .mk λp35=>?_
 conv=>whnf
 refine .mk λx36 e36=>?_
 conv=>whnf
 refine .mk _ ⟨λ_=>aN rfl rfl (.cons rfl (.cons rfl .nil)) eO (fJ (id:=2) (aD:=v5) (ib:=5) e36 (by decide) rfl rfl p35 p33),by rintro _ _ ⟨rfl,v34,rfl⟩;exact trivial⟩ ?_
 rintro _ _ ⟨rfl,v34,rfl⟩
 try dsimp only
 conv=>whnf
 refine .mk ?_
 conv=>whnf
 refine .mk ?_
 conv=>whnf
 exact .mk
 intro _ _
 conv=>whnf
 try dsimp only
 repeat (conv in (uV _ _ _ _)=>whnf)
 exact .mk
 intro y8_2 u28
 conv=>whnf
 refine .mk trivial ?_
 try dsimp only
 repeat (conv in (uV _ _ _ _)=>whnf)
 conv=>whnf
 refine .mk ?_ ?_
 conv=>whnf
 refine .mk ?_
 conv=>whnf
 refine .mk _ (aT (fE rfl Tryz.underlying81 rfl rfl)) ?_
 conv=>whnf
 refine .mk ?_
 conv=>whnf
 refine .mk λx39 e39=>?_
 conv=>whnf
 refine .mk λp40=>?_
 conv=>whnf
 refine .mk λp42=>?_
 conv=>whnf
 refine .mk λx43 e43=>?_
 conv=>whnf
 refine .mk _ ⟨λ_=>aN rfl rfl (.cons rfl (.cons rfl .nil)) eO (fJ (id:=2) (aD:=v5) (ib:=5) e43 (by decide) rfl rfl p42 p40),by rintro _ _ ⟨rfl,v41,rfl⟩;exact trivial⟩ ?_
 rintro _ _ ⟨rfl,v41,rfl⟩
 try dsimp only
 conv=>whnf
 exact .mk
 intro _ _
 conv=>whnf
 refine .mk trivial ?_
 try dsimp only
 repeat (conv in (uV _ _ _ _)=>whnf)
 conv=>whnf
 refine .mk ?_ ?_
 intro v46
 conv=>whnf
 refine .mk ?_
 conv=>whnf
 refine .mk ?_ ?_
 conv=>whnf
 refine .mk ?_
 rintro ⟨y13_1,y13_3⟩ u47
 conv=>whnf
 try dsimp only
 repeat (conv in (uV _ _ _ _)=>whnf)
 refine .mk λx47=>?_
 conv=>whnf
 refine .mk ?_ ?_
 conv=>whnf
 refine .mk ?_
 conv=>whnf
 refine .mk λx48 e48=>?_
 conv=>whnf
 refine .mk ?_ ?_
 conv=>whnf
 refine .mk ?_ ?_
 intro v53
 conv=>whnf
 refine .mk _ (aT (fE rfl Tryz.underlying81 rfl rfl)) ?_
 conv=>whnf
 refine .mk ?_
 conv=>whnf
 refine .mk ?_
 conv=>whnf
 refine .mk λx54 e54=>?_
 conv=>whnf
 refine .mk λp55=>?_
 conv=>whnf
 refine .mk λp57=>?_
 conv=>whnf
 refine .mk λx58 e58=>?_
 conv=>whnf
 refine .mk _ ⟨λ_=>aN rfl rfl (.cons rfl (.cons rfl .nil)) eO (fJ (id:=2) (aD:=v5) (ib:=5) e58 (by decide) rfl rfl p57 p55),by rintro _ _ ⟨rfl,v56,rfl⟩;exact trivial⟩ ?_
 rintro _ _ ⟨rfl,v56,rfl⟩
 try dsimp only
 conv=>whnf
 refine .mk ?_
 conv=>whnf
 refine .mk ?_ ?_
 intro v61
 conv=>whnf
 refine .mk ?_
 conv=>whnf
 refine .mk ?_ ?_
 conv=>whnf
 refine .mk ?_
 rintro ⟨y18_1,y18_3⟩ u68
 conv=>whnf
 try dsimp only
 repeat (conv in (uV _ _ _ _)=>whnf)
 refine .mk λx62=>?_
 conv=>whnf
 refine .mk ?_ ?_
 conv=>whnf
 refine .mk ?_
 conv=>whnf
 refine .mk λx63 e63=>?_
 conv=>whnf
 refine .mk ?_ ?_
 conv=>whnf
 refine .mk ?_
 conv=>whnf
 refine .mk _ (λH hH _=>dQ (ps:=[(0,_),(1,_),(2,_)]) (rows:=[[.pp [int x63.aM,int x63.Value,int x63.gG]],[.pp [int x63.Value,int x63.gG]],[.pp [int x63.gG]]]) rfl Tryz.underlying233 lI (.cons rfl (.cons rfl (.cons rfl .nil))) (by kernel_rfl) rfl rfl rfl) ?_
 conv=>whnf
 refine .mk ?_ ?_
 conv=>whnf
 refine .mk ?_ ?_
 conv=>whnf
 refine .mk ?_
 conv=>whnf
 refine .mk _ (aT (dV (j:=0) rfl Tryz.underlying233 fC rfl rfl rfl (.list rfl))) ?_
 conv=>whnf
 refine .mk _ (aT (fE rfl Tryz.underlying81 rfl rfl)) ?_
 conv=>whnf
 refine .mk ?_
 conv=>whnf
 refine .mk λx68 e68=>?_
 conv=>whnf
 refine .mk λp69=>?_
 conv=>whnf
 refine .mk λp71=>?_
 conv=>whnf
 refine .mk λx72 e72=>?_
 conv=>whnf
 refine .mk _ ⟨λ_=>aN rfl rfl (.cons rfl (.cons rfl .nil)) eO (fJ (id:=2) (aD:=v5) (ib:=5) e72 (by decide) rfl rfl p71 p69),by rintro _ _ ⟨rfl,v70,rfl⟩;exact trivial⟩ ?_
 rintro _ _ ⟨rfl,v70,rfl⟩
 try dsimp only
 conv=>whnf
 refine .mk ?_
 conv=>whnf
 refine .mk ?_
 conv=>whnf
 refine .mk _ (aT (dV (j:=1) rfl Tryz.underlying233 fC rfl rfl rfl (.list rfl))) ?_
 conv=>whnf
 refine .mk _ (aT (fE rfl Tryz.underlying81 rfl rfl)) ?_
 conv=>whnf
 refine .mk ?_
 conv=>whnf
 refine .mk λx73 e73=>?_
 conv=>whnf
 refine .mk λp74=>?_
 conv=>whnf
 refine .mk λp76=>?_
 conv=>whnf
 refine .mk λx77 e77=>?_
 conv=>whnf
 refine .mk _ ⟨λ_=>aN rfl rfl (.cons rfl (.cons rfl .nil)) eO (fJ (id:=2) (aD:=v5) (ib:=5) e77 (by decide) rfl rfl p76 p74),by rintro _ _ ⟨rfl,v75,rfl⟩;exact trivial⟩ ?_
 rintro _ _ ⟨rfl,v75,rfl⟩
 try dsimp only
 conv=>whnf
 refine .mk ?_
 conv=>whnf
 refine .mk ?_
 conv=>whnf
 refine .mk _ (aT (dV (j:=2) rfl Tryz.underlying233 fC rfl rfl rfl (.list rfl))) ?_
 conv=>whnf
 refine .mk _ (aT (fE rfl Tryz.underlying81 rfl rfl)) ?_
 conv=>whnf
 refine .mk ?_
 conv=>whnf
 refine .mk λx78 e78=>?_
 conv=>whnf
 refine .mk λp79=>?_
 conv=>whnf
 refine .mk λp81=>?_
 conv=>whnf
 refine .mk λx82 e82=>?_
 conv=>whnf
 refine .mk _ ⟨λ_=>aN rfl rfl (.cons rfl (.cons rfl .nil)) eO (fJ (id:=2) (aD:=v5) (ib:=5) e82 (by decide) rfl rfl p81 p79),by rintro _ _ ⟨rfl,v80,rfl⟩;exact trivial⟩ ?_
 rintro _ _ ⟨rfl,v80,rfl⟩
 try dsimp only
 conv=>whnf
 refine .mk ?_
 conv=>whnf
 refine .mk ?_
 conv=>whnf
 exact .mk
 intro _ _
 conv=>whnf
 try dsimp only
 repeat (conv in (uV _ _ _ _)=>whnf)
 exact .mk
 intro _ _
 conv=>whnf
 refine .mk trivial ?_
 try dsimp only
 repeat (conv in (uV _ _ _ _)=>whnf)
 conv=>whnf
 exact .mk
 intro _ _
 conv=>whnf
 refine .mk trivial ?_
 try dsimp only
 repeat (conv in (uV _ _ _ _)=>whnf)
 conv=>whnf
 refine .mk λx83=>?_
 conv=>whnf
 exact .mk
 conv=>whnf
 exact .mk
 intro _ _
 conv=>whnf
 try dsimp only
 repeat (conv in (uV _ _ _ _)=>whnf)
 exact .mk
 intro _ _
 conv=>whnf
 refine .mk trivial ?_
 try dsimp only
 repeat (conv in (uV _ _ _ _)=>whnf)
 conv=>whnf
 refine .mk _ (aT (uR rfl Tryz.underlying81 rfl rfl)) ?_
 conv=>whnf
 exact .mk
 intro y16_2 u52
 conv=>whnf
 refine .mk trivial ?_
 try dsimp only
 repeat (conv in (uV _ _ _ _)=>whnf)
 conv=>whnf
 refine .mk ?_
 conv=>whnf
 refine .mk _ (λH hH _=>aH (y:=.pp [int x48.gK.a0,int x48.gK.a1,int x48.gK.a2]) (K5 rfl Tryz.underlying186 bW rfl rfl (by decide)) rfl) ?_
 conv=>whnf
 refine .mk _ (λH hH _=>aH (y:=.pp [int x48.gK.a1,int x48.gK.a2]) (K5 rfl Tryz.underlying186 bW rfl rfl (by decide)) rfl) ?_
 conv=>whnf
 refine .mk _ (λH hH _=>aH (y:=.pp [int x48.gK.a2]) (K5 rfl Tryz.underlying186 bW rfl rfl (by decide)) rfl) ?_
 conv=>whnf
 refine .mk _ (λH hH _=>dQ (ps:=[(0,_),(1,_),(2,_)]) (rows:=[[.pp [int x48.gK.a0,int x48.gK.a1,int x48.gK.a2]],[.pp [int x48.gK.a1,int x48.gK.a2]],[.pp [int x48.gK.a2]]]) rfl Tryz.underlying233 lI (.cons rfl (.cons rfl (.cons rfl .nil))) (by kernel_rfl) rfl rfl rfl) ?_
 conv=>whnf
 refine .mk ?_ ?_
 conv=>whnf
 refine .mk ?_ ?_
 conv=>whnf
 refine .mk ?_
 conv=>whnf
 refine .mk _ (aT (dV (j:=0) rfl Tryz.underlying233 fC rfl rfl rfl (.list rfl))) ?_
 conv=>whnf
 refine .mk _ (aT (fE rfl Tryz.underlying81 rfl rfl)) ?_
 conv=>whnf
 refine .mk ?_
 conv=>whnf
 refine .mk λx86 e86=>?_
 conv=>whnf
 refine .mk λp87=>?_
 conv=>whnf
 refine .mk λp89=>?_
 conv=>whnf
 refine .mk λx90 e90=>?_
 conv=>whnf
 refine .mk _ ⟨λ_=>aN rfl rfl (.cons rfl (.cons rfl .nil)) eO (fJ (id:=2) (aD:=v5) (ib:=5) e90 (by decide) rfl rfl p89 p87),by rintro _ _ ⟨rfl,v88,rfl⟩;exact trivial⟩ ?_
 rintro _ _ ⟨rfl,v88,rfl⟩
 try dsimp only
 conv=>whnf
 refine .mk ?_
 conv=>whnf
 refine .mk ?_
 conv=>whnf
 refine .mk _ (aT (dV (j:=1) rfl Tryz.underlying233 fC rfl rfl rfl (.list rfl))) ?_
 conv=>whnf
 refine .mk _ (aT (fE rfl Tryz.underlying81 rfl rfl)) ?_
 conv=>whnf
 refine .mk ?_
 conv=>whnf
 refine .mk λx91 e91=>?_
 conv=>whnf
 refine .mk λp92=>?_
 conv=>whnf
 refine .mk λp94=>?_
 conv=>whnf
 refine .mk λx95 e95=>?_
 conv=>whnf
 refine .mk _ ⟨λ_=>aN rfl rfl (.cons rfl (.cons rfl .nil)) eO (fJ (id:=2) (aD:=v5) (ib:=5) e95 (by decide) rfl rfl p94 p92),by rintro _ _ ⟨rfl,v93,rfl⟩;exact trivial⟩ ?_
 rintro _ _ ⟨rfl,v93,rfl⟩
 try dsimp only
 conv=>whnf
 refine .mk ?_
 conv=>whnf
 refine .mk ?_
 conv=>whnf
 refine .mk _ (aT (dV (j:=2) rfl Tryz.underlying233 fC rfl rfl rfl (.list rfl))) ?_
 conv=>whnf
 refine .mk _ (aT (fE rfl Tryz.underlying81 rfl rfl)) ?_
 conv=>whnf
 refine .mk ?_
 conv=>whnf
 refine .mk λx96 e96=>?_
 conv=>whnf
 refine .mk λp97=>?_
 conv=>whnf
 refine .mk λp99=>?_
 conv=>whnf
 refine .mk λx100 e100=>?_
 conv=>whnf
 refine .mk _ ⟨λ_=>aN rfl rfl (.cons rfl (.cons rfl .nil)) eO (fJ (id:=2) (aD:=v5) (ib:=5) e100 (by decide) rfl rfl p99 p97),by rintro _ _ ⟨rfl,v98,rfl⟩;exact trivial⟩ ?_
 rintro _ _ ⟨rfl,v98,rfl⟩
 try dsimp only
 conv=>whnf
 refine .mk ?_
 conv=>whnf
 refine .mk ?_
 conv=>whnf
 exact .mk
 intro _ _
 conv=>whnf
 try dsimp only
 repeat (conv in (uV _ _ _ _)=>whnf)
 exact .mk
 intro _ _
 conv=>whnf
 refine .mk trivial ?_
 try dsimp only
 repeat (conv in (uV _ _ _ _)=>whnf)
 conv=>whnf
 exact .mk
 intro _ _
 conv=>whnf
 refine .mk trivial ?_
 try dsimp only
 repeat (conv in (uV _ _ _ _)=>whnf)
 conv=>whnf
 refine .mk λx101=>?_
 conv=>whnf
 exact .mk
 conv=>whnf
 exact .mk
 intro _ _
 conv=>whnf
 try dsimp only
 repeat (conv in (uV _ _ _ _)=>whnf)
 exact .mk
 intro _ _
 conv=>whnf
 refine .mk trivial ?_
 try dsimp only
 repeat (conv in (uV _ _ _ _)=>whnf)
 conv=>whnf
 refine .mk ?_ ?_
 intro v104
 conv=>whnf
 refine .mk ?_
 conv=>whnf
 refine .mk ?_ ?_
 conv=>whnf
 refine .mk ?_
 rintro ⟨y28_1,y28_3⟩ u93
 conv=>whnf
 try dsimp only
 repeat (conv in (uV _ _ _ _)=>whnf)
 refine .mk λx105=>?_
 conv=>whnf
 refine .mk ?_ ?_
 conv=>whnf
 refine .mk ?_
 conv=>whnf
 refine .mk λx106 e106=>?_
 conv=>whnf
 refine .mk ?_ ?_
 conv=>whnf
 refine .mk _ (aT (dQ (ps:=[(0,_)]) (rows:=[[.pp [int x106]]]) rfl Tryz.underlying233 lI (.cons rfl .nil) (by kernel_rfl) rfl rfl rfl)) ?_
 conv=>whnf
 refine .mk ?_ ?_
 conv=>whnf
 refine .mk ?_ ?_
 conv=>whnf
 refine .mk ?_
 conv=>whnf
 refine .mk _ (aT (dV (j:=0) rfl Tryz.underlying233 fC rfl rfl rfl (.list rfl))) ?_
 conv=>whnf
 refine .mk _ (aT (fE rfl Tryz.underlying81 rfl rfl)) ?_
 conv=>whnf
 refine .mk ?_
 conv=>whnf
 refine .mk λx111 e111=>?_
 conv=>whnf
 refine .mk λp112=>?_
 conv=>whnf
 refine .mk λp114=>?_
 conv=>whnf
 refine .mk λx115 e115=>?_
 conv=>whnf
 refine .mk _ ⟨λ_=>aN rfl rfl (.cons rfl (.cons rfl .nil)) eO (fJ (id:=2) (aD:=v5) (ib:=5) e115 (by decide) rfl rfl p114 p112),by rintro _ _ ⟨rfl,v113,rfl⟩;exact trivial⟩ ?_
 rintro _ _ ⟨rfl,v113,rfl⟩
 try dsimp only
 conv=>whnf
 refine .mk ?_
 conv=>whnf
 refine .mk ?_
 conv=>whnf
 exact .mk
 intro _ _
 conv=>whnf
 try dsimp only
 repeat (conv in (uV _ _ _ _)=>whnf)
 exact .mk
 intro _ _
 conv=>whnf
 refine .mk trivial ?_
 try dsimp only
 repeat (conv in (uV _ _ _ _)=>whnf)
 conv=>whnf
 exact .mk
 intro _ _
 conv=>whnf
 refine .mk trivial ?_
 try dsimp only
 repeat (conv in (uV _ _ _ _)=>whnf)
 conv=>whnf
 refine .mk λx116=>?_
 conv=>whnf
 exact .mk
 conv=>whnf
 exact .mk
 intro _ _
 conv=>whnf
 try dsimp only
 repeat (conv in (uV _ _ _ _)=>whnf)
 exact .mk
 intro _ _
 conv=>whnf
 refine .mk trivial ?_
 try dsimp only
 repeat (conv in (uV _ _ _ _)=>whnf)
 conv=>whnf
 refine .mk ?_ ?_
 intro v119
 conv=>whnf
 refine .mk ?_
 conv=>whnf
 refine .mk ?_ ?_
 conv=>whnf
 refine .mk ?_
 rintro ⟨y35_1,y35_3⟩ u115
 conv=>whnf
 try dsimp only
 repeat (conv in (uV _ _ _ _)=>whnf)
 refine .mk λx120=>?_
 conv=>whnf
 refine .mk ?_ ?_
 conv=>whnf
 refine .mk ?_
 conv=>whnf
 refine .mk λx121 e121=>?_
 conv=>whnf
 refine .mk ?_ ?_
 conv=>whnf
 refine .mk ?_
 conv=>whnf
 refine .mk _ (λH hH _=>dQ (ps:=[(0,_),(1,_),(2,_),(3,_),(4,_),(5,_),(6,_),(7,_),(8,_),(9,_),(10,_)]) (rows:=[[.pp [int x121.Open,int x121.kD,int x121.jP,int x121.jL,int x121.jG,int x121.jA,int x121.iY,int x121.iU,int x121.iP,int x121.iK,int x121.iI]],[.pp [int x121.kD,int x121.jP,int x121.jL,int x121.jG,int x121.jA,int x121.iY,int x121.iU,int x121.iP,int x121.iK,int x121.iI]],[.pp [int x121.jP,int x121.jL,int x121.jG,int x121.jA,int x121.iY,int x121.iU,int x121.iP,int x121.iK,int x121.iI]],[.pp [int x121.jL,int x121.jG,int x121.jA,int x121.iY,int x121.iU,int x121.iP,int x121.iK,int x121.iI]],[.pp [int x121.jG,int x121.jA,int x121.iY,int x121.iU,int x121.iP,int x121.iK,int x121.iI]],[.pp [int x121.jA,int x121.iY,int x121.iU,int x121.iP,int x121.iK,int x121.iI]],[.pp [int x121.iY,int x121.iU,int x121.iP,int x121.iK,int x121.iI]],[.pp [int x121.iU,int x121.iP,int x121.iK,int x121.iI]],[.pp [int x121.iP,int x121.iK,int x121.iI]],[.pp [int x121.iK,int x121.iI]],[.pp [int x121.iI]]]) rfl Tryz.underlying233 lI (.cons rfl (.cons rfl (.cons rfl (.cons rfl (.cons rfl (.cons rfl (.cons rfl (.cons rfl (.cons rfl (.cons rfl (.cons rfl .nil))))))))))) (by kernel_rfl) rfl rfl rfl) ?_
 conv=>whnf
 refine .mk ?_ ?_
 conv=>whnf
 refine .mk ?_ ?_
 conv=>whnf
 refine .mk ?_
 conv=>whnf
 refine .mk _ (aT (dV (j:=0) rfl Tryz.underlying233 fC rfl rfl rfl (.list rfl))) ?_
 conv=>whnf
 refine .mk _ (aT (fE rfl Tryz.underlying81 rfl rfl)) ?_
 conv=>whnf
 refine .mk ?_
 conv=>whnf
 refine .mk λx126 e126=>?_
 conv=>whnf
 refine .mk λp127=>?_
 conv=>whnf
 refine .mk λp129=>?_
 conv=>whnf
 refine .mk λx130 e130=>?_
 conv=>whnf
 refine .mk _ ⟨λ_=>aN rfl rfl (.cons rfl (.cons rfl .nil)) eO (fJ (id:=2) (aD:=v5) (ib:=5) e130 (by decide) rfl rfl p129 p127),by rintro _ _ ⟨rfl,v128,rfl⟩;exact trivial⟩ ?_
 rintro _ _ ⟨rfl,v128,rfl⟩
 try dsimp only
 conv=>whnf
 refine .mk ?_
 conv=>whnf
 refine .mk ?_
 conv=>whnf
 refine .mk _ (aT (dV (j:=1) rfl Tryz.underlying233 fC rfl rfl rfl (.list rfl))) ?_
 conv=>whnf
 refine .mk _ (aT (fE rfl Tryz.underlying81 rfl rfl)) ?_
 conv=>whnf
 refine .mk ?_
 conv=>whnf
 refine .mk λx131 e131=>?_
 conv=>whnf
 refine .mk λp132=>?_
 conv=>whnf
 refine .mk λp134=>?_
 conv=>whnf
 refine .mk λx135 e135=>?_
 conv=>whnf
 refine .mk _ ⟨λ_=>aN rfl rfl (.cons rfl (.cons rfl .nil)) eO (fJ (id:=2) (aD:=v5) (ib:=5) e135 (by decide) rfl rfl p134 p132),by rintro _ _ ⟨rfl,v133,rfl⟩;exact trivial⟩ ?_
 rintro _ _ ⟨rfl,v133,rfl⟩
 try dsimp only
 conv=>whnf
 refine .mk ?_
 conv=>whnf
 refine .mk ?_
 conv=>whnf
 refine .mk _ (aT (dV (j:=2) rfl Tryz.underlying233 fC rfl rfl rfl (.list rfl))) ?_
 conv=>whnf
 refine .mk _ (aT (fE rfl Tryz.underlying81 rfl rfl)) ?_
 conv=>whnf
 refine .mk ?_
 conv=>whnf
 refine .mk λx136 e136=>?_
 conv=>whnf
 refine .mk λp137=>?_
 conv=>whnf
 refine .mk λp139=>?_
 conv=>whnf
 refine .mk λx140 e140=>?_
 conv=>whnf
 refine .mk _ ⟨λ_=>aN rfl rfl (.cons rfl (.cons rfl .nil)) eO (fJ (id:=2) (aD:=v5) (ib:=5) e140 (by decide) rfl rfl p139 p137),by rintro _ _ ⟨rfl,v138,rfl⟩;exact trivial⟩ ?_
 rintro _ _ ⟨rfl,v138,rfl⟩
 try dsimp only
 conv=>whnf
 refine .mk ?_
 conv=>whnf
 refine .mk ?_
 conv=>whnf
 refine .mk _ (aT (dV (j:=3) rfl Tryz.underlying233 fC rfl rfl rfl (.list rfl))) ?_
 conv=>whnf
 refine .mk _ (aT (fE rfl Tryz.underlying81 rfl rfl)) ?_
 conv=>whnf
 refine .mk ?_
 conv=>whnf
 refine .mk λx141 e141=>?_
 conv=>whnf
 refine .mk λp142=>?_
 conv=>whnf
 refine .mk λp144=>?_
 conv=>whnf
 refine .mk λx145 e145=>?_
 conv=>whnf
 refine .mk _ ⟨λ_=>aN rfl rfl (.cons rfl (.cons rfl .nil)) eO (fJ (id:=2) (aD:=v5) (ib:=5) e145 (by decide) rfl rfl p144 p142),by rintro _ _ ⟨rfl,v143,rfl⟩;exact trivial⟩ ?_
 rintro _ _ ⟨rfl,v143,rfl⟩
 try dsimp only
 conv=>whnf
 refine .mk ?_
 conv=>whnf
 refine .mk ?_
 conv=>whnf
 refine .mk _ (aT (dV (j:=4) rfl Tryz.underlying233 fC rfl rfl rfl (.list rfl))) ?_
 conv=>whnf
 refine .mk _ (aT (fE rfl Tryz.underlying81 rfl rfl)) ?_
 conv=>whnf
 refine .mk ?_
 conv=>whnf
 refine .mk λx146 e146=>?_
 conv=>whnf
 refine .mk λp147=>?_
 conv=>whnf
 refine .mk λp149=>?_
 conv=>whnf
 refine .mk λx150 e150=>?_
 conv=>whnf
 refine .mk _ ⟨λ_=>aN rfl rfl (.cons rfl (.cons rfl .nil)) eO (fJ (id:=2) (aD:=v5) (ib:=5) e150 (by decide) rfl rfl p149 p147),by rintro _ _ ⟨rfl,v148,rfl⟩;exact trivial⟩ ?_
 rintro _ _ ⟨rfl,v148,rfl⟩
 try dsimp only
 conv=>whnf
 refine .mk ?_
 conv=>whnf
 refine .mk ?_
 conv=>whnf
 refine .mk _ (aT (dV (j:=5) rfl Tryz.underlying233 fC rfl rfl rfl (.list rfl))) ?_
 conv=>whnf
 refine .mk _ (aT (fE rfl Tryz.underlying81 rfl rfl)) ?_
 conv=>whnf
 refine .mk ?_
 conv=>whnf
 refine .mk λx151 e151=>?_
 conv=>whnf
 refine .mk λp152=>?_
 conv=>whnf
 refine .mk λp154=>?_
 conv=>whnf
 refine .mk λx155 e155=>?_
 conv=>whnf
 refine .mk _ ⟨λ_=>aN rfl rfl (.cons rfl (.cons rfl .nil)) eO (fJ (id:=2) (aD:=v5) (ib:=5) e155 (by decide) rfl rfl p154 p152),by rintro _ _ ⟨rfl,v153,rfl⟩;exact trivial⟩ ?_
 rintro _ _ ⟨rfl,v153,rfl⟩
 try dsimp only
 conv=>whnf
 refine .mk ?_
 conv=>whnf
 refine .mk ?_
 conv=>whnf
 refine .mk _ (aT (dV (j:=6) rfl Tryz.underlying233 fC rfl rfl rfl (.list rfl))) ?_
 conv=>whnf
 refine .mk _ (aT (fE rfl Tryz.underlying81 rfl rfl)) ?_
 conv=>whnf
 refine .mk ?_
 conv=>whnf
 refine .mk λx156 e156=>?_
 conv=>whnf
 refine .mk λp157=>?_
 conv=>whnf
 refine .mk λp159=>?_
 conv=>whnf
 refine .mk λx160 e160=>?_
 conv=>whnf
 refine .mk _ ⟨λ_=>aN rfl rfl (.cons rfl (.cons rfl .nil)) eO (fJ (id:=2) (aD:=v5) (ib:=5) e160 (by decide) rfl rfl p159 p157),by rintro _ _ ⟨rfl,v158,rfl⟩;exact trivial⟩ ?_
 rintro _ _ ⟨rfl,v158,rfl⟩
 try dsimp only
 conv=>whnf
 refine .mk ?_
 conv=>whnf
 refine .mk ?_
 conv=>whnf
 refine .mk _ (aT (dV (j:=7) rfl Tryz.underlying233 fC rfl rfl rfl (.list rfl))) ?_
 conv=>whnf
 refine .mk _ (aT (fE rfl Tryz.underlying81 rfl rfl)) ?_
 conv=>whnf
 refine .mk ?_
 conv=>whnf
 refine .mk λx161 e161=>?_
 conv=>whnf
 refine .mk λp162=>?_
 conv=>whnf
 refine .mk λp164=>?_
 conv=>whnf
 refine .mk λx165 e165=>?_
 conv=>whnf
 refine .mk _ ⟨λ_=>aN rfl rfl (.cons rfl (.cons rfl .nil)) eO (fJ (id:=2) (aD:=v5) (ib:=5) e165 (by decide) rfl rfl p164 p162),by rintro _ _ ⟨rfl,v163,rfl⟩;exact trivial⟩ ?_
 rintro _ _ ⟨rfl,v163,rfl⟩
 try dsimp only
 conv=>whnf
 refine .mk ?_
 conv=>whnf
 refine .mk ?_
 conv=>whnf
 refine .mk _ (aT (dV (j:=8) rfl Tryz.underlying233 fC rfl rfl rfl (.list rfl))) ?_
 conv=>whnf
 refine .mk _ (aT (fE rfl Tryz.underlying81 rfl rfl)) ?_
 conv=>whnf
 refine .mk ?_
 conv=>whnf
 refine .mk λx166 e166=>?_
 conv=>whnf
 refine .mk λp167=>?_
 conv=>whnf
 refine .mk λp169=>?_
 conv=>whnf
 refine .mk λx170 e170=>?_
 conv=>whnf
 refine .mk _ ⟨λ_=>aN rfl rfl (.cons rfl (.cons rfl .nil)) eO (fJ (id:=2) (aD:=v5) (ib:=5) e170 (by decide) rfl rfl p169 p167),by rintro _ _ ⟨rfl,v168,rfl⟩;exact trivial⟩ ?_
 rintro _ _ ⟨rfl,v168,rfl⟩
 try dsimp only
 conv=>whnf
 refine .mk ?_
 conv=>whnf
 refine .mk ?_
 conv=>whnf
 refine .mk _ (aT (dV (j:=9) rfl Tryz.underlying233 fC rfl rfl rfl (.list rfl))) ?_
 conv=>whnf
 refine .mk _ (aT (fE rfl Tryz.underlying81 rfl rfl)) ?_
 conv=>whnf
 refine .mk ?_
 conv=>whnf
 refine .mk λx171 e171=>?_
 conv=>whnf
 refine .mk λp172=>?_
 conv=>whnf
 refine .mk λp174=>?_
 conv=>whnf
 refine .mk λx175 e175=>?_
 conv=>whnf
 refine .mk _ ⟨λ_=>aN rfl rfl (.cons rfl (.cons rfl .nil)) eO (fJ (id:=2) (aD:=v5) (ib:=5) e175 (by decide) rfl rfl p174 p172),by rintro _ _ ⟨rfl,v173,rfl⟩;exact trivial⟩ ?_
 rintro _ _ ⟨rfl,v173,rfl⟩
 try dsimp only
 conv=>whnf
 refine .mk ?_
 conv=>whnf
 refine .mk ?_
 conv=>whnf
 refine .mk _ (aT (dV (j:=10) rfl Tryz.underlying233 fC rfl rfl rfl (.list rfl))) ?_
 conv=>whnf
 refine .mk _ (aT (fE rfl Tryz.underlying81 rfl rfl)) ?_
 conv=>whnf
 refine .mk ?_
 conv=>whnf
 refine .mk λx176 e176=>?_
 conv=>whnf
 refine .mk λp177=>?_
 conv=>whnf
 refine .mk λp179=>?_
 conv=>whnf
 refine .mk λx180 e180=>?_
 conv=>whnf
 refine .mk _ ⟨λ_=>aN rfl rfl (.cons rfl (.cons rfl .nil)) eO (fJ (id:=2) (aD:=v5) (ib:=5) e180 (by decide) rfl rfl p179 p177),by rintro _ _ ⟨rfl,v178,rfl⟩;exact trivial⟩ ?_
 rintro _ _ ⟨rfl,v178,rfl⟩
 try dsimp only
 conv=>whnf
 refine .mk ?_
 conv=>whnf
 refine .mk ?_
 conv=>whnf
 exact .mk
 intro _ _
 conv=>whnf
 try dsimp only
 repeat (conv in (uV _ _ _ _)=>whnf)
 exact .mk
 intro _ _
 conv=>whnf
 refine .mk trivial ?_
 try dsimp only
 repeat (conv in (uV _ _ _ _)=>whnf)
 conv=>whnf
 exact .mk
 intro _ _
 conv=>whnf
 refine .mk trivial ?_
 try dsimp only
 repeat (conv in (uV _ _ _ _)=>whnf)
 conv=>whnf
 refine .mk λx181=>?_
 conv=>whnf
 exact .mk
 conv=>whnf
 exact .mk
 intro _ _
 conv=>whnf
 try dsimp only
 repeat (conv in (uV _ _ _ _)=>whnf)
 exact .mk
 intro y34_2 u101
 conv=>whnf
 refine .mk trivial ?_
 try dsimp only
 repeat (conv in (uV _ _ _ _)=>whnf)
 conv=>whnf
 refine .mk ?_ ?_
 intro v184
 conv=>whnf
 refine .mk _ (aT (fE rfl Tryz.underlying81 rfl rfl)) ?_
 conv=>whnf
 refine .mk ?_
 conv=>whnf
 refine .mk ?_
 conv=>whnf
 refine .mk λx185 e185=>?_
 conv=>whnf
 refine .mk λp186=>?_
 conv=>whnf
 refine .mk λp188=>?_
 conv=>whnf
 refine .mk λx189 e189=>?_
 conv=>whnf
 refine .mk _ ⟨λ_=>aN rfl rfl (.cons rfl (.cons rfl .nil)) eO (fJ (id:=2) (aD:=v5) (ib:=5) e189 (by decide) rfl rfl p188 p186),by rintro _ _ ⟨rfl,v187,rfl⟩;exact trivial⟩ ?_
 rintro _ _ ⟨rfl,v187,rfl⟩
 try dsimp only
 conv=>whnf
 refine .mk ?_
 conv=>whnf
 refine .mk ?_ ?_
 intro v192
 conv=>whnf
 refine .mk ?_
 conv=>whnf
 refine .mk ?_ ?_
 conv=>whnf
 refine .mk ?_
 rintro ⟨y43_1,y43_3⟩ u139
 conv=>whnf
 try dsimp only
 repeat (conv in (uV _ _ _ _)=>whnf)
 refine .mk λx193=>?_
 conv=>whnf
 refine .mk ?_ ?_
 conv=>whnf
 refine .mk ?_
 conv=>whnf
 refine .mk λx194 e194=>?_
 conv=>whnf
 refine .mk ?_ ?_
 conv=>whnf
 refine .mk _ (aT (dQ (ps:=[(0,_)]) (rows:=[[.pp [int x194]]]) rfl Tryz.underlying233 lI (.cons rfl .nil) (by kernel_rfl) rfl rfl rfl)) ?_
 conv=>whnf
 refine .mk ?_ ?_
 conv=>whnf
 refine .mk ?_ ?_
 conv=>whnf
 refine .mk ?_
 conv=>whnf
 refine .mk _ (aT (dV (j:=0) rfl Tryz.underlying233 fC rfl rfl rfl (.list rfl))) ?_
 conv=>whnf
 refine .mk _ (aT (fE rfl Tryz.underlying81 rfl rfl)) ?_
 conv=>whnf
 refine .mk ?_
 conv=>whnf
 refine .mk λx199 e199=>?_
 conv=>whnf
 refine .mk λp200=>?_
 conv=>whnf
 refine .mk λp202=>?_
 conv=>whnf
 refine .mk λx203 e203=>?_
 conv=>whnf
 refine .mk _ ⟨λ_=>aN rfl rfl (.cons rfl (.cons rfl .nil)) eO (fJ (id:=2) (aD:=v5) (ib:=5) e203 (by decide) rfl rfl p202 p200),by rintro _ _ ⟨rfl,v201,rfl⟩;exact trivial⟩ ?_
 rintro _ _ ⟨rfl,v201,rfl⟩
 try dsimp only
 conv=>whnf
 refine .mk ?_
 conv=>whnf
 refine .mk ?_
 conv=>whnf
 exact .mk
 intro _ _
 conv=>whnf
 try dsimp only
 repeat (conv in (uV _ _ _ _)=>whnf)
 exact .mk
 intro _ _
 conv=>whnf
 refine .mk trivial ?_
 try dsimp only
 repeat (conv in (uV _ _ _ _)=>whnf)
 conv=>whnf
 exact .mk
 intro _ _
 conv=>whnf
 refine .mk trivial ?_
 try dsimp only
 repeat (conv in (uV _ _ _ _)=>whnf)
 conv=>whnf
 refine .mk λx204=>?_
 conv=>whnf
 exact .mk
 conv=>whnf
 exact .mk
 intro _ _
 conv=>whnf
 try dsimp only
 repeat (conv in (uV _ _ _ _)=>whnf)
 exact .mk
 intro _ _
 conv=>whnf
 refine .mk trivial ?_
 try dsimp only
 repeat (conv in (uV _ _ _ _)=>whnf)
 conv=>whnf
 refine .mk _ (aT (uR rfl Tryz.underlying81 rfl rfl)) ?_
 conv=>whnf
 exact .mk
 intro y41_2 u123
 conv=>whnf
 refine .mk trivial ?_
 try dsimp only
 repeat (conv in (uV _ _ _ _)=>whnf)
 conv=>whnf
 refine .mk ?_ ?_
 intro v207
 conv=>whnf
 refine .mk _ (aT (fE rfl Tryz.underlying81 rfl rfl)) ?_
 conv=>whnf
 refine .mk ?_
 conv=>whnf
 refine .mk ?_
 conv=>whnf
 refine .mk λx208 e208=>?_
 conv=>whnf
 refine .mk λp209=>?_
 conv=>whnf
 refine .mk λp211=>?_
 conv=>whnf
 refine .mk λx212 e212=>?_
 conv=>whnf
 refine .mk _ ⟨λ_=>aN rfl rfl (.cons rfl (.cons rfl .nil)) eO (fJ (id:=2) (aD:=v5) (ib:=5) e212 (by decide) rfl rfl p211 p209),by rintro _ _ ⟨rfl,v210,rfl⟩;exact trivial⟩ ?_
 rintro _ _ ⟨rfl,v210,rfl⟩
 try dsimp only
 conv=>whnf
 refine .mk ?_
 conv=>whnf
 refine .mk ?_ ?_
 intro v215
 conv=>whnf
 refine .mk ?_
 conv=>whnf
 refine .mk ?_ ?_
 conv=>whnf
 refine .mk ?_
 rintro ⟨y51_1,y51_3⟩ u163
 conv=>whnf
 try dsimp only
 repeat (conv in (uV _ _ _ _)=>whnf)
 refine .mk λx216=>?_
 conv=>whnf
 refine .mk ?_ ?_
 conv=>whnf
 refine .mk ?_
 conv=>whnf
 refine .mk λx217 e217=>?_
 conv=>whnf
 refine .mk ?_ ?_
 conv=>whnf
 refine .mk _ (aT (dQ (ps:=[(0,_)]) (rows:=[[.pp [int x217]]]) rfl Tryz.underlying233 lI (.cons rfl .nil) (by kernel_rfl) rfl rfl rfl)) ?_
 conv=>whnf
 refine .mk ?_ ?_
 conv=>whnf
 refine .mk ?_ ?_
 conv=>whnf
 refine .mk ?_
 conv=>whnf
 refine .mk _ (aT (dV (j:=0) rfl Tryz.underlying233 fC rfl rfl rfl (.list rfl))) ?_
 conv=>whnf
 refine .mk _ (aT (fE rfl Tryz.underlying81 rfl rfl)) ?_
 conv=>whnf
 refine .mk ?_
 conv=>whnf
 refine .mk λx222 e222=>?_
 conv=>whnf
 refine .mk λp223=>?_
 conv=>whnf
 refine .mk λp225=>?_
 conv=>whnf
 refine .mk λx226 e226=>?_
 conv=>whnf
 refine .mk _ ⟨λ_=>aN rfl rfl (.cons rfl (.cons rfl .nil)) eO (fJ (id:=2) (aD:=v5) (ib:=5) e226 (by decide) rfl rfl p225 p223),by rintro _ _ ⟨rfl,v224,rfl⟩;exact trivial⟩ ?_
 rintro _ _ ⟨rfl,v224,rfl⟩
 try dsimp only
 conv=>whnf
 refine .mk ?_
 conv=>whnf
 refine .mk ?_
 conv=>whnf
 exact .mk
 intro _ _
 conv=>whnf
 try dsimp only
 repeat (conv in (uV _ _ _ _)=>whnf)
 exact .mk
 intro _ _
 conv=>whnf
 refine .mk trivial ?_
 try dsimp only
 repeat (conv in (uV _ _ _ _)=>whnf)
 conv=>whnf
 exact .mk
 intro _ _
 conv=>whnf
 refine .mk trivial ?_
 try dsimp only
 repeat (conv in (uV _ _ _ _)=>whnf)
 conv=>whnf
 refine .mk λx227=>?_
 conv=>whnf
 exact .mk
 conv=>whnf
 exact .mk
 intro _ _
 conv=>whnf
 try dsimp only
 repeat (conv in (uV _ _ _ _)=>whnf)
 exact .mk
 intro _ _
 conv=>whnf
 refine .mk trivial ?_
 try dsimp only
 repeat (conv in (uV _ _ _ _)=>whnf)
 conv=>whnf
 refine .mk _ (aT (uR rfl Tryz.underlying81 rfl rfl)) ?_
 conv=>whnf
 exact .mk
 intro y49_2 u147
 conv=>whnf
 refine .mk trivial ?_
 try dsimp only
 repeat (conv in (uV _ _ _ _)=>whnf)
 conv=>whnf
 refine .mk ?_
 conv=>whnf
 refine .mk ?_ ?_
 intro v228
 intro v229
 conv=>whnf
 exact .mk
 intro _ _
 conv=>whnf
 try dsimp only
 repeat (conv in (uV _ _ _ _)=>whnf)
 refine .mk ⟨rfl,trivial⟩ ?_
 conv=>whnf
 refine .mk ?_ ?_
 intro v232
 conv=>whnf
 refine .mk _ (aT (fE rfl Tryz.underlying81 rfl rfl)) ?_
 conv=>whnf
 refine .mk ?_
 conv=>whnf
 refine .mk ?_
 conv=>whnf
 refine .mk λx233 e233=>?_
 conv=>whnf
 refine .mk λp234=>?_
 conv=>whnf
 refine .mk λp236=>?_
 conv=>whnf
 refine .mk λx237 e237=>?_
 conv=>whnf
 refine .mk _ ⟨λ_=>aN rfl rfl (.cons rfl (.cons rfl .nil)) eO (fJ (id:=2) (aD:=v5) (ib:=5) e237 (by decide) rfl rfl p236 p234),by rintro _ _ ⟨rfl,v235,rfl⟩;exact trivial⟩ ?_
 rintro _ _ ⟨rfl,v235,rfl⟩
 try dsimp only
 conv=>whnf
 refine .mk ?_
 conv=>whnf
 refine .mk ?_ ?_
 intro v240
 conv=>whnf
 refine .mk ?_
 conv=>whnf
 refine .mk ?_ ?_
 conv=>whnf
 refine .mk ?_
 intro _ _
 conv=>whnf
 try dsimp only
 repeat (conv in (uV _ _ _ _)=>whnf)
 refine .mk λx241=>?_
 conv=>whnf
 refine .mk ?_
 conv=>whnf
 exact .mk
 intro _ _
 conv=>whnf
 try dsimp only
 repeat (conv in (uV _ _ _ _)=>whnf)
 exact .mk
 intro _ _
 conv=>whnf
 refine .mk trivial ?_
 try dsimp only
 repeat (conv in (uV _ _ _ _)=>whnf)
 conv=>whnf
 refine .mk _ (aT (uR rfl Tryz.underlying81 rfl rfl)) ?_
 conv=>whnf
 exact .mk
 intro _ _
 conv=>whnf
 refine .mk trivial ?_
 try dsimp only
 repeat (conv in (uV _ _ _ _)=>whnf)
 conv=>whnf
 exact .mk
 intro _ _
 conv=>whnf
 refine .mk trivial ?_
 try dsimp only
 repeat (conv in (uV _ _ _ _)=>whnf)
 conv=>whnf
 refine .mk λx242=>?_
 conv=>whnf
 exact .mk
 conv=>whnf
 exact .mk
 intro _ _
 conv=>whnf
 try dsimp only
 repeat (conv in (uV _ _ _ _)=>whnf)
 exact .mk
 intro y4_2 u9
 conv=>whnf
 refine .mk trivial ?_
 try dsimp only
 repeat (conv in (uV _ _ _ _)=>whnf)
 conv=>whnf
 refine .mk ?_ ?_
 intro v245
 conv=>whnf
 refine .mk _ (aT (fE rfl Tryz.underlying81 rfl rfl)) ?_
 conv=>whnf
 refine .mk ?_
 conv=>whnf
 refine .mk ?_
 conv=>whnf
 refine .mk λx246 e246=>?_
 conv=>whnf
 refine .mk λp247=>?_
 conv=>whnf
 refine .mk λp249=>?_
 conv=>whnf
 refine .mk λx250 e250=>?_
 conv=>whnf
 refine .mk _ ⟨λ_=>aN rfl rfl (.cons rfl (.cons rfl .nil)) eO (fJ (id:=2) (aD:=v5) (ib:=5) e250 (by decide) rfl rfl p249 p247),by rintro _ _ ⟨rfl,v248,rfl⟩;exact trivial⟩ ?_
 rintro _ _ ⟨rfl,v248,rfl⟩
 try dsimp only
 conv=>whnf
 refine .mk ?_
 conv=>whnf
 refine .mk ?_ ?_
 intro v253
 conv=>whnf
 refine .mk ?_
 conv=>whnf
 refine .mk ?_ ?_
 conv=>whnf
 refine .mk ?_
 rintro ⟨y64_1,y64_3⟩ u196
 conv=>whnf
 try dsimp only
 repeat (conv in (uV _ _ _ _)=>whnf)
 refine .mk λx254=>?_
 conv=>whnf
 refine .mk ?_ ?_
 conv=>whnf
 refine .mk ?_
 conv=>whnf
 refine .mk λx255 e255=>?_
 conv=>whnf
 refine .mk ?_ ?_
 conv=>whnf
 refine .mk ?_
 conv=>whnf
 refine .mk _ (λH hH _=>dQ (ps:=[(0,_),(1,_),(2,_),(3,_),(4,_),(5,_),(6,_),(7,_)]) (rows:=[[.pp [int x255.uD,int x255.Item,int x255.Loc,int x255.aM,int x255.Value,int x255.Open,int x255.qV,int x255.lZ]],[.pp [int x255.Item,int x255.Loc,int x255.aM,int x255.Value,int x255.Open,int x255.qV,int x255.lZ]],[.pp [int x255.Loc,int x255.aM,int x255.Value,int x255.Open,int x255.qV,int x255.lZ]],[.pp [int x255.aM,int x255.Value,int x255.Open,int x255.qV,int x255.lZ]],[.pp [int x255.Value,int x255.Open,int x255.qV,int x255.lZ]],[.pp [int x255.Open,int x255.qV,int x255.lZ]],[.pp [int x255.qV,int x255.lZ]],[.pp [int x255.lZ]]]) rfl Tryz.underlying233 lI (.cons rfl (.cons rfl (.cons rfl (.cons rfl (.cons rfl (.cons rfl (.cons rfl (.cons rfl .nil)))))))) (by kernel_rfl) rfl rfl rfl) ?_
 conv=>whnf
 refine .mk ?_ ?_
 conv=>whnf
 refine .mk ?_ ?_
 conv=>whnf
 refine .mk ?_
 conv=>whnf
 refine .mk _ (aT (dV (j:=0) rfl Tryz.underlying233 fC rfl rfl rfl (.list rfl))) ?_
 conv=>whnf
 refine .mk _ (aT (fE rfl Tryz.underlying81 rfl rfl)) ?_
 conv=>whnf
 refine .mk ?_
 conv=>whnf
 refine .mk λx260 e260=>?_
 conv=>whnf
 refine .mk λp261=>?_
 conv=>whnf
 refine .mk λp263=>?_
 conv=>whnf
 refine .mk λx264 e264=>?_
 conv=>whnf
 refine .mk _ ⟨λ_=>aN rfl rfl (.cons rfl (.cons rfl .nil)) eO (fJ (id:=2) (aD:=v5) (ib:=5) e264 (by decide) rfl rfl p263 p261),by rintro _ _ ⟨rfl,v262,rfl⟩;exact trivial⟩ ?_
 rintro _ _ ⟨rfl,v262,rfl⟩
 try dsimp only
 conv=>whnf
 refine .mk ?_
 conv=>whnf
 refine .mk ?_
 conv=>whnf
 refine .mk _ (aT (dV (j:=1) rfl Tryz.underlying233 fC rfl rfl rfl (.list rfl))) ?_
 conv=>whnf
 refine .mk _ (aT (fE rfl Tryz.underlying81 rfl rfl)) ?_
 conv=>whnf
 refine .mk ?_
 conv=>whnf
 refine .mk λx265 e265=>?_
 conv=>whnf
 refine .mk λp266=>?_
 conv=>whnf
 refine .mk λp268=>?_
 conv=>whnf
 refine .mk λx269 e269=>?_
 conv=>whnf
 refine .mk _ ⟨λ_=>aN rfl rfl (.cons rfl (.cons rfl .nil)) eO (fJ (id:=2) (aD:=v5) (ib:=5) e269 (by decide) rfl rfl p268 p266),by rintro _ _ ⟨rfl,v267,rfl⟩;exact trivial⟩ ?_
 rintro _ _ ⟨rfl,v267,rfl⟩
 try dsimp only
 conv=>whnf
 refine .mk ?_
 conv=>whnf
 refine .mk ?_
 conv=>whnf
 refine .mk _ (aT (dV (j:=2) rfl Tryz.underlying233 fC rfl rfl rfl (.list rfl))) ?_
 conv=>whnf
 refine .mk _ (aT (fE rfl Tryz.underlying81 rfl rfl)) ?_
 conv=>whnf
 refine .mk ?_
 conv=>whnf
 refine .mk λx270 e270=>?_
 conv=>whnf
 refine .mk λp271=>?_
 conv=>whnf
 refine .mk λp273=>?_
 conv=>whnf
 refine .mk λx274 e274=>?_
 conv=>whnf
 refine .mk _ ⟨λ_=>aN rfl rfl (.cons rfl (.cons rfl .nil)) eO (fJ (id:=2) (aD:=v5) (ib:=5) e274 (by decide) rfl rfl p273 p271),by rintro _ _ ⟨rfl,v272,rfl⟩;exact trivial⟩ ?_
 rintro _ _ ⟨rfl,v272,rfl⟩
 try dsimp only
 conv=>whnf
 refine .mk ?_
 conv=>whnf
 refine .mk ?_
 conv=>whnf
 refine .mk _ (aT (dV (j:=3) rfl Tryz.underlying233 fC rfl rfl rfl (.list rfl))) ?_
 conv=>whnf
 refine .mk _ (aT (fE rfl Tryz.underlying81 rfl rfl)) ?_
 conv=>whnf
 refine .mk ?_
 conv=>whnf
 refine .mk λx275 e275=>?_
 conv=>whnf
 refine .mk λp276=>?_
 conv=>whnf
 refine .mk λp278=>?_
 conv=>whnf
 refine .mk λx279 e279=>?_
 conv=>whnf
 refine .mk _ ⟨λ_=>aN rfl rfl (.cons rfl (.cons rfl .nil)) eO (fJ (id:=2) (aD:=v5) (ib:=5) e279 (by decide) rfl rfl p278 p276),by rintro _ _ ⟨rfl,v277,rfl⟩;exact trivial⟩ ?_
 rintro _ _ ⟨rfl,v277,rfl⟩
 try dsimp only
 conv=>whnf
 refine .mk ?_
 conv=>whnf
 refine .mk ?_
 conv=>whnf
 refine .mk _ (aT (dV (j:=4) rfl Tryz.underlying233 fC rfl rfl rfl (.list rfl))) ?_
 conv=>whnf
 refine .mk _ (aT (fE rfl Tryz.underlying81 rfl rfl)) ?_
 conv=>whnf
 refine .mk ?_
 conv=>whnf
 refine .mk λx280 e280=>?_
 conv=>whnf
 refine .mk λp281=>?_
 conv=>whnf
 refine .mk λp283=>?_
 conv=>whnf
 refine .mk λx284 e284=>?_
 conv=>whnf
 refine .mk _ ⟨λ_=>aN rfl rfl (.cons rfl (.cons rfl .nil)) eO (fJ (id:=2) (aD:=v5) (ib:=5) e284 (by decide) rfl rfl p283 p281),by rintro _ _ ⟨rfl,v282,rfl⟩;exact trivial⟩ ?_
 rintro _ _ ⟨rfl,v282,rfl⟩
 try dsimp only
 conv=>whnf
 refine .mk ?_
 conv=>whnf
 refine .mk ?_
 conv=>whnf
 refine .mk _ (aT (dV (j:=5) rfl Tryz.underlying233 fC rfl rfl rfl (.list rfl))) ?_
 conv=>whnf
 refine .mk _ (aT (fE rfl Tryz.underlying81 rfl rfl)) ?_
 conv=>whnf
 refine .mk ?_
 conv=>whnf
 refine .mk λx285 e285=>?_
 conv=>whnf
 refine .mk λp286=>?_
 conv=>whnf
 refine .mk λp288=>?_
 conv=>whnf
 refine .mk λx289 e289=>?_
 conv=>whnf
 refine .mk _ ⟨λ_=>aN rfl rfl (.cons rfl (.cons rfl .nil)) eO (fJ (id:=2) (aD:=v5) (ib:=5) e289 (by decide) rfl rfl p288 p286),by rintro _ _ ⟨rfl,v287,rfl⟩;exact trivial⟩ ?_
 rintro _ _ ⟨rfl,v287,rfl⟩
 try dsimp only
 conv=>whnf
 refine .mk ?_
 conv=>whnf
 refine .mk ?_
 conv=>whnf
 refine .mk _ (aT (dV (j:=6) rfl Tryz.underlying233 fC rfl rfl rfl (.list rfl))) ?_
 conv=>whnf
 refine .mk _ (aT (fE rfl Tryz.underlying81 rfl rfl)) ?_
 conv=>whnf
 refine .mk ?_
 conv=>whnf
 refine .mk λx290 e290=>?_
 conv=>whnf
 refine .mk λp291=>?_
 conv=>whnf
 refine .mk λp293=>?_
 conv=>whnf
 refine .mk λx294 e294=>?_
 conv=>whnf
 refine .mk _ ⟨λ_=>aN rfl rfl (.cons rfl (.cons rfl .nil)) eO (fJ (id:=2) (aD:=v5) (ib:=5) e294 (by decide) rfl rfl p293 p291),by rintro _ _ ⟨rfl,v292,rfl⟩;exact trivial⟩ ?_
 rintro _ _ ⟨rfl,v292,rfl⟩
 try dsimp only
 conv=>whnf
 refine .mk ?_
 conv=>whnf
 refine .mk ?_
 conv=>whnf
 refine .mk _ (aT (dV (j:=7) rfl Tryz.underlying233 fC rfl rfl rfl (.list rfl))) ?_
 conv=>whnf
 refine .mk _ (aT (fE rfl Tryz.underlying81 rfl rfl)) ?_
 conv=>whnf
 refine .mk ?_
 conv=>whnf
 refine .mk λx295 e295=>?_
 conv=>whnf
 refine .mk λp296=>?_
 conv=>whnf
 refine .mk λp298=>?_
 conv=>whnf
 refine .mk λx299 e299=>?_
 conv=>whnf
 refine .mk _ ⟨λ_=>aN rfl rfl (.cons rfl (.cons rfl .nil)) eO (fJ (id:=2) (aD:=v5) (ib:=5) e299 (by decide) rfl rfl p298 p296),by rintro _ _ ⟨rfl,v297,rfl⟩;exact trivial⟩ ?_
 rintro _ _ ⟨rfl,v297,rfl⟩
 try dsimp only
 conv=>whnf
 refine .mk ?_
 conv=>whnf
 refine .mk ?_
 conv=>whnf
 exact .mk
 intro _ _
 conv=>whnf
 try dsimp only
 repeat (conv in (uV _ _ _ _)=>whnf)
 exact .mk
 intro _ _
 conv=>whnf
 refine .mk trivial ?_
 try dsimp only
 repeat (conv in (uV _ _ _ _)=>whnf)
 conv=>whnf
 exact .mk
 intro _ _
 conv=>whnf
 refine .mk trivial ?_
 try dsimp only
 repeat (conv in (uV _ _ _ _)=>whnf)
 conv=>whnf
 refine .mk λx300=>?_
 conv=>whnf
 exact .mk
 conv=>whnf
 exact .mk
 intro _ _
 conv=>whnf
 try dsimp only
 repeat (conv in (uV _ _ _ _)=>whnf)
 exact .mk
 intro _ _
 conv=>whnf
 refine .mk trivial ?_
 try dsimp only
 repeat (conv in (uV _ _ _ _)=>whnf)
 conv=>whnf
 refine .mk _ (aT (uR rfl Tryz.underlying81 rfl rfl)) ?_
 conv=>whnf
 exact .mk
 intro y62_2 u180
 conv=>whnf
 refine .mk trivial ?_
 try dsimp only
 repeat (conv in (uV _ _ _ _)=>whnf)
 conv=>whnf
 refine .mk ?_ ?_
 intro v303
 conv=>whnf
 refine .mk _ (aT (fE rfl Tryz.underlying81 rfl rfl)) ?_
 conv=>whnf
 refine .mk ?_
 conv=>whnf
 refine .mk ?_
 conv=>whnf
 refine .mk λx304 e304=>?_
 conv=>whnf
 refine .mk λp305=>?_
 conv=>whnf
 refine .mk λp307=>?_
 conv=>whnf
 refine .mk λx308 e308=>?_
 conv=>whnf
 refine .mk _ ⟨λ_=>aN rfl rfl (.cons rfl (.cons rfl .nil)) eO (fJ (id:=2) (aD:=v5) (ib:=5) e308 (by decide) rfl rfl p307 p305),by rintro _ _ ⟨rfl,v306,rfl⟩;exact trivial⟩ ?_
 rintro _ _ ⟨rfl,v306,rfl⟩
 try dsimp only
 conv=>whnf
 refine .mk ?_
 conv=>whnf
 refine .mk ?_ ?_
 intro v311
 conv=>whnf
 refine .mk ?_
 conv=>whnf
 refine .mk ?_ ?_
 conv=>whnf
 refine .mk ?_
 rintro ⟨y72_1,y72_3⟩ u220
 conv=>whnf
 try dsimp only
 repeat (conv in (uV _ _ _ _)=>whnf)
 refine .mk λx312=>?_
 conv=>whnf
 refine .mk ?_ ?_
 conv=>whnf
 refine .mk ?_
 conv=>whnf
 refine .mk λx313 e313=>?_
 conv=>whnf
 refine .mk ?_ ?_
 conv=>whnf
 refine .mk ?_
 conv=>whnf
 refine .mk _ (λH hH _=>dQ (ps:=[(0,_),(1,_),(2,_),(3,_),(4,_),(5,_),(6,_),(7,_)]) (rows:=[[.pp [int x313.uD,int x313.Item,int x313.Loc,int x313.aM,int x313.lZ,int x313.sM,int x313.gG,int x313.qU,aB x313.rX]],[.pp [int x313.Item,int x313.Loc,int x313.aM,int x313.lZ,int x313.sM,int x313.gG,int x313.qU,aB x313.rX]],[.pp [int x313.Loc,int x313.aM,int x313.lZ,int x313.sM,int x313.gG,int x313.qU,aB x313.rX]],[.pp [int x313.aM,int x313.lZ,int x313.sM,int x313.gG,int x313.qU,aB x313.rX]],[.pp [int x313.lZ,int x313.sM,int x313.gG,int x313.qU,aB x313.rX]],[.pp [int x313.sM,int x313.gG,int x313.qU,aB x313.rX]],[.pp [int x313.gG,int x313.qU,aB x313.rX]],[.pp [int x313.qU,aB x313.rX]]]) rfl Tryz.underlying233 lI (.cons rfl (.cons rfl (.cons rfl (.cons rfl (.cons rfl (.cons rfl (.cons rfl (.cons rfl .nil)))))))) (by kernel_rfl) rfl rfl rfl) ?_
 conv=>whnf
 refine .mk ?_ ?_
 conv=>whnf
 refine .mk ?_ ?_
 conv=>whnf
 refine .mk ?_
 conv=>whnf
 refine .mk _ (aT (dV (j:=0) rfl Tryz.underlying233 fC rfl rfl rfl (.list rfl))) ?_
 conv=>whnf
 refine .mk _ (aT (fE rfl Tryz.underlying81 rfl rfl)) ?_
 conv=>whnf
 refine .mk ?_
 conv=>whnf
 refine .mk λx318 e318=>?_
 conv=>whnf
 refine .mk λp319=>?_
 conv=>whnf
 refine .mk λp321=>?_
 conv=>whnf
 refine .mk λx322 e322=>?_
 conv=>whnf
 refine .mk _ ⟨λ_=>aN rfl rfl (.cons rfl (.cons rfl .nil)) eO (fJ (id:=2) (aD:=v5) (ib:=5) e322 (by decide) rfl rfl p321 p319),by rintro _ _ ⟨rfl,v320,rfl⟩;exact trivial⟩ ?_
 rintro _ _ ⟨rfl,v320,rfl⟩
 try dsimp only
 conv=>whnf
 refine .mk ?_
 conv=>whnf
 refine .mk ?_
 conv=>whnf
 refine .mk _ (aT (dV (j:=1) rfl Tryz.underlying233 fC rfl rfl rfl (.list rfl))) ?_
 conv=>whnf
 refine .mk _ (aT (fE rfl Tryz.underlying81 rfl rfl)) ?_
 conv=>whnf
 refine .mk ?_
 conv=>whnf
 refine .mk λx323 e323=>?_
 conv=>whnf
 refine .mk λp324=>?_
 conv=>whnf
 refine .mk λp326=>?_
 conv=>whnf
 refine .mk λx327 e327=>?_
 conv=>whnf
 refine .mk _ ⟨λ_=>aN rfl rfl (.cons rfl (.cons rfl .nil)) eO (fJ (id:=2) (aD:=v5) (ib:=5) e327 (by decide) rfl rfl p326 p324),by rintro _ _ ⟨rfl,v325,rfl⟩;exact trivial⟩ ?_
 rintro _ _ ⟨rfl,v325,rfl⟩
 try dsimp only
 conv=>whnf
 refine .mk ?_
 conv=>whnf
 refine .mk ?_
 conv=>whnf
 refine .mk _ (aT (dV (j:=2) rfl Tryz.underlying233 fC rfl rfl rfl (.list rfl))) ?_
 conv=>whnf
 refine .mk _ (aT (fE rfl Tryz.underlying81 rfl rfl)) ?_
 conv=>whnf
 refine .mk ?_
 conv=>whnf
 refine .mk λx328 e328=>?_
 conv=>whnf
 refine .mk λp329=>?_
 conv=>whnf
 refine .mk λp331=>?_
 conv=>whnf
 refine .mk λx332 e332=>?_
 conv=>whnf
 refine .mk _ ⟨λ_=>aN rfl rfl (.cons rfl (.cons rfl .nil)) eO (fJ (id:=2) (aD:=v5) (ib:=5) e332 (by decide) rfl rfl p331 p329),by rintro _ _ ⟨rfl,v330,rfl⟩;exact trivial⟩ ?_
 rintro _ _ ⟨rfl,v330,rfl⟩
 try dsimp only
 conv=>whnf
 refine .mk ?_
 conv=>whnf
 refine .mk ?_
 conv=>whnf
 refine .mk _ (aT (dV (j:=3) rfl Tryz.underlying233 fC rfl rfl rfl (.list rfl))) ?_
 conv=>whnf
 refine .mk _ (aT (fE rfl Tryz.underlying81 rfl rfl)) ?_
 conv=>whnf
 refine .mk ?_
 conv=>whnf
 refine .mk λx333 e333=>?_
 conv=>whnf
 refine .mk λp334=>?_
 conv=>whnf
 refine .mk λp336=>?_
 conv=>whnf
 refine .mk λx337 e337=>?_
 conv=>whnf
 refine .mk _ ⟨λ_=>aN rfl rfl (.cons rfl (.cons rfl .nil)) eO (fJ (id:=2) (aD:=v5) (ib:=5) e337 (by decide) rfl rfl p336 p334),by rintro _ _ ⟨rfl,v335,rfl⟩;exact trivial⟩ ?_
 rintro _ _ ⟨rfl,v335,rfl⟩
 try dsimp only
 conv=>whnf
 refine .mk ?_
 conv=>whnf
 refine .mk ?_
 conv=>whnf
 refine .mk _ (aT (dV (j:=4) rfl Tryz.underlying233 fC rfl rfl rfl (.list rfl))) ?_
 conv=>whnf
 refine .mk _ (aT (fE rfl Tryz.underlying81 rfl rfl)) ?_
 conv=>whnf
 refine .mk ?_
 conv=>whnf
 refine .mk λx338 e338=>?_
 conv=>whnf
 refine .mk λp339=>?_
 conv=>whnf
 refine .mk λp341=>?_
 conv=>whnf
 refine .mk λx342 e342=>?_
 conv=>whnf
 refine .mk _ ⟨λ_=>aN rfl rfl (.cons rfl (.cons rfl .nil)) eO (fJ (id:=2) (aD:=v5) (ib:=5) e342 (by decide) rfl rfl p341 p339),by rintro _ _ ⟨rfl,v340,rfl⟩;exact trivial⟩ ?_
 rintro _ _ ⟨rfl,v340,rfl⟩
 try dsimp only
 conv=>whnf
 refine .mk ?_
 conv=>whnf
 refine .mk ?_
 conv=>whnf
 refine .mk _ (aT (dV (j:=5) rfl Tryz.underlying233 fC rfl rfl rfl (.list rfl))) ?_
 conv=>whnf
 refine .mk _ (aT (fE rfl Tryz.underlying81 rfl rfl)) ?_
 conv=>whnf
 refine .mk ?_
 conv=>whnf
 refine .mk λx343 e343=>?_
 conv=>whnf
 refine .mk λp344=>?_
 conv=>whnf
 refine .mk λp346=>?_
 conv=>whnf
 refine .mk λx347 e347=>?_
 conv=>whnf
 refine .mk _ ⟨λ_=>aN rfl rfl (.cons rfl (.cons rfl .nil)) eO (fJ (id:=2) (aD:=v5) (ib:=5) e347 (by decide) rfl rfl p346 p344),by rintro _ _ ⟨rfl,v345,rfl⟩;exact trivial⟩ ?_
 rintro _ _ ⟨rfl,v345,rfl⟩
 try dsimp only
 conv=>whnf
 refine .mk ?_
 conv=>whnf
 refine .mk ?_
 conv=>whnf
 refine .mk _ (aT (dV (j:=6) rfl Tryz.underlying233 fC rfl rfl rfl (.list rfl))) ?_
 conv=>whnf
 refine .mk _ (aT (fE rfl Tryz.underlying81 rfl rfl)) ?_
 conv=>whnf
 refine .mk ?_
 conv=>whnf
 refine .mk λx348 e348=>?_
 conv=>whnf
 refine .mk λp349=>?_
 conv=>whnf
 refine .mk λp351=>?_
 conv=>whnf
 refine .mk λx352 e352=>?_
 conv=>whnf
 refine .mk _ ⟨λ_=>aN rfl rfl (.cons rfl (.cons rfl .nil)) eO (fJ (id:=2) (aD:=v5) (ib:=5) e352 (by decide) rfl rfl p351 p349),by rintro _ _ ⟨rfl,v350,rfl⟩;exact trivial⟩ ?_
 rintro _ _ ⟨rfl,v350,rfl⟩
 try dsimp only
 conv=>whnf
 refine .mk ?_
 conv=>whnf
 refine .mk ?_
 conv=>whnf
 refine .mk _ (aT (dV (j:=7) rfl Tryz.underlying233 fC rfl rfl rfl (.list rfl))) ?_
 conv=>whnf
 refine .mk _ (aT (fE rfl Tryz.underlying81 rfl rfl)) ?_
 conv=>whnf
 refine .mk ?_
 conv=>whnf
 refine .mk λx353 e353=>?_
 conv=>whnf
 refine .mk λp354=>?_
 conv=>whnf
 refine .mk λp356=>?_
 conv=>whnf
 refine .mk λx357 e357=>?_
 conv=>whnf
 refine .mk _ ⟨λ_=>aN rfl rfl (.cons rfl (.cons rfl .nil)) eO (fJ (id:=2) (aD:=v5) (ib:=5) e357 (by decide) rfl rfl p356 p354),by rintro _ _ ⟨rfl,v355,rfl⟩;exact trivial⟩ ?_
 rintro _ _ ⟨rfl,v355,rfl⟩
 try dsimp only
 conv=>whnf
 refine .mk ?_
 conv=>whnf
 refine .mk ?_
 conv=>whnf
 exact .mk
 intro _ _
 conv=>whnf
 try dsimp only
 repeat (conv in (uV _ _ _ _)=>whnf)
 exact .mk
 intro y75_2 u225
 conv=>whnf
 refine .mk trivial ?_
 try dsimp only
 repeat (conv in (uV _ _ _ _)=>whnf)
 conv=>whnf
 refine .mk ?_ ?_
 conv=>whnf
 refine .mk ?_
 conv=>whnf
 refine .mk _ (aT (fE rfl Tryz.underlying81 rfl rfl)) ?_
 conv=>whnf
 refine .mk ?_
 conv=>whnf
 refine .mk λx360 e360=>?_
 conv=>whnf
 refine .mk λp361=>?_
 conv=>whnf
 refine .mk λp363=>?_
 conv=>whnf
 refine .mk λx364 e364=>?_
 conv=>whnf
 refine .mk _ ⟨λ_=>aN rfl rfl (.cons rfl (.cons rfl .nil)) eO (fJ (id:=2) (aD:=v5) (ib:=5) e364 (by decide) rfl rfl p363 p361),by rintro _ _ ⟨rfl,v362,rfl⟩;exact trivial⟩ ?_
 rintro _ _ ⟨rfl,v362,rfl⟩
 try dsimp only
 conv=>whnf
 exact .mk
 intro _ _
 conv=>whnf
 refine .mk trivial ?_
 try dsimp only
 repeat (conv in (uV _ _ _ _)=>whnf)
 conv=>whnf
 exact .mk
 intro _ _
 conv=>whnf
 refine .mk trivial ?_
 try dsimp only
 repeat (conv in (uV _ _ _ _)=>whnf)
 conv=>whnf
 refine .mk λx365=>?_
 conv=>whnf
 exact .mk
 conv=>whnf
 exact .mk
 intro _ _
 conv=>whnf
 try dsimp only
 repeat (conv in (uV _ _ _ _)=>whnf)
 exact .mk
 intro _ _
 conv=>whnf
 refine .mk trivial ?_
 try dsimp only
 repeat (conv in (uV _ _ _ _)=>whnf)
 conv=>whnf
 refine .mk _ (aT (uR rfl Tryz.underlying81 rfl rfl)) ?_
 conv=>whnf
 exact .mk
 intro y70_2 u204
 conv=>whnf
 refine .mk trivial ?_
 try dsimp only
 repeat (conv in (uV _ _ _ _)=>whnf)
 conv=>whnf
 refine .mk ?_ ?_
 intro v368
 conv=>whnf
 refine .mk _ (aT (fE rfl Tryz.underlying81 rfl rfl)) ?_
 conv=>whnf
 refine .mk ?_
 conv=>whnf
 refine .mk ?_
 conv=>whnf
 refine .mk λx369 e369=>?_
 conv=>whnf
 refine .mk λp370=>?_
 conv=>whnf
 refine .mk λp372=>?_
 conv=>whnf
 refine .mk λx373 e373=>?_
 conv=>whnf
 refine .mk _ ⟨λ_=>aN rfl rfl (.cons rfl (.cons rfl .nil)) eO (fJ (id:=2) (aD:=v5) (ib:=5) e373 (by decide) rfl rfl p372 p370),by rintro _ _ ⟨rfl,v371,rfl⟩;exact trivial⟩ ?_
 rintro _ _ ⟨rfl,v371,rfl⟩
 try dsimp only
 conv=>whnf
 refine .mk ?_
 conv=>whnf
 refine .mk ?_ ?_
 intro v376
 conv=>whnf
 refine .mk ?_
 conv=>whnf
 refine .mk ?_ ?_
 conv=>whnf
 refine .mk ?_
 rintro ⟨y81_1,y81_3⟩ u246
 conv=>whnf
 try dsimp only
 repeat (conv in (uV _ _ _ _)=>whnf)
 refine .mk λx377=>?_
 conv=>whnf
 refine .mk ?_ ?_
 conv=>whnf
 refine .mk ?_
 conv=>whnf
 refine .mk λx378 e378=>?_
 conv=>whnf
 refine .mk ?_ ?_
 conv=>whnf
 refine .mk ?_
 conv=>whnf
 refine .mk _ (λH hH _=>dQ (ps:=[(0,_),(1,_),(2,_),(3,_),(4,_),(5,_)]) (rows:=[[.pp [int x378.D4,int x378.To,int x378.Item,int x378.aM,int x378.Value,int x378.gG]],[.pp [int x378.To,int x378.Item,int x378.aM,int x378.Value,int x378.gG]],[.pp [int x378.Item,int x378.aM,int x378.Value,int x378.gG]],[.pp [int x378.aM,int x378.Value,int x378.gG]],[.pp [int x378.Value,int x378.gG]],[.pp [int x378.gG]]]) rfl Tryz.underlying233 lI (.cons rfl (.cons rfl (.cons rfl (.cons rfl (.cons rfl (.cons rfl .nil)))))) (by kernel_rfl) rfl rfl rfl) ?_
 conv=>whnf
 refine .mk ?_ ?_
 conv=>whnf
 refine .mk ?_ ?_
 conv=>whnf
 refine .mk ?_
 conv=>whnf
 refine .mk _ (aT (dV (j:=0) rfl Tryz.underlying233 fC rfl rfl rfl (.list rfl))) ?_
 conv=>whnf
 refine .mk _ (aT (fE rfl Tryz.underlying81 rfl rfl)) ?_
 conv=>whnf
 refine .mk ?_
 conv=>whnf
 refine .mk λx383 e383=>?_
 conv=>whnf
 refine .mk λp384=>?_
 conv=>whnf
 refine .mk λp386=>?_
 conv=>whnf
 refine .mk λx387 e387=>?_
 conv=>whnf
 refine .mk _ ⟨λ_=>aN rfl rfl (.cons rfl (.cons rfl .nil)) eO (fJ (id:=2) (aD:=v5) (ib:=5) e387 (by decide) rfl rfl p386 p384),by rintro _ _ ⟨rfl,v385,rfl⟩;exact trivial⟩ ?_
 rintro _ _ ⟨rfl,v385,rfl⟩
 try dsimp only
 conv=>whnf
 refine .mk ?_
 conv=>whnf
 refine .mk ?_
 conv=>whnf
 refine .mk _ (aT (dV (j:=1) rfl Tryz.underlying233 fC rfl rfl rfl (.list rfl))) ?_
 conv=>whnf
 refine .mk _ (aT (fE rfl Tryz.underlying81 rfl rfl)) ?_
 conv=>whnf
 refine .mk ?_
 conv=>whnf
 refine .mk λx388 e388=>?_
 conv=>whnf
 refine .mk λp389=>?_
 conv=>whnf
 refine .mk λp391=>?_
 conv=>whnf
 refine .mk λx392 e392=>?_
 conv=>whnf
 refine .mk _ ⟨λ_=>aN rfl rfl (.cons rfl (.cons rfl .nil)) eO (fJ (id:=2) (aD:=v5) (ib:=5) e392 (by decide) rfl rfl p391 p389),by rintro _ _ ⟨rfl,v390,rfl⟩;exact trivial⟩ ?_
 rintro _ _ ⟨rfl,v390,rfl⟩
 try dsimp only
 conv=>whnf
 refine .mk ?_
 conv=>whnf
 refine .mk ?_
 conv=>whnf
 refine .mk _ (aT (dV (j:=2) rfl Tryz.underlying233 fC rfl rfl rfl (.list rfl))) ?_
 conv=>whnf
 refine .mk _ (aT (fE rfl Tryz.underlying81 rfl rfl)) ?_
 conv=>whnf
 refine .mk ?_
 conv=>whnf
 refine .mk λx393 e393=>?_
 conv=>whnf
 refine .mk λp394=>?_
 conv=>whnf
 refine .mk λp396=>?_
 conv=>whnf
 refine .mk λx397 e397=>?_
 conv=>whnf
 refine .mk _ ⟨λ_=>aN rfl rfl (.cons rfl (.cons rfl .nil)) eO (fJ (id:=2) (aD:=v5) (ib:=5) e397 (by decide) rfl rfl p396 p394),by rintro _ _ ⟨rfl,v395,rfl⟩;exact trivial⟩ ?_
 rintro _ _ ⟨rfl,v395,rfl⟩
 try dsimp only
 conv=>whnf
 refine .mk ?_
 conv=>whnf
 refine .mk ?_
 conv=>whnf
 refine .mk _ (aT (dV (j:=3) rfl Tryz.underlying233 fC rfl rfl rfl (.list rfl))) ?_
 conv=>whnf
 refine .mk _ (aT (fE rfl Tryz.underlying81 rfl rfl)) ?_
 conv=>whnf
 refine .mk ?_
 conv=>whnf
 refine .mk λx398 e398=>?_
 conv=>whnf
 refine .mk λp399=>?_
 conv=>whnf
 refine .mk λp401=>?_
 conv=>whnf
 refine .mk λx402 e402=>?_
 conv=>whnf
 refine .mk _ ⟨λ_=>aN rfl rfl (.cons rfl (.cons rfl .nil)) eO (fJ (id:=2) (aD:=v5) (ib:=5) e402 (by decide) rfl rfl p401 p399),by rintro _ _ ⟨rfl,v400,rfl⟩;exact trivial⟩ ?_
 rintro _ _ ⟨rfl,v400,rfl⟩
 try dsimp only
 conv=>whnf
 refine .mk ?_
 conv=>whnf
 refine .mk ?_
 conv=>whnf
 refine .mk _ (aT (dV (j:=4) rfl Tryz.underlying233 fC rfl rfl rfl (.list rfl))) ?_
 conv=>whnf
 refine .mk _ (aT (fE rfl Tryz.underlying81 rfl rfl)) ?_
 conv=>whnf
 refine .mk ?_
 conv=>whnf
 refine .mk λx403 e403=>?_
 conv=>whnf
 refine .mk λp404=>?_
 conv=>whnf
 refine .mk λp406=>?_
 conv=>whnf
 refine .mk λx407 e407=>?_
 conv=>whnf
 refine .mk _ ⟨λ_=>aN rfl rfl (.cons rfl (.cons rfl .nil)) eO (fJ (id:=2) (aD:=v5) (ib:=5) e407 (by decide) rfl rfl p406 p404),by rintro _ _ ⟨rfl,v405,rfl⟩;exact trivial⟩ ?_
 rintro _ _ ⟨rfl,v405,rfl⟩
 try dsimp only
 conv=>whnf
 refine .mk ?_
 conv=>whnf
 refine .mk ?_
 conv=>whnf
 refine .mk _ (aT (dV (j:=5) rfl Tryz.underlying233 fC rfl rfl rfl (.list rfl))) ?_
 conv=>whnf
 refine .mk _ (aT (fE rfl Tryz.underlying81 rfl rfl)) ?_
 conv=>whnf
 refine .mk ?_
 conv=>whnf
 refine .mk λx408 e408=>?_
 conv=>whnf
 refine .mk λp409=>?_
 conv=>whnf
 refine .mk λp411=>?_
 conv=>whnf
 refine .mk λx412 e412=>?_
 conv=>whnf
 refine .mk _ ⟨λ_=>aN rfl rfl (.cons rfl (.cons rfl .nil)) eO (fJ (id:=2) (aD:=v5) (ib:=5) e412 (by decide) rfl rfl p411 p409),by rintro _ _ ⟨rfl,v410,rfl⟩;exact trivial⟩ ?_
 rintro _ _ ⟨rfl,v410,rfl⟩
 try dsimp only
 conv=>whnf
 refine .mk ?_
 conv=>whnf
 refine .mk ?_
 conv=>whnf
 exact .mk
 intro _ _
 conv=>whnf
 try dsimp only
 repeat (conv in (uV _ _ _ _)=>whnf)
 exact .mk
 intro _ _
 conv=>whnf
 refine .mk trivial ?_
 try dsimp only
 repeat (conv in (uV _ _ _ _)=>whnf)
 conv=>whnf
 exact .mk
 intro _ _
 conv=>whnf
 refine .mk trivial ?_
 try dsimp only
 repeat (conv in (uV _ _ _ _)=>whnf)
 conv=>whnf
 refine .mk λx413=>?_
 conv=>whnf
 exact .mk
 conv=>whnf
 exact .mk
 intro _ _
 conv=>whnf
 try dsimp only
 repeat (conv in (uV _ _ _ _)=>whnf)
 exact .mk
 intro _ _
 conv=>whnf
 refine .mk trivial ?_
 try dsimp only
 repeat (conv in (uV _ _ _ _)=>whnf)
 conv=>whnf
 refine .mk _ (aT (uR rfl Tryz.underlying81 rfl rfl)) ?_
 conv=>whnf
 exact .mk
 intro y79_2 u230
 conv=>whnf
 refine .mk trivial ?_
 try dsimp only
 repeat (conv in (uV _ _ _ _)=>whnf)
 conv=>whnf
 refine .mk _ (aT (dQ (ps:=[(0,_)]) (rows:=[[.pt 1 v2 0 9]]) rfl Tryz.underlying233 lI (.cons rfl .nil) (by kernel_rfl) rfl rfl rfl)) ?_
 conv=>whnf
 refine .mk ?_ ?_
 conv=>whnf
 refine .mk ?_ ?_
 conv=>whnf
 refine .mk ?_
 conv=>whnf
 refine .mk _ (aT (dV (j:=0) rfl Tryz.underlying233 fC rfl rfl rfl (.list rfl))) ?_
 conv=>whnf
 refine .mk _ (aT (fE rfl Tryz.underlying81 rfl rfl)) ?_
 conv=>whnf
 refine .mk ?_
 conv=>whnf
 refine .mk λx416 e416=>?_
 conv=>whnf
 refine .mk λp417=>?_
 conv=>whnf
 refine .mk λp419=>?_
 conv=>whnf
 refine .mk λx420 e420=>?_
 conv=>whnf
 refine .mk _ ⟨λ_=>aN rfl rfl (.cons rfl (.cons rfl .nil)) eO (fJ (id:=2) (aD:=v5) (ib:=5) e420 (by decide) rfl rfl p419 p417),by rintro _ _ ⟨rfl,v418,rfl⟩;exact trivial⟩ ?_
 rintro _ _ ⟨rfl,v418,rfl⟩
 try dsimp only
 conv=>whnf
 refine .mk ?_
 conv=>whnf
 refine .mk ?_
 conv=>whnf
 exact .mk
 intro _ _
 conv=>whnf
 try dsimp only
 repeat (conv in (uV _ _ _ _)=>whnf)
 exact .mk
 intro _ _
 conv=>whnf
 refine .mk trivial ?_
 try dsimp only
 repeat (conv in (uV _ _ _ _)=>whnf)
 conv=>whnf
 exact .mk
 intro y2_2 u5
 conv=>whnf
 refine .mk trivial ?_
 try dsimp only
 repeat (conv in (uV _ _ _ _)=>whnf)
 conv=>whnf
 refine .mk λp421=>?_
 conv=>whnf
 refine .mk λp422=>?_
 conv=>whnf
 refine .mk _ ⟨λ_=>aN rfl rfl (.cons rfl .nil) DJ (aA3 (id:=2) (aD:=v5) (ib:=5) (vb:=(u5 5)) (l:=y2_2) rfl rfl p421 p422),λ_ _ _=>trivial⟩ ?_
 rintro _ _ ⟨rfl,rfl⟩
 try dsimp only
 conv=>whnf
 exact .mk
end
end Go.Pv
