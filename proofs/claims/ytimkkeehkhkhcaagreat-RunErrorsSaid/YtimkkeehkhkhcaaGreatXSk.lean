import Derived.Test.YtimkkeehkhkhcaaGreatXSj
set_option linter.unusedVariables false
set_option linter.unusedSimpArgs false
namespace Go.Pv
open Go.Proofs
set_option maxRecDepth 100000
set_option maxHeartbeats 4000000
noncomputable section
noncomputable def FB (n:Nat) (a1:List UInt8) (x58:aT) (y43_1:Int) (y43_2:aI) (y43_3:List aT):WB ((aI×(List bQ))) :=
 .al 29<|
 .gv 12<|
 .as (((y43_2.s,y43_2.bad):RS).1.length<=9223372036854775806) inferInstance<|
 .bl (iA ((y43_2.s,y43_2.bad):RS) 30:Int) λx69 =>
 .bl (gK ((y43_2.s,y43_2.bad):RS) 30:RS) λx70 =>
 .ge 28 2<|
 .as ((0:Int)<=x69/\(x69:Int)<=1048576) inferInstance<|
 .bl (List.replicate (Int.toNat x69) ((⟨0,0,0⟩:bQ):bQ):List bQ) λx72 =>
 .ge 29 0<|
 .gv 30<|
 .ge 1003009 0<|
 .dr [(0,[29]),(3,[12]),(4,[12])] [(5,[])] [12,29] [5] [0,1,2,3,4,5] (.gv 34<|
 .gv 35<|
 .inl 36 zZ Tryz.func183 [1,3,5,6,7,8,9,10,11,13,14,28,29] [] (λ_ (a:aI×(List bQ))=>.aM []) (λu4753 a=>[.kp 2 [[str a.1.s,aA a.1.bad]],.kp 12 ((y43_3.map aT.av).set (Int.toNat y43_1) [.sl 30 (u4753 30) 0 a.2.length,int x58.dU.a0,int x58.dU.a1,int x58.dU.a2]),.kp 30 (a.2.map bQ.av)]) ( .al 31<|
 .jn 1 [] [1,2,3,5,6,7,8,9,10,11,12,13,14,28,29,30] [] (λ_ (a:Unit)=>[]) (λ_ _=>[]) (.lp [1,2,3,8,9] [1,2,3,5,6,7,8,9,10,11,12,13,14,28,29,30,31] [] (λ_ (a:Unit)=>[]) (λ_ _=>[]) n () (λ_ =>
 .bB 10 (decide (0<((Int.toNat x69):Int))) λx77 =>
 .az [10] x77 (.esc (.ret ()))))
  (λ_ =>
 .ret (((⟨x70.1,x70.2⟩:aI):aI),(x72:List bQ)))) (pw λy47_1 y47_2 =>
 .as (y47_2.length=(Int.toNat x69)) inferInstance<|
 .gv 41<|
 .gv 44<|
 .gv 45<|
 .bB 47 (decide ((y47_2.length:Int)=0)) λx79 =>
 .jJ 30<|
 .jn 0 [] [1,2,3,5,6,7,8,9,10,11,13,14,28] [] (λ_ (a:(List bQ))=>[]) (λ_ a=>[.kp 12 ((y43_3.map aT.av).set (Int.toNat y43_1) [aG 3 bQ.av a,int x58.dU.a0,int x58.dU.a1,int x58.dU.a2])]) (.ifs [47,48] x79 (.gv 50<|
 .ge 1006002 0<|
 .ret ([]:List bQ)) (.ret (y47_2:List bQ)))
  (λy50_1 =>
 .ret ((y47_1:aI),(y50_1:List bQ)))))
noncomputable def KE (a1:List UInt8) (x21:dB×Int) (x58:aT) (y43_1:Int) (y43_3:List aT) (y46_1:aI) (y46_2:List bQ) (y5_1:Int) (y5_3:List aH) (y6_2:Int) (y7_2:Bool):WB ((aI×(List aT))) :=
 .jn 1 [] [1,3,5,6,8,9,10,11,13,14,28] [] (λ_ (a:aI×(List aT))=>[]) (λu4761 a=>[.kp 2 [[str a.1.s,aA a.1.bad]],.kp 7 ((y5_3.map aH.av).set (Int.toNat y5_1) [int y6_2,aA y7_2,.sl 12 (u4761 12) 0 a.2.length,.sl 13 (u4761 13) 0 (Int.toNat 17),.sl 14 (u4761 14) 0 (Int.toNat (x21.1.bC.length:Int)),.sc (.slice none 0 0),.sc (.slice none 0 0),.sc (.slice none 0 0)]),.kp 12 (a.2.map aT.av)]) (.un 24 (.kB 9 true<|
 .gv 10<|
 .gv 16<|
 .as (((y46_1.s,y46_1.bad):RS).1.length<=9223372036854775806) inferInstance<|
 .bl (dG ((y46_1.s,y46_1.bad):RS):Int) λx84 =>
 .bl (dL ((y46_1.s,y46_1.bad):RS):RS) λx85 =>
 .ge 30 2<|
 .gv 31<|
 .bl (y43_3.set (Int.toNat y43_1) ((⟨y46_2,(⟨x84,x58.dU.a1,x58.dU.a2⟩:jN)⟩:aT):aT):List aT) λx86 =>
 .ge 1005007 0<|
 .kI 32 1<|
 .kB 9 true<|
 .gv 10<|
 .gv 16<|
 .as (x85.1.length<=9223372036854775806) inferInstance<|
 .bl (dG x85:Int) λx88 =>
 .bl (dL x85:RS) λx89 =>
 .ge 30 2<|
 .gv 31<|
 .bl (x86.set (Int.toNat y43_1) ((⟨y46_2,(⟨x84,x88,x58.dU.a2⟩:jN)⟩:aT):aT):List aT) λx90 =>
 .ge 1005007 0<|
 .kI 32 2<|
 .kB 9 true<|
 .gv 10<|
 .gv 16<|
 .as (x89.1.length<=9223372036854775806) inferInstance<|
 .bl (dG x89:Int) λx92 =>
 .bl (dL x89:RS) λx93 =>
 .ge 30 2<|
 .gv 31<|
 .bl (x90.set (Int.toNat y43_1) ((⟨y46_2,(⟨x84,x88,x92⟩:jN)⟩:aT):aT):List aT) λx94 =>
 .ge 1005007 0<|
 .kI 32 3<|
 .kB 9 false<|
 .ret (((⟨x93.1,x93.2⟩:aI):aI),(x94:List aT))))
  (pw λy52_1 y52_2 =>
 .ret ((y52_1:aI),(y52_2:List aT)))
noncomputable def H8 (n:Nat) (a1:List UInt8) (x21:dB×Int) (x58:aT) (y43_1:Int) (y43_2:aI) (y43_3:List aT) (y5_1:Int) (y5_3:List aH) (y6_2:Int) (y7_2:Bool):WB ((aI×(List aT))) :=
 .gv 7<|
 .gv 8<|
 .inl 9 D4 Tryz.func158 [1,3,5,6,7,8,9,10,11,13,14,28] [] (λ_ (a:aI×(List bQ))=>.aM []) (λ_ a=>[.kp 2 [[str a.1.s,aA a.1.bad]],.kp 12 ((y43_3.map aT.av).set (Int.toNat y43_1) [aG 3 bQ.av a.2,int x58.dU.a0,int x58.dU.a1,int x58.dU.a2])]) (FB n a1 x58 y43_1 y43_2 y43_3) (pw λy46_1 y46_2 =>
 .dr [(2,[12]),(3,[12]),(4,[12]),(6,[12]),(7,[12]),(8,[12]),(10,[12]),(11,[12]),(12,[12])] [(14,[])] [12] [14] [0,1,2,3,4,5,6,7,8,9,10,11,12,13,14] (.gv 12<|
 .gv 13<|
 .gv 14<|
 .gv 16<|
 .gv 17<|
 .gv 18<|
 .gv 20<|
 .gv 21<|
 .gv 22<|
 .gv 23<|
 .inl 24 jG Tryz.func85 [1,3,5,6,8,9,10,11,13,14,28] [] (λ_ (a:aI×(List aT))=>.aM []) (λu4760 a=>[.kp 2 [[str a.1.s,aA a.1.bad]],.kp 7 ((y5_3.map aH.av).set (Int.toNat y5_1) [int y6_2,aA y7_2,.sl 12 (u4760 12) 0 a.2.length,.sl 13 (u4760 13) 0 (Int.toNat 17),.sl 14 (u4760 14) 0 (Int.toNat (x21.1.bC.length:Int)),.sc (.slice none 0 0),.sc (.slice none 0 0),.sc (.slice none 0 0)]),.kp 12 (a.2.map aT.av)]) (KE a1 x21 x58 y43_1 y43_3 y46_1 y46_2 y5_1 y5_3 y6_2 y7_2) (pw λy53_1 y53_2 =>
 .ret ((y53_1:aI),(y53_2:List aT)))))
noncomputable def JV (n:Nat) (a1:List UInt8) (x21:dB×Int) (x33:Int) (x35:List aT) (y5_1:Int) (y5_3:List aH) (y6_2:Int) (y7_1:aI) (y7_2:Bool):WB ((aI×(List aT))) :=
 .al 28<|
 .jn 1 [] [1,3,5,6,8,9,10,11,13,14] [] (λ_ (a:aI×(List aT))=>[]) (λu4744 a=>[.kp 2 [[str a.1.s,aA a.1.bad]],.kp 7 ((y5_3.map aH.av).set (Int.toNat y5_1) [int y6_2,aA y7_2,.sl 12 (u4744 12) 0 a.2.length,.sl 13 (u4744 13) 0 (Int.toNat 17),.sl 14 (u4744 14) 0 (Int.toNat (x21.1.bC.length:Int)),.sc (.slice none 0 0),.sc (.slice none 0 0),.sc (.slice none 0 0)]),.kp 12 (a.2.map aT.av)]) (.lp [1,3,8] [1,3,5,6,8,9,10,11,13,14,28] [] (λu4747 (a:Int×aI×(List aT))=>[(2,.sl 12 (u4747 12) 0 a.2.2.length),(9,int a.1)]) (λu4747 a=>[.kp 2 [[str a.2.1.s,aA a.2.1.bad]],.kp 7 ((y5_3.map aH.av).set (Int.toNat y5_1) [int y6_2,aA y7_2,.sl 12 (u4747 12) 0 a.2.2.length,.sl 13 (u4747 13) 0 (Int.toNat 17),.sl 14 (u4747 14) 0 (Int.toNat (x21.1.bC.length:Int)),.sc (.slice none 0 0),.sc (.slice none 0 0),.sc (.slice none 0 0)]),.kp 12 (a.2.2.map aT.av)]) n ((0:Int),(y7_1:aI),(x35:List aT)) (pw λy43_1 q0=>(pw λy43_2 y43_3 =>
 .bB 10 (decide (y43_1<((Int.toNat x33):Int))) λx57 =>
 .ifs [10] x57 (.dr [(0,[28]),(1,[28]),(5,[12])] [(6,[])] [12,28] [6] [0,1,2,3,4,5,6] (.bo (ix y43_3 y43_1) λx58 =>
 .gv 17<|
 .inl 18 C5 Tryz.func118 [1,3,5,6,8,9,10,11,13,14,28] [] (λ_ (a:aI×(List aT))=>.aM []) (λu4749 a=>[.kp 2 [[str a.1.s,aA a.1.bad]],.kp 7 ((y5_3.map aH.av).set (Int.toNat y5_1) [int y6_2,aA y7_2,.sl 12 (u4749 12) 0 a.2.length,.sl 13 (u4749 13) 0 (Int.toNat 17),.sl 14 (u4749 14) 0 (Int.toNat (x21.1.bC.length:Int)),.sc (.slice none 0 0),.sc (.slice none 0 0),.sc (.slice none 0 0)]),.kp 12 (a.2.map aT.av)]) (H8 n a1 x21 x58 y43_1 y43_2 y43_3 y5_1 y5_3 y6_2 y7_2) (pw λy44_1 y44_2 =>
 .as (y44_2.length=y43_3.length) inferInstance<|
 .bI 19 (bL (y43_1+1)) λx96 =>
 .brk ((x96:Int),(y44_1:aI),(y44_2:List aT))))) (.esc (.ret ((y43_2:aI),(y43_3:List aT))))) q0))
  (pw λy45_1 y45_2 =>
 .ret ((y45_1:aI),(y45_2:List aT)))
noncomputable def JL (x21:dB×Int) (x33:Int) (y54_1:Int) (y54_2:aI) (y54_3:List Int) (y5_1:Int) (y5_3:List aH) (y6_2:Int) (y7_2:Bool):WB ((aI×(List Int))) :=
 .gv 6<|
 .inl 7 jG Tryz.func85 [1,3,5,6,8,9,10,11,12,14,32] [] (λ_ (a:aI×(List Int))=>.aM []) (λu4781 a=>[.kp 2 [[str a.1.s,aA a.1.bad]],.kp 7 ((y5_3.map aH.av).set (Int.toNat y5_1) [int y6_2,aA y7_2,.sl 12 (u4781 12) 0 (Int.toNat x33),.sl 13 (u4781 13) 0 a.2.length,.sl 14 (u4781 14) 0 (Int.toNat (x21.1.bC.length:Int)),.sc (.slice none 0 0),.sc (.slice none 0 0),.sc (.slice none 0 0)]),.kp 13 (a.2.map fI)]) ( .jn 1 [] [1,3,5,6,8,9,10,11,12,14,32] [] (λ_ (a:aI×(List Int))=>[]) (λu4782 a=>[.kp 2 [[str a.1.s,aA a.1.bad]],.kp 7 ((y5_3.map aH.av).set (Int.toNat y5_1) [int y6_2,aA y7_2,.sl 12 (u4782 12) 0 (Int.toNat x33),.sl 13 (u4782 13) 0 a.2.length,.sl 14 (u4782 14) 0 (Int.toNat (x21.1.bC.length:Int)),.sc (.slice none 0 0),.sc (.slice none 0 0),.sc (.slice none 0 0)]),.kp 13 (a.2.map fI)]) (.un 24 (.kB 9 true<|
 .gv 10<|
 .gv 16<|
 .as (((y54_2.s,y54_2.bad):RS).1.length<=9223372036854775806) inferInstance<|
 .bl (dG ((y54_2.s,y54_2.bad):RS):Int) λx110 =>
 .bl (dL ((y54_2.s,y54_2.bad):RS):RS) λx111 =>
 .ge 30 2<|
 .gv 31<|
 .bl (y54_3.set (Int.toNat y54_1) (x110:Int):List Int) λx112 =>
 .ge 1005007 0<|
 .kI 32 1<|
 .kB 9 false<|
 .ret (((⟨x111.1,x111.2⟩:aI):aI),(x112:List Int))))
  (pw λy59_1 y59_2 =>
 .ret ((y59_1:aI),(y59_2:List Int)))) (pw λy57_1 y57_2 =>
 .ret ((y57_1:aI),(y57_2:List Int)))
noncomputable def IC (n:Nat) (x21:dB×Int) (x33:Int) (x38:List Int) (y5_1:Int) (y5_3:List aH) (y6_2:Int) (y7_2:Bool) (y8_1:aI):WB ((aI×(List Int))) :=
 .al 32<|
 .jn 1 [] [1,3,5,6,8,9,10,11,12,14] [] (λ_ (a:aI×(List Int))=>[]) (λu4774 a=>[.kp 2 [[str a.1.s,aA a.1.bad]],.kp 7 ((y5_3.map aH.av).set (Int.toNat y5_1) [int y6_2,aA y7_2,.sl 12 (u4774 12) 0 (Int.toNat x33),.sl 13 (u4774 13) 0 a.2.length,.sl 14 (u4774 14) 0 (Int.toNat (x21.1.bC.length:Int)),.sc (.slice none 0 0),.sc (.slice none 0 0),.sc (.slice none 0 0)]),.kp 13 (a.2.map fI)]) (.lp [1,3,8] [1,3,5,6,8,9,10,11,12,14,32] [] (λu4777 (a:Int×aI×(List Int))=>[(2,.sl 13 (u4777 13) 0 a.2.2.length),(9,int a.1)]) (λu4777 a=>[.kp 2 [[str a.2.1.s,aA a.2.1.bad]],.kp 7 ((y5_3.map aH.av).set (Int.toNat y5_1) [int y6_2,aA y7_2,.sl 12 (u4777 12) 0 (Int.toNat x33),.sl 13 (u4777 13) 0 a.2.2.length,.sl 14 (u4777 14) 0 (Int.toNat (x21.1.bC.length:Int)),.sc (.slice none 0 0),.sc (.slice none 0 0),.sc (.slice none 0 0)]),.kp 13 (a.2.2.map fI)]) n ((0:Int),(y8_1:aI),(x38:List Int)) (pw λy54_1 q0=>(pw λy54_2 y54_3 =>
 .bB 10 (decide (y54_1<((Int.toNat 17):Int))) λx101 =>
 .ifs [10] x101 (.dr [(0,[32]),(1,[32]),(5,[13])] [(6,[])] [13,32] [6] [0,1,2,3,4,5,6] (.bo (ix y54_3 y54_1) λx102 =>
 .gv 17<|
 .inl 18 o6 Tryz.func120 [1,3,5,6,8,9,10,11,12,14,32] [] (λ_ (a:aI×(List Int))=>.aM []) (λu4779 a=>[.kp 2 [[str a.1.s,aA a.1.bad]],.kp 7 ((y5_3.map aH.av).set (Int.toNat y5_1) [int y6_2,aA y7_2,.sl 12 (u4779 12) 0 (Int.toNat x33),.sl 13 (u4779 13) 0 a.2.length,.sl 14 (u4779 14) 0 (Int.toNat (x21.1.bC.length:Int)),.sc (.slice none 0 0),.sc (.slice none 0 0),.sc (.slice none 0 0)]),.kp 13 (a.2.map fI)]) (JL x21 x33 y54_1 y54_2 y54_3 y5_1 y5_3 y6_2 y7_2) (pw λy55_1 y55_2 =>
 .as (y55_2.length=y54_3.length) inferInstance<|
 .bI 19 (bL (y54_1+1)) λx114 =>
 .brk ((x114:Int),(y55_1:aI),(y55_2:List Int))))) (.esc (.ret ((y54_2:aI),(y54_3:List Int))))) q0))
  (pw λy56_1 y56_2 =>
 .ret ((y56_1:aI),(y56_2:List Int)))
noncomputable def FW (x120:bA) (x33:Int) (y5_1:Int) (y5_3:List aH) (y60_1:Int) (y60_2:aI) (y60_3:List bA) (y6_2:Int) (y7_2:Bool):WB ((aI×(List bA))) :=
 .jn 1 [] [1,3,5,6,8,9,10,11,12,13,33] [] (λ_ (a:aI×(List bA))=>[]) (λu4804 a=>[.kp 2 [[str a.1.s,aA a.1.bad]],.kp 7 ((y5_3.map aH.av).set (Int.toNat y5_1) [int y6_2,aA y7_2,.sl 12 (u4804 12) 0 (Int.toNat x33),.sl 13 (u4804 13) 0 (Int.toNat 17),.sl 14 (u4804 14) 0 a.2.length,.sc (.slice none 0 0),.sc (.slice none 0 0),.sc (.slice none 0 0)]),.kp 14 (a.2.map bA.av)]) (.un 24 (.kB 9 true<|
 .gv 10<|
 .gv 16<|
 .as (((y60_2.s,y60_2.bad):RS).1.length<=9223372036854775806) inferInstance<|
 .bl (dG ((y60_2.s,y60_2.bad):RS):Int) λx138 =>
 .bl (dL ((y60_2.s,y60_2.bad):RS):RS) λx139 =>
 .ge 30 2<|
 .gv 31<|
 .bl (y60_3.set (Int.toNat y60_1) ((⟨x138,x120.jL,x120.jE,x120.iR,x120.iJ,x120.iB,x120.gW,x120.gL,x120.gH,x120.gD,x120.fU⟩:bA):bA):List bA) λx140 =>
 .ge 1005007 0<|
 .kI 32 1<|
 .kB 9 true<|
 .gv 10<|
 .gv 16<|
 .as (x139.1.length<=9223372036854775806) inferInstance<|
 .bl (dG x139:Int) λx142 =>
 .bl (dL x139:RS) λx143 =>
 .ge 30 2<|
 .gv 31<|
 .bl (x140.set (Int.toNat y60_1) ((⟨x138,x142,x120.jE,x120.iR,x120.iJ,x120.iB,x120.gW,x120.gL,x120.gH,x120.gD,x120.fU⟩:bA):bA):List bA) λx144 =>
 .ge 1005007 0<|
 .kI 32 2<|
 .kB 9 true<|
 .gv 10<|
 .gv 16<|
 .as (x143.1.length<=9223372036854775806) inferInstance<|
 .bl (dG x143:Int) λx146 =>
 .bl (dL x143:RS) λx147 =>
 .ge 30 2<|
 .gv 31<|
 .bl (x144.set (Int.toNat y60_1) ((⟨x138,x142,x146,x120.iR,x120.iJ,x120.iB,x120.gW,x120.gL,x120.gH,x120.gD,x120.fU⟩:bA):bA):List bA) λx148 =>
 .ge 1005007 0<|
 .kI 32 3<|
 .kB 9 true<|
 .gv 10<|
 .gv 16<|
 .as (x147.1.length<=9223372036854775806) inferInstance<|
 .bl (dG x147:Int) λx150 =>
 .bl (dL x147:RS) λx151 =>
 .ge 30 2<|
 .gv 31<|
 .bl (x148.set (Int.toNat y60_1) ((⟨x138,x142,x146,x150,x120.iJ,x120.iB,x120.gW,x120.gL,x120.gH,x120.gD,x120.fU⟩:bA):bA):List bA) λx152 =>
 .ge 1005007 0<|
 .kI 32 4<|
 .kB 9 true<|
 .gv 10<|
 .gv 16<|
 .as (x151.1.length<=9223372036854775806) inferInstance<|
 .bl (dG x151:Int) λx154 =>
 .bl (dL x151:RS) λx155 =>
 .ge 30 2<|
 .gv 31<|
 .bl (x152.set (Int.toNat y60_1) ((⟨x138,x142,x146,x150,x154,x120.iB,x120.gW,x120.gL,x120.gH,x120.gD,x120.fU⟩:bA):bA):List bA) λx156 =>
 .ge 1005007 0<|
 .kI 32 5<|
 .kB 9 true<|
 .gv 10<|
 .gv 16<|
 .as (x155.1.length<=9223372036854775806) inferInstance<|
 .bl (dG x155:Int) λx158 =>
 .bl (dL x155:RS) λx159 =>
 .ge 30 2<|
 .gv 31<|
 .bl (x156.set (Int.toNat y60_1) ((⟨x138,x142,x146,x150,x154,x158,x120.gW,x120.gL,x120.gH,x120.gD,x120.fU⟩:bA):bA):List bA) λx160 =>
 .ge 1005007 0<|
 .kI 32 6<|
 .kB 9 true<|
 .gv 10<|
 .gv 16<|
 .as (x159.1.length<=9223372036854775806) inferInstance<|
 .bl (dG x159:Int) λx162 =>
 .bl (dL x159:RS) λx163 =>
 .ge 30 2<|
 .gv 31<|
 .bl (x160.set (Int.toNat y60_1) ((⟨x138,x142,x146,x150,x154,x158,x162,x120.gL,x120.gH,x120.gD,x120.fU⟩:bA):bA):List bA) λx164 =>
 .ge 1005007 0<|
 .kI 32 7<|
 .kB 9 true<|
 .gv 10<|
 .gv 16<|
 .as (x163.1.length<=9223372036854775806) inferInstance<|
 .bl (dG x163:Int) λx166 =>
 .bl (dL x163:RS) λx167 =>
 .ge 30 2<|
 .gv 31<|
 .bl (x164.set (Int.toNat y60_1) ((⟨x138,x142,x146,x150,x154,x158,x162,x166,x120.gH,x120.gD,x120.fU⟩:bA):bA):List bA) λx168 =>
 .ge 1005007 0<|
 .kI 32 8<|
 .kB 9 true<|
 .gv 10<|
 .gv 16<|
 .as (x167.1.length<=9223372036854775806) inferInstance<|
 .bl (dG x167:Int) λx170 =>
 .bl (dL x167:RS) λx171 =>
 .ge 30 2<|
 .gv 31<|
 .bl (x168.set (Int.toNat y60_1) ((⟨x138,x142,x146,x150,x154,x158,x162,x166,x170,x120.gD,x120.fU⟩:bA):bA):List bA) λx172 =>
 .ge 1005007 0<|
 .kI 32 9<|
 .kB 9 true<|
 .gv 10<|
 .gv 16<|
 .as (x171.1.length<=9223372036854775806) inferInstance<|
 .bl (dG x171:Int) λx174 =>
 .bl (dL x171:RS) λx175 =>
 .ge 30 2<|
 .gv 31<|
 .bl (x172.set (Int.toNat y60_1) ((⟨x138,x142,x146,x150,x154,x158,x162,x166,x170,x174,x120.fU⟩:bA):bA):List bA) λx176 =>
 .ge 1005007 0<|
 .kI 32 10<|
 .kB 9 true<|
 .gv 10<|
 .gv 16<|
 .as (x175.1.length<=9223372036854775806) inferInstance<|
 .bl (dG x175:Int) λx178 =>
 .bl (dL x175:RS) λx179 =>
 .ge 30 2<|
 .gv 31<|
 .bl (x176.set (Int.toNat y60_1) ((⟨x138,x142,x146,x150,x154,x158,x162,x166,x170,x174,x178⟩:bA):bA):List bA) λx180 =>
 .ge 1005007 0<|
 .kI 32 11<|
 .kB 9 false<|
 .ret (((⟨x179.1,x179.2⟩:aI):aI),(x180:List bA))))
  (pw λy64_1 y64_2 =>
 .ret ((y64_1:aI),(y64_2:List bA)))
noncomputable def ED (x120:bA) (x33:Int) (y5_1:Int) (y5_3:List aH) (y60_1:Int) (y60_2:aI) (y60_3:List bA) (y6_2:Int) (y7_2:Bool):WB ((aI×(List bA))) :=
 .dr [(2,[14]),(3,[14]),(5,[14]),(6,[14]),(8,[14]),(9,[14]),(11,[14]),(12,[14]),(14,[14]),(15,[14]),(17,[14]),(18,[14]),(20,[14]),(21,[14]),(23,[14]),(24,[14]),(26,[14]),(27,[14]),(29,[14]),(30,[14]),(32,[14]),(33,[14])] [(35,[])] [14] [35] [0,1,2,3,4,5,6,7,8,9,10,11,12,13,14,15,16,17,18,19,20,21,22,23,24,25,26,27,28,29,30,31,32,33,34,35] (.gv 6<|
 .gv 7<|
 .gv 9<|
 .gv 10<|
 .gv 12<|
 .gv 13<|
 .gv 15<|
 .gv 16<|
 .gv 18<|
 .gv 19<|
 .gv 21<|
 .gv 22<|
 .gv 24<|
 .gv 25<|
 .gv 27<|
 .gv 28<|
 .gv 30<|
 .gv 31<|
 .gv 33<|
 .gv 34<|
 .gv 36<|
 .gv 37<|
 .gv 38<|
 .inl 39 jG Tryz.func85 [1,3,5,6,8,9,10,11,12,13,33] [] (λ_ (a:aI×(List bA))=>.aM []) (λu4803 a=>[.kp 2 [[str a.1.s,aA a.1.bad]],.kp 7 ((y5_3.map aH.av).set (Int.toNat y5_1) [int y6_2,aA y7_2,.sl 12 (u4803 12) 0 (Int.toNat x33),.sl 13 (u4803 13) 0 (Int.toNat 17),.sl 14 (u4803 14) 0 a.2.length,.sc (.slice none 0 0),.sc (.slice none 0 0),.sc (.slice none 0 0)]),.kp 14 (a.2.map bA.av)]) (FW x120 x33 y5_1 y5_3 y60_1 y60_2 y60_3 y6_2 y7_2) (pw λy65_1 y65_2 =>
 .ret ((y65_1:aI),(y65_2:List bA))))
noncomputable def IU (n:Nat) (x21:dB×Int) (x33:Int) (x41:List bA) (y5_1:Int) (y5_3:List aH) (y6_2:Int) (y7_2:Bool) (y9_1:aI):WB ((aI×(List bA))) :=
 .al 33<|
 .jn 1 [] [1,3,5,6,8,9,10,11,12,13] [] (λ_ (a:aI×(List bA))=>[]) (λu4795 a=>[.kp 2 [[str a.1.s,aA a.1.bad]],.kp 7 ((y5_3.map aH.av).set (Int.toNat y5_1) [int y6_2,aA y7_2,.sl 12 (u4795 12) 0 (Int.toNat x33),.sl 13 (u4795 13) 0 (Int.toNat 17),.sl 14 (u4795 14) 0 a.2.length,.sc (.slice none 0 0),.sc (.slice none 0 0),.sc (.slice none 0 0)]),.kp 14 (a.2.map bA.av)]) (.lp [1,3,8] [1,3,5,6,8,9,10,11,12,13,33] [] (λu4798 (a:Int×aI×(List bA))=>[(2,.sl 14 (u4798 14) 0 a.2.2.length),(9,int a.1)]) (λu4798 a=>[.kp 2 [[str a.2.1.s,aA a.2.1.bad]],.kp 7 ((y5_3.map aH.av).set (Int.toNat y5_1) [int y6_2,aA y7_2,.sl 12 (u4798 12) 0 (Int.toNat x33),.sl 13 (u4798 13) 0 (Int.toNat 17),.sl 14 (u4798 14) 0 a.2.2.length,.sc (.slice none 0 0),.sc (.slice none 0 0),.sc (.slice none 0 0)]),.kp 14 (a.2.2.map bA.av)]) n ((0:Int),(y9_1:aI),(x41:List bA)) (pw λy60_1 q0=>(pw λy60_2 y60_3 =>
 .bB 10 (decide (y60_1<((Int.toNat (x21.1.bC.length:Int)):Int))) λx119 =>
 .ifs [10] x119 (.dr [(0,[33]),(1,[33]),(5,[14])] [(6,[])] [14,33] [6] [0,1,2,3,4,5,6] (.bo (ix y60_3 y60_1) λx120 =>
 .gv 17<|
 .inl 18 DY Tryz.func122 [1,3,5,6,8,9,10,11,12,13,33] [] (λ_ (a:aI×(List bA))=>.aM []) (λu4800 a=>[.kp 2 [[str a.1.s,aA a.1.bad]],.kp 7 ((y5_3.map aH.av).set (Int.toNat y5_1) [int y6_2,aA y7_2,.sl 12 (u4800 12) 0 (Int.toNat x33),.sl 13 (u4800 13) 0 (Int.toNat 17),.sl 14 (u4800 14) 0 a.2.length,.sc (.slice none 0 0),.sc (.slice none 0 0),.sc (.slice none 0 0)]),.kp 14 (a.2.map bA.av)]) (ED x120 x33 y5_1 y5_3 y60_1 y60_2 y60_3 y6_2 y7_2) (pw λy61_1 y61_2 =>
 .as (y61_2.length=y60_3.length) inferInstance<|
 .bI 19 (bL (y60_1+1)) λx182 =>
 .brk ((x182:Int),(y61_1:aI),(y61_2:List bA))))) (.esc (.ret ((y60_2:aI),(y60_3:List bA))))) q0))
  (pw λy62_1 y62_2 =>
 .ret ((y62_1:aI),(y62_2:List bA)))
noncomputable def GX (x21:dB×Int) (x33:Int) (y5_1:Int) (y5_3:List aH) (y67_1:Int) (y67_2:aI) (y67_3:List Int) (y6_2:Int) (y7_2:Bool):WB ((aI×(List Int))) :=
 .gv 6<|
 .inl 7 jG Tryz.func85 [1,3,5,6,8,9,10,11,12,13,14,34,36] [] (λ_ (a:aI×(List Int))=>.aM []) (λu4826 a=>[.kp 2 [[str a.1.s,aA a.1.bad]],.kp 7 ((y5_3.map aH.av).set (Int.toNat y5_1) [int y6_2,aA y7_2,.sl 12 (u4826 12) 0 (Int.toNat x33),.sl 13 (u4826 13) 0 (Int.toNat 17),.sl 14 (u4826 14) 0 (Int.toNat (x21.1.bC.length:Int)),.sl 35 (u4826 35) 0 a.2.length,.sc (.slice none 0 0),.sc (.slice none 0 0)]),.kp 35 (a.2.map fI)]) ( .jn 1 [] [1,3,5,6,8,9,10,11,12,13,14,34,36] [] (λ_ (a:aI×(List Int))=>[]) (λu4827 a=>[.kp 2 [[str a.1.s,aA a.1.bad]],.kp 7 ((y5_3.map aH.av).set (Int.toNat y5_1) [int y6_2,aA y7_2,.sl 12 (u4827 12) 0 (Int.toNat x33),.sl 13 (u4827 13) 0 (Int.toNat 17),.sl 14 (u4827 14) 0 (Int.toNat (x21.1.bC.length:Int)),.sl 35 (u4827 35) 0 a.2.length,.sc (.slice none 0 0),.sc (.slice none 0 0)]),.kp 35 (a.2.map fI)]) (.un 24 (.kB 9 true<|
 .gv 10<|
 .gv 16<|
 .as (((y67_2.s,y67_2.bad):RS).1.length<=9223372036854775806) inferInstance<|
 .bl (dG ((y67_2.s,y67_2.bad):RS):Int) λx205 =>
 .bl (dL ((y67_2.s,y67_2.bad):RS):RS) λx206 =>
 .ge 30 2<|
 .gv 31<|
 .bl (y67_3.set (Int.toNat y67_1) (x205:Int):List Int) λx207 =>
 .ge 1005007 0<|
 .kI 32 1<|
 .kB 9 false<|
 .ret (((⟨x206.1,x206.2⟩:aI):aI),(x207:List Int))))
  (pw λy72_1 y72_2 =>
 .ret ((y72_1:aI),(y72_2:List Int)))) (pw λy70_1 y70_2 =>
 .ret ((y70_1:aI),(y70_2:List Int)))
noncomputable def KM (n:Nat) (x188:Int) (x189:RS) (x191:List Int) (x21:dB×Int) (x33:Int) (y5_1:Int) (y5_3:List aH) (y6_2:Int) (y7_2:Bool):WB ((aI×(List Int))) :=
 .al 36<|
 .jn 1 [] [1,3,5,6,8,9,10,11,12,13,14,34] [] (λ_ (a:aI×(List Int))=>[]) (λu4819 a=>[.kp 2 [[str a.1.s,aA a.1.bad]],.kp 7 ((y5_3.map aH.av).set (Int.toNat y5_1) [int y6_2,aA y7_2,.sl 12 (u4819 12) 0 (Int.toNat x33),.sl 13 (u4819 13) 0 (Int.toNat 17),.sl 14 (u4819 14) 0 (Int.toNat (x21.1.bC.length:Int)),.sl 35 (u4819 35) 0 a.2.length,.sc (.slice none 0 0),.sc (.slice none 0 0)]),.kp 35 (a.2.map fI)]) (.lp [1,3,8] [1,3,5,6,8,9,10,11,12,13,14,34,36] [] (λu4822 (a:Int×aI×(List Int))=>[(2,.sl 35 (u4822 35) 0 a.2.2.length),(9,int a.1)]) (λu4822 a=>[.kp 2 [[str a.2.1.s,aA a.2.1.bad]],.kp 7 ((y5_3.map aH.av).set (Int.toNat y5_1) [int y6_2,aA y7_2,.sl 12 (u4822 12) 0 (Int.toNat x33),.sl 13 (u4822 13) 0 (Int.toNat 17),.sl 14 (u4822 14) 0 (Int.toNat (x21.1.bC.length:Int)),.sl 35 (u4822 35) 0 a.2.2.length,.sc (.slice none 0 0),.sc (.slice none 0 0)]),.kp 35 (a.2.2.map fI)]) n ((0:Int),((⟨x189.1,x189.2⟩:aI):aI),(x191:List Int)) (pw λy67_1 q0=>(pw λy67_2 y67_3 =>
 .bB 10 (decide (y67_1<((Int.toNat x188):Int))) λx196 =>
 .ifs [10] x196 (.dr [(0,[36]),(1,[36]),(5,[35])] [(6,[])] [35,36] [6] [0,1,2,3,4,5,6] (.bo (ix y67_3 y67_1) λx197 =>
 .gv 17<|
 .inl 18 o6 Tryz.func120 [1,3,5,6,8,9,10,11,12,13,14,34,36] [] (λ_ (a:aI×(List Int))=>.aM []) (λu4824 a=>[.kp 2 [[str a.1.s,aA a.1.bad]],.kp 7 ((y5_3.map aH.av).set (Int.toNat y5_1) [int y6_2,aA y7_2,.sl 12 (u4824 12) 0 (Int.toNat x33),.sl 13 (u4824 13) 0 (Int.toNat 17),.sl 14 (u4824 14) 0 (Int.toNat (x21.1.bC.length:Int)),.sl 35 (u4824 35) 0 a.2.length,.sc (.slice none 0 0),.sc (.slice none 0 0)]),.kp 35 (a.2.map fI)]) (GX x21 x33 y5_1 y5_3 y67_1 y67_2 y67_3 y6_2 y7_2) (pw λy68_1 y68_2 =>
 .as (y68_2.length=y67_3.length) inferInstance<|
 .bI 19 (bL (y67_1+1)) λx209 =>
 .brk ((x209:Int),(y68_1:aI),(y68_2:List Int))))) (.esc (.ret ((y67_2:aI),(y67_3:List Int))))) q0))
  (pw λy69_1 y69_2 =>
 .ret ((y69_1:aI),(y69_2:List Int)))
noncomputable def EX (n:Nat) (x21:dB×Int) (x33:Int) (y10_1:aI) (y5_1:Int) (y5_3:List aH) (y6_2:Int) (y7_2:Bool):WB ((aI×(List Int))) :=
 .al 34<|
 .gv 12<|
 .as (((y10_1.s,y10_1.bad):RS).1.length<=9223372036854775806) inferInstance<|
 .bl (iA ((y10_1.s,y10_1.bad):RS) 5:Int) λx188 =>
 .bl (gK ((y10_1.s,y10_1.bad):RS) 5:RS) λx189 =>
 .ge 28 2<|
 .as ((0:Int)<=x188/\(x188:Int)<=1048576) inferInstance<|
 .bl (List.replicate (Int.toNat x188) (0:Int):List Int) λx191 =>
 .ge 29 0<|
 .gv 30<|
 .ge 1003009 0<|
 .dr [(0,[34]),(3,[7]),(4,[7])] [(5,[])] [7,34] [5] [0,1,2,3,4,5] (.gv 34<|
 .gv 35<|
 .inl 36 pO Tryz.func121 [1,3,5,6,8,9,10,11,12,13,14,34] [] (λ_ (a:aI×(List Int))=>.aM []) (λu4808 a=>[.kp 2 [[str a.1.s,aA a.1.bad]],.kp 7 ((y5_3.map aH.av).set (Int.toNat y5_1) [int y6_2,aA y7_2,.sl 12 (u4808 12) 0 (Int.toNat x33),.sl 13 (u4808 13) 0 (Int.toNat 17),.sl 14 (u4808 14) 0 (Int.toNat (x21.1.bC.length:Int)),.sl 35 (u4808 35) 0 a.2.length,.sc (.slice none 0 0),.sc (.slice none 0 0)]),.kp 35 (a.2.map fI)]) (KM n x188 x189 x191 x21 x33 y5_1 y5_3 y6_2 y7_2) (pw λy66_1 y66_2 =>
 .as (y66_2.length=(Int.toNat x188)) inferInstance<|
 .gv 41<|
 .gv 44<|
 .gv 45<|
 .bB 47 (decide ((y66_2.length:Int)=0)) λx211 =>
 .jJ 35<|
 .jn 0 [] [1,2,3,5,6,8,9,10,11,12,13,14] [] (λ_ (a:(List Int))=>[]) (λu4828 a=>[.kp 7 ((y5_3.map aH.av).set (Int.toNat y5_1) [int y6_2,aA y7_2,.sl 12 (u4828 12) 0 (Int.toNat x33),.sl 13 (u4828 13) 0 (Int.toNat 17),.sl 14 (u4828 14) 0 (Int.toNat (x21.1.bC.length:Int)),aG 1 fI a,.sc (.slice none 0 0),.sc (.slice none 0 0)])]) (.ifs [47,48] x211 (.gv 50<|
 .ge 1006002 0<|
 .ret ([]:List Int)) (.ret (y66_2:List Int)))
  (λy73_1 =>
 .ret ((y66_1:aI),(y73_1:List Int)))))
noncomputable def GR (x21:dB×Int) (x33:Int) (y11_2:List Int) (y5_1:Int) (y5_3:List aH) (y6_2:Int) (y75_1:Int) (y75_2:aI) (y75_3:List Int) (y7_2:Bool):WB ((aI×(List Int))) :=
 .gv 6<|
 .inl 7 jG Tryz.func85 [1,3,5,6,8,9,10,11,12,13,14,37,39] [] (λ_ (a:aI×(List Int))=>.aM []) (λu4850 a=>[.kp 2 [[str a.1.s,aA a.1.bad]],.kp 7 ((y5_3.map aH.av).set (Int.toNat y5_1) [int y6_2,aA y7_2,.sl 12 (u4850 12) 0 (Int.toNat x33),.sl 13 (u4850 13) 0 (Int.toNat 17),.sl 14 (u4850 14) 0 (Int.toNat (x21.1.bC.length:Int)),aG 1 fI y11_2,.sl 38 (u4850 38) 0 a.2.length,.sc (.slice none 0 0)]),.kp 38 (a.2.map fI)]) ( .jn 1 [] [1,3,5,6,8,9,10,11,12,13,14,37,39] [] (λ_ (a:aI×(List Int))=>[]) (λu4851 a=>[.kp 2 [[str a.1.s,aA a.1.bad]],.kp 7 ((y5_3.map aH.av).set (Int.toNat y5_1) [int y6_2,aA y7_2,.sl 12 (u4851 12) 0 (Int.toNat x33),.sl 13 (u4851 13) 0 (Int.toNat 17),.sl 14 (u4851 14) 0 (Int.toNat (x21.1.bC.length:Int)),aG 1 fI y11_2,.sl 38 (u4851 38) 0 a.2.length,.sc (.slice none 0 0)]),.kp 38 (a.2.map fI)]) (.un 24 (.kB 9 true<|
 .gv 10<|
 .gv 16<|
 .as (((y75_2.s,y75_2.bad):RS).1.length<=9223372036854775806) inferInstance<|
 .bl (dG ((y75_2.s,y75_2.bad):RS):Int) λx233 =>
 .bl (dL ((y75_2.s,y75_2.bad):RS):RS) λx234 =>
 .ge 30 2<|
 .gv 31<|
 .bl (y75_3.set (Int.toNat y75_1) (x233:Int):List Int) λx235 =>
 .ge 1005007 0<|
 .kI 32 1<|
 .kB 9 false<|
 .ret (((⟨x234.1,x234.2⟩:aI):aI),(x235:List Int))))
  (pw λy80_1 y80_2 =>
 .ret ((y80_1:aI),(y80_2:List Int)))) (pw λy78_1 y78_2 =>
 .ret ((y78_1:aI),(y78_2:List Int)))
noncomputable def K3 (n:Nat) (x21:dB×Int) (x216:Int) (x217:RS) (x219:List Int) (x33:Int) (y11_2:List Int) (y5_1:Int) (y5_3:List aH) (y6_2:Int) (y7_2:Bool):WB ((aI×(List Int))) :=
 .al 39<|
 .jn 1 [] [1,3,5,6,8,9,10,11,12,13,14,37] [] (λ_ (a:aI×(List Int))=>[]) (λu4843 a=>[.kp 2 [[str a.1.s,aA a.1.bad]],.kp 7 ((y5_3.map aH.av).set (Int.toNat y5_1) [int y6_2,aA y7_2,.sl 12 (u4843 12) 0 (Int.toNat x33),.sl 13 (u4843 13) 0 (Int.toNat 17),.sl 14 (u4843 14) 0 (Int.toNat (x21.1.bC.length:Int)),aG 1 fI y11_2,.sl 38 (u4843 38) 0 a.2.length,.sc (.slice none 0 0)]),.kp 38 (a.2.map fI)]) (.lp [1,3,8] [1,3,5,6,8,9,10,11,12,13,14,37,39] [] (λu4846 (a:Int×aI×(List Int))=>[(2,.sl 38 (u4846 38) 0 a.2.2.length),(9,int a.1)]) (λu4846 a=>[.kp 2 [[str a.2.1.s,aA a.2.1.bad]],.kp 7 ((y5_3.map aH.av).set (Int.toNat y5_1) [int y6_2,aA y7_2,.sl 12 (u4846 12) 0 (Int.toNat x33),.sl 13 (u4846 13) 0 (Int.toNat 17),.sl 14 (u4846 14) 0 (Int.toNat (x21.1.bC.length:Int)),aG 1 fI y11_2,.sl 38 (u4846 38) 0 a.2.2.length,.sc (.slice none 0 0)]),.kp 38 (a.2.2.map fI)]) n ((0:Int),((⟨x217.1,x217.2⟩:aI):aI),(x219:List Int)) (pw λy75_1 q0=>(pw λy75_2 y75_3 =>
 .bB 10 (decide (y75_1<((Int.toNat x216):Int))) λx224 =>
 .ifs [10] x224 (.dr [(0,[39]),(1,[39]),(5,[38])] [(6,[])] [38,39] [6] [0,1,2,3,4,5,6] (.bo (ix y75_3 y75_1) λx225 =>
 .gv 17<|
 .inl 18 o6 Tryz.func120 [1,3,5,6,8,9,10,11,12,13,14,37,39] [] (λ_ (a:aI×(List Int))=>.aM []) (λu4848 a=>[.kp 2 [[str a.1.s,aA a.1.bad]],.kp 7 ((y5_3.map aH.av).set (Int.toNat y5_1) [int y6_2,aA y7_2,.sl 12 (u4848 12) 0 (Int.toNat x33),.sl 13 (u4848 13) 0 (Int.toNat 17),.sl 14 (u4848 14) 0 (Int.toNat (x21.1.bC.length:Int)),aG 1 fI y11_2,.sl 38 (u4848 38) 0 a.2.length,.sc (.slice none 0 0)]),.kp 38 (a.2.map fI)]) (GR x21 x33 y11_2 y5_1 y5_3 y6_2 y75_1 y75_2 y75_3 y7_2) (pw λy76_1 y76_2 =>
 .as (y76_2.length=y75_3.length) inferInstance<|
 .bI 19 (bL (y75_1+1)) λx237 =>
 .brk ((x237:Int),(y76_1:aI),(y76_2:List Int))))) (.esc (.ret ((y75_2:aI),(y75_3:List Int))))) q0))
  (pw λy77_1 y77_2 =>
 .ret ((y77_1:aI),(y77_2:List Int)))
noncomputable def JP (n:Nat) (x21:dB×Int) (x33:Int) (y11_1:aI) (y11_2:List Int) (y5_1:Int) (y5_3:List aH) (y6_2:Int) (y7_2:Bool):WB ((aI×(List Int))) :=
 .al 37<|
 .gv 12<|
 .as (((y11_1.s,y11_1.bad):RS).1.length<=9223372036854775806) inferInstance<|
 .bl (iA ((y11_1.s,y11_1.bad):RS) 5:Int) λx216 =>
 .bl (gK ((y11_1.s,y11_1.bad):RS) 5:RS) λx217 =>
 .ge 28 2<|
 .as ((0:Int)<=x216/\(x216:Int)<=1048576) inferInstance<|
 .bl (List.replicate (Int.toNat x216) (0:Int):List Int) λx219 =>
 .ge 29 0<|
 .gv 30<|
 .ge 1003009 0<|
 .dr [(0,[37]),(3,[7]),(4,[7])] [(5,[])] [7,37] [5] [0,1,2,3,4,5] (.gv 34<|
 .gv 35<|
 .inl 36 pO Tryz.func121 [1,3,5,6,8,9,10,11,12,13,14,37] [] (λ_ (a:aI×(List Int))=>.aM []) (λu4832 a=>[.kp 2 [[str a.1.s,aA a.1.bad]],.kp 7 ((y5_3.map aH.av).set (Int.toNat y5_1) [int y6_2,aA y7_2,.sl 12 (u4832 12) 0 (Int.toNat x33),.sl 13 (u4832 13) 0 (Int.toNat 17),.sl 14 (u4832 14) 0 (Int.toNat (x21.1.bC.length:Int)),aG 1 fI y11_2,.sl 38 (u4832 38) 0 a.2.length,.sc (.slice none 0 0)]),.kp 38 (a.2.map fI)]) (K3 n x21 x216 x217 x219 x33 y11_2 y5_1 y5_3 y6_2 y7_2) (pw λy74_1 y74_2 =>
 .as (y74_2.length=(Int.toNat x216)) inferInstance<|
 .gv 41<|
 .gv 44<|
 .gv 45<|
 .bB 47 (decide ((y74_2.length:Int)=0)) λx239 =>
 .jJ 38<|
 .jn 0 [] [1,2,3,5,6,8,9,10,11,12,13,14] [] (λ_ (a:(List Int))=>[]) (λu4852 a=>[.kp 7 ((y5_3.map aH.av).set (Int.toNat y5_1) [int y6_2,aA y7_2,.sl 12 (u4852 12) 0 (Int.toNat x33),.sl 13 (u4852 13) 0 (Int.toNat 17),.sl 14 (u4852 14) 0 (Int.toNat (x21.1.bC.length:Int)),aG 1 fI y11_2,aG 1 fI a,.sc (.slice none 0 0)])]) (.ifs [47,48] x239 (.gv 50<|
 .ge 1006002 0<|
 .ret ([]:List Int)) (.ret (y74_2:List Int)))
  (λy81_1 =>
 .ret ((y74_1:aI),(y81_1:List Int)))))
noncomputable def F7 (n:Nat) (a1:List UInt8) (x277:aT) (y84_1:Int) (y84_2:aI) (y84_3:List aT):WB ((aI×(List bQ))) :=
 .al 41<|
 .gv 12<|
 .as (((y84_2.s,y84_2.bad):RS).1.length<=9223372036854775806) inferInstance<|
 .bl (iA ((y84_2.s,y84_2.bad):RS) 30:Int) λx288 =>
 .bl (gK ((y84_2.s,y84_2.bad):RS) 30:RS) λx289 =>
 .ge 28 2<|
 .as ((0:Int)<=x288/\(x288:Int)<=1048576) inferInstance<|
 .bl (List.replicate (Int.toNat x288) ((⟨0,0,0⟩:bQ):bQ):List bQ) λx291 =>
 .ge 29 0<|
 .gv 30<|
 .ge 1003009 0<|
 .dr [(0,[41]),(3,[20]),(4,[20])] [(5,[])] [20,41] [5] [0,1,2,3,4,5] (.gv 34<|
 .gv 35<|
 .inl 36 zZ Tryz.func183 [1,3,5,6,7,8,9,10,11,12,13,14,15,16,17,18,19,21,22,40,41] [] (λ_ (a:aI×(List bQ))=>.aM []) (λu5212 a=>[.kp 2 [[str a.1.s,aA a.1.bad]],.kp 20 ((y84_3.map aT.av).set (Int.toNat y84_1) [.sl 42 (u5212 42) 0 a.2.length,int x277.dU.a0,int x277.dU.a1,int x277.dU.a2]),.kp 42 (a.2.map bQ.av)]) ( .al 43<|
 .jn 1 [] [1,2,3,5,6,7,8,9,10,11,12,13,14,15,16,17,18,19,20,21,22,40,41,42] [] (λ_ (a:Unit)=>[]) (λ_ _=>[]) (.lp [1,2,3,8,9] [1,2,3,5,6,7,8,9,10,11,12,13,14,15,16,17,18,19,20,21,22,40,41,42,43] [] (λ_ (a:Unit)=>[]) (λ_ _=>[]) n () (λ_ =>
 .bB 10 (decide (0<((Int.toNat x288):Int))) λx296 =>
 .az [10] x296 (.esc (.ret ()))))
  (λ_ =>
 .ret (((⟨x289.1,x289.2⟩:aI):aI),(x291:List bQ)))) (pw λy88_1 y88_2 =>
 .as (y88_2.length=(Int.toNat x288)) inferInstance<|
 .gv 41<|
 .gv 44<|
 .gv 45<|
 .bB 47 (decide ((y88_2.length:Int)=0)) λx298 =>
 .jJ 42<|
 .jn 0 [] [1,2,3,5,6,7,8,9,10,11,12,13,14,15,16,17,18,19,21,22,40] [] (λ_ (a:(List bQ))=>[]) (λ_ a=>[.kp 20 ((y84_3.map aT.av).set (Int.toNat y84_1) [aG 3 bQ.av a,int x277.dU.a0,int x277.dU.a1,int x277.dU.a2])]) (.ifs [47,48] x298 (.gv 50<|
 .ge 1006002 0<|
 .ret ([]:List bQ)) (.ret (y88_2:List bQ)))
  (λy91_1 =>
 .ret ((y88_1:aI),(y91_1:List bQ)))))
noncomputable def JE (a1:List UInt8) (x21:dB×Int) (x277:aT) (y14_1:Int) (y14_3:List aH) (y15_2:Int) (y16_2:Bool) (y84_1:Int) (y84_3:List aT) (y87_1:aI) (y87_2:List bQ):WB ((aI×(List aT))) :=
 .jn 1 [] [1,3,5,6,7,8,9,10,11,12,13,14,15,16,17,19,21,22,40] [] (λ_ (a:aI×(List aT))=>[]) (λu5220 a=>[.kp 2 [[str a.1.s,aA a.1.bad]],.kp 18 ((y14_3.map aH.av).set (Int.toNat y14_1) [int y15_2,aA y16_2,.sl 20 (u5220 20) 0 a.2.length,.sl 21 (u5220 21) 0 (Int.toNat 17),.sl 22 (u5220 22) 0 (Int.toNat (x21.1.bC.length:Int)),.sc (.slice none 0 0),.sc (.slice none 0 0),.sc (.slice none 0 0)]),.kp 20 (a.2.map aT.av)]) (.un 24 (.kB 9 true<|
 .gv 10<|
 .gv 16<|
 .as (((y87_1.s,y87_1.bad):RS).1.length<=9223372036854775806) inferInstance<|
 .bl (dG ((y87_1.s,y87_1.bad):RS):Int) λx303 =>
 .bl (dL ((y87_1.s,y87_1.bad):RS):RS) λx304 =>
 .ge 30 2<|
 .gv 31<|
 .bl (y84_3.set (Int.toNat y84_1) ((⟨y87_2,(⟨x303,x277.dU.a1,x277.dU.a2⟩:jN)⟩:aT):aT):List aT) λx305 =>
 .ge 1005007 0<|
 .kI 32 1<|
 .kB 9 true<|
 .gv 10<|
 .gv 16<|
 .as (x304.1.length<=9223372036854775806) inferInstance<|
 .bl (dG x304:Int) λx307 =>
 .bl (dL x304:RS) λx308 =>
 .ge 30 2<|
 .gv 31<|
 .bl (x305.set (Int.toNat y84_1) ((⟨y87_2,(⟨x303,x307,x277.dU.a2⟩:jN)⟩:aT):aT):List aT) λx309 =>
 .ge 1005007 0<|
 .kI 32 2<|
 .kB 9 true<|
 .gv 10<|
 .gv 16<|
 .as (x308.1.length<=9223372036854775806) inferInstance<|
 .bl (dG x308:Int) λx311 =>
 .bl (dL x308:RS) λx312 =>
 .ge 30 2<|
 .gv 31<|
 .bl (x309.set (Int.toNat y84_1) ((⟨y87_2,(⟨x303,x307,x311⟩:jN)⟩:aT):aT):List aT) λx313 =>
 .ge 1005007 0<|
 .kI 32 3<|
 .kB 9 false<|
 .ret (((⟨x312.1,x312.2⟩:aI):aI),(x313:List aT))))
  (pw λy93_1 y93_2 =>
 .ret ((y93_1:aI),(y93_2:List aT)))
noncomputable def EP (n:Nat) (a1:List UInt8) (x21:dB×Int) (x277:aT) (y14_1:Int) (y14_3:List aH) (y15_2:Int) (y16_2:Bool) (y84_1:Int) (y84_2:aI) (y84_3:List aT):WB ((aI×(List aT))) :=
 .gv 7<|
 .gv 8<|
 .inl 9 D4 Tryz.func158 [1,3,5,6,7,8,9,10,11,12,13,14,15,16,17,18,19,21,22,40] [] (λ_ (a:aI×(List bQ))=>.aM []) (λ_ a=>[.kp 2 [[str a.1.s,aA a.1.bad]],.kp 20 ((y84_3.map aT.av).set (Int.toNat y84_1) [aG 3 bQ.av a.2,int x277.dU.a0,int x277.dU.a1,int x277.dU.a2])]) (F7 n a1 x277 y84_1 y84_2 y84_3) (pw λy87_1 y87_2 =>
 .dr [(2,[20]),(3,[20]),(4,[20]),(6,[20]),(7,[20]),(8,[20]),(10,[20]),(11,[20]),(12,[20])] [(14,[])] [20] [14] [0,1,2,3,4,5,6,7,8,9,10,11,12,13,14] (.gv 12<|
 .gv 13<|
 .gv 14<|
 .gv 16<|
 .gv 17<|
 .gv 18<|
 .gv 20<|
 .gv 21<|
 .gv 22<|
 .gv 23<|
 .inl 24 jG Tryz.func85 [1,3,5,6,7,8,9,10,11,12,13,14,15,16,17,19,21,22,40] [] (λ_ (a:aI×(List aT))=>.aM []) (λu5219 a=>[.kp 2 [[str a.1.s,aA a.1.bad]],.kp 18 ((y14_3.map aH.av).set (Int.toNat y14_1) [int y15_2,aA y16_2,.sl 20 (u5219 20) 0 a.2.length,.sl 21 (u5219 21) 0 (Int.toNat 17),.sl 22 (u5219 22) 0 (Int.toNat (x21.1.bC.length:Int)),.sc (.slice none 0 0),.sc (.slice none 0 0),.sc (.slice none 0 0)]),.kp 20 (a.2.map aT.av)]) (JE a1 x21 x277 y14_1 y14_3 y15_2 y16_2 y84_1 y84_3 y87_1 y87_2) (pw λy94_1 y94_2 =>
 .ret ((y94_1:aI),(y94_2:List aT)))))
noncomputable def KV (n:Nat) (a1:List UInt8) (x21:dB×Int) (x252:Int) (x254:List aT) (y14_1:Int) (y14_3:List aH) (y15_2:Int) (y16_1:aI) (y16_2:Bool):WB ((aI×(List aT))) :=
 .al 40<|
 .jn 1 [] [1,3,5,6,7,8,9,10,11,12,13,14,15,16,17,19,21,22] [] (λ_ (a:aI×(List aT))=>[]) (λu5203 a=>[.kp 2 [[str a.1.s,aA a.1.bad]],.kp 18 ((y14_3.map aH.av).set (Int.toNat y14_1) [int y15_2,aA y16_2,.sl 20 (u5203 20) 0 a.2.length,.sl 21 (u5203 21) 0 (Int.toNat 17),.sl 22 (u5203 22) 0 (Int.toNat (x21.1.bC.length:Int)),.sc (.slice none 0 0),.sc (.slice none 0 0),.sc (.slice none 0 0)]),.kp 20 (a.2.map aT.av)]) (.lp [1,3,8] [1,3,5,6,7,8,9,10,11,12,13,14,15,16,17,19,21,22,40] [] (λu5206 (a:Int×aI×(List aT))=>[(2,.sl 20 (u5206 20) 0 a.2.2.length),(9,int a.1)]) (λu5206 a=>[.kp 2 [[str a.2.1.s,aA a.2.1.bad]],.kp 18 ((y14_3.map aH.av).set (Int.toNat y14_1) [int y15_2,aA y16_2,.sl 20 (u5206 20) 0 a.2.2.length,.sl 21 (u5206 21) 0 (Int.toNat 17),.sl 22 (u5206 22) 0 (Int.toNat (x21.1.bC.length:Int)),.sc (.slice none 0 0),.sc (.slice none 0 0),.sc (.slice none 0 0)]),.kp 20 (a.2.2.map aT.av)]) n ((0:Int),(y16_1:aI),(x254:List aT)) (pw λy84_1 q0=>(pw λy84_2 y84_3 =>
 .bB 10 (decide (y84_1<((Int.toNat x252):Int))) λx276 =>
 .ifs [10] x276 (.dr [(0,[40]),(1,[40]),(5,[20])] [(6,[])] [20,40] [6] [0,1,2,3,4,5,6] (.bo (ix y84_3 y84_1) λx277 =>
 .gv 17<|
 .inl 18 C5 Tryz.func118 [1,3,5,6,7,8,9,10,11,12,13,14,15,16,17,19,21,22,40] [] (λ_ (a:aI×(List aT))=>.aM []) (λu5208 a=>[.kp 2 [[str a.1.s,aA a.1.bad]],.kp 18 ((y14_3.map aH.av).set (Int.toNat y14_1) [int y15_2,aA y16_2,.sl 20 (u5208 20) 0 a.2.length,.sl 21 (u5208 21) 0 (Int.toNat 17),.sl 22 (u5208 22) 0 (Int.toNat (x21.1.bC.length:Int)),.sc (.slice none 0 0),.sc (.slice none 0 0),.sc (.slice none 0 0)]),.kp 20 (a.2.map aT.av)]) (EP n a1 x21 x277 y14_1 y14_3 y15_2 y16_2 y84_1 y84_2 y84_3) (pw λy85_1 y85_2 =>
 .as (y85_2.length=y84_3.length) inferInstance<|
 .bI 19 (bL (y84_1+1)) λx315 =>
 .brk ((x315:Int),(y85_1:aI),(y85_2:List aT))))) (.esc (.ret ((y84_2:aI),(y84_3:List aT))))) q0))
  (pw λy86_1 y86_2 =>
 .ret ((y86_1:aI),(y86_2:List aT)))
noncomputable def F5 (x21:dB×Int) (x252:Int) (y14_1:Int) (y14_3:List aH) (y15_2:Int) (y16_2:Bool) (y95_1:Int) (y95_2:aI) (y95_3:List Int):WB ((aI×(List Int))) :=
 .gv 6<|
 .inl 7 jG Tryz.func85 [1,3,5,6,7,8,9,10,11,12,13,14,15,16,17,19,20,22,44] [] (λ_ (a:aI×(List Int))=>.aM []) (λu5240 a=>[.kp 2 [[str a.1.s,aA a.1.bad]],.kp 18 ((y14_3.map aH.av).set (Int.toNat y14_1) [int y15_2,aA y16_2,.sl 20 (u5240 20) 0 (Int.toNat x252),.sl 21 (u5240 21) 0 a.2.length,.sl 22 (u5240 22) 0 (Int.toNat (x21.1.bC.length:Int)),.sc (.slice none 0 0),.sc (.slice none 0 0),.sc (.slice none 0 0)]),.kp 21 (a.2.map fI)]) ( .jn 1 [] [1,3,5,6,7,8,9,10,11,12,13,14,15,16,17,19,20,22,44] [] (λ_ (a:aI×(List Int))=>[]) (λu5241 a=>[.kp 2 [[str a.1.s,aA a.1.bad]],.kp 18 ((y14_3.map aH.av).set (Int.toNat y14_1) [int y15_2,aA y16_2,.sl 20 (u5241 20) 0 (Int.toNat x252),.sl 21 (u5241 21) 0 a.2.length,.sl 22 (u5241 22) 0 (Int.toNat (x21.1.bC.length:Int)),.sc (.slice none 0 0),.sc (.slice none 0 0),.sc (.slice none 0 0)]),.kp 21 (a.2.map fI)]) (.un 24 (.kB 9 true<|
 .gv 10<|
 .gv 16<|
 .as (((y95_2.s,y95_2.bad):RS).1.length<=9223372036854775806) inferInstance<|
 .bl (dG ((y95_2.s,y95_2.bad):RS):Int) λx329 =>
 .bl (dL ((y95_2.s,y95_2.bad):RS):RS) λx330 =>
 .ge 30 2<|
 .gv 31<|
 .bl (y95_3.set (Int.toNat y95_1) (x329:Int):List Int) λx331 =>
 .ge 1005007 0<|
 .kI 32 1<|
 .kB 9 false<|
 .ret (((⟨x330.1,x330.2⟩:aI):aI),(x331:List Int))))
  (pw λy100_1 y100_2 =>
 .ret ((y100_1:aI),(y100_2:List Int)))) (pw λy98_1 y98_2 =>
 .ret ((y98_1:aI),(y98_2:List Int)))
noncomputable def KF (n:Nat) (x21:dB×Int) (x252:Int) (x257:List Int) (y14_1:Int) (y14_3:List aH) (y15_2:Int) (y16_2:Bool) (y17_1:aI):WB ((aI×(List Int))) :=
 .al 44<|
 .jn 1 [] [1,3,5,6,7,8,9,10,11,12,13,14,15,16,17,19,20,22] [] (λ_ (a:aI×(List Int))=>[]) (λu5233 a=>[.kp 2 [[str a.1.s,aA a.1.bad]],.kp 18 ((y14_3.map aH.av).set (Int.toNat y14_1) [int y15_2,aA y16_2,.sl 20 (u5233 20) 0 (Int.toNat x252),.sl 21 (u5233 21) 0 a.2.length,.sl 22 (u5233 22) 0 (Int.toNat (x21.1.bC.length:Int)),.sc (.slice none 0 0),.sc (.slice none 0 0),.sc (.slice none 0 0)]),.kp 21 (a.2.map fI)]) (.lp [1,3,8] [1,3,5,6,7,8,9,10,11,12,13,14,15,16,17,19,20,22,44] [] (λu5236 (a:Int×aI×(List Int))=>[(2,.sl 21 (u5236 21) 0 a.2.2.length),(9,int a.1)]) (λu5236 a=>[.kp 2 [[str a.2.1.s,aA a.2.1.bad]],.kp 18 ((y14_3.map aH.av).set (Int.toNat y14_1) [int y15_2,aA y16_2,.sl 20 (u5236 20) 0 (Int.toNat x252),.sl 21 (u5236 21) 0 a.2.2.length,.sl 22 (u5236 22) 0 (Int.toNat (x21.1.bC.length:Int)),.sc (.slice none 0 0),.sc (.slice none 0 0),.sc (.slice none 0 0)]),.kp 21 (a.2.2.map fI)]) n ((0:Int),(y17_1:aI),(x257:List Int)) (pw λy95_1 q0=>(pw λy95_2 y95_3 =>
 .bB 10 (decide (y95_1<((Int.toNat 17):Int))) λx320 =>
 .ifs [10] x320 (.dr [(0,[44]),(1,[44]),(5,[21])] [(6,[])] [21,44] [6] [0,1,2,3,4,5,6] (.bo (ix y95_3 y95_1) λx321 =>
 .gv 17<|
 .inl 18 o6 Tryz.func120 [1,3,5,6,7,8,9,10,11,12,13,14,15,16,17,19,20,22,44] [] (λ_ (a:aI×(List Int))=>.aM []) (λu5238 a=>[.kp 2 [[str a.1.s,aA a.1.bad]],.kp 18 ((y14_3.map aH.av).set (Int.toNat y14_1) [int y15_2,aA y16_2,.sl 20 (u5238 20) 0 (Int.toNat x252),.sl 21 (u5238 21) 0 a.2.length,.sl 22 (u5238 22) 0 (Int.toNat (x21.1.bC.length:Int)),.sc (.slice none 0 0),.sc (.slice none 0 0),.sc (.slice none 0 0)]),.kp 21 (a.2.map fI)]) (F5 x21 x252 y14_1 y14_3 y15_2 y16_2 y95_1 y95_2 y95_3) (pw λy96_1 y96_2 =>
 .as (y96_2.length=y95_3.length) inferInstance<|
 .bI 19 (bL (y95_1+1)) λx333 =>
 .brk ((x333:Int),(y96_1:aI),(y96_2:List Int))))) (.esc (.ret ((y95_2:aI),(y95_3:List Int))))) q0))
  (pw λy97_1 y97_2 =>
 .ret ((y97_1:aI),(y97_2:List Int)))
noncomputable def J6 (x252:Int) (x339:bA) (y101_1:Int) (y101_2:aI) (y101_3:List bA) (y14_1:Int) (y14_3:List aH) (y15_2:Int) (y16_2:Bool):WB ((aI×(List bA))) :=
 .jn 1 [] [1,3,5,6,7,8,9,10,11,12,13,14,15,16,17,19,20,21,45] [] (λ_ (a:aI×(List bA))=>[]) (λu5263 a=>[.kp 2 [[str a.1.s,aA a.1.bad]],.kp 18 ((y14_3.map aH.av).set (Int.toNat y14_1) [int y15_2,aA y16_2,.sl 20 (u5263 20) 0 (Int.toNat x252),.sl 21 (u5263 21) 0 (Int.toNat 17),.sl 22 (u5263 22) 0 a.2.length,.sc (.slice none 0 0),.sc (.slice none 0 0),.sc (.slice none 0 0)]),.kp 22 (a.2.map bA.av)]) (.un 24 (.kB 9 true<|
 .gv 10<|
 .gv 16<|
 .as (((y101_2.s,y101_2.bad):RS).1.length<=9223372036854775806) inferInstance<|
 .bl (dG ((y101_2.s,y101_2.bad):RS):Int) λx357 =>
 .bl (dL ((y101_2.s,y101_2.bad):RS):RS) λx358 =>
 .ge 30 2<|
 .gv 31<|
 .bl (y101_3.set (Int.toNat y101_1) ((⟨x357,x339.jL,x339.jE,x339.iR,x339.iJ,x339.iB,x339.gW,x339.gL,x339.gH,x339.gD,x339.fU⟩:bA):bA):List bA) λx359 =>
 .ge 1005007 0<|
 .kI 32 1<|
 .kB 9 true<|
 .gv 10<|
 .gv 16<|
 .as (x358.1.length<=9223372036854775806) inferInstance<|
 .bl (dG x358:Int) λx361 =>
 .bl (dL x358:RS) λx362 =>
 .ge 30 2<|
 .gv 31<|
 .bl (x359.set (Int.toNat y101_1) ((⟨x357,x361,x339.jE,x339.iR,x339.iJ,x339.iB,x339.gW,x339.gL,x339.gH,x339.gD,x339.fU⟩:bA):bA):List bA) λx363 =>
 .ge 1005007 0<|
 .kI 32 2<|
 .kB 9 true<|
 .gv 10<|
 .gv 16<|
 .as (x362.1.length<=9223372036854775806) inferInstance<|
 .bl (dG x362:Int) λx365 =>
 .bl (dL x362:RS) λx366 =>
 .ge 30 2<|
 .gv 31<|
 .bl (x363.set (Int.toNat y101_1) ((⟨x357,x361,x365,x339.iR,x339.iJ,x339.iB,x339.gW,x339.gL,x339.gH,x339.gD,x339.fU⟩:bA):bA):List bA) λx367 =>
 .ge 1005007 0<|
 .kI 32 3<|
 .kB 9 true<|
 .gv 10<|
 .gv 16<|
 .as (x366.1.length<=9223372036854775806) inferInstance<|
 .bl (dG x366:Int) λx369 =>
 .bl (dL x366:RS) λx370 =>
 .ge 30 2<|
 .gv 31<|
 .bl (x367.set (Int.toNat y101_1) ((⟨x357,x361,x365,x369,x339.iJ,x339.iB,x339.gW,x339.gL,x339.gH,x339.gD,x339.fU⟩:bA):bA):List bA) λx371 =>
 .ge 1005007 0<|
 .kI 32 4<|
 .kB 9 true<|
 .gv 10<|
 .gv 16<|
 .as (x370.1.length<=9223372036854775806) inferInstance<|
 .bl (dG x370:Int) λx373 =>
 .bl (dL x370:RS) λx374 =>
 .ge 30 2<|
 .gv 31<|
 .bl (x371.set (Int.toNat y101_1) ((⟨x357,x361,x365,x369,x373,x339.iB,x339.gW,x339.gL,x339.gH,x339.gD,x339.fU⟩:bA):bA):List bA) λx375 =>
 .ge 1005007 0<|
 .kI 32 5<|
 .kB 9 true<|
 .gv 10<|
 .gv 16<|
 .as (x374.1.length<=9223372036854775806) inferInstance<|
 .bl (dG x374:Int) λx377 =>
 .bl (dL x374:RS) λx378 =>
 .ge 30 2<|
 .gv 31<|
 .bl (x375.set (Int.toNat y101_1) ((⟨x357,x361,x365,x369,x373,x377,x339.gW,x339.gL,x339.gH,x339.gD,x339.fU⟩:bA):bA):List bA) λx379 =>
 .ge 1005007 0<|
 .kI 32 6<|
 .kB 9 true<|
 .gv 10<|
 .gv 16<|
 .as (x378.1.length<=9223372036854775806) inferInstance<|
 .bl (dG x378:Int) λx381 =>
 .bl (dL x378:RS) λx382 =>
 .ge 30 2<|
 .gv 31<|
 .bl (x379.set (Int.toNat y101_1) ((⟨x357,x361,x365,x369,x373,x377,x381,x339.gL,x339.gH,x339.gD,x339.fU⟩:bA):bA):List bA) λx383 =>
 .ge 1005007 0<|
 .kI 32 7<|
 .kB 9 true<|
 .gv 10<|
 .gv 16<|
 .as (x382.1.length<=9223372036854775806) inferInstance<|
 .bl (dG x382:Int) λx385 =>
 .bl (dL x382:RS) λx386 =>
 .ge 30 2<|
 .gv 31<|
 .bl (x383.set (Int.toNat y101_1) ((⟨x357,x361,x365,x369,x373,x377,x381,x385,x339.gH,x339.gD,x339.fU⟩:bA):bA):List bA) λx387 =>
 .ge 1005007 0<|
 .kI 32 8<|
 .kB 9 true<|
 .gv 10<|
 .gv 16<|
 .as (x386.1.length<=9223372036854775806) inferInstance<|
 .bl (dG x386:Int) λx389 =>
 .bl (dL x386:RS) λx390 =>
 .ge 30 2<|
 .gv 31<|
 .bl (x387.set (Int.toNat y101_1) ((⟨x357,x361,x365,x369,x373,x377,x381,x385,x389,x339.gD,x339.fU⟩:bA):bA):List bA) λx391 =>
 .ge 1005007 0<|
 .kI 32 9<|
 .kB 9 true<|
 .gv 10<|
 .gv 16<|
 .as (x390.1.length<=9223372036854775806) inferInstance<|
 .bl (dG x390:Int) λx393 =>
 .bl (dL x390:RS) λx394 =>
 .ge 30 2<|
 .gv 31<|
 .bl (x391.set (Int.toNat y101_1) ((⟨x357,x361,x365,x369,x373,x377,x381,x385,x389,x393,x339.fU⟩:bA):bA):List bA) λx395 =>
 .ge 1005007 0<|
 .kI 32 10<|
 .kB 9 true<|
 .gv 10<|
 .gv 16<|
 .as (x394.1.length<=9223372036854775806) inferInstance<|
 .bl (dG x394:Int) λx397 =>
 .bl (dL x394:RS) λx398 =>
 .ge 30 2<|
 .gv 31<|
 .bl (x395.set (Int.toNat y101_1) ((⟨x357,x361,x365,x369,x373,x377,x381,x385,x389,x393,x397⟩:bA):bA):List bA) λx399 =>
 .ge 1005007 0<|
 .kI 32 11<|
 .kB 9 false<|
 .ret (((⟨x398.1,x398.2⟩:aI):aI),(x399:List bA))))
  (pw λy105_1 y105_2 =>
 .ret ((y105_1:aI),(y105_2:List bA)))
noncomputable def ID (x252:Int) (x339:bA) (y101_1:Int) (y101_2:aI) (y101_3:List bA) (y14_1:Int) (y14_3:List aH) (y15_2:Int) (y16_2:Bool):WB ((aI×(List bA))) :=
 .dr [(2,[22]),(3,[22]),(5,[22]),(6,[22]),(8,[22]),(9,[22]),(11,[22]),(12,[22]),(14,[22]),(15,[22]),(17,[22]),(18,[22]),(20,[22]),(21,[22]),(23,[22]),(24,[22]),(26,[22]),(27,[22]),(29,[22]),(30,[22]),(32,[22]),(33,[22])] [(35,[])] [22] [35] [0,1,2,3,4,5,6,7,8,9,10,11,12,13,14,15,16,17,18,19,20,21,22,23,24,25,26,27,28,29,30,31,32,33,34,35] (.gv 6<|
 .gv 7<|
 .gv 9<|
 .gv 10<|
 .gv 12<|
 .gv 13<|
 .gv 15<|
 .gv 16<|
 .gv 18<|
 .gv 19<|
 .gv 21<|
 .gv 22<|
 .gv 24<|
 .gv 25<|
 .gv 27<|
 .gv 28<|
 .gv 30<|
 .gv 31<|
 .gv 33<|
 .gv 34<|
 .gv 36<|
 .gv 37<|
 .gv 38<|
 .inl 39 jG Tryz.func85 [1,3,5,6,7,8,9,10,11,12,13,14,15,16,17,19,20,21,45] [] (λ_ (a:aI×(List bA))=>.aM []) (λu5262 a=>[.kp 2 [[str a.1.s,aA a.1.bad]],.kp 18 ((y14_3.map aH.av).set (Int.toNat y14_1) [int y15_2,aA y16_2,.sl 20 (u5262 20) 0 (Int.toNat x252),.sl 21 (u5262 21) 0 (Int.toNat 17),.sl 22 (u5262 22) 0 a.2.length,.sc (.slice none 0 0),.sc (.slice none 0 0),.sc (.slice none 0 0)]),.kp 22 (a.2.map bA.av)]) (J6 x252 x339 y101_1 y101_2 y101_3 y14_1 y14_3 y15_2 y16_2) (pw λy106_1 y106_2 =>
 .ret ((y106_1:aI),(y106_2:List bA))))
noncomputable def HY (n:Nat) (x21:dB×Int) (x252:Int) (x260:List bA) (y14_1:Int) (y14_3:List aH) (y15_2:Int) (y16_2:Bool) (y18_1:aI):WB ((aI×(List bA))) :=
 .al 45<|
 .jn 1 [] [1,3,5,6,7,8,9,10,11,12,13,14,15,16,17,19,20,21] [] (λ_ (a:aI×(List bA))=>[]) (λu5254 a=>[.kp 2 [[str a.1.s,aA a.1.bad]],.kp 18 ((y14_3.map aH.av).set (Int.toNat y14_1) [int y15_2,aA y16_2,.sl 20 (u5254 20) 0 (Int.toNat x252),.sl 21 (u5254 21) 0 (Int.toNat 17),.sl 22 (u5254 22) 0 a.2.length,.sc (.slice none 0 0),.sc (.slice none 0 0),.sc (.slice none 0 0)]),.kp 22 (a.2.map bA.av)]) (.lp [1,3,8] [1,3,5,6,7,8,9,10,11,12,13,14,15,16,17,19,20,21,45] [] (λu5257 (a:Int×aI×(List bA))=>[(2,.sl 22 (u5257 22) 0 a.2.2.length),(9,int a.1)]) (λu5257 a=>[.kp 2 [[str a.2.1.s,aA a.2.1.bad]],.kp 18 ((y14_3.map aH.av).set (Int.toNat y14_1) [int y15_2,aA y16_2,.sl 20 (u5257 20) 0 (Int.toNat x252),.sl 21 (u5257 21) 0 (Int.toNat 17),.sl 22 (u5257 22) 0 a.2.2.length,.sc (.slice none 0 0),.sc (.slice none 0 0),.sc (.slice none 0 0)]),.kp 22 (a.2.2.map bA.av)]) n ((0:Int),(y18_1:aI),(x260:List bA)) (pw λy101_1 q0=>(pw λy101_2 y101_3 =>
 .bB 10 (decide (y101_1<((Int.toNat (x21.1.bC.length:Int)):Int))) λx338 =>
 .ifs [10] x338 (.dr [(0,[45]),(1,[45]),(5,[22])] [(6,[])] [22,45] [6] [0,1,2,3,4,5,6] (.bo (ix y101_3 y101_1) λx339 =>
 .gv 17<|
 .inl 18 DY Tryz.func122 [1,3,5,6,7,8,9,10,11,12,13,14,15,16,17,19,20,21,45] [] (λ_ (a:aI×(List bA))=>.aM []) (λu5259 a=>[.kp 2 [[str a.1.s,aA a.1.bad]],.kp 18 ((y14_3.map aH.av).set (Int.toNat y14_1) [int y15_2,aA y16_2,.sl 20 (u5259 20) 0 (Int.toNat x252),.sl 21 (u5259 21) 0 (Int.toNat 17),.sl 22 (u5259 22) 0 a.2.length,.sc (.slice none 0 0),.sc (.slice none 0 0),.sc (.slice none 0 0)]),.kp 22 (a.2.map bA.av)]) (ID x252 x339 y101_1 y101_2 y101_3 y14_1 y14_3 y15_2 y16_2) (pw λy102_1 y102_2 =>
 .as (y102_2.length=y101_3.length) inferInstance<|
 .bI 19 (bL (y101_1+1)) λx401 =>
 .brk ((x401:Int),(y102_1:aI),(y102_2:List bA))))) (.esc (.ret ((y101_2:aI),(y101_3:List bA))))) q0))
  (pw λy103_1 y103_2 =>
 .ret ((y103_1:aI),(y103_2:List bA)))
noncomputable def GJ (x21:dB×Int) (x252:Int) (y108_1:Int) (y108_2:aI) (y108_3:List Int) (y14_1:Int) (y14_3:List aH) (y15_2:Int) (y16_2:Bool):WB ((aI×(List Int))) :=
 .gv 6<|
 .inl 7 jG Tryz.func85 [1,3,5,6,7,8,9,10,11,12,13,14,15,16,17,19,20,21,22,46,48] [] (λ_ (a:aI×(List Int))=>.aM []) (λu5285 a=>[.kp 2 [[str a.1.s,aA a.1.bad]],.kp 18 ((y14_3.map aH.av).set (Int.toNat y14_1) [int y15_2,aA y16_2,.sl 20 (u5285 20) 0 (Int.toNat x252),.sl 21 (u5285 21) 0 (Int.toNat 17),.sl 22 (u5285 22) 0 (Int.toNat (x21.1.bC.length:Int)),.sl 47 (u5285 47) 0 a.2.length,.sc (.slice none 0 0),.sc (.slice none 0 0)]),.kp 47 (a.2.map fI)]) ( .jn 1 [] [1,3,5,6,7,8,9,10,11,12,13,14,15,16,17,19,20,21,22,46,48] [] (λ_ (a:aI×(List Int))=>[]) (λu5286 a=>[.kp 2 [[str a.1.s,aA a.1.bad]],.kp 18 ((y14_3.map aH.av).set (Int.toNat y14_1) [int y15_2,aA y16_2,.sl 20 (u5286 20) 0 (Int.toNat x252),.sl 21 (u5286 21) 0 (Int.toNat 17),.sl 22 (u5286 22) 0 (Int.toNat (x21.1.bC.length:Int)),.sl 47 (u5286 47) 0 a.2.length,.sc (.slice none 0 0),.sc (.slice none 0 0)]),.kp 47 (a.2.map fI)]) (.un 24 (.kB 9 true<|
 .gv 10<|
 .gv 16<|
 .as (((y108_2.s,y108_2.bad):RS).1.length<=9223372036854775806) inferInstance<|
 .bl (dG ((y108_2.s,y108_2.bad):RS):Int) λx424 =>
 .bl (dL ((y108_2.s,y108_2.bad):RS):RS) λx425 =>
 .ge 30 2<|
 .gv 31<|
 .bl (y108_3.set (Int.toNat y108_1) (x424:Int):List Int) λx426 =>
 .ge 1005007 0<|
 .kI 32 1<|
 .kB 9 false<|
 .ret (((⟨x425.1,x425.2⟩:aI):aI),(x426:List Int))))
  (pw λy113_1 y113_2 =>
 .ret ((y113_1:aI),(y113_2:List Int)))) (pw λy111_1 y111_2 =>
 .ret ((y111_1:aI),(y111_2:List Int)))
noncomputable def IZ (n:Nat) (x21:dB×Int) (x252:Int) (x407:Int) (x408:RS) (x410:List Int) (y14_1:Int) (y14_3:List aH) (y15_2:Int) (y16_2:Bool):WB ((aI×(List Int))) :=
 .al 48<|
 .jn 1 [] [1,3,5,6,7,8,9,10,11,12,13,14,15,16,17,19,20,21,22,46] [] (λ_ (a:aI×(List Int))=>[]) (λu5278 a=>[.kp 2 [[str a.1.s,aA a.1.bad]],.kp 18 ((y14_3.map aH.av).set (Int.toNat y14_1) [int y15_2,aA y16_2,.sl 20 (u5278 20) 0 (Int.toNat x252),.sl 21 (u5278 21) 0 (Int.toNat 17),.sl 22 (u5278 22) 0 (Int.toNat (x21.1.bC.length:Int)),.sl 47 (u5278 47) 0 a.2.length,.sc (.slice none 0 0),.sc (.slice none 0 0)]),.kp 47 (a.2.map fI)]) (.lp [1,3,8] [1,3,5,6,7,8,9,10,11,12,13,14,15,16,17,19,20,21,22,46,48] [] (λu5281 (a:Int×aI×(List Int))=>[(2,.sl 47 (u5281 47) 0 a.2.2.length),(9,int a.1)]) (λu5281 a=>[.kp 2 [[str a.2.1.s,aA a.2.1.bad]],.kp 18 ((y14_3.map aH.av).set (Int.toNat y14_1) [int y15_2,aA y16_2,.sl 20 (u5281 20) 0 (Int.toNat x252),.sl 21 (u5281 21) 0 (Int.toNat 17),.sl 22 (u5281 22) 0 (Int.toNat (x21.1.bC.length:Int)),.sl 47 (u5281 47) 0 a.2.2.length,.sc (.slice none 0 0),.sc (.slice none 0 0)]),.kp 47 (a.2.2.map fI)]) n ((0:Int),((⟨x408.1,x408.2⟩:aI):aI),(x410:List Int)) (pw λy108_1 q0=>(pw λy108_2 y108_3 =>
 .bB 10 (decide (y108_1<((Int.toNat x407):Int))) λx415 =>
 .ifs [10] x415 (.dr [(0,[48]),(1,[48]),(5,[47])] [(6,[])] [47,48] [6] [0,1,2,3,4,5,6] (.bo (ix y108_3 y108_1) λx416 =>
 .gv 17<|
 .inl 18 o6 Tryz.func120 [1,3,5,6,7,8,9,10,11,12,13,14,15,16,17,19,20,21,22,46,48] [] (λ_ (a:aI×(List Int))=>.aM []) (λu5283 a=>[.kp 2 [[str a.1.s,aA a.1.bad]],.kp 18 ((y14_3.map aH.av).set (Int.toNat y14_1) [int y15_2,aA y16_2,.sl 20 (u5283 20) 0 (Int.toNat x252),.sl 21 (u5283 21) 0 (Int.toNat 17),.sl 22 (u5283 22) 0 (Int.toNat (x21.1.bC.length:Int)),.sl 47 (u5283 47) 0 a.2.length,.sc (.slice none 0 0),.sc (.slice none 0 0)]),.kp 47 (a.2.map fI)]) (GJ x21 x252 y108_1 y108_2 y108_3 y14_1 y14_3 y15_2 y16_2) (pw λy109_1 y109_2 =>
 .as (y109_2.length=y108_3.length) inferInstance<|
 .bI 19 (bL (y108_1+1)) λx428 =>
 .brk ((x428:Int),(y109_1:aI),(y109_2:List Int))))) (.esc (.ret ((y108_2:aI),(y108_3:List Int))))) q0))
  (pw λy110_1 y110_2 =>
 .ret ((y110_1:aI),(y110_2:List Int)))
noncomputable def ET (n:Nat) (x21:dB×Int) (x252:Int) (y14_1:Int) (y14_3:List aH) (y15_2:Int) (y16_2:Bool) (y19_1:aI):WB ((aI×(List Int))) :=
 .al 46<|
 .gv 12<|
 .as (((y19_1.s,y19_1.bad):RS).1.length<=9223372036854775806) inferInstance<|
 .bl (iA ((y19_1.s,y19_1.bad):RS) 5:Int) λx407 =>
 .bl (gK ((y19_1.s,y19_1.bad):RS) 5:RS) λx408 =>
 .ge 28 2<|
 .as ((0:Int)<=x407/\(x407:Int)<=1048576) inferInstance<|
 .bl (List.replicate (Int.toNat x407) (0:Int):List Int) λx410 =>
 .ge 29 0<|
 .gv 30<|
 .ge 1003009 0<|
 .dr [(0,[46]),(3,[18]),(4,[18])] [(5,[])] [18,46] [5] [0,1,2,3,4,5] (.gv 34<|
 .gv 35<|
 .inl 36 pO Tryz.func121 [1,3,5,6,7,8,9,10,11,12,13,14,15,16,17,19,20,21,22,46] [] (λ_ (a:aI×(List Int))=>.aM []) (λu5267 a=>[.kp 2 [[str a.1.s,aA a.1.bad]],.kp 18 ((y14_3.map aH.av).set (Int.toNat y14_1) [int y15_2,aA y16_2,.sl 20 (u5267 20) 0 (Int.toNat x252),.sl 21 (u5267 21) 0 (Int.toNat 17),.sl 22 (u5267 22) 0 (Int.toNat (x21.1.bC.length:Int)),.sl 47 (u5267 47) 0 a.2.length,.sc (.slice none 0 0),.sc (.slice none 0 0)]),.kp 47 (a.2.map fI)]) (IZ n x21 x252 x407 x408 x410 y14_1 y14_3 y15_2 y16_2) (pw λy107_1 y107_2 =>
 .as (y107_2.length=(Int.toNat x407)) inferInstance<|
 .gv 41<|
 .gv 44<|
 .gv 45<|
 .bB 47 (decide ((y107_2.length:Int)=0)) λx430 =>
 .jJ 47<|
 .jn 0 [] [1,2,3,5,6,7,8,9,10,11,12,13,14,15,16,17,19,20,21,22] [] (λ_ (a:(List Int))=>[]) (λu5287 a=>[.kp 18 ((y14_3.map aH.av).set (Int.toNat y14_1) [int y15_2,aA y16_2,.sl 20 (u5287 20) 0 (Int.toNat x252),.sl 21 (u5287 21) 0 (Int.toNat 17),.sl 22 (u5287 22) 0 (Int.toNat (x21.1.bC.length:Int)),aG 1 fI a,.sc (.slice none 0 0),.sc (.slice none 0 0)])]) (.ifs [47,48] x430 (.gv 50<|
 .ge 1006002 0<|
 .ret ([]:List Int)) (.ret (y107_2:List Int)))
  (λy114_1 =>
 .ret ((y107_1:aI),(y114_1:List Int)))))
noncomputable def FM (x21:dB×Int) (x252:Int) (y116_1:Int) (y116_2:aI) (y116_3:List Int) (y14_1:Int) (y14_3:List aH) (y15_2:Int) (y16_2:Bool) (y20_2:List Int):WB ((aI×(List Int))) :=
 .gv 6<|
 .inl 7 jG Tryz.func85 [1,3,5,6,7,8,9,10,11,12,13,14,15,16,17,19,20,21,22,49,51] [] (λ_ (a:aI×(List Int))=>.aM []) (λu5309 a=>[.kp 2 [[str a.1.s,aA a.1.bad]],.kp 18 ((y14_3.map aH.av).set (Int.toNat y14_1) [int y15_2,aA y16_2,.sl 20 (u5309 20) 0 (Int.toNat x252),.sl 21 (u5309 21) 0 (Int.toNat 17),.sl 22 (u5309 22) 0 (Int.toNat (x21.1.bC.length:Int)),aG 1 fI y20_2,.sl 50 (u5309 50) 0 a.2.length,.sc (.slice none 0 0)]),.kp 50 (a.2.map fI)]) ( .jn 1 [] [1,3,5,6,7,8,9,10,11,12,13,14,15,16,17,19,20,21,22,49,51] [] (λ_ (a:aI×(List Int))=>[]) (λu5310 a=>[.kp 2 [[str a.1.s,aA a.1.bad]],.kp 18 ((y14_3.map aH.av).set (Int.toNat y14_1) [int y15_2,aA y16_2,.sl 20 (u5310 20) 0 (Int.toNat x252),.sl 21 (u5310 21) 0 (Int.toNat 17),.sl 22 (u5310 22) 0 (Int.toNat (x21.1.bC.length:Int)),aG 1 fI y20_2,.sl 50 (u5310 50) 0 a.2.length,.sc (.slice none 0 0)]),.kp 50 (a.2.map fI)]) (.un 24 (.kB 9 true<|
 .gv 10<|
 .gv 16<|
 .as (((y116_2.s,y116_2.bad):RS).1.length<=9223372036854775806) inferInstance<|
 .bl (dG ((y116_2.s,y116_2.bad):RS):Int) λx452 =>
 .bl (dL ((y116_2.s,y116_2.bad):RS):RS) λx453 =>
 .ge 30 2<|
 .gv 31<|
 .bl (y116_3.set (Int.toNat y116_1) (x452:Int):List Int) λx454 =>
 .ge 1005007 0<|
 .kI 32 1<|
 .kB 9 false<|
 .ret (((⟨x453.1,x453.2⟩:aI):aI),(x454:List Int))))
  (pw λy121_1 y121_2 =>
 .ret ((y121_1:aI),(y121_2:List Int)))) (pw λy119_1 y119_2 =>
 .ret ((y119_1:aI),(y119_2:List Int)))
noncomputable def K6 (n:Nat) (x21:dB×Int) (x252:Int) (x435:Int) (x436:RS) (x438:List Int) (y14_1:Int) (y14_3:List aH) (y15_2:Int) (y16_2:Bool) (y20_2:List Int):WB ((aI×(List Int))) :=
 .al 51<|
 .jn 1 [] [1,3,5,6,7,8,9,10,11,12,13,14,15,16,17,19,20,21,22,49] [] (λ_ (a:aI×(List Int))=>[]) (λu5302 a=>[.kp 2 [[str a.1.s,aA a.1.bad]],.kp 18 ((y14_3.map aH.av).set (Int.toNat y14_1) [int y15_2,aA y16_2,.sl 20 (u5302 20) 0 (Int.toNat x252),.sl 21 (u5302 21) 0 (Int.toNat 17),.sl 22 (u5302 22) 0 (Int.toNat (x21.1.bC.length:Int)),aG 1 fI y20_2,.sl 50 (u5302 50) 0 a.2.length,.sc (.slice none 0 0)]),.kp 50 (a.2.map fI)]) (.lp [1,3,8] [1,3,5,6,7,8,9,10,11,12,13,14,15,16,17,19,20,21,22,49,51] [] (λu5305 (a:Int×aI×(List Int))=>[(2,.sl 50 (u5305 50) 0 a.2.2.length),(9,int a.1)]) (λu5305 a=>[.kp 2 [[str a.2.1.s,aA a.2.1.bad]],.kp 18 ((y14_3.map aH.av).set (Int.toNat y14_1) [int y15_2,aA y16_2,.sl 20 (u5305 20) 0 (Int.toNat x252),.sl 21 (u5305 21) 0 (Int.toNat 17),.sl 22 (u5305 22) 0 (Int.toNat (x21.1.bC.length:Int)),aG 1 fI y20_2,.sl 50 (u5305 50) 0 a.2.2.length,.sc (.slice none 0 0)]),.kp 50 (a.2.2.map fI)]) n ((0:Int),((⟨x436.1,x436.2⟩:aI):aI),(x438:List Int)) (pw λy116_1 q0=>(pw λy116_2 y116_3 =>
 .bB 10 (decide (y116_1<((Int.toNat x435):Int))) λx443 =>
 .ifs [10] x443 (.dr [(0,[51]),(1,[51]),(5,[50])] [(6,[])] [50,51] [6] [0,1,2,3,4,5,6] (.bo (ix y116_3 y116_1) λx444 =>
 .gv 17<|
 .inl 18 o6 Tryz.func120 [1,3,5,6,7,8,9,10,11,12,13,14,15,16,17,19,20,21,22,49,51] [] (λ_ (a:aI×(List Int))=>.aM []) (λu5307 a=>[.kp 2 [[str a.1.s,aA a.1.bad]],.kp 18 ((y14_3.map aH.av).set (Int.toNat y14_1) [int y15_2,aA y16_2,.sl 20 (u5307 20) 0 (Int.toNat x252),.sl 21 (u5307 21) 0 (Int.toNat 17),.sl 22 (u5307 22) 0 (Int.toNat (x21.1.bC.length:Int)),aG 1 fI y20_2,.sl 50 (u5307 50) 0 a.2.length,.sc (.slice none 0 0)]),.kp 50 (a.2.map fI)]) (FM x21 x252 y116_1 y116_2 y116_3 y14_1 y14_3 y15_2 y16_2 y20_2) (pw λy117_1 y117_2 =>
 .as (y117_2.length=y116_3.length) inferInstance<|
 .bI 19 (bL (y116_1+1)) λx456 =>
 .brk ((x456:Int),(y117_1:aI),(y117_2:List Int))))) (.esc (.ret ((y116_2:aI),(y116_3:List Int))))) q0))
  (pw λy118_1 y118_2 =>
 .ret ((y118_1:aI),(y118_2:List Int)))
noncomputable def I4 (n:Nat) (x21:dB×Int) (x252:Int) (y14_1:Int) (y14_3:List aH) (y15_2:Int) (y16_2:Bool) (y20_1:aI) (y20_2:List Int):WB ((aI×(List Int))) :=
 .al 49<|
 .gv 12<|
 .as (((y20_1.s,y20_1.bad):RS).1.length<=9223372036854775806) inferInstance<|
 .bl (iA ((y20_1.s,y20_1.bad):RS) 5:Int) λx435 =>
 .bl (gK ((y20_1.s,y20_1.bad):RS) 5:RS) λx436 =>
 .ge 28 2<|
 .as ((0:Int)<=x435/\(x435:Int)<=1048576) inferInstance<|
 .bl (List.replicate (Int.toNat x435) (0:Int):List Int) λx438 =>
 .ge 29 0<|
 .gv 30<|
 .ge 1003009 0<|
 .dr [(0,[49]),(3,[18]),(4,[18])] [(5,[])] [18,49] [5] [0,1,2,3,4,5] (.gv 34<|
 .gv 35<|
 .inl 36 pO Tryz.func121 [1,3,5,6,7,8,9,10,11,12,13,14,15,16,17,19,20,21,22,49] [] (λ_ (a:aI×(List Int))=>.aM []) (λu5291 a=>[.kp 2 [[str a.1.s,aA a.1.bad]],.kp 18 ((y14_3.map aH.av).set (Int.toNat y14_1) [int y15_2,aA y16_2,.sl 20 (u5291 20) 0 (Int.toNat x252),.sl 21 (u5291 21) 0 (Int.toNat 17),.sl 22 (u5291 22) 0 (Int.toNat (x21.1.bC.length:Int)),aG 1 fI y20_2,.sl 50 (u5291 50) 0 a.2.length,.sc (.slice none 0 0)]),.kp 50 (a.2.map fI)]) (K6 n x21 x252 x435 x436 x438 y14_1 y14_3 y15_2 y16_2 y20_2) (pw λy115_1 y115_2 =>
 .as (y115_2.length=(Int.toNat x435)) inferInstance<|
 .gv 41<|
 .gv 44<|
 .gv 45<|
 .bB 47 (decide ((y115_2.length:Int)=0)) λx458 =>
 .jJ 50<|
 .jn 0 [] [1,2,3,5,6,7,8,9,10,11,12,13,14,15,16,17,19,20,21,22] [] (λ_ (a:(List Int))=>[]) (λu5311 a=>[.kp 18 ((y14_3.map aH.av).set (Int.toNat y14_1) [int y15_2,aA y16_2,.sl 20 (u5311 20) 0 (Int.toNat x252),.sl 21 (u5311 21) 0 (Int.toNat 17),.sl 22 (u5311 22) 0 (Int.toNat (x21.1.bC.length:Int)),aG 1 fI y20_2,aG 1 fI a,.sc (.slice none 0 0)])]) (.ifs [47,48] x458 (.gv 50<|
 .ge 1006002 0<|
 .ret ([]:List Int)) (.ret (y115_2:List Int)))
  (λy122_1 =>
 .ret ((y115_1:aI),(y122_1:List Int)))))
noncomputable def KZ (n:Nat) (x21:dB×Int) (x252:Int) (y14_1:Int) (y14_3:List aH) (y15_2:Int) (y16_2:Bool) (y20_2:List Int) (y21_1:aI) (y21_2:List Int):WB ((aI×(List aH))) :=
 .al 25<|
 .gv 12<|
 .as (((y21_1.s,y21_1.bad):RS).1.length<=9223372036854775806) inferInstance<|
 .bl (iA ((y21_1.s,y21_1.bad):RS) 0:Int) λx463 =>
 .bl (gK ((y21_1.s,y21_1.bad):RS) 0:RS) λx464 =>
 .ge 28 2<|
 .as ((0:Int)<=x463/\(x463:Int)<=1048576) inferInstance<|
 .bl (List.replicate (Int.toNat x463) ((⟨0,false,[],[],[],[],[],[]⟩:aH):aH):List aH) λx466 =>
 .ge 29 0<|
 .gv 30<|
 .ge 1003009 0<|
 .dr [(0,[25]),(3,[18]),(4,[18])] [(5,[])] [18,25] [5] [0,1,2,3,4,5] (.gv 34<|
 .gv 35<|
 .inl 36 wN Tryz.func78 [1,2,3,5,6,7,8,9,10,11,12,13,14,15,16,17,18,19,20,21,22,23,24,25,26] [] (λ_ (a:Unit)=>.aM []) (λ_ _=>[]) ( .al 27<|
 .jn 1 [] [1,2,3,5,6,7,8,9,10,11,12,13,14,15,16,17,18,19,20,21,22,23,24,25,26] [] (λ_ (a:Unit)=>[]) (λ_ _=>[]) (.lp [1,2,3,8,9] [1,2,3,5,6,7,8,9,10,11,12,13,14,15,16,17,18,19,20,21,22,23,24,25,26,27] [] (λ_ (a:Unit)=>[]) (λ_ _=>[]) n () (λ_ =>
 .bB 10 (decide (0<((Int.toNat x463):Int))) λx469 =>
 .az [10] x469 (.esc (.ret ()))))
  (λ_ =>
 .ret ())) (λ_ =>
 .jJ 26<|
 .gv 41<|
 .gv 44<|
 .gv 45<|
 .bB 47 (decide (((Int.toNat x463):Int)=0)) λx470 =>
 .jn 0 [] [1,2,3,5,6,7,8,9,10,11,12,13,14,15,16,17,19,20,21,22,23,24] [] (λ_ (a:(List aH))=>[]) (λu5329 a=>[.kp 18 ((y14_3.map aH.av).set (Int.toNat y14_1) [int y15_2,aA y16_2,.sl 20 (u5329 20) 0 (Int.toNat x252),.sl 21 (u5329 21) 0 (Int.toNat 17),.sl 22 (u5329 22) 0 (Int.toNat (x21.1.bC.length:Int)),aG 1 fI y20_2,aG 1 fI y21_2,aG 8 aH.av a])]) (.ifs [47,48] x470 (.gv 50<|
 .ge 1006002 0<|
 .ret ([]:List aH)) (.ret (x466:List aH)))
  (λy26_1 =>
 .ret (((⟨x464.1,x464.2⟩:aI):aI),(y26_1:List aH)))))
noncomputable def KW (n:Nat) (a1:List UInt8) (x21:dB×Int) (y14_1:Int) (y14_2:aI) (y14_3:List aH):WB ((aI×Int×Bool×(List Int)×(List Int)×(List aH)×(List aT)×(List Int)×(List bA))) :=
 .gv 10<|
 .dg [(1,[15]),(5,[15]),(8,[18]),(9,[18])] [(3,20),(4,21),(6,22),(9,18)] (.bI 13 (bL ((x21.1.bC.length:Int)*2)) λx252 =>
 .as ((0:Int)<=x252/\(x252:Int)<=1048576) inferInstance<|
 .bl (List.replicate (Int.toNat x252) ((⟨[],(⟨0,0,0⟩:jN)⟩:aT):aT):List aT) λx254 =>
 .ms 14 20 aT.av ((⟨[],(⟨0,0,0⟩:jN)⟩:aT):aT) x252 x254<|
 .as ((0:Int)<=17/\(17:Int)<=1048576) inferInstance<|
 .bl (List.replicate (Int.toNat 17) (0:Int):List Int) λx257 =>
 .ms 15 21 fI (0:Int) 17 x257<|
 .as ((0:Int)<=(x21.1.bC.length:Int)/\((x21.1.bC.length:Int):Int)<=1048576) inferInstance<|
 .bl (List.replicate (Int.toNat (x21.1.bC.length:Int)) ((⟨0,0,0,0,0,0,0,0,0,0,0⟩:bA):bA):List bA) λx260 =>
 .ms 17 22 bA.av ((⟨0,0,0,0,0,0,0,0,0,0,0⟩:bA):bA) (x21.1.bC.length:Int) x260<|
 .gv 19<|
 .ge 1001009 18<|
 .gv 22<|
 .gv 23<|
 .gv 24<|
 .inl 25 jG Tryz.func85 [1,3,5,6,7,8,9,10,11,12,13,14,15,16,17,19,20,21,22] [] (λ_ (a:aI×Int)=>.aM []) (λu5187 a=>[.kp 2 [[str a.1.s,aA a.1.bad]],.kp 18 ((y14_3.map aH.av).set (Int.toNat y14_1) [int a.2,aA false,.sl 20 (u5187 20) 0 (Int.toNat x252),.sl 21 (u5187 21) 0 (Int.toNat 17),.sl 22 (u5187 22) 0 (Int.toNat (x21.1.bC.length:Int)),.sc (.slice none 0 0),.sc (.slice none 0 0),.sc (.slice none 0 0)])]) ( .jn 1 [] [1,3,5,6,7,8,9,10,11,12,13,14,15,16,17,19,20,21,22] [] (λ_ (a:aI×Int)=>[]) (λu5188 a=>[.kp 2 [[str a.1.s,aA a.1.bad]],.kp 18 ((y14_3.map aH.av).set (Int.toNat y14_1) [int a.2,aA false,.sl 20 (u5188 20) 0 (Int.toNat x252),.sl 21 (u5188 21) 0 (Int.toNat 17),.sl 22 (u5188 22) 0 (Int.toNat (x21.1.bC.length:Int)),.sc (.slice none 0 0),.sc (.slice none 0 0),.sc (.slice none 0 0)])]) (.un 24 (.kB 9 true<|
 .gv 10<|
 .gv 16<|
 .as (((y14_2.s,y14_2.bad):RS).1.length<=9223372036854775806) inferInstance<|
 .bl (dG ((y14_2.s,y14_2.bad):RS):Int) λx265 =>
 .bl (dL ((y14_2.s,y14_2.bad):RS):RS) λx266 =>
 .ge 30 2<|
 .gv 31<|
 .ge 1005007 0<|
 .kI 32 1<|
 .kB 9 false<|
 .ret (((⟨x266.1,x266.2⟩:aI):aI),(x265:Int))))
  (pw λy83_1 y83_2 =>
 .ret ((y83_1:aI),(y83_2:Int)))) (pw λy15_1 y15_2 =>
 .gv 28<|
 .gv 29<|
 .inl 30 zG Tryz.func117 [1,3,5,6,7,8,9,10,11,12,13,14,15,16,17,19,20,21,22] [] (λ_ (a:aI×Bool)=>.aM []) (λu5190 a=>[.kp 2 [[str a.1.s,aA a.1.bad]],.kp 18 ((y14_3.map aH.av).set (Int.toNat y14_1) [int y15_2,aA a.2,.sl 20 (u5190 20) 0 (Int.toNat x252),.sl 21 (u5190 21) 0 (Int.toNat 17),.sl 22 (u5190 22) 0 (Int.toNat (x21.1.bC.length:Int)),.sc (.slice none 0 0),.sc (.slice none 0 0),.sc (.slice none 0 0)])]) ( .gv 6<|
 .gv 7<|
 .gv 12<|
 .as (((y15_1.s,y15_1.bad):RS).1.length<=9223372036854775806) inferInstance<|
 .bl (iA ((y15_1.s,y15_1.bad):RS) 1:Int) λx270 =>
 .bl (gK ((y15_1.s,y15_1.bad):RS) 1:RS) λx271 =>
 .ge 24 2<|
 .bB 25 (decide (x270=1)) λx272 =>
 .gv 26<|
 .ge 1005008 0<|
 .ret (((⟨x271.1,x271.2⟩:aI):aI),(x272:Bool))) (pw λy16_1 y16_2 =>
 .gv 34<|
 .gv 35<|
 .gv 36<|
 .inl 37 CX Tryz.func119 [1,3,5,6,7,8,9,10,11,12,13,14,15,16,17,19,21,22] [] (λ_ (a:aI×(List aT))=>.aM []) (λu5192 a=>[.kp 2 [[str a.1.s,aA a.1.bad]],.kp 18 ((y14_3.map aH.av).set (Int.toNat y14_1) [int y15_2,aA y16_2,.sl 20 (u5192 20) 0 a.2.length,.sl 21 (u5192 21) 0 (Int.toNat 17),.sl 22 (u5192 22) 0 (Int.toNat (x21.1.bC.length:Int)),.sc (.slice none 0 0),.sc (.slice none 0 0),.sc (.slice none 0 0)]),.kp 20 (a.2.map aT.av)]) (KV n a1 x21 x252 x254 y14_1 y14_3 y15_2 y16_1 y16_2) (pw λy17_1 y17_2 =>
 .as (y17_2.length=(Int.toNat x252)) inferInstance<|
 .gv 41<|
 .gv 42<|
 .gv 43<|
 .inl 44 pO Tryz.func121 [1,3,5,6,7,8,9,10,11,12,13,14,15,16,17,19,20,22] [] (λ_ (a:aI×(List Int))=>.aM []) (λu5222 a=>[.kp 2 [[str a.1.s,aA a.1.bad]],.kp 18 ((y14_3.map aH.av).set (Int.toNat y14_1) [int y15_2,aA y16_2,.sl 20 (u5222 20) 0 (Int.toNat x252),.sl 21 (u5222 21) 0 a.2.length,.sl 22 (u5222 22) 0 (Int.toNat (x21.1.bC.length:Int)),.sc (.slice none 0 0),.sc (.slice none 0 0),.sc (.slice none 0 0)]),.kp 21 (a.2.map fI)]) (KF n x21 x252 x257 y14_1 y14_3 y15_2 y16_2 y17_1) (pw λy18_1 y18_2 =>
 .as (y18_2.length=(Int.toNat 17)) inferInstance<|
 .gv 48<|
 .gv 49<|
 .gv 50<|
 .inl 51 CF Tryz.func123 [1,3,5,6,7,8,9,10,11,12,13,14,15,16,17,19,20,21] [] (λ_ (a:aI×(List bA))=>.aM []) (λu5243 a=>[.kp 2 [[str a.1.s,aA a.1.bad]],.kp 18 ((y14_3.map aH.av).set (Int.toNat y14_1) [int y15_2,aA y16_2,.sl 20 (u5243 20) 0 (Int.toNat x252),.sl 21 (u5243 21) 0 (Int.toNat 17),.sl 22 (u5243 22) 0 a.2.length,.sc (.slice none 0 0),.sc (.slice none 0 0),.sc (.slice none 0 0)]),.kp 22 (a.2.map bA.av)]) (HY n x21 x252 x260 y14_1 y14_3 y15_2 y16_2 y18_1) (pw λy19_1 y19_2 =>
 .as (y19_2.length=(Int.toNat (x21.1.bC.length:Int))) inferInstance<|
 .gv 55<|
 .gv 56<|
 .inl 57 tF Tryz.func124 [1,3,5,6,7,8,9,10,11,12,13,14,15,16,17,19,20,21,22] [] (λ_ (a:aI×(List Int))=>.aM []) (λu5265 a=>[.kp 2 [[str a.1.s,aA a.1.bad]],.kp 18 ((y14_3.map aH.av).set (Int.toNat y14_1) [int y15_2,aA y16_2,.sl 20 (u5265 20) 0 (Int.toNat x252),.sl 21 (u5265 21) 0 (Int.toNat 17),.sl 22 (u5265 22) 0 (Int.toNat (x21.1.bC.length:Int)),aG 1 fI a.2,.sc (.slice none 0 0),.sc (.slice none 0 0)])]) (ET n x21 x252 y14_1 y14_3 y15_2 y16_2 y19_1) (pw λy20_1 y20_2 =>
 .gv 61<|
 .gv 62<|
 .inl 63 tF Tryz.func124 [1,3,5,6,7,8,9,10,11,12,13,14,15,16,17,19,20,21,22] [] (λ_ (a:aI×(List Int))=>.aM []) (λu5289 a=>[.kp 2 [[str a.1.s,aA a.1.bad]],.kp 18 ((y14_3.map aH.av).set (Int.toNat y14_1) [int y15_2,aA y16_2,.sl 20 (u5289 20) 0 (Int.toNat x252),.sl 21 (u5289 21) 0 (Int.toNat 17),.sl 22 (u5289 22) 0 (Int.toNat (x21.1.bC.length:Int)),aG 1 fI y20_2,aG 1 fI a.2,.sc (.slice none 0 0)])]) (I4 n x21 x252 y14_1 y14_3 y15_2 y16_2 y20_1 y20_2) (pw λy21_1 y21_2 =>
 .dr [(0,[15]),(5,[18]),(6,[18]),(7,[16])] [(1,[16,18]),(8,[])] [15,16,18] [1,8] [0,3,4,5,6,7,1,2,8] (.gv 69<|
 .gv 70<|
 .inl 65 vS Tryz.func77 [1,2,3,5,6,7,8,9,10,11,12,13,14,15,16,17,18,19,20,21,22] [23,24] (λu5319 (a:Unit)=>.fn (.func 116) [] [.pt 23 (u5319 23) 0 0,.pt 24 (u5319 24) 0 0]) (λ_ _=>[.nw 23 3 1 [[int (x21.1.bC.length:Int)]],.nw 24 3 1 [[int 0]]]) ( .al 23<|
 .al 24<|
 .ret ()) (λ_ =>
 .inl 72 BP Tryz.func125 [1,3,5,6,7,8,9,10,11,12,13,14,15,16,17,19,20,21,22,23,24] [] (λ_ (a:aI×(List aH))=>.aM []) (λu5325 a=>[.kp 2 [[str a.1.s,aA a.1.bad]],.kp 18 ((y14_3.map aH.av).set (Int.toNat y14_1) [int y15_2,aA y16_2,.sl 20 (u5325 20) 0 (Int.toNat x252),.sl 21 (u5325 21) 0 (Int.toNat 17),.sl 22 (u5325 22) 0 (Int.toNat (x21.1.bC.length:Int)),aG 1 fI y20_2,aG 1 fI y21_2,aG 8 aH.av a.2])]) (KZ n x21 x252 y14_1 y14_3 y15_2 y16_2 y20_2 y21_1 y21_2) (pw λy27_1 y27_2 =>
 .ret ((y27_1:aI),(y15_2:Int),(y16_2:Bool),(y20_2:List Int),(y21_2:List Int),(y27_2:List aH),(y17_2:List aT),(y18_2:List Int),(y19_2:List bA)))))))))))))
noncomputable def IP (n:Nat) (a1:List UInt8) (x21:dB×Int) (x244:Int) (x245:RS) (x247:List aH) (x33:Int) (y11_2:List Int) (y12_2:List Int) (y5_1:Int) (y5_3:List aH) (y6_2:Int) (y7_2:Bool):WB ((aI×(List aH))) :=
 .al 19<|
 .jn 1 [] [1,3,5,6,8,9,10,11,12,13,14,15,16,17] [] (λ_ (a:aI×(List aH))=>[]) (λu5180 a=>[.kp 2 [[str a.1.s,aA a.1.bad]],.kp 7 ((y5_3.map aH.av).set (Int.toNat y5_1) [int y6_2,aA y7_2,.sl 12 (u5180 12) 0 (Int.toNat x33),.sl 13 (u5180 13) 0 (Int.toNat 17),.sl 14 (u5180 14) 0 (Int.toNat (x21.1.bC.length:Int)),aG 1 fI y11_2,aG 1 fI y12_2,.sl 18 (u5180 18) 0 a.2.length]),.kp 18 (a.2.map aH.av)]) (.lp [1,3,8] [1,3,5,6,8,9,10,11,12,13,14,15,16,17,19] [] (λu5183 (a:Int×aI×(List aH))=>[(2,.sl 18 (u5183 18) 0 a.2.2.length),(9,int a.1)]) (λu5183 a=>[.kp 2 [[str a.2.1.s,aA a.2.1.bad]],.kp 7 ((y5_3.map aH.av).set (Int.toNat y5_1) [int y6_2,aA y7_2,.sl 12 (u5183 12) 0 (Int.toNat x33),.sl 13 (u5183 13) 0 (Int.toNat 17),.sl 14 (u5183 14) 0 (Int.toNat (x21.1.bC.length:Int)),aG 1 fI y11_2,aG 1 fI y12_2,.sl 18 (u5183 18) 0 a.2.2.length]),.kp 18 (a.2.2.map aH.av)]) n ((0:Int),((⟨x245.1,x245.2⟩:aI):aI),(x247:List aH)) (pw λy14_1 q0=>(pw λy14_2 y14_3 =>
 .bB 10 (decide (y14_1<((Int.toNat x244):Int))) λx250 =>
 .ifs [10] x250 (.dr [(0,[19]),(1,[19]),(5,[18])] [(6,[])] [18,19] [6] [0,1,2,3,4,5,6] (.bo (ix y14_3 y14_1) λx251 =>
 .gv 17<|
 .inl 18 B7 Tryz.func116 [1,3,5,6,7,8,9,10,11,12,13,14,15,16,17,19] [20,21,22] (λ_ (a:aI×Int×Bool×(List Int)×(List Int)×(List aH)×(List aT)×(List Int)×(List bA))=>.aM []) (λu5185 a=>[.kp 2 [[str a.1.s,aA a.1.bad]],.kp 18 ((y14_3.map aH.av).set (Int.toNat y14_1) [int a.2.1,aA a.2.2.1,.sl 20 (u5185 20) 0 a.2.2.2.2.2.2.1.length,.sl 21 (u5185 21) 0 a.2.2.2.2.2.2.2.1.length,.sl 22 (u5185 22) 0 a.2.2.2.2.2.2.2.2.length,aG 1 fI a.2.2.2.1,aG 1 fI a.2.2.2.2.1,aG 8 aH.av a.2.2.2.2.2.1]),.nw 20 190 4 (a.2.2.2.2.2.2.1.map aT.av),.nw 21 3 1 (a.2.2.2.2.2.2.2.1.map fI),.nw 22 193 11 (a.2.2.2.2.2.2.2.2.map bA.av)]) (KW n a1 x21 y14_1 y14_2 y14_3) (pw λy28_1 q0=>(pw λy28_2 q1=>(pw λy28_3 q2=>(pw λy28_7 q3=>(pw λy28_8 q4=>(pw λy28_9 q5=>(pw λy28_10 q6=>(pw λy28_11 y28_12 =>
 .jJ 20<|
 .jJ 21<|
 .jJ 22<|
 .bI 19 (bL (y14_1+1)) λx471 =>
 .brk ((x471:Int),(y28_1:aI),((y14_3.set (Int.toNat y14_1) ((⟨y28_2,y28_3,y28_10,y28_11,y28_12,y28_7,y28_8,y28_9⟩:aH):aH)):List aH))) q6) q5) q4) q3) q2) q1) q0))) (.esc (.ret ((y14_2:aI),(y14_3:List aH))))) q0))
  (pw λy29_1 y29_2 =>
 .ret ((y29_1:aI),(y29_2:List aH)))
noncomputable def F6 (n:Nat) (a1:List UInt8) (x21:dB×Int) (x33:Int) (y11_2:List Int) (y12_1:aI) (y12_2:List Int) (y5_1:Int) (y5_3:List aH) (y6_2:Int) (y7_2:Bool):WB ((aI×(List aH))) :=
 .al 17<|
 .gv 12<|
 .as (((y12_1.s,y12_1.bad):RS).1.length<=9223372036854775806) inferInstance<|
 .bl (iA ((y12_1.s,y12_1.bad):RS) 1:Int) λx244 =>
 .bl (gK ((y12_1.s,y12_1.bad):RS) 1:RS) λx245 =>
 .ge 28 2<|
 .as ((0:Int)<=x244/\(x244:Int)<=1048576) inferInstance<|
 .bl (List.replicate (Int.toNat x244) ((⟨0,false,[],[],[],[],[],[]⟩:aH):aH):List aH) λx247 =>
 .ge 29 0<|
 .gv 30<|
 .ge 1003009 0<|
 .dr [(0,[17]),(3,[7]),(4,[7])] [(5,[])] [7,17] [5] [0,1,2,3,4,5] (.gv 34<|
 .gv 35<|
 .inl 36 wN Tryz.func78 [1,3,5,6,8,9,10,11,12,13,14,15,16,17] [] (λ_ (a:aI×(List aH))=>.aM []) (λu5179 a=>[.kp 2 [[str a.1.s,aA a.1.bad]],.kp 7 ((y5_3.map aH.av).set (Int.toNat y5_1) [int y6_2,aA y7_2,.sl 12 (u5179 12) 0 (Int.toNat x33),.sl 13 (u5179 13) 0 (Int.toNat 17),.sl 14 (u5179 14) 0 (Int.toNat (x21.1.bC.length:Int)),aG 1 fI y11_2,aG 1 fI y12_2,.sl 18 (u5179 18) 0 a.2.length]),.kp 18 (a.2.map aH.av)]) (IP n a1 x21 x244 x245 x247 x33 y11_2 y12_2 y5_1 y5_3 y6_2 y7_2) (pw λy30_1 y30_2 =>
 .as (y30_2.length=(Int.toNat x244)) inferInstance<|
 .jJ 18<|
 .gv 41<|
 .gv 44<|
 .gv 45<|
 .bB 47 (decide ((y30_2.length:Int)=0)) λx473 =>
 .jn 0 [] [1,2,3,5,6,8,9,10,11,12,13,14,15,16] [] (λ_ (a:(List aH))=>[]) (λu5330 a=>[.kp 7 ((y5_3.map aH.av).set (Int.toNat y5_1) [int y6_2,aA y7_2,.sl 12 (u5330 12) 0 (Int.toNat x33),.sl 13 (u5330 13) 0 (Int.toNat 17),.sl 14 (u5330 14) 0 (Int.toNat (x21.1.bC.length:Int)),aG 1 fI y11_2,aG 1 fI y12_2,aG 8 aH.av a])]) (.ifs [47,48] x473 (.gv 50<|
 .ge 1006002 0<|
 .ret ([]:List aH)) (.ret (y30_2:List aH)))
  (λy31_1 =>
 .ret ((y30_1:aI),(y31_1:List aH)))))
noncomputable def J9 (n:Nat) (a1:List UInt8) (x21:dB×Int) (y5_1:Int) (y5_2:aI) (y5_3:List aH):WB ((aI×Int×Bool×(List Int)×(List Int)×(List aH)×(List aT)×(List Int)×(List bA))) :=
 .gv 10<|
 .dg [(1,[9]),(5,[9]),(8,[7]),(9,[7])] [(3,12),(4,13),(6,14),(9,7)] (.bI 13 (bL ((x21.1.bC.length:Int)*2)) λx33 =>
 .as ((0:Int)<=x33/\(x33:Int)<=1048576) inferInstance<|
 .bl (List.replicate (Int.toNat x33) ((⟨[],(⟨0,0,0⟩:jN)⟩:aT):aT):List aT) λx35 =>
 .ms 14 12 aT.av ((⟨[],(⟨0,0,0⟩:jN)⟩:aT):aT) x33 x35<|
 .as ((0:Int)<=17/\(17:Int)<=1048576) inferInstance<|
 .bl (List.replicate (Int.toNat 17) (0:Int):List Int) λx38 =>
 .ms 15 13 fI (0:Int) 17 x38<|
 .as ((0:Int)<=(x21.1.bC.length:Int)/\((x21.1.bC.length:Int):Int)<=1048576) inferInstance<|
 .bl (List.replicate (Int.toNat (x21.1.bC.length:Int)) ((⟨0,0,0,0,0,0,0,0,0,0,0⟩:bA):bA):List bA) λx41 =>
 .ms 17 14 bA.av ((⟨0,0,0,0,0,0,0,0,0,0,0⟩:bA):bA) (x21.1.bC.length:Int) x41<|
 .gv 19<|
 .ge 1001009 7<|
 .gv 22<|
 .gv 23<|
 .gv 24<|
 .inl 25 jG Tryz.func85 [1,3,5,6,8,9,10,11,12,13,14] [] (λ_ (a:aI×Int)=>.aM []) (λu4728 a=>[.kp 2 [[str a.1.s,aA a.1.bad]],.kp 7 ((y5_3.map aH.av).set (Int.toNat y5_1) [int a.2,aA false,.sl 12 (u4728 12) 0 (Int.toNat x33),.sl 13 (u4728 13) 0 (Int.toNat 17),.sl 14 (u4728 14) 0 (Int.toNat (x21.1.bC.length:Int)),.sc (.slice none 0 0),.sc (.slice none 0 0),.sc (.slice none 0 0)])]) ( .jn 1 [] [1,3,5,6,8,9,10,11,12,13,14] [] (λ_ (a:aI×Int)=>[]) (λu4729 a=>[.kp 2 [[str a.1.s,aA a.1.bad]],.kp 7 ((y5_3.map aH.av).set (Int.toNat y5_1) [int a.2,aA false,.sl 12 (u4729 12) 0 (Int.toNat x33),.sl 13 (u4729 13) 0 (Int.toNat 17),.sl 14 (u4729 14) 0 (Int.toNat (x21.1.bC.length:Int)),.sc (.slice none 0 0),.sc (.slice none 0 0),.sc (.slice none 0 0)])]) (.un 24 (.kB 9 true<|
 .gv 10<|
 .gv 16<|
 .as (((y5_2.s,y5_2.bad):RS).1.length<=9223372036854775806) inferInstance<|
 .bl (dG ((y5_2.s,y5_2.bad):RS):Int) λx46 =>
 .bl (dL ((y5_2.s,y5_2.bad):RS):RS) λx47 =>
 .ge 30 2<|
 .gv 31<|
 .ge 1005007 0<|
 .kI 32 1<|
 .kB 9 false<|
 .ret (((⟨x47.1,x47.2⟩:aI):aI),(x46:Int))))
  (pw λy42_1 y42_2 =>
 .ret ((y42_1:aI),(y42_2:Int)))) (pw λy6_1 y6_2 =>
 .gv 28<|
 .gv 29<|
 .inl 30 zG Tryz.func117 [1,3,5,6,8,9,10,11,12,13,14] [] (λ_ (a:aI×Bool)=>.aM []) (λu4731 a=>[.kp 2 [[str a.1.s,aA a.1.bad]],.kp 7 ((y5_3.map aH.av).set (Int.toNat y5_1) [int y6_2,aA a.2,.sl 12 (u4731 12) 0 (Int.toNat x33),.sl 13 (u4731 13) 0 (Int.toNat 17),.sl 14 (u4731 14) 0 (Int.toNat (x21.1.bC.length:Int)),.sc (.slice none 0 0),.sc (.slice none 0 0),.sc (.slice none 0 0)])]) ( .gv 6<|
 .gv 7<|
 .gv 12<|
 .as (((y6_1.s,y6_1.bad):RS).1.length<=9223372036854775806) inferInstance<|
 .bl (iA ((y6_1.s,y6_1.bad):RS) 1:Int) λx51 =>
 .bl (gK ((y6_1.s,y6_1.bad):RS) 1:RS) λx52 =>
 .ge 24 2<|
 .bB 25 (decide (x51=1)) λx53 =>
 .gv 26<|
 .ge 1005008 0<|
 .ret (((⟨x52.1,x52.2⟩:aI):aI),(x53:Bool))) (pw λy7_1 y7_2 =>
 .gv 34<|
 .gv 35<|
 .gv 36<|
 .inl 37 CX Tryz.func119 [1,3,5,6,8,9,10,11,13,14] [] (λ_ (a:aI×(List aT))=>.aM []) (λu4733 a=>[.kp 2 [[str a.1.s,aA a.1.bad]],.kp 7 ((y5_3.map aH.av).set (Int.toNat y5_1) [int y6_2,aA y7_2,.sl 12 (u4733 12) 0 a.2.length,.sl 13 (u4733 13) 0 (Int.toNat 17),.sl 14 (u4733 14) 0 (Int.toNat (x21.1.bC.length:Int)),.sc (.slice none 0 0),.sc (.slice none 0 0),.sc (.slice none 0 0)]),.kp 12 (a.2.map aT.av)]) (JV n a1 x21 x33 x35 y5_1 y5_3 y6_2 y7_1 y7_2) (pw λy8_1 y8_2 =>
 .as (y8_2.length=(Int.toNat x33)) inferInstance<|
 .gv 41<|
 .gv 42<|
 .gv 43<|
 .inl 44 pO Tryz.func121 [1,3,5,6,8,9,10,11,12,14] [] (λ_ (a:aI×(List Int))=>.aM []) (λu4763 a=>[.kp 2 [[str a.1.s,aA a.1.bad]],.kp 7 ((y5_3.map aH.av).set (Int.toNat y5_1) [int y6_2,aA y7_2,.sl 12 (u4763 12) 0 (Int.toNat x33),.sl 13 (u4763 13) 0 a.2.length,.sl 14 (u4763 14) 0 (Int.toNat (x21.1.bC.length:Int)),.sc (.slice none 0 0),.sc (.slice none 0 0),.sc (.slice none 0 0)]),.kp 13 (a.2.map fI)]) (IC n x21 x33 x38 y5_1 y5_3 y6_2 y7_2 y8_1) (pw λy9_1 y9_2 =>
 .as (y9_2.length=(Int.toNat 17)) inferInstance<|
 .gv 48<|
 .gv 49<|
 .gv 50<|
 .inl 51 CF Tryz.func123 [1,3,5,6,8,9,10,11,12,13] [] (λ_ (a:aI×(List bA))=>.aM []) (λu4784 a=>[.kp 2 [[str a.1.s,aA a.1.bad]],.kp 7 ((y5_3.map aH.av).set (Int.toNat y5_1) [int y6_2,aA y7_2,.sl 12 (u4784 12) 0 (Int.toNat x33),.sl 13 (u4784 13) 0 (Int.toNat 17),.sl 14 (u4784 14) 0 a.2.length,.sc (.slice none 0 0),.sc (.slice none 0 0),.sc (.slice none 0 0)]),.kp 14 (a.2.map bA.av)]) (IU n x21 x33 x41 y5_1 y5_3 y6_2 y7_2 y9_1) (pw λy10_1 y10_2 =>
 .as (y10_2.length=(Int.toNat (x21.1.bC.length:Int))) inferInstance<|
 .gv 55<|
 .gv 56<|
 .inl 57 tF Tryz.func124 [1,3,5,6,8,9,10,11,12,13,14] [] (λ_ (a:aI×(List Int))=>.aM []) (λu4806 a=>[.kp 2 [[str a.1.s,aA a.1.bad]],.kp 7 ((y5_3.map aH.av).set (Int.toNat y5_1) [int y6_2,aA y7_2,.sl 12 (u4806 12) 0 (Int.toNat x33),.sl 13 (u4806 13) 0 (Int.toNat 17),.sl 14 (u4806 14) 0 (Int.toNat (x21.1.bC.length:Int)),aG 1 fI a.2,.sc (.slice none 0 0),.sc (.slice none 0 0)])]) (EX n x21 x33 y10_1 y5_1 y5_3 y6_2 y7_2) (pw λy11_1 y11_2 =>
 .gv 61<|
 .gv 62<|
 .inl 63 tF Tryz.func124 [1,3,5,6,8,9,10,11,12,13,14] [] (λ_ (a:aI×(List Int))=>.aM []) (λu4830 a=>[.kp 2 [[str a.1.s,aA a.1.bad]],.kp 7 ((y5_3.map aH.av).set (Int.toNat y5_1) [int y6_2,aA y7_2,.sl 12 (u4830 12) 0 (Int.toNat x33),.sl 13 (u4830 13) 0 (Int.toNat 17),.sl 14 (u4830 14) 0 (Int.toNat (x21.1.bC.length:Int)),aG 1 fI y11_2,aG 1 fI a.2,.sc (.slice none 0 0)])]) (JP n x21 x33 y11_1 y11_2 y5_1 y5_3 y6_2 y7_2) (pw λy12_1 y12_2 =>
 .dr [(0,[9]),(5,[7]),(6,[7]),(7,[10])] [(1,[7,10]),(8,[])] [7,9,10] [1,8] [0,3,4,5,6,7,1,2,8] (.gv 69<|
 .gv 70<|
 .inl 65 vS Tryz.func77 [1,2,3,5,6,7,8,9,10,11,12,13,14] [15,16] (λu5016 (a:Unit)=>.fn (.func 116) [] [.pt 15 (u5016 15) 0 0,.pt 16 (u5016 16) 0 0]) (λ_ _=>[.nw 15 3 1 [[int (x21.1.bC.length:Int)]],.nw 16 3 1 [[int 0]]]) ( .al 15<|
 .al 16<|
 .ret ()) (λ_ =>
 .inl 72 BP Tryz.func125 [1,3,5,6,8,9,10,11,12,13,14,15,16] [] (λ_ (a:aI×(List aH))=>.aM []) (λu5178 a=>[.kp 2 [[str a.1.s,aA a.1.bad]],.kp 7 ((y5_3.map aH.av).set (Int.toNat y5_1) [int y6_2,aA y7_2,.sl 12 (u5178 12) 0 (Int.toNat x33),.sl 13 (u5178 13) 0 (Int.toNat 17),.sl 14 (u5178 14) 0 (Int.toNat (x21.1.bC.length:Int)),aG 1 fI y11_2,aG 1 fI y12_2,aG 8 aH.av a.2])]) (F6 n a1 x21 x33 y11_2 y12_1 y12_2 y5_1 y5_3 y6_2 y7_2) (pw λy32_1 y32_2 =>
 .ret ((y32_1:aI),(y6_2:Int),(y7_2:Bool),(y11_2:List Int),(y12_2:List Int),(y32_2:List aH),(y8_2:List aT),(y9_2:List Int),(y10_2:List bA)))))))))))))
noncomputable def KD (n:Nat) (a1:List UInt8) (x21:dB×Int) (x25:List aH) (x9:RS):WB ((aI×(List aH))) :=
 .al 11<|
 .jn 1 [] [1,3,5,6,9,10] [] (λ_ (a:aI×(List aH))=>[]) (λu4721 a=>[.kp 2 [[str a.1.s,aA a.1.bad]],.kp 7 (a.2.map aH.av),.kp 8 [[int x21.1.fT,int x21.1.iX,aG 1 fI x21.1.bC,aG 1 (fL 1 fI) x21.1.Methods,aG 1 (fL 1 fI) x21.1.iF,.sl 7 (u4721 7) 0 a.2.length,.sc (.slice none 0 0),.sc (.slice none 0 0),.sc (.slice none 0 0),int 0]]]) (.lp [1,3,8] [1,3,5,6,9,10,11] [] (λu4724 (a:Int×aI×(List aH))=>[(2,.sl 7 (u4724 7) 0 a.2.2.length),(9,int a.1)]) (λu4724 a=>[.kp 2 [[str a.2.1.s,aA a.2.1.bad]],.kp 7 (a.2.2.map aH.av),.kp 8 [[int x21.1.fT,int x21.1.iX,aG 1 fI x21.1.bC,aG 1 (fL 1 fI) x21.1.Methods,aG 1 (fL 1 fI) x21.1.iF,.sl 7 (u4724 7) 0 a.2.2.length,.sc (.slice none 0 0),.sc (.slice none 0 0),.sc (.slice none 0 0),int 0]]]) n ((0:Int),((⟨x9.1,x9.2⟩:aI):aI),(x25:List aH)) (pw λy5_1 q0=>(pw λy5_2 y5_3 =>
 .bB 10 (decide (y5_1<((Int.toNat x21.1.fT):Int))) λx31 =>
 .ifs [10] x31 (.dr [(0,[11]),(1,[11]),(5,[7])] [(6,[])] [7,11] [6] [0,1,2,3,4,5,6] (.bo (ix y5_3 y5_1) λx32 =>
 .gv 17<|
 .inl 18 B7 Tryz.func116 [1,3,5,6,8,9,10,11] [12,13,14] (λ_ (a:aI×Int×Bool×(List Int)×(List Int)×(List aH)×(List aT)×(List Int)×(List bA))=>.aM []) (λu4726 a=>[.kp 2 [[str a.1.s,aA a.1.bad]],.kp 7 ((y5_3.map aH.av).set (Int.toNat y5_1) [int a.2.1,aA a.2.2.1,.sl 12 (u4726 12) 0 a.2.2.2.2.2.2.1.length,.sl 13 (u4726 13) 0 a.2.2.2.2.2.2.2.1.length,.sl 14 (u4726 14) 0 a.2.2.2.2.2.2.2.2.length,aG 1 fI a.2.2.2.1,aG 1 fI a.2.2.2.2.1,aG 8 aH.av a.2.2.2.2.2.1]),.nw 12 190 4 (a.2.2.2.2.2.2.1.map aT.av),.nw 13 3 1 (a.2.2.2.2.2.2.2.1.map fI),.nw 14 193 11 (a.2.2.2.2.2.2.2.2.map bA.av)]) (J9 n a1 x21 y5_1 y5_2 y5_3) (pw λy33_1 q0=>(pw λy33_2 q1=>(pw λy33_3 q2=>(pw λy33_7 q3=>(pw λy33_8 q4=>(pw λy33_9 q5=>(pw λy33_10 q6=>(pw λy33_11 y33_12 =>
 .jJ 12<|
 .jJ 13<|
 .jJ 14<|
 .bI 19 (bL (y5_1+1)) λx474 =>
 .brk ((x474:Int),(y33_1:aI),((y5_3.set (Int.toNat y5_1) ((⟨y33_2,y33_3,y33_10,y33_11,y33_12,y33_7,y33_8,y33_9⟩:aH):aH)):List aH))) q6) q5) q4) q3) q2) q1) q0))) (.esc (.ret ((y5_2:aI),(y5_3:List aH))))) q0))
  (pw λy34_1 y34_2 =>
 .ret ((y34_1:aI),(y34_2:List aH)))
noncomputable def EC (n:Nat) (x21:dB×Int) (y35_1:aI):WB ((aI×(List fP))) :=
 .al 52<|
 .gv 12<|
 .as (((y35_1.s,y35_1.bad):RS).1.length<=9223372036854775806) inferInstance<|
 .bl (iA ((y35_1.s,y35_1.bad):RS) 40:Int) λx480 =>
 .bl (gK ((y35_1.s,y35_1.bad):RS) 40:RS) λx481 =>
 .ge 28 2<|
 .as ((0:Int)<=x480/\(x480:Int)<=1048576) inferInstance<|
 .bl (List.replicate (Int.toNat x480) ((⟨0,0,0,0,0,0,0,0⟩:fP):fP):List fP) λx483 =>
 .ge 29 0<|
 .dr [(0,[52]),(3,[8]),(4,[8])] [(5,[])] [8,52] [5] [0,1,2,3,4,5] (.inl 36 PU Tryz.func126 [1,3,5,6,7,9,10,52] [] (λ_ (a:aI×(List fP))=>.aM []) (λu5334 a=>[.kp 2 [[str a.1.s,aA a.1.bad]],.kp 8 [[int x21.1.fT,int x21.1.iX,aG 1 fI x21.1.bC,aG 1 (fL 1 fI) x21.1.Methods,aG 1 (fL 1 fI) x21.1.iF,.sl 7 (u5334 7) 0 (Int.toNat x21.1.fT),.sl 53 (u5334 53) 0 a.2.length,.sc (.slice none 0 0),.sc (.slice none 0 0),int 0]],.kp 53 (a.2.map fP.av)]) ( .al 54<|
 .jn 1 [] [1,2,3,5,6,7,9,10,52,53] [] (λ_ (a:Unit)=>[]) (λu5336 _=>[.kp 8 [[int x21.1.fT,int x21.1.iX,aG 1 fI x21.1.bC,aG 1 (fL 1 fI) x21.1.Methods,aG 1 (fL 1 fI) x21.1.iF,.sl 7 (u5336 7) 0 (Int.toNat x21.1.fT),.sl 53 (u5336 53) 0 (Int.toNat x480),.sc (.slice none 0 0),.sc (.slice none 0 0),int 0]]]) (.lp [1,2,3,8,9] [1,2,3,5,6,7,9,10,52,53,54] [] (λ_ (a:Unit)=>[]) (λu5337 _=>[.kp 8 [[int x21.1.fT,int x21.1.iX,aG 1 fI x21.1.bC,aG 1 (fL 1 fI) x21.1.Methods,aG 1 (fL 1 fI) x21.1.iF,.sl 7 (u5337 7) 0 (Int.toNat x21.1.fT),.sl 53 (u5337 53) 0 (Int.toNat x480),.sc (.slice none 0 0),.sc (.slice none 0 0),int 0]]]) n () (λ_ =>
 .bB 10 (decide (0<((Int.toNat x480):Int))) λx488 =>
 .az [10] x488 (.esc (.ret ()))))
  (λ_ =>
 .ret (((⟨x481.1,x481.2⟩:aI):aI),(x483:List fP)))) (pw λy123_1 y123_2 =>
 .as (y123_2.length=(Int.toNat x480)) inferInstance<|
 .gv 41<|
 .bB 47 (decide ((y123_2.length:Int)=0)) λx490 =>
 .jJ 53<|
 .jn 0 [] [1,2,3,5,6,7,9,10] [] (λ_ (a:(List fP))=>[]) (λu5338 a=>[.kp 8 [[int x21.1.fT,int x21.1.iX,aG 1 fI x21.1.bC,aG 1 (fL 1 fI) x21.1.Methods,aG 1 (fL 1 fI) x21.1.iF,.sl 7 (u5338 7) 0 (Int.toNat x21.1.fT),aG 8 fP.av a,.sc (.slice none 0 0),.sc (.slice none 0 0),int 0]]]) (.ifs [47,48] x490 (.ret ([]:List fP)) (.ret (y123_2:List fP)))
  (λy126_1 =>
 .ret ((y123_1:aI),(y126_1:List fP)))))
noncomputable def JR (n:Nat) (x21:dB×Int) (y36_1:aI) (y36_2:List fP):WB ((aI×(List gV))) :=
 .al 55<|
 .gv 12<|
 .as (((y36_1.s,y36_1.bad):RS).1.length<=9223372036854775806) inferInstance<|
 .bl (iA ((y36_1.s,y36_1.bad):RS) 40:Int) λx495 =>
 .bl (gK ((y36_1.s,y36_1.bad):RS) 40:RS) λx496 =>
 .ge 28 2<|
 .as ((0:Int)<=x495/\(x495:Int)<=1048576) inferInstance<|
 .bl (List.replicate (Int.toNat x495) ((⟨0,0,0,0,0,0,0,0,false⟩:gV):gV):List gV) λx498 =>
 .ge 29 0<|
 .dr [(0,[55]),(3,[8]),(4,[8])] [(5,[])] [8,55] [5] [0,1,2,3,4,5] (.inl 36 TW Tryz.func127 [1,3,5,6,7,9,10,55] [] (λ_ (a:aI×(List gV))=>.aM []) (λu5342 a=>[.kp 2 [[str a.1.s,aA a.1.bad]],.kp 8 [[int x21.1.fT,int x21.1.iX,aG 1 fI x21.1.bC,aG 1 (fL 1 fI) x21.1.Methods,aG 1 (fL 1 fI) x21.1.iF,.sl 7 (u5342 7) 0 (Int.toNat x21.1.fT),aG 8 fP.av y36_2,.sl 56 (u5342 56) 0 a.2.length,.sc (.slice none 0 0),int 0]],.kp 56 (a.2.map gV.av)]) ( .al 57<|
 .jn 1 [] [1,2,3,5,6,7,8,9,10,55,56] [] (λ_ (a:Unit)=>[]) (λ_ _=>[]) (.lp [1,2,3,8,9] [1,2,3,5,6,7,8,9,10,55,56,57] [] (λ_ (a:Unit)=>[]) (λ_ _=>[]) n () (λ_ =>
 .bB 10 (decide (0<((Int.toNat x495):Int))) λx503 =>
 .az [10] x503 (.esc (.ret ()))))
  (λ_ =>
 .ret (((⟨x496.1,x496.2⟩:aI):aI),(x498:List gV)))) (pw λy127_1 y127_2 =>
 .as (y127_2.length=(Int.toNat x495)) inferInstance<|
 .gv 41<|
 .bB 47 (decide ((y127_2.length:Int)=0)) λx505 =>
 .jJ 56<|
 .jn 0 [] [1,2,3,5,6,7,9,10] [] (λ_ (a:(List gV))=>[]) (λu5346 a=>[.kp 8 [[int x21.1.fT,int x21.1.iX,aG 1 fI x21.1.bC,aG 1 (fL 1 fI) x21.1.Methods,aG 1 (fL 1 fI) x21.1.iF,.sl 7 (u5346 7) 0 (Int.toNat x21.1.fT),aG 8 fP.av y36_2,aG 9 gV.av a,.sc (.slice none 0 0),int 0]]]) (.ifs [47,48] x505 (.ret ([]:List gV)) (.ret (y127_2:List gV)))
  (λy130_1 =>
 .ret ((y127_1:aI),(y130_1:List gV)))))
noncomputable def K8 (n:Nat) (x21:dB×Int) (y36_2:List fP) (y37_1:aI) (y37_2:List gV):WB ((aI×(List iD))) :=
 .al 58<|
 .gv 12<|
 .as (((y37_1.s,y37_1.bad):RS).1.length<=9223372036854775806) inferInstance<|
 .bl (iA ((y37_1.s,y37_1.bad):RS) 40:Int) λx510 =>
 .bl (gK ((y37_1.s,y37_1.bad):RS) 40:RS) λx511 =>
 .ge 28 2<|
 .as ((0:Int)<=x510/\(x510:Int)<=1048576) inferInstance<|
 .bl (List.replicate (Int.toNat x510) ((⟨0,0,0,0,0,0⟩:iD):iD):List iD) λx513 =>
 .ge 29 0<|
 .dr [(0,[58]),(3,[8]),(4,[8])] [(5,[])] [8,58] [5] [0,1,2,3,4,5] (.inl 36 QF Tryz.func128 [1,3,5,6,7,9,10,58] [] (λ_ (a:aI×(List iD))=>.aM []) (λu5350 a=>[.kp 2 [[str a.1.s,aA a.1.bad]],.kp 8 [[int x21.1.fT,int x21.1.iX,aG 1 fI x21.1.bC,aG 1 (fL 1 fI) x21.1.Methods,aG 1 (fL 1 fI) x21.1.iF,.sl 7 (u5350 7) 0 (Int.toNat x21.1.fT),aG 8 fP.av y36_2,aG 9 gV.av y37_2,.sl 59 (u5350 59) 0 a.2.length,int 0]],.kp 59 (a.2.map iD.av)]) ( .al 60<|
 .jn 1 [] [1,2,3,5,6,7,8,9,10,58,59] [] (λ_ (a:Unit)=>[]) (λ_ _=>[]) (.lp [1,2,3,8,9] [1,2,3,5,6,7,8,9,10,58,59,60] [] (λ_ (a:Unit)=>[]) (λ_ _=>[]) n () (λ_ =>
 .bB 10 (decide (0<((Int.toNat x510):Int))) λx518 =>
 .az [10] x518 (.esc (.ret ()))))
  (λ_ =>
 .ret (((⟨x511.1,x511.2⟩:aI):aI),(x513:List iD)))) (pw λy131_1 y131_2 =>
 .as (y131_2.length=(Int.toNat x510)) inferInstance<|
 .gv 41<|
 .bB 47 (decide ((y131_2.length:Int)=0)) λx520 =>
 .jJ 59<|
 .jn 0 [] [1,2,3,5,6,7,9,10] [] (λ_ (a:(List iD))=>[]) (λu5354 a=>[.kp 8 [[int x21.1.fT,int x21.1.iX,aG 1 fI x21.1.bC,aG 1 (fL 1 fI) x21.1.Methods,aG 1 (fL 1 fI) x21.1.iF,.sl 7 (u5354 7) 0 (Int.toNat x21.1.fT),aG 8 fP.av y36_2,aG 9 gV.av y37_2,aG 6 iD.av a,int 0]]]) (.ifs [47,48] x520 (.ret ([]:List iD)) (.ret (y131_2:List iD)))
  (λy134_1 =>
 .ret ((y131_1:aI),(y134_1:List iD)))))
noncomputable def KG (n:Nat) (a1:List UInt8) (x21:dB×Int) (x25:List aH) (x9:RS):WB ((aI×(List aH)×(List fP)×(List gV)×(List iD)×Int)) :=
 .dr [(1,[8]),(2,[8]),(3,[8]),(4,[8]),(10,[8]),(11,[8]),(12,[8])] [(13,[])] [8] [6,13] [0,1,2,3,4,5,8,9,10,11,12,6,7,13] (.ln 9 fI x21.1.bC<|
 .inl 10 vS Tryz.func77 [1,2,3,5,6,7,8] [9,10] (λu3157 (a:Unit)=>.fn (.func 116) [] [.pt 9 (u3157 9) 0 0,.pt 10 (u3157 10) 0 0]) (λ_ _=>[.nw 9 3 1 [[int (x21.1.bC.length:Int)]],.nw 10 3 1 [[int 1]]]) ( .al 9<|
 .al 10<|
 .ret ()) (λ_ =>
 .inl 17 wN Tryz.func78 [1,3,5,6,9,10] [] (λ_ (a:aI×(List aH))=>.aM []) (λu4720 a=>[.kp 2 [[str a.1.s,aA a.1.bad]],.kp 7 (a.2.map aH.av),.kp 8 [[int x21.1.fT,int x21.1.iX,aG 1 fI x21.1.bC,aG 1 (fL 1 fI) x21.1.Methods,aG 1 (fL 1 fI) x21.1.iF,.sl 7 (u4720 7) 0 a.2.length,.sc (.slice none 0 0),.sc (.slice none 0 0),.sc (.slice none 0 0),int 0]]]) (KD n a1 x21 x25 x9) (pw λy35_1 y35_2 =>
 .as (y35_2.length=(Int.toNat x21.1.fT)) inferInstance<|
 .inl 23 QO Tryz.func80 [1,3,5,6,7,9,10] [] (λ_ (a:aI×(List fP))=>.aM []) (λu5332 a=>[.kp 2 [[str a.1.s,aA a.1.bad]],.kp 8 [[int x21.1.fT,int x21.1.iX,aG 1 fI x21.1.bC,aG 1 (fL 1 fI) x21.1.Methods,aG 1 (fL 1 fI) x21.1.iF,.sl 7 (u5332 7) 0 (Int.toNat x21.1.fT),aG 8 fP.av a.2,.sc (.slice none 0 0),.sc (.slice none 0 0),int 0]]]) (EC n x21 y35_1) (pw λy36_1 y36_2 =>
 .inl 29 PY Tryz.func82 [1,3,5,6,7,9,10] [] (λ_ (a:aI×(List gV))=>.aM []) (λu5340 a=>[.kp 2 [[str a.1.s,aA a.1.bad]],.kp 8 [[int x21.1.fT,int x21.1.iX,aG 1 fI x21.1.bC,aG 1 (fL 1 fI) x21.1.Methods,aG 1 (fL 1 fI) x21.1.iF,.sl 7 (u5340 7) 0 (Int.toNat x21.1.fT),aG 8 fP.av y36_2,aG 9 gV.av a.2,.sc (.slice none 0 0),int 0]]]) (JR n x21 y36_1 y36_2) (pw λy37_1 y37_2 =>
 .inl 35 LX Tryz.func84 [1,3,5,6,7,9,10] [] (λ_ (a:aI×(List iD))=>.aM []) (λu5348 a=>[.kp 2 [[str a.1.s,aA a.1.bad]],.kp 8 [[int x21.1.fT,int x21.1.iX,aG 1 fI x21.1.bC,aG 1 (fL 1 fI) x21.1.Methods,aG 1 (fL 1 fI) x21.1.iF,.sl 7 (u5348 7) 0 (Int.toNat x21.1.fT),aG 8 fP.av y36_2,aG 9 gV.av y37_2,aG 6 iD.av a.2,int 0]]]) (K8 n x21 y36_2 y37_1 y37_2) (pw λy38_1 y38_2 =>
 .gv 40<|
 .inl 41 jG Tryz.func85 [1,3,5,6,7,9,10] [] (λ_ (a:aI×Int)=>.aM []) (λu5356 a=>[.kp 2 [[str a.1.s,aA a.1.bad]],.kp 8 [[int x21.1.fT,int x21.1.iX,aG 1 fI x21.1.bC,aG 1 (fL 1 fI) x21.1.Methods,aG 1 (fL 1 fI) x21.1.iF,.sl 7 (u5356 7) 0 (Int.toNat x21.1.fT),aG 8 fP.av y36_2,aG 9 gV.av y37_2,aG 6 iD.av y38_2,int a.2]]]) ( .jn 1 [] [1,3,5,6,7,9,10] [] (λ_ (a:aI×Int)=>[]) (λu5357 a=>[.kp 2 [[str a.1.s,aA a.1.bad]],.kp 8 [[int x21.1.fT,int x21.1.iX,aG 1 fI x21.1.bC,aG 1 (fL 1 fI) x21.1.Methods,aG 1 (fL 1 fI) x21.1.iF,.sl 7 (u5357 7) 0 (Int.toNat x21.1.fT),aG 8 fP.av y36_2,aG 9 gV.av y37_2,aG 6 iD.av y38_2,int a.2]]]) (.un 24 (.kB 9 true<|
 .gv 10<|
 .gv 16<|
 .as (((y38_1.s,y38_1.bad):RS).1.length<=9223372036854775806) inferInstance<|
 .bl (dG ((y38_1.s,y38_1.bad):RS):Int) λx524 =>
 .bl (dL ((y38_1.s,y38_1.bad):RS):RS) λx525 =>
 .ge 30 2<|
 .kI 32 1<|
 .kB 9 false<|
 .ret (((⟨x525.1,x525.2⟩:aI):aI),(x524:Int))))
  (pw λy136_1 y136_2 =>
 .ret ((y136_1:aI),(y136_2:Int)))) (pw λy39_1 y39_2 =>
 .ret ((y39_1:aI),(y35_2:List aH),(y36_2:List fP),(y37_2:List gV),(y38_2:List iD),(y39_2:Int)))))))))
noncomputable def JG (n:Nat) (a1:List UInt8):WB (bF×Int) :=
 .al 1<|
 .gv 12<|
 .bB 13 (decide ((a1.length:Int)>131072)) λx3 =>
 .ifs [13] x3 (.ret (((⟨(⟨0,0,[],[],[]⟩:dB),[],[],[],[],0⟩:bF):bF),(2:Int))) (.inl 16 IB Tryz.func28 [1] [2] (λu2 (a:Unit)=>.pt 2 (u2 2) 0 0) (λ_ _=>[.nw 2 125 2 [[str a1,aA false]]]) ( .al 2<|
 .ret ()) (λ_ =>
 .al 3<|
 .gv 24<|
 .as (((a1,false):RS).1.length<=1099511627776) inferInstance<|
 .as (((a1,false):RS).2=true->((a1,false):RS).1=[]) inferInstance<|
 .bl (pN ((a1,false):RS) (a1.length:Int):List Int) λx8 =>
 .bl (qD ((a1,false):RS) (a1.length:Int):RS) λx9 =>
 .ge 25 2<|
 .ln 26 fI x8<|
 .jn 0 [2,3,4] [1,2,3] [5] (λu12 (a:(List Int))=>[(5,.sl 5 (u12 5) 0 a.length)]) (λ_ a=>[.nw 5 5 1 (a.map (fK .u8))]) (.no 5 5 5 1<|
 .lp [2,3,4,25,26] [1,2,3] [5] (λu16 (a:Int×(List Int))=>[(5,.sl 5 (u16 5) 0 a.2.length),(27,int a.1)]) (λ_ a=>[.nw 5 5 1 (a.2.map (fK .u8))]) n ((0:Int),(([]:List Int):List Int)) (pw λy1_2 y1_3 =>
 .bB 28 (decide (y1_2<(x8.length:Int))) λx11 =>
 .ifs [28] x11 (.ix 29 fI x8 y1_2 λx12 =>
 .jn 0 [2,3,4,5,7,25,26,27] [1,2,3,5] [] (λ_ (a:Bool)=>[(36,aA a)]) (λ_ _=>[]) (.bB 32 (decide (x12<0)) λx13 =>
 .ifs [32] x13 (.ret (true:Bool)) (.bB 35 (decide (x12>255)) λx14 =>
 .ret (x14:Bool)))
  (λy2_1 =>
 .az [36] y2_1 (.bI 40 (wu8 x12) λx15 =>
 .to 41 (aG 1 (fK .u8) ([x15]:List Int))<|
 .bl (y1_3++([x15]:List Int):List Int) λx16 =>
 .as (x16.length<=68719476736) inferInstance<|
 .ge 42 0<|
 .bI 43 (bL (y1_2+1)) λx19 =>
 .brk ((x19:Int),(x16:List Int))))) (.esc (.ret (y1_3:List Int)))))
  (λy3_2 =>
 .as (∀ v∈y3_2,(0:Int)<=v/\v<=255) inferInstance<|
 .gv 46<|
 .cl 47 (sI n (y3_2.map λv=>UInt8.ofNat v.toNat)) MH (λ_=>T8) λx21 =>
 .al 6<|
 .bB 51 (decide (x21.2≠0)) λx23 =>
 .ifs [51] x23 (.ret (((⟨(⟨0,0,[],[],[]⟩:dB),[],[],[],[],0⟩:bF):bF),(3:Int))) (.dg [(0,[6]),(1,[6]),(2,[6]),(6,[8])] [(3,7),(5,8),(6,8)] (.as ((0:Int)<=x21.1.fT/\(x21.1.fT:Int)<=1048576) inferInstance<|
 .bl (List.replicate (Int.toNat x21.1.fT) ((⟨0,false,[],[],[],[],[],[]⟩:aH):aH):List aH) λx25 =>
 .ms 56 7 aH.av ((⟨0,false,[],[],[],[],[],[]⟩:aH):aH) x21.1.fT x25<|
 .al 8<|
 .inl 59 TZ Tryz.func44 [1,3,5,6] [] (λ_ (a:aI×(List aH)×(List fP)×(List gV)×(List iD)×Int)=>.aM []) (λu3156 a=>[.kp 2 [[str a.1.s,aA a.1.bad]],.kp 7 (a.2.1.map aH.av),.kp 8 [[int x21.1.fT,int x21.1.iX,aG 1 fI x21.1.bC,aG 1 (fL 1 fI) x21.1.Methods,aG 1 (fL 1 fI) x21.1.iF,.sl 7 (u3156 7) 0 a.2.1.length,aG 8 fP.av a.2.2.1,aG 9 gV.av a.2.2.2.1,aG 6 iD.av a.2.2.2.2.1,int a.2.2.2.2.2]]]) (KG n a1 x21 x25 x9) (pw λy40_1 q0=>(pw λy40_2 q1=>(pw λy40_3 q2=>(pw λy40_4 q3=>(pw λy40_5 y40_6 =>
 .as (y40_2.length=(Int.toNat x21.1.fT)) inferInstance<|
 .jn 0 [2,3,10] [1,7] [] (λ_ (a:Bool)=>[(77,aA a)]) (λu5358 _=>[.kp 8 [[int x21.1.fT,int x21.1.iX,aG 1 fI x21.1.bC,aG 1 (fL 1 fI) x21.1.Methods,aG 1 (fL 1 fI) x21.1.iF,.sl 7 (u5358 7) 0 (Int.toNat x21.1.fT),aG 8 fP.av y40_3,aG 9 gV.av y40_4,aG 6 iD.av y40_5,int y40_6]]]) (.gv 64<|
 .ifs [64] (((y40_1.s,y40_1.bad):RS).2) (.ret (true:Bool)) (.gv 70<|
 .bB 71 (decide ((((y40_1.s,y40_1.bad):RS).1.length:Int)>0)) λx527 =>
 .ifs [71] x527 (.ret (true:Bool)) (.mW 75 (FO n (⟨x21.1,y40_2,y40_3,y40_4,y40_5,y40_6⟩:bF)) UO QG (λ_=>rfl) λx528 =>
 .bB 76 (!x528) λx529 =>
 .ret (x529:Bool))))
  (λy137_1 =>
 .an [77] y137_1 (.ret (((⟨(⟨0,0,[],[],[]⟩:dB),[],[],[],[],0⟩:bF):bF),(3:Int))))) q3) q2) q1) q0))))))
def oD (n:Nat) (a1:List UInt8):Option (bF×Int):=(JG n a1).run
theorem NQ {n a1}:PZ (oD n a1) 22 [str a1] (λr=>.aM [.agg (bF.av r.1),int r.2]):=by
 refine wm Tryz.func22 ?_
 intro v2
 conv=>whnf
 refine .mk _ (aF (nX rfl Tryz.underlying9 rfl)) ?_
 conv=>whnf
 refine .mk λx3=>?_
 conv=>whnf
 refine .mk ?_ ?_
 conv=>whnf
 exact .mk (cO.aM (.cons (cO.agg (.cons (.refl _) (.cons (.refl _) (.cons (.nil _) (.cons (.nil _) (.cons (.nil _) (.cons (.nil _) (.cons (.nil _) (.cons (.nil _) (.cons (.nil _) (.cons (.refl _) .nil))))))))))) (.cons (.refl _) .nil)))
 conv=>whnf
 refine .mk ?_ ?_
 intro v4
 conv=>whnf
 exact .mk
 intro _ u2
 conv=>whnf
 refine .mk trivial ?_
 try dsimp only
 repeat (conv in (uV _ _ _ _)=>whnf)
 intro v5
 conv=>whnf
 refine .mk _ (aF (nX rfl Tryz.underlying9 rfl)) ?_
 conv=>whnf
 refine .mk λp6=>?_
 conv=>whnf
 refine .mk λp7=>?_
 conv=>whnf
 refine .mk λx8 e8=>?_
 conv=>whnf
 refine .mk λx9 e9=>?_
 conv=>whnf
 refine .mk _ ⟨λ_=>aQ rfl rfl (.cons rfl (.cons rfl .nil)) zN (PC.mono (zF (most:=(a1.length:Int)) (s:=((a1,false):RS)) (id:=2) (aD:=(u2 2)) rfl p6 p7 rfl rfl) (R':=λy H'=>y=ints x8/\H'=upd _ 2 (some (cK 125 (u2 2) x9))) (λy H' h=>⟨h.1.trans (congrArg ints e8),h.2.trans (dN e9)⟩)),λ_ _ _=>trivial⟩ ?_
 rintro _ _ ⟨rfl,rfl⟩
 try dsimp only
 conv=>whnf
 refine .mk ?_
 conv=>whnf
 refine .mk ?_ ?_
 intro v10
 conv=>whnf
 refine .mk ?_ ⟨⟨⟨_,rfl,aU⟩,⟨_,rfl,(.refl _)⟩,⟨_,rfl,(.refl _)⟩,⟨_,rfl,(.refl _)⟩,⟨_,rfl,(.refl _)⟩,⟨_,rfl,(.refl _)⟩,⟨_,rfl,(.refl _)⟩,trivial⟩,⟨⟨_,rfl,(.refl _)⟩,⟨_,rfl,(.refl _)⟩,⟨_,rfl,(.refl _)⟩,⟨_,rfl,(.refl _)⟩,trivial⟩⟩
 rintro ⟨y1_2,y1_3⟩ _
 conv=>whnf
 try dsimp only
 repeat (conv in (uV _ _ _ _)=>whnf)
 refine .mk λx11=>?_
 conv=>whnf
 refine .mk ?_ ?_
 conv=>whnf
 refine .mk λx12 e12=>?_
 conv=>whnf
 refine .mk ?_ ?_
 conv=>whnf
 refine .mk λx13=>?_
 conv=>whnf
 refine .mk ?_ ?_
 conv=>whnf
 exact .mk
 conv=>whnf
 refine .mk λx14=>?_
 conv=>whnf
 exact .mk
 intro _ _
 conv=>whnf
 try dsimp only
 repeat (conv in (uV _ _ _ _)=>whnf)
 refine .mk ?_
 conv=>whnf
 refine .mk λx15=>?_
 conv=>whnf
 refine .mk (aF (aN (y:=aG 1 (fK .u8) ([x15]:List Int)) (dY (ps:=[(0,_)]) (rows:=[[.sc (.int .u8 x15)]]) rfl Tryz.underlying37 lT (.cons rfl .nil) (by kernel_rfl) rfl rfl rfl) rfl)) ?_
 conv=>whnf
 refine .mk λx16 e16=>?_
 conv=>whnf
 refine .mk λp17=>?_
 conv=>whnf
 refine .mk _ ⟨λ_=>iP (g:=(fK .u8)) (l:=y1_3) (m:=([x15]:List Int)) .any rfl Tryz.underlying37 lT pM rfl rfl rfl rfl rfl rfl rfl rfl rfl rfl (Eq.symm rfl) (.refl _) (λ_=>rfl) e16 p17,λ_ _ _=>trivial⟩ ?_
 rintro _ _ ⟨v18,-,rfl,rfl⟩
 try dsimp only
 conv=>whnf
 refine .mk λx19=>?_
 conv=>whnf
 exact .mk ⟨⟨⟨_,rfl,aU⟩,⟨_,rfl,(.refl _)⟩,⟨_,rfl,(.refl _)⟩,⟨_,rfl,(.refl _)⟩,⟨_,rfl,(.refl _)⟩,⟨_,rfl,(.refl _)⟩,⟨_,rfl,(.refl _)⟩,trivial⟩,⟨⟨_,rfl,(.refl _)⟩,⟨_,rfl,(.refl _)⟩,⟨_,rfl,(.refl _)⟩,⟨_,rfl,(.refl _)⟩,trivial⟩⟩
 conv=>whnf
 exact .mk ⟨⟨⟨_,rfl,aU⟩,⟨_,rfl,(.refl _)⟩,⟨_,rfl,(.refl _)⟩,⟨_,rfl,(.refl _)⟩,trivial⟩,⟨⟨_,rfl,(.refl _)⟩,⟨_,rfl,(.refl _)⟩,⟨_,rfl,(.refl _)⟩,⟨_,rfl,(.refl _)⟩,trivial⟩⟩
 intro y3_2 _
 conv=>whnf
 try dsimp only
 repeat (conv in (uV _ _ _ _)=>whnf)
 refine .mk λp20=>?_
 conv=>whnf
 refine .mk _ (aF (CY (l:=(y3_2.map λv=>UInt8.ofNat v.toNat)) rfl Tryz.underlying37 Tryz.underlying5 Tryz.underlying9 rfl rfl rfl rfl (T6 p20) (List.length_map _).symm)) ?_
 conv=>whnf
 refine .mk λx21 e21=>?_
 intro v22
 conv=>whnf
 refine .mk λx23=>?_
 conv=>whnf
 refine .mk ?_ ?_
 conv=>whnf
 exact .mk (cO.aM (.cons (cO.agg (.cons (.refl _) (.cons (.refl _) (.cons (.nil _) (.cons (.nil _) (.cons (.nil _) (.cons (.nil _) (.cons (.nil _) (.cons (.nil _) (.cons (.nil _) (.cons (.refl _) .nil))))))))))) (.cons (.refl _) .nil)))
 conv=>whnf
 refine .mk ?_
 intro C1
 conv=>whnf
 refine .mk λp24=>?_
 conv=>whnf
 refine .mk λx25 e25=>?_
 have lx25:x25.length=(Int.toNat x21.1.fT):=by rw [<- e25];exact List.length_replicate
 conv=>whnf
 refine .mk ?_
 conv=>whnf
 refine .mk (by repeat (first | exact ZL.nil | refine ZL.cons ?_ ?_ | exact .sc _ | exact .nil _)) ⟨by assumption,by assumption⟩ ?_
 conv=>whnf
 refine .mk ?_ ?_
 conv=>whnf
 refine .mk ?_
 conv=>whnf
 refine .mk ?_
 conv=>whnf
 refine .mk ?_ ?_
 intro v28
 intro v29
 conv=>whnf
 exact .mk
 intro _ _
 conv=>whnf
 try dsimp only
 repeat (conv in (uV _ _ _ _)=>whnf)
 refine .mk ⟨rfl,trivial⟩ ?_
 conv=>whnf
 refine .mk ?_ ?_
 intro v30
 conv=>whnf
 refine .mk ?_ ?_
 conv=>whnf
 refine .mk ?_ ⟨⟨⟨_,rfl,aU⟩,⟨_,rfl,(.refl _)⟩,⟨_,rfl,(.refl _)⟩,⟨_,rfl,(.refl _)⟩,⟨_,rfl,(.refl _)⟩,trivial⟩,⟨⟨_,rfl,(.refl _)⟩,⟨_,rfl,(.refl _)⟩,⟨_,rfl,⟨rfl,(.cons (.cons (.refl _) (.cons (.refl _) (.cons (.refl _) (.cons (.refl _) (.cons (.refl _) (.cons aU (.cons (.refl _) (.cons (.refl _) (.cons (.refl _) (.cons (.refl _) .nil)))))))))) .nil)⟩⟩,⟨_,rfl,(.refl _)⟩,⟨_,rfl,(.refl _)⟩,⟨_,rfl,(.refl _)⟩,⟨_,rfl,(.refl _)⟩,⟨_,rfl,(.refl _)⟩,⟨_,rfl,(.refl _)⟩,⟨_,rfl,(.refl _)⟩,trivial⟩⟩
 rintro ⟨y5_1,y5_2,y5_3⟩ _
 conv=>whnf
 try dsimp only
 repeat (conv in (uV _ _ _ _)=>whnf)
 refine .mk λx31=>?_
 conv=>whnf
 refine .mk ?_ ?_
 conv=>whnf
 refine .mk ?_
 conv=>whnf
 refine .mk λx32 e32=>?_
 conv=>whnf
 refine .mk _ (λH hH _=>iY rfl Tryz.underlying55 sQ rfl rfl ((hH _ (by decide)).trans rfl) rfl rfl (Eq.symm rfl) (List.length_map _) e32) ?_
 conv=>whnf
 refine .mk ?_ ?_
 conv=>whnf
 refine .mk _ (aF (oM rfl Tryz.underlying75 rfl (.pt rfl rfl rfl) rfl)) ?_
 conv=>whnf
 refine .mk ?_
 intro C182
 conv=>whnf
 refine .mk λx33=>?_
 conv=>whnf
 refine .mk λp34=>?_
 conv=>whnf
 refine .mk λx35 e35=>?_
 have lx35:x35.length=(Int.toNat x33):=by rw [<- e35];exact List.length_replicate
 conv=>whnf
 refine .mk ?_
 conv=>whnf
 refine .mk (by repeat (first | exact ZL.nil | refine ZL.cons ?_ ?_ | exact .sc _ | exact .nil _)) ⟨by assumption,by assumption⟩ ?_
 conv=>whnf
 refine .mk λp37=>?_
 conv=>whnf
 refine .mk λx38 e38=>?_
 have lx38:x38.length=(Int.toNat 17):=by rw [<- e38];exact List.length_replicate
 conv=>whnf
 refine .mk ?_
 conv=>whnf
 refine .mk (by repeat (first | exact ZL.nil | refine ZL.cons ?_ ?_ | exact .sc _ | exact .nil _)) ⟨by assumption,by assumption⟩ ?_
 conv=>whnf
 refine .mk λp40=>?_
 conv=>whnf
 refine .mk λx41 e41=>?_
 have lx41:x41.length=(Int.toNat (x21.1.bC.length:Int)):=by rw [<- e41];exact List.length_replicate
 conv=>whnf
 refine .mk ?_
 conv=>whnf
 refine .mk (by repeat (first | exact ZL.nil | refine ZL.cons ?_ ?_ | exact .sc _ | exact .nil _)) ⟨by assumption,by assumption⟩ ?_
 conv=>whnf
 refine .mk _ (λH hH _=>bK rfl rfl (.pt ((hH _ (by decide)).trans rfl) rfl (kG e32 (aH.gI _)))) ?_
 conv=>whnf
 refine .mk (⟨110,8,true,true,_,(y5_3.map aH.av).set (Int.toNat y5_1) [int 0,aA false,.sl 12 (C182+3) 0 (Int.toNat x33),.sl 13 (C182+4) 0 (Int.toNat 17),.sl 14 (C182+6) 0 (Int.toNat (x21.1.bC.length:Int)),.sc (.slice none 0 0),.sc (.slice none 0 0),.sc (.slice none 0 0)]⟩:aW) (λ_ H hH=>(fH (ob':=(⟨110,8,true,true,_,(y5_3.map aH.av).set (Int.toNat y5_1) [int 0,aA false,.sl 12 (C182+3) 0 (Int.toNat x33),.sl 13 (C182+4) 0 (Int.toNat 17),.sl 14 (C182+6) 0 (Int.toNat (x21.1.bC.length:Int)),.sc (.slice none 0 0),.sc (.slice none 0 0),.sc (.slice none 0 0)]⟩:aW)) (dZ rfl sQ rfl rfl ((hH _ (.head _)).trans rfl) rfl rfl (kG e32 (aH.gI _)) rfl rfl rfl) (fQ rfl)).d9 (λ_ h=>h.elim) λ_ h=>h.elim) ?_
 conv=>whnf
 refine .mk _ (aF (bK rfl rfl (.pt rfl rfl (bY e32)))) ?_
 conv=>whnf
 refine .mk _ (aF (dX rfl TJ rfl (.pt rfl rfl (bY e32)) (.pt _ _ _ _ _))) ?_
 conv=>whnf
 refine .mk _ (aF (dY (ps:=[(0,_)]) (rows:=[[.pt 7 (C1+3) (Int.toNat y5_1) 0]]) rfl Tryz.underlying225 iH (.cons rfl .nil) (by kernel_rfl) rfl rfl rfl)) ?_
 conv=>whnf
 refine .mk ?_ ?_
 conv=>whnf
 refine .mk ?_ ?_
 conv=>whnf
 refine .mk ?_
 conv=>whnf
 refine .mk _ (aF (dA (j:=0) rfl Tryz.underlying225 dM rfl rfl rfl (.list rfl))) ?_
 conv=>whnf
 refine .mk _ (aF (gM rfl Tryz.underlying75 rfl (.pt rfl rfl rfl) rfl)) ?_
 conv=>whnf
 refine .mk λp45=>?_
 conv=>whnf
 refine .mk λx46 e46=>?_
 conv=>whnf
 refine .mk λx47 e47=>?_
 conv=>whnf
 refine .mk _ ⟨λ_=>aQ rfl rfl (.cons rfl .nil) eD (PC.mono (eB (s:=((y5_2.s,y5_2.bad):RS)) (id:=2) (aD:=(u2 2)) rfl p45) (R':=λy H'=>y=int x46/\H'=upd _ 2 (some (cK 125 (u2 2) x47))) (λy H' h=>⟨h.1.trans (congrArg int e46),h.2.trans (dN e47)⟩)),λ_ _ _=>trivial⟩ ?_
 rintro _ _ ⟨rfl,rfl⟩
 try dsimp only
 conv=>whnf
 refine .mk _ (aF (bK rfl rfl (.pt rfl rfl (bY e32)))) ?_
 conv=>whnf
 refine .mk _ ⟨λ_=>bW.d9 (fH (ob':=(⟨110,8,true,true,_,(y5_3.map aH.av).set (Int.toNat y5_1) [int x46,aA false,.sl 12 (C182+3) 0 (Int.toNat x33),.sl 13 (C182+4) 0 (Int.toNat 17),.sl 14 (C182+6) 0 (Int.toNat (x21.1.bC.length:Int)),.sc (.slice none 0 0),.sc (.slice none 0 0),.sc (.slice none 0 0)]⟩:aW)) (dZ rfl bX rfl rfl rfl rfl rfl (bY e32) rfl rfl rfl) (fQ kZ)) (λ_ h=>h) (λ_ _=>trivial),λ_ _ _=>trivial⟩ ?_
 rintro _ _ ⟨rfl,rfl⟩
 try dsimp only
 conv=>whnf
 refine .mk ?_
 conv=>whnf
 refine .mk ?_
 conv=>whnf
 exact .mk ⟨trivial,⟨⟨_,rfl,(.refl _)⟩,⟨_,rfl,(by first | exact (.refl _) | exact ⟨rfl,fV (.cons (.refl _) (.cons (.refl _) (.cons aU (.cons aU (.cons aU (.cons (.refl _) (.cons (.refl _) (.cons (.refl _) .nil))))))))⟩)⟩,⟨_,rfl,(.refl _)⟩,⟨_,rfl,(.refl _)⟩,⟨_,rfl,(.refl _)⟩,⟨_,rfl,(.refl _)⟩,⟨_,rfl,(.refl _)⟩,⟨_,rfl,(.refl _)⟩,⟨_,rfl,(.refl _)⟩,⟨_,rfl,(.refl _)⟩,⟨_,rfl,(.refl _)⟩,⟨_,rfl,(.refl _)⟩,⟨_,rfl,(.refl _)⟩,trivial⟩⟩
 intro _ _
 conv=>whnf
 try dsimp only
 repeat (conv in (uV _ _ _ _)=>whnf)
 exact .mk
 rintro ⟨y6_1,y6_2⟩ _
 conv=>whnf
 refine .mk trivial ?_
 try dsimp only
 repeat (conv in (uV _ _ _ _)=>whnf)
 conv=>whnf
 refine .mk _ (aF (bK rfl rfl (.pt rfl rfl (bY e32)))) ?_
 conv=>whnf
 refine .mk _ (aF (dX rfl E5 rfl (.pt rfl rfl (bY e32)) (.pt _ _ _ _ _))) ?_
 conv=>whnf
 refine .mk ?_ ?_
 conv=>whnf
 refine .mk _ (aF (bK rfl rfl (.pt rfl rfl (bY e32)))) ?_
 conv=>whnf
 refine .mk _ (aF (fG rfl uH rfl (.pt rfl rfl (bY e32)) rfl)) ?_
 conv=>whnf
 refine .mk _ (aF (gM rfl Tryz.underlying75 rfl (.pt rfl rfl rfl) rfl)) ?_
 conv=>whnf
 refine .mk λp50=>?_
 conv=>whnf
 refine .mk λx51 e51=>?_
 conv=>whnf
 refine .mk λx52 e52=>?_
 conv=>whnf
 refine .mk _ ⟨λ_=>aQ rfl rfl (.cons rfl (.cons rfl .nil)) l7 (PC.mono (mE (most:=1) (s:=((y6_1.s,y6_1.bad):RS)) (id:=2) (aD:=(u2 2)) rfl p50) (R':=λy H'=>y=int x51/\H'=upd _ 2 (some (cK 125 (u2 2) x52))) (λy H' h=>⟨h.1.trans (congrArg int e51),h.2.trans (dN e52)⟩)),λ_ _ _=>trivial⟩ ?_
 rintro _ _ ⟨rfl,rfl⟩
 try dsimp only
 conv=>whnf
 refine .mk λx53=>?_
 conv=>whnf
 refine .mk _ (aF (bK rfl rfl (.pt rfl rfl (bY e32)))) ?_
 conv=>whnf
 refine .mk _ ⟨λ_=>bW.d9 (fH (ob':=(⟨110,8,true,true,_,(y5_3.map aH.av).set (Int.toNat y5_1) [int y6_2,aA x53,.sl 12 (C182+3) 0 (Int.toNat x33),.sl 13 (C182+4) 0 (Int.toNat 17),.sl 14 (C182+6) 0 (Int.toNat (x21.1.bC.length:Int)),.sc (.slice none 0 0),.sc (.slice none 0 0),.sc (.slice none 0 0)]⟩:aW)) (dZ rfl uH rfl rfl rfl rfl rfl (bY e32) rfl rfl rfl) (fQ kZ)) (λ_ h=>h) (λ_ _=>trivial),λ_ _ _=>trivial⟩ ?_
 rintro _ _ ⟨rfl,rfl⟩
 try dsimp only
 conv=>whnf
 exact .mk rfl ⟨(by first | rfl | exact lx35 ▸ rfl | exact lx38 ▸ rfl | exact lx41 ▸ rfl),rfl,rfl,rfl,rfl,rfl,rfl,rfl,rfl,rfl,rfl,rfl,rfl,trivial⟩
 rintro ⟨y7_1,y7_2⟩ _
 conv=>whnf
 refine .mk trivial ?_
 try dsimp only
 repeat (conv in (uV _ _ _ _)=>whnf)
 conv=>whnf
 refine .mk _ (aF (bK rfl rfl (.pt rfl rfl (bY e32)))) ?_
 conv=>whnf
 refine .mk _ (aF (dX rfl xM rfl (.pt rfl rfl (bY e32)) (.pt _ _ _ _ _))) ?_
 conv=>whnf
 refine .mk _ (aF (fG rfl xR rfl (.pt rfl rfl (bY e32)) rfl)) ?_
 conv=>whnf
 refine .mk ?_ ?_
 intro v56
 conv=>whnf
 refine .mk ?_ ?_
 conv=>whnf
 refine .mk ?_ ⟨⟨⟨_,rfl,aU⟩,⟨_,rfl,(.refl _)⟩,⟨_,rfl,(.refl _)⟩,⟨_,rfl,(.refl _)⟩,⟨_,rfl,(.refl _)⟩,trivial⟩,⟨⟨_,rfl,(.refl _)⟩,⟨_,rfl,(by first | exact (.refl _) | exact ⟨rfl,fV (.cons (.refl _) (.cons (.refl _) (.cons aU (.cons aU (.cons aU (.cons (.refl _) (.cons (.refl _) (.cons (.refl _) .nil))))))))⟩)⟩,⟨_,rfl,(.refl _)⟩,⟨_,rfl,(.refl _)⟩,⟨_,rfl,(.refl _)⟩,⟨_,rfl,(.refl _)⟩,⟨_,rfl,(.refl _)⟩,⟨_,rfl,(.refl _)⟩,⟨_,rfl,(.refl _)⟩,⟨_,rfl,(.refl _)⟩,⟨_,rfl,(.refl _)⟩,⟨_,rfl,(.refl _)⟩,⟨_,rfl,(.refl _)⟩,⟨_,rfl,(.refl _)⟩,trivial⟩⟩
 rintro ⟨y43_1,y43_2,y43_3⟩ _
 conv=>whnf
 try dsimp only
 repeat (conv in (uV _ _ _ _)=>whnf)
 refine .mk λx57=>?_
 conv=>whnf
 refine .mk ?_ ?_
 conv=>whnf
 refine .mk ?_
 conv=>whnf
 refine .mk λx58 e58=>?_
 conv=>whnf
 refine .mk _ (λH hH _=>iY rfl Tryz.underlying107 yM rfl rfl ((hH _ (by decide)).trans rfl) rfl rfl (Eq.symm rfl) (List.length_map _) e58) ?_
 conv=>whnf
 refine .mk ?_ ?_
 conv=>whnf
 refine .mk _ (aF (bK rfl rfl (.pt rfl rfl (bZ e58)))) ?_
 conv=>whnf
 refine .mk _ (aF (dX rfl NU rfl (.pt rfl rfl (bZ e58)) (.pt _ _ _ _ _))) ?_
 conv=>whnf
 refine .mk ?_ ?_
 intro v67
 conv=>whnf
 refine .mk _ (aF (gM rfl Tryz.underlying75 rfl (.pt rfl rfl rfl) rfl)) ?_
 conv=>whnf
 refine .mk λp68=>?_
 conv=>whnf
 refine .mk λx69 e69=>?_
 conv=>whnf
 refine .mk λx70 e70=>?_
 conv=>whnf
 refine .mk _ ⟨λ_=>aQ rfl rfl (.cons rfl (.cons rfl .nil)) l7 (PC.mono (mE (most:=30) (s:=((y43_2.s,y43_2.bad):RS)) (id:=2) (aD:=(u2 2)) rfl p68) (R':=λy H'=>y=int x69/\H'=upd _ 2 (some (cK 125 (u2 2) x70))) (λy H' h=>⟨h.1.trans (congrArg int e69),h.2.trans (dN e70)⟩)),λ_ _ _=>trivial⟩ ?_
 rintro _ _ ⟨rfl,rfl⟩
 try dsimp only
 conv=>whnf
 refine .mk λp71=>?_
 conv=>whnf
 refine .mk λx72 e72=>?_
 have lx72:x72.length=(Int.toNat x69):=by rw [<- e72];exact List.length_replicate
 conv=>whnf
 refine .mk _ ⟨λ_=>oW 30 (g:=bQ.av) (z0:=((⟨0,0,0⟩:bQ):bQ)) .any rfl Tryz.underlying187 xV DW rfl rfl rfl p71 (.cons (.sc _) (.cons (.sc _) (.cons (.sc _) .nil))) e72,λ_ _ _=>trivial⟩ ?_
 rintro _ _ ⟨v73,-,rfl,rfl⟩
 try dsimp only
 conv=>whnf
 refine .mk _ (aF (bK rfl rfl (.pt rfl rfl (bZ e58)))) ?_
 conv=>whnf
 refine .mk _ ⟨λ_=>bW.d9 (fH (ob':=(⟨190,4,true,true,_,(y43_3.map aT.av).set (Int.toNat y43_1) [.sl 30 v73 0 (Int.toNat x69),int x58.dU.a0,int x58.dU.a1,int x58.dU.a2]⟩:aW)) (dZ rfl sW rfl rfl rfl rfl rfl (bZ e58) rfl rfl rfl) (fQ rfl)) (λ_ h=>h) (λ_ _=>trivial),λ_ _ _=>trivial⟩ ?_
 rintro _ _ ⟨rfl,rfl⟩
 try dsimp only
 conv=>whnf
 refine .mk ?_
 conv=>whnf
 refine .mk _ (λH hH _=>bK rfl rfl (.pt ((hH _ (by decide)).trans rfl) rfl (bY e58))) ?_
 conv=>whnf
 refine .mk _ (λH hH _=>fG rfl sW rfl (.pt ((hH _ (by decide)).trans rfl) rfl (bY e58)) rfl) ?_
 conv=>whnf
 refine .mk ?_ ?_
 intro v76
 conv=>whnf
 refine .mk ?_ ?_
 conv=>whnf
 refine .mk ?_
 intro _ _
 conv=>whnf
 try dsimp only
 repeat (conv in (uV _ _ _ _)=>whnf)
 refine .mk λx77=>?_
 conv=>whnf
 refine .mk ?_
 conv=>whnf
 exact .mk
 intro _ _
 conv=>whnf
 try dsimp only
 repeat (conv in (uV _ _ _ _)=>whnf)
 exact .mk rfl ⟨(by first | rfl | exact lx38 ▸ rfl | exact lx41 ▸ rfl | exact lx72 ▸ rfl),(by first | rfl | exact lx72 ▸ rfl | exact lx72 ▸ rfl),rfl,rfl,rfl,rfl,rfl,rfl,rfl,rfl,rfl,rfl,rfl,rfl,rfl,rfl,trivial⟩
 rintro ⟨y47_1,y47_2⟩ _
 conv=>whnf
 refine .mk trivial ?_
 try dsimp only
 repeat (conv in (uV _ _ _ _)=>whnf)
 conv=>whnf
 refine .mk λp78=>?_
 conv=>whnf
 refine .mk _ (aF (oM rfl Tryz.underlying75 rfl (.pt rfl rfl rfl) rfl)) ?_
 conv=>whnf
 refine .mk _ (aF (bK rfl rfl (.pt rfl rfl (bY e58)))) ?_
 conv=>whnf
 refine .mk _ (aF (fG rfl sW rfl (.pt rfl rfl (bY e58)) rfl)) ?_
 conv=>whnf
 refine .mk λx79=>?_
 conv=>whnf
 refine .mk ?_ ?_
 conv=>whnf
 refine .mk ?_ ?_
 conv=>whnf
 refine .mk _ (aF (bK rfl rfl (.pt rfl rfl (bY e58)))) ?_
 conv=>whnf
 refine .mk _ ⟨λ_=>bW.d9 (fH (ob':=(⟨190,4,true,true,_,(y43_3.map aT.av).set (Int.toNat y43_1) [.sc (.slice none 0 0),int x58.dU.a0,int x58.dU.a1,int x58.dU.a2]⟩:aW)) (dZ rfl sW rfl rfl rfl rfl rfl (bY e58) rfl rfl rfl) (fQ kZ)) (λ_ h=>h) (λ_ _=>trivial),λ_ _ _=>trivial⟩ ?_
 rintro _ _ ⟨rfl,rfl⟩
 try dsimp only
 conv=>whnf
 exact .mk ⟨trivial,⟨⟨_,rfl,(by first | exact (.refl _) | exact ⟨rfl,fV (.cons (.nil _) (.cons (.refl _) (.cons (.refl _) (.cons (.refl _) .nil))))⟩)⟩,⟨_,rfl,(.refl _)⟩,⟨_,rfl,(.refl _)⟩,⟨_,rfl,(.refl _)⟩,⟨_,rfl,(.refl _)⟩,⟨_,rfl,(.refl _)⟩,⟨_,rfl,(.refl _)⟩,⟨_,rfl,(.refl _)⟩,⟨_,rfl,(.refl _)⟩,⟨_,rfl,(.refl _)⟩,⟨_,rfl,(.refl _)⟩,⟨_,rfl,(.refl _)⟩,⟨_,rfl,(.refl _)⟩,⟨_,rfl,(.refl _)⟩,trivial⟩⟩
 conv=>whnf
 exact .mk ⟨trivial,⟨⟨_,rfl,(by first | exact (.refl _) | exact ⟨rfl,fV (.cons (gB (ob:=(⟨170,3,false,true,v73,y47_2.map bQ.av⟩:aW)) rfl rfl rfl rfl rfl rfl) (.cons (.refl _) (.cons (.refl _) (.cons (.refl _) .nil))))⟩)⟩,⟨_,rfl,(.refl _)⟩,⟨_,rfl,(.refl _)⟩,⟨_,rfl,(.refl _)⟩,⟨_,rfl,(.refl _)⟩,⟨_,rfl,(.refl _)⟩,⟨_,rfl,(.refl _)⟩,⟨_,rfl,(.refl _)⟩,⟨_,rfl,(.refl _)⟩,⟨_,rfl,(.refl _)⟩,⟨_,rfl,(.refl _)⟩,⟨_,rfl,(.refl _)⟩,⟨_,rfl,(.refl _)⟩,⟨_,rfl,(.refl _)⟩,trivial⟩⟩
 intro _ _
 conv=>whnf
 try dsimp only
 repeat (conv in (uV _ _ _ _)=>whnf)
 exact .mk
 rintro ⟨y46_1,y46_2⟩ _
 conv=>whnf
 refine .mk trivial ?_
 try dsimp only
 repeat (conv in (uV _ _ _ _)=>whnf)
 conv=>whnf
 refine .mk ?_
 conv=>whnf
 refine .mk _ (λH hH _=>bK rfl rfl (.pt ((hH _ (by decide)).trans rfl) rfl (bY e58))) ?_
 conv=>whnf
 refine .mk _ (λH hH _=>dX rfl wM rfl (.pt ((hH _ (by decide)).trans rfl) rfl (bY e58)) (.pt _ _ _ _ _)) ?_
 conv=>whnf
 refine .mk _ (λH hH _=>aN (y:=.pt 12 (C182+3) (Int.toNat y43_1) 1) (tZ rfl Tryz.underlying188 bX rfl rfl ((hH _ (by decide)).trans rfl) rfl (bY e58) (by decide)) rfl) ?_
 conv=>whnf
 refine .mk _ (λH hH _=>bK rfl rfl (.pt ((hH _ (by decide)).trans rfl) rfl (bY e58))) ?_
 conv=>whnf
 refine .mk _ (λH hH _=>dX rfl wM rfl (.pt ((hH _ (by decide)).trans rfl) rfl (bY e58)) (.pt _ _ _ _ _)) ?_
 conv=>whnf
 refine .mk _ (λH hH _=>aN (y:=.pt 12 (C182+3) (Int.toNat y43_1) 2) (tZ rfl Tryz.underlying188 bX rfl rfl ((hH _ (by decide)).trans rfl) rfl (bY e58) (by decide)) rfl) ?_
 conv=>whnf
 refine .mk _ (λH hH _=>bK rfl rfl (.pt ((hH _ (by decide)).trans rfl) rfl (bY e58))) ?_
 conv=>whnf
 refine .mk _ (λH hH _=>dX rfl wM rfl (.pt ((hH _ (by decide)).trans rfl) rfl (bY e58)) (.pt _ _ _ _ _)) ?_
 conv=>whnf
 refine .mk _ (λH hH _=>aN (y:=.pt 12 (C182+3) (Int.toNat y43_1) 3) (tZ rfl Tryz.underlying188 bX rfl rfl ((hH _ (by decide)).trans rfl) rfl (bY e58) (by decide)) rfl) ?_
 conv=>whnf
 refine .mk _ (λH hH _=>dY (ps:=[(0,_),(1,_),(2,_)]) (rows:=[[.pt 12 (C182+3) (Int.toNat y43_1) 1],[.pt 12 (C182+3) (Int.toNat y43_1) 2],[.pt 12 (C182+3) (Int.toNat y43_1) 3]]) rfl Tryz.underlying225 iH (.cons rfl (.cons rfl (.cons rfl .nil))) (by kernel_rfl) rfl rfl rfl) ?_
 conv=>whnf
 refine .mk ?_ ?_
 conv=>whnf
 refine .mk ?_ ?_
 conv=>whnf
 refine .mk ?_
 conv=>whnf
 refine .mk _ (aF (dA (j:=0) rfl Tryz.underlying225 dM rfl rfl rfl (.list rfl))) ?_
 conv=>whnf
 refine .mk _ (aF (gM rfl Tryz.underlying75 rfl (.pt rfl rfl rfl) rfl)) ?_
 conv=>whnf
 refine .mk λp83=>?_
 conv=>whnf
 refine .mk λx84 e84=>?_
 conv=>whnf
 refine .mk λx85 e85=>?_
 conv=>whnf
 refine .mk _ ⟨λ_=>aQ rfl rfl (.cons rfl .nil) eD (PC.mono (eB (s:=((y46_1.s,y46_1.bad):RS)) (id:=2) (aD:=(u2 2)) rfl p83) (R':=λy H'=>y=int x84/\H'=upd _ 2 (some (cK 125 (u2 2) x85))) (λy H' h=>⟨h.1.trans (congrArg int e84),h.2.trans (dN e85)⟩)),λ_ _ _=>trivial⟩ ?_
 rintro _ _ ⟨rfl,rfl⟩
 try dsimp only
 conv=>whnf
 refine .mk _ (aF (bK rfl rfl (.pt rfl rfl (bY e58)))) ?_
 conv=>whnf
 refine .mk λx86 e86=>?_
 have fx86:=gT e58 e86;have lx86:=gQ e86 (rfl:y43_3.length=y43_3.length)
 conv=>whnf
 refine .mk _ ⟨λ_=>bW.d9 (fH (ob':=(⟨190,4,true,true,_,x86.map aT.av⟩:aW)) (dZ rfl bX rfl rfl rfl rfl rfl (bY e58) rfl rfl rfl) (fQ (kZ.trans (iE e86)))) (λ_ h=>h) (λ_ _=>trivial),λ_ _ _=>trivial⟩ ?_
 rintro _ _ ⟨rfl,rfl⟩
 try dsimp only
 conv=>whnf
 refine .mk ?_
 conv=>whnf
 refine .mk ?_
 conv=>whnf
 refine .mk _ (aF (dA (j:=1) rfl Tryz.underlying225 dM rfl rfl rfl (.list rfl))) ?_
 conv=>whnf
 refine .mk _ (aF (gM rfl Tryz.underlying75 rfl (.pt rfl rfl rfl) rfl)) ?_
 conv=>whnf
 refine .mk λp87=>?_
 conv=>whnf
 refine .mk λx88 e88=>?_
 conv=>whnf
 refine .mk λx89 e89=>?_
 conv=>whnf
 refine .mk _ ⟨λ_=>aQ rfl rfl (.cons rfl .nil) eD (PC.mono (eB (s:=x85) (id:=2) (aD:=(u2 2)) rfl p87) (R':=λy H'=>y=int x88/\H'=upd _ 2 (some (cK 125 (u2 2) x89))) (λy H' h=>⟨h.1.trans (congrArg int e88),h.2.trans (dN e89)⟩)),λ_ _ _=>trivial⟩ ?_
 rintro _ _ ⟨rfl,rfl⟩
 try dsimp only
 conv=>whnf
 refine .mk _ (aF (bK rfl rfl (.pt rfl rfl (bZ fx86)))) ?_
 conv=>whnf
 refine .mk λx90 e90=>?_
 have fx90:=gT fx86 e90;have lx90:=gQ e90 lx86
 conv=>whnf
 refine .mk _ ⟨λ_=>bW.d9 (fH (ob':=(⟨190,4,true,true,_,x90.map aT.av⟩:aW)) (dZ rfl bX rfl rfl rfl rfl rfl (bZ fx86) rfl rfl rfl) (fQ (iE e90))) (λ_ h=>h) (λ_ _=>trivial),λ_ _ _=>trivial⟩ ?_
 rintro _ _ ⟨rfl,rfl⟩
 try dsimp only
 conv=>whnf
 refine .mk ?_
 conv=>whnf
 refine .mk ?_
 conv=>whnf
 refine .mk _ (aF (dA (j:=2) rfl Tryz.underlying225 dM rfl rfl rfl (.list rfl))) ?_
 conv=>whnf
 refine .mk _ (aF (gM rfl Tryz.underlying75 rfl (.pt rfl rfl rfl) rfl)) ?_
 conv=>whnf
 refine .mk λp91=>?_
 conv=>whnf
 refine .mk λx92 e92=>?_
 conv=>whnf
 refine .mk λx93 e93=>?_
 conv=>whnf
 refine .mk _ ⟨λ_=>aQ rfl rfl (.cons rfl .nil) eD (PC.mono (eB (s:=x89) (id:=2) (aD:=(u2 2)) rfl p91) (R':=λy H'=>y=int x92/\H'=upd _ 2 (some (cK 125 (u2 2) x93))) (λy H' h=>⟨h.1.trans (congrArg int e92),h.2.trans (dN e93)⟩)),λ_ _ _=>trivial⟩ ?_
 rintro _ _ ⟨rfl,rfl⟩
 try dsimp only
 conv=>whnf
 refine .mk _ (aF (bK rfl rfl (.pt rfl rfl (bZ fx90)))) ?_
 conv=>whnf
 refine .mk λx94 e94=>?_
 have fx94:=gT fx90 e94;have lx94:=gQ e94 lx90
 conv=>whnf
 refine .mk _ ⟨λ_=>bW.d9 (fH (ob':=(⟨190,4,true,true,_,x94.map aT.av⟩:aW)) (dZ rfl bX rfl rfl rfl rfl rfl (bZ fx90) rfl rfl rfl) (fQ (iE e94))) (λ_ h=>h) (λ_ _=>trivial),λ_ _ _=>trivial⟩ ?_
 rintro _ _ ⟨rfl,rfl⟩
 try dsimp only
 conv=>whnf
 refine .mk ?_
 conv=>whnf
 refine .mk ?_
 conv=>whnf
 exact .mk ⟨trivial,⟨⟨_,rfl,(.refl _)⟩,⟨_,rfl,(by first | exact (.refl _) | exact ⟨rfl,fV (.cons (.refl _) (.cons (.refl _) (.cons aU (.cons aU (.cons aU (.cons (.refl _) (.cons (.refl _) (.cons (.refl _) .nil))))))))⟩)⟩,⟨_,rfl,(.refl _)⟩,⟨_,rfl,(.refl _)⟩,⟨_,rfl,(.refl _)⟩,⟨_,rfl,(.refl _)⟩,⟨_,rfl,(.refl _)⟩,⟨_,rfl,(.refl _)⟩,⟨_,rfl,(.refl _)⟩,⟨_,rfl,(.refl _)⟩,⟨_,rfl,(.refl _)⟩,⟨_,rfl,(.refl _)⟩,⟨_,rfl,(.refl _)⟩,⟨_,rfl,(.refl _)⟩,trivial⟩⟩
 intro _ _
 conv=>whnf
 try dsimp only
 repeat (conv in (uV _ _ _ _)=>whnf)
 exact .mk
 intro _ _
 conv=>whnf
 refine .mk trivial ?_
 try dsimp only
 repeat (conv in (uV _ _ _ _)=>whnf)
 conv=>whnf
 exact .mk
 intro _ _
 conv=>whnf
 refine .mk trivial ?_
 try dsimp only
 repeat (conv in (uV _ _ _ _)=>whnf)
 conv=>whnf
 refine .mk λp95=>?_
 conv=>whnf
 refine .mk λx96=>?_
 conv=>whnf
 exact .mk ⟨⟨⟨_,rfl,aU⟩,⟨_,rfl,(.refl _)⟩,⟨_,rfl,(.refl _)⟩,⟨_,rfl,(.refl _)⟩,⟨_,rfl,(.refl _)⟩,trivial⟩,⟨⟨_,rfl,(.refl _)⟩,⟨_,rfl,(by first | exact (.refl _) | exact ⟨rfl,fV (.cons (.refl _) (.cons (.refl _) (.cons aU (.cons aU (.cons aU (.cons (.refl _) (.cons (.refl _) (.cons (.refl _) .nil))))))))⟩)⟩,⟨_,rfl,(.refl _)⟩,⟨_,rfl,(.refl _)⟩,⟨_,rfl,(.refl _)⟩,⟨_,rfl,(.refl _)⟩,⟨_,rfl,(.refl _)⟩,⟨_,rfl,(.refl _)⟩,⟨_,rfl,(.refl _)⟩,⟨_,rfl,(.refl _)⟩,⟨_,rfl,(.refl _)⟩,⟨_,rfl,(.refl _)⟩,⟨_,rfl,(.refl _)⟩,⟨_,rfl,(.refl _)⟩,trivial⟩⟩
 conv=>whnf
 exact .mk ⟨trivial,⟨⟨_,rfl,(.refl _)⟩,⟨_,rfl,(by first | exact (.refl _) | exact ⟨rfl,fV (.cons (.refl _) (.cons (.refl _) (.cons aU (.cons aU (.cons aU (.cons (.refl _) (.cons (.refl _) (.cons (.refl _) .nil))))))))⟩)⟩,⟨_,rfl,(.refl _)⟩,⟨_,rfl,(.refl _)⟩,⟨_,rfl,(.refl _)⟩,⟨_,rfl,(.refl _)⟩,⟨_,rfl,(.refl _)⟩,⟨_,rfl,(.refl _)⟩,⟨_,rfl,(.refl _)⟩,⟨_,rfl,(.refl _)⟩,⟨_,rfl,(.refl _)⟩,⟨_,rfl,(.refl _)⟩,⟨_,rfl,(.refl _)⟩,trivial⟩⟩
 intro _ _
 conv=>whnf
 try dsimp only
 repeat (conv in (uV _ _ _ _)=>whnf)
 exact .mk
 intro _ _
 conv=>whnf
 refine .mk trivial ?_
 try dsimp only
 repeat (conv in (uV _ _ _ _)=>whnf)
 conv=>whnf
 refine .mk λp97=>?_
 conv=>whnf
 refine .mk _ (aF (bK rfl rfl (.pt rfl rfl (bY e32)))) ?_
 conv=>whnf
 refine .mk _ (aF (dX rfl F4 rfl (.pt rfl rfl (bY e32)) (.pt _ _ _ _ _))) ?_
 conv=>whnf
 refine .mk _ (aF (fG rfl kV rfl (.pt rfl rfl (bY e32)) rfl)) ?_
 conv=>whnf
 refine .mk ?_ ?_
 intro v100
 conv=>whnf
 refine .mk ?_ ?_
 conv=>whnf
 refine .mk ?_ ⟨⟨⟨_,rfl,aU⟩,⟨_,rfl,(.refl _)⟩,⟨_,rfl,(.refl _)⟩,⟨_,rfl,(.refl _)⟩,⟨_,rfl,(.refl _)⟩,trivial⟩,⟨⟨_,rfl,(.refl _)⟩,⟨_,rfl,(by first | exact (.refl _) | exact ⟨rfl,fV (.cons (.refl _) (.cons (.refl _) (.cons aU (.cons aU (.cons aU (.cons (.refl _) (.cons (.refl _) (.cons (.refl _) .nil))))))))⟩)⟩,⟨_,rfl,(.refl _)⟩,⟨_,rfl,(.refl _)⟩,⟨_,rfl,(.refl _)⟩,⟨_,rfl,(.refl _)⟩,⟨_,rfl,(.refl _)⟩,⟨_,rfl,(.refl _)⟩,⟨_,rfl,(.refl _)⟩,⟨_,rfl,(.refl _)⟩,⟨_,rfl,(.refl _)⟩,⟨_,rfl,(.refl _)⟩,⟨_,rfl,(.refl _)⟩,⟨_,rfl,(.refl _)⟩,trivial⟩⟩
 rintro ⟨y54_1,y54_2,y54_3⟩ _
 conv=>whnf
 try dsimp only
 repeat (conv in (uV _ _ _ _)=>whnf)
 refine .mk λx101=>?_
 conv=>whnf
 refine .mk ?_ ?_
 conv=>whnf
 refine .mk ?_
 conv=>whnf
 refine .mk λx102 e102=>?_
 conv=>whnf
 refine .mk _ (λH hH _=>iY rfl Tryz.underlying23 bX rfl rfl ((hH _ (by decide)).trans rfl) rfl rfl (Eq.symm rfl) (List.length_map _) e102) ?_
 conv=>whnf
 refine .mk ?_ ?_
 conv=>whnf
 refine .mk _ (aF (dY (ps:=[(0,_)]) (rows:=[[.pt 13 (C182+4) (Int.toNat y54_1) 0]]) rfl Tryz.underlying225 iH (.cons rfl .nil) (by kernel_rfl) rfl rfl rfl)) ?_
 conv=>whnf
 refine .mk ?_ ?_
 conv=>whnf
 refine .mk ?_ ?_
 conv=>whnf
 refine .mk ?_
 conv=>whnf
 refine .mk _ (aF (dA (j:=0) rfl Tryz.underlying225 dM rfl rfl rfl (.list rfl))) ?_
 conv=>whnf
 refine .mk _ (aF (gM rfl Tryz.underlying75 rfl (.pt rfl rfl rfl) rfl)) ?_
 conv=>whnf
 refine .mk λp109=>?_
 conv=>whnf
 refine .mk λx110 e110=>?_
 conv=>whnf
 refine .mk λx111 e111=>?_
 conv=>whnf
 refine .mk _ ⟨λ_=>aQ rfl rfl (.cons rfl .nil) eD (PC.mono (eB (s:=((y54_2.s,y54_2.bad):RS)) (id:=2) (aD:=(u2 2)) rfl p109) (R':=λy H'=>y=int x110/\H'=upd _ 2 (some (cK 125 (u2 2) x111))) (λy H' h=>⟨h.1.trans (congrArg int e110),h.2.trans (dN e111)⟩)),λ_ _ _=>trivial⟩ ?_
 rintro _ _ ⟨rfl,rfl⟩
 try dsimp only
 conv=>whnf
 refine .mk _ (aF (bK rfl rfl (.pt rfl rfl (bZ e102)))) ?_
 conv=>whnf
 refine .mk λx112 e112=>?_
 have fx112:=gT e102 e112;have lx112:=gQ e112 (rfl:y54_3.length=y54_3.length)
 conv=>whnf
 refine .mk _ ⟨λ_=>bW.d9 (fH (ob':=(⟨3,1,true,true,_,x112.map fI⟩:aW)) (dZ rfl bX rfl rfl rfl rfl rfl (bZ e102) rfl rfl rfl) (fQ (iE e112))) (λ_ h=>h) (λ_ _=>trivial),λ_ _ _=>trivial⟩ ?_
 rintro _ _ ⟨rfl,rfl⟩
 try dsimp only
 conv=>whnf
 refine .mk ?_
 conv=>whnf
 refine .mk ?_
 conv=>whnf
 exact .mk ⟨trivial,⟨⟨_,rfl,(.refl _)⟩,⟨_,rfl,(by first | exact (.refl _) | exact ⟨rfl,fV (.cons (.refl _) (.cons (.refl _) (.cons aU (.cons aU (.cons aU (.cons (.refl _) (.cons (.refl _) (.cons (.refl _) .nil))))))))⟩)⟩,⟨_,rfl,(.refl _)⟩,⟨_,rfl,(.refl _)⟩,⟨_,rfl,(.refl _)⟩,⟨_,rfl,(.refl _)⟩,⟨_,rfl,(.refl _)⟩,⟨_,rfl,(.refl _)⟩,⟨_,rfl,(.refl _)⟩,⟨_,rfl,(.refl _)⟩,⟨_,rfl,(.refl _)⟩,⟨_,rfl,(.refl _)⟩,⟨_,rfl,(.refl _)⟩,⟨_,rfl,(.refl _)⟩,trivial⟩⟩
 intro _ _
 conv=>whnf
 try dsimp only
 repeat (conv in (uV _ _ _ _)=>whnf)
 exact .mk
 intro _ _
 conv=>whnf
 refine .mk trivial ?_
 try dsimp only
 repeat (conv in (uV _ _ _ _)=>whnf)
 conv=>whnf
 exact .mk
 intro _ _
 conv=>whnf
 refine .mk trivial ?_
 try dsimp only
 repeat (conv in (uV _ _ _ _)=>whnf)
 conv=>whnf
 refine .mk λp113=>?_
 conv=>whnf
 refine .mk λx114=>?_
 conv=>whnf
 exact .mk ⟨⟨⟨_,rfl,aU⟩,⟨_,rfl,(.refl _)⟩,⟨_,rfl,(.refl _)⟩,⟨_,rfl,(.refl _)⟩,⟨_,rfl,(.refl _)⟩,trivial⟩,⟨⟨_,rfl,(.refl _)⟩,⟨_,rfl,(by first | exact (.refl _) | exact ⟨rfl,fV (.cons (.refl _) (.cons (.refl _) (.cons aU (.cons aU (.cons aU (.cons (.refl _) (.cons (.refl _) (.cons (.refl _) .nil))))))))⟩)⟩,⟨_,rfl,(.refl _)⟩,⟨_,rfl,(.refl _)⟩,⟨_,rfl,(.refl _)⟩,⟨_,rfl,(.refl _)⟩,⟨_,rfl,(.refl _)⟩,⟨_,rfl,(.refl _)⟩,⟨_,rfl,(.refl _)⟩,⟨_,rfl,(.refl _)⟩,⟨_,rfl,(.refl _)⟩,⟨_,rfl,(.refl _)⟩,⟨_,rfl,(.refl _)⟩,⟨_,rfl,(.refl _)⟩,trivial⟩⟩
 conv=>whnf
 exact .mk ⟨trivial,⟨⟨_,rfl,(.refl _)⟩,⟨_,rfl,(by first | exact (.refl _) | exact ⟨rfl,fV (.cons (.refl _) (.cons (.refl _) (.cons aU (.cons aU (.cons aU (.cons (.refl _) (.cons (.refl _) (.cons (.refl _) .nil))))))))⟩)⟩,⟨_,rfl,(.refl _)⟩,⟨_,rfl,(.refl _)⟩,⟨_,rfl,(.refl _)⟩,⟨_,rfl,(.refl _)⟩,⟨_,rfl,(.refl _)⟩,⟨_,rfl,(.refl _)⟩,⟨_,rfl,(.refl _)⟩,⟨_,rfl,(.refl _)⟩,⟨_,rfl,(.refl _)⟩,⟨_,rfl,(.refl _)⟩,⟨_,rfl,(.refl _)⟩,trivial⟩⟩
 intro _ _
 conv=>whnf
 try dsimp only
 repeat (conv in (uV _ _ _ _)=>whnf)
 exact .mk
 intro _ _
 conv=>whnf
 refine .mk trivial ?_
 try dsimp only
 repeat (conv in (uV _ _ _ _)=>whnf)
 conv=>whnf
 refine .mk λp115=>?_
 conv=>whnf
 refine .mk _ (aF (bK rfl rfl (.pt rfl rfl (bY e32)))) ?_
 conv=>whnf
 refine .mk _ (aF (dX rfl xJ rfl (.pt rfl rfl (bY e32)) (.pt _ _ _ _ _))) ?_
 conv=>whnf
 refine .mk _ (aF (fG rfl y8 rfl (.pt rfl rfl (bY e32)) rfl)) ?_
 conv=>whnf
 refine .mk ?_ ?_
 intro v118
 conv=>whnf
 refine .mk ?_ ?_
 conv=>whnf
 refine .mk ?_ ⟨⟨⟨_,rfl,aU⟩,⟨_,rfl,(.refl _)⟩,⟨_,rfl,(.refl _)⟩,⟨_,rfl,(.refl _)⟩,⟨_,rfl,(.refl _)⟩,trivial⟩,⟨⟨_,rfl,(.refl _)⟩,⟨_,rfl,(by first | exact (.refl _) | exact ⟨rfl,fV (.cons (.refl _) (.cons (.refl _) (.cons aU (.cons aU (.cons aU (.cons (.refl _) (.cons (.refl _) (.cons (.refl _) .nil))))))))⟩)⟩,⟨_,rfl,(.refl _)⟩,⟨_,rfl,(.refl _)⟩,⟨_,rfl,(.refl _)⟩,⟨_,rfl,(.refl _)⟩,⟨_,rfl,(.refl _)⟩,⟨_,rfl,(.refl _)⟩,⟨_,rfl,(.refl _)⟩,⟨_,rfl,(.refl _)⟩,⟨_,rfl,(.refl _)⟩,⟨_,rfl,(.refl _)⟩,⟨_,rfl,(.refl _)⟩,⟨_,rfl,(.refl _)⟩,trivial⟩⟩
 rintro ⟨y60_1,y60_2,y60_3⟩ _
 conv=>whnf
 try dsimp only
 repeat (conv in (uV _ _ _ _)=>whnf)
 refine .mk λx119=>?_
 conv=>whnf
 refine .mk ?_ ?_
 conv=>whnf
 refine .mk ?_
 conv=>whnf
 refine .mk λx120 e120=>?_
 conv=>whnf
 refine .mk _ (λH hH _=>iY rfl Tryz.underlying108 B5 rfl rfl ((hH _ (by decide)).trans rfl) rfl rfl (Eq.symm rfl) (List.length_map _) e120) ?_
 conv=>whnf
 refine .mk ?_ ?_
 conv=>whnf
 refine .mk ?_
 conv=>whnf
 refine .mk _ (λH hH _=>bK rfl rfl (.pt ((hH _ (by decide)).trans rfl) rfl (bZ e120))) ?_
 conv=>whnf
 refine .mk _ (λH hH _=>dX rfl TM rfl (.pt ((hH _ (by decide)).trans rfl) rfl (bZ e120)) (.pt _ _ _ _ _)) ?_
 conv=>whnf
 refine .mk _ (λH hH _=>bK rfl rfl (.pt ((hH _ (by decide)).trans rfl) rfl (bZ e120))) ?_
 conv=>whnf
 refine .mk _ (λH hH _=>dX rfl VM rfl (.pt ((hH _ (by decide)).trans rfl) rfl (bZ e120)) (.pt _ _ _ _ _)) ?_
 conv=>whnf
 refine .mk _ (λH hH _=>bK rfl rfl (.pt ((hH _ (by decide)).trans rfl) rfl (bZ e120))) ?_
 conv=>whnf
 refine .mk _ (λH hH _=>dX rfl PN rfl (.pt ((hH _ (by decide)).trans rfl) rfl (bZ e120)) (.pt _ _ _ _ _)) ?_
 conv=>whnf
 refine .mk _ (λH hH _=>bK rfl rfl (.pt ((hH _ (by decide)).trans rfl) rfl (bZ e120))) ?_
 conv=>whnf
 refine .mk _ (λH hH _=>dX rfl NA rfl (.pt ((hH _ (by decide)).trans rfl) rfl (bZ e120)) (.pt _ _ _ _ _)) ?_
 conv=>whnf
 refine .mk _ (λH hH _=>bK rfl rfl (.pt ((hH _ (by decide)).trans rfl) rfl (bZ e120))) ?_
 conv=>whnf
 refine .mk _ (λH hH _=>dX rfl NI rfl (.pt ((hH _ (by decide)).trans rfl) rfl (bZ e120)) (.pt _ _ _ _ _)) ?_
 conv=>whnf
 refine .mk _ (λH hH _=>bK rfl rfl (.pt ((hH _ (by decide)).trans rfl) rfl (bZ e120))) ?_
 conv=>whnf
 refine .mk _ (λH hH _=>dX rfl RF rfl (.pt ((hH _ (by decide)).trans rfl) rfl (bZ e120)) (.pt _ _ _ _ _)) ?_
 conv=>whnf
 refine .mk _ (λH hH _=>bK rfl rfl (.pt ((hH _ (by decide)).trans rfl) rfl (bZ e120))) ?_
 conv=>whnf
 refine .mk _ (λH hH _=>dX rfl QI rfl (.pt ((hH _ (by decide)).trans rfl) rfl (bZ e120)) (.pt _ _ _ _ _)) ?_
 conv=>whnf
 refine .mk _ (λH hH _=>bK rfl rfl (.pt ((hH _ (by decide)).trans rfl) rfl (bZ e120))) ?_
 conv=>whnf
 refine .mk _ (λH hH _=>dX rfl MI rfl (.pt ((hH _ (by decide)).trans rfl) rfl (bZ e120)) (.pt _ _ _ _ _)) ?_
 conv=>whnf
 refine .mk _ (λH hH _=>bK rfl rfl (.pt ((hH _ (by decide)).trans rfl) rfl (bZ e120))) ?_
 conv=>whnf
 refine .mk _ (λH hH _=>dX rfl VK rfl (.pt ((hH _ (by decide)).trans rfl) rfl (bZ e120)) (.pt _ _ _ _ _)) ?_
 conv=>whnf
 refine .mk _ (λH hH _=>bK rfl rfl (.pt ((hH _ (by decide)).trans rfl) rfl (bZ e120))) ?_
 conv=>whnf
 refine .mk _ (λH hH _=>dX rfl OG rfl (.pt ((hH _ (by decide)).trans rfl) rfl (bZ e120)) (.pt _ _ _ _ _)) ?_
 conv=>whnf
 refine .mk _ (λH hH _=>bK rfl rfl (.pt ((hH _ (by decide)).trans rfl) rfl (bZ e120))) ?_
 conv=>whnf
 refine .mk _ (λH hH _=>dX rfl RN rfl (.pt ((hH _ (by decide)).trans rfl) rfl (bZ e120)) (.pt _ _ _ _ _)) ?_
 conv=>whnf
 refine .mk _ (λH hH _=>dY (ps:=[(0,_),(1,_),(2,_),(3,_),(4,_),(5,_),(6,_),(7,_),(8,_),(9,_),(10,_)]) (rows:=[[.pt 14 (C182+6) (Int.toNat y60_1) 0],[.pt 14 (C182+6) (Int.toNat y60_1) 1],[.pt 14 (C182+6) (Int.toNat y60_1) 2],[.pt 14 (C182+6) (Int.toNat y60_1) 3],[.pt 14 (C182+6) (Int.toNat y60_1) 4],[.pt 14 (C182+6) (Int.toNat y60_1) 5],[.pt 14 (C182+6) (Int.toNat y60_1) 6],[.pt 14 (C182+6) (Int.toNat y60_1) 7],[.pt 14 (C182+6) (Int.toNat y60_1) 8],[.pt 14 (C182+6) (Int.toNat y60_1) 9],[.pt 14 (C182+6) (Int.toNat y60_1) 10]]) rfl Tryz.underlying225 iH (.cons rfl (.cons rfl (.cons rfl (.cons rfl (.cons rfl (.cons rfl (.cons rfl (.cons rfl (.cons rfl (.cons rfl (.cons rfl .nil))))))))))) (by kernel_rfl) rfl rfl rfl) ?_
 conv=>whnf
 refine .mk ?_ ?_
 conv=>whnf
 refine .mk ?_ ?_
 conv=>whnf
 refine .mk ?_
 conv=>whnf
 refine .mk _ (aF (dA (j:=0) rfl Tryz.underlying225 dM rfl rfl rfl (.list rfl))) ?_
 conv=>whnf
 refine .mk _ (aF (gM rfl Tryz.underlying75 rfl (.pt rfl rfl rfl) rfl)) ?_
 conv=>whnf
 refine .mk λp137=>?_
 conv=>whnf
 refine .mk λx138 e138=>?_
 conv=>whnf
 refine .mk λx139 e139=>?_
 conv=>whnf
 refine .mk _ ⟨λ_=>aQ rfl rfl (.cons rfl .nil) eD (PC.mono (eB (s:=((y60_2.s,y60_2.bad):RS)) (id:=2) (aD:=(u2 2)) rfl p137) (R':=λy H'=>y=int x138/\H'=upd _ 2 (some (cK 125 (u2 2) x139))) (λy H' h=>⟨h.1.trans (congrArg int e138),h.2.trans (dN e139)⟩)),λ_ _ _=>trivial⟩ ?_
 rintro _ _ ⟨rfl,rfl⟩
 try dsimp only
 conv=>whnf
 refine .mk _ (aF (bK rfl rfl (.pt rfl rfl (bZ e120)))) ?_
 conv=>whnf
 refine .mk λx140 e140=>?_
 have fx140:=gT e120 e140;have lx140:=gQ e140 (rfl:y60_3.length=y60_3.length)
 conv=>whnf
 refine .mk _ ⟨λ_=>bW.d9 (fH (ob':=(⟨193,11,true,true,_,x140.map bA.av⟩:aW)) (dZ rfl bX rfl rfl rfl rfl rfl (bZ e120) rfl rfl rfl) (fQ (iE e140))) (λ_ h=>h) (λ_ _=>trivial),λ_ _ _=>trivial⟩ ?_
 rintro _ _ ⟨rfl,rfl⟩
 try dsimp only
 conv=>whnf
 refine .mk ?_
 conv=>whnf
 refine .mk ?_
 conv=>whnf
 refine .mk _ (aF (dA (j:=1) rfl Tryz.underlying225 dM rfl rfl rfl (.list rfl))) ?_
 conv=>whnf
 refine .mk _ (aF (gM rfl Tryz.underlying75 rfl (.pt rfl rfl rfl) rfl)) ?_
 conv=>whnf
 refine .mk λp141=>?_
 conv=>whnf
 refine .mk λx142 e142=>?_
 conv=>whnf
 refine .mk λx143 e143=>?_
 conv=>whnf
 refine .mk _ ⟨λ_=>aQ rfl rfl (.cons rfl .nil) eD (PC.mono (eB (s:=x139) (id:=2) (aD:=(u2 2)) rfl p141) (R':=λy H'=>y=int x142/\H'=upd _ 2 (some (cK 125 (u2 2) x143))) (λy H' h=>⟨h.1.trans (congrArg int e142),h.2.trans (dN e143)⟩)),λ_ _ _=>trivial⟩ ?_
 rintro _ _ ⟨rfl,rfl⟩
 try dsimp only
 conv=>whnf
 refine .mk _ (aF (bK rfl rfl (.pt rfl rfl (bZ fx140)))) ?_
 conv=>whnf
 refine .mk λx144 e144=>?_
 have fx144:=gT fx140 e144;have lx144:=gQ e144 lx140
 conv=>whnf
 refine .mk _ ⟨λ_=>bW.d9 (fH (ob':=(⟨193,11,true,true,_,x144.map bA.av⟩:aW)) (dZ rfl bX rfl rfl rfl rfl rfl (bZ fx140) rfl rfl rfl) (fQ (iE e144))) (λ_ h=>h) (λ_ _=>trivial),λ_ _ _=>trivial⟩ ?_
 rintro _ _ ⟨rfl,rfl⟩
 try dsimp only
 conv=>whnf
 refine .mk ?_
 conv=>whnf
 refine .mk ?_
 conv=>whnf
 refine .mk _ (aF (dA (j:=2) rfl Tryz.underlying225 dM rfl rfl rfl (.list rfl))) ?_
 conv=>whnf
 refine .mk _ (aF (gM rfl Tryz.underlying75 rfl (.pt rfl rfl rfl) rfl)) ?_
 conv=>whnf
 refine .mk λp145=>?_
 conv=>whnf
 refine .mk λx146 e146=>?_
 conv=>whnf
 refine .mk λx147 e147=>?_
 conv=>whnf
 refine .mk _ ⟨λ_=>aQ rfl rfl (.cons rfl .nil) eD (PC.mono (eB (s:=x143) (id:=2) (aD:=(u2 2)) rfl p145) (R':=λy H'=>y=int x146/\H'=upd _ 2 (some (cK 125 (u2 2) x147))) (λy H' h=>⟨h.1.trans (congrArg int e146),h.2.trans (dN e147)⟩)),λ_ _ _=>trivial⟩ ?_
 rintro _ _ ⟨rfl,rfl⟩
 try dsimp only
 conv=>whnf
 refine .mk _ (aF (bK rfl rfl (.pt rfl rfl (bZ fx144)))) ?_
 conv=>whnf
 refine .mk λx148 e148=>?_
 have fx148:=gT fx144 e148;have lx148:=gQ e148 lx144
 conv=>whnf
 refine .mk _ ⟨λ_=>bW.d9 (fH (ob':=(⟨193,11,true,true,_,x148.map bA.av⟩:aW)) (dZ rfl bX rfl rfl rfl rfl rfl (bZ fx144) rfl rfl rfl) (fQ (iE e148))) (λ_ h=>h) (λ_ _=>trivial),λ_ _ _=>trivial⟩ ?_
 rintro _ _ ⟨rfl,rfl⟩
 try dsimp only
 conv=>whnf
 refine .mk ?_
 conv=>whnf
 refine .mk ?_
 conv=>whnf
 refine .mk _ (aF (dA (j:=3) rfl Tryz.underlying225 dM rfl rfl rfl (.list rfl))) ?_
 conv=>whnf
 refine .mk _ (aF (gM rfl Tryz.underlying75 rfl (.pt rfl rfl rfl) rfl)) ?_
 conv=>whnf
 refine .mk λp149=>?_
 conv=>whnf
 refine .mk λx150 e150=>?_
 conv=>whnf
 refine .mk λx151 e151=>?_
 conv=>whnf
 refine .mk _ ⟨λ_=>aQ rfl rfl (.cons rfl .nil) eD (PC.mono (eB (s:=x147) (id:=2) (aD:=(u2 2)) rfl p149) (R':=λy H'=>y=int x150/\H'=upd _ 2 (some (cK 125 (u2 2) x151))) (λy H' h=>⟨h.1.trans (congrArg int e150),h.2.trans (dN e151)⟩)),λ_ _ _=>trivial⟩ ?_
 rintro _ _ ⟨rfl,rfl⟩
 try dsimp only
 conv=>whnf
 refine .mk _ (aF (bK rfl rfl (.pt rfl rfl (bZ fx148)))) ?_
 conv=>whnf
 refine .mk λx152 e152=>?_
 have fx152:=gT fx148 e152;have lx152:=gQ e152 lx148
 conv=>whnf
 refine .mk _ ⟨λ_=>bW.d9 (fH (ob':=(⟨193,11,true,true,_,x152.map bA.av⟩:aW)) (dZ rfl bX rfl rfl rfl rfl rfl (bZ fx148) rfl rfl rfl) (fQ (iE e152))) (λ_ h=>h) (λ_ _=>trivial),λ_ _ _=>trivial⟩ ?_
 rintro _ _ ⟨rfl,rfl⟩
 try dsimp only
 conv=>whnf
 refine .mk ?_
 conv=>whnf
 refine .mk ?_
 conv=>whnf
 refine .mk _ (aF (dA (j:=4) rfl Tryz.underlying225 dM rfl rfl rfl (.list rfl))) ?_
 conv=>whnf
 refine .mk _ (aF (gM rfl Tryz.underlying75 rfl (.pt rfl rfl rfl) rfl)) ?_
 conv=>whnf
 refine .mk λp153=>?_
 conv=>whnf
 refine .mk λx154 e154=>?_
 conv=>whnf
 refine .mk λx155 e155=>?_
 conv=>whnf
 refine .mk _ ⟨λ_=>aQ rfl rfl (.cons rfl .nil) eD (PC.mono (eB (s:=x151) (id:=2) (aD:=(u2 2)) rfl p153) (R':=λy H'=>y=int x154/\H'=upd _ 2 (some (cK 125 (u2 2) x155))) (λy H' h=>⟨h.1.trans (congrArg int e154),h.2.trans (dN e155)⟩)),λ_ _ _=>trivial⟩ ?_
 rintro _ _ ⟨rfl,rfl⟩
 try dsimp only
 conv=>whnf
 refine .mk _ (aF (bK rfl rfl (.pt rfl rfl (bZ fx152)))) ?_
 conv=>whnf
 refine .mk λx156 e156=>?_
 have fx156:=gT fx152 e156;have lx156:=gQ e156 lx152
 conv=>whnf
 refine .mk _ ⟨λ_=>bW.d9 (fH (ob':=(⟨193,11,true,true,_,x156.map bA.av⟩:aW)) (dZ rfl bX rfl rfl rfl rfl rfl (bZ fx152) rfl rfl rfl) (fQ (iE e156))) (λ_ h=>h) (λ_ _=>trivial),λ_ _ _=>trivial⟩ ?_
 rintro _ _ ⟨rfl,rfl⟩
 try dsimp only
 conv=>whnf
 refine .mk ?_
 conv=>whnf
 refine .mk ?_
 conv=>whnf
 refine .mk _ (aF (dA (j:=5) rfl Tryz.underlying225 dM rfl rfl rfl (.list rfl))) ?_
 conv=>whnf
 refine .mk _ (aF (gM rfl Tryz.underlying75 rfl (.pt rfl rfl rfl) rfl)) ?_
 conv=>whnf
 refine .mk λp157=>?_
 conv=>whnf
 refine .mk λx158 e158=>?_
 conv=>whnf
 refine .mk λx159 e159=>?_
 conv=>whnf
 refine .mk _ ⟨λ_=>aQ rfl rfl (.cons rfl .nil) eD (PC.mono (eB (s:=x155) (id:=2) (aD:=(u2 2)) rfl p157) (R':=λy H'=>y=int x158/\H'=upd _ 2 (some (cK 125 (u2 2) x159))) (λy H' h=>⟨h.1.trans (congrArg int e158),h.2.trans (dN e159)⟩)),λ_ _ _=>trivial⟩ ?_
 rintro _ _ ⟨rfl,rfl⟩
 try dsimp only
 conv=>whnf
 refine .mk _ (aF (bK rfl rfl (.pt rfl rfl (bZ fx156)))) ?_
 conv=>whnf
 refine .mk λx160 e160=>?_
 have fx160:=gT fx156 e160;have lx160:=gQ e160 lx156
 conv=>whnf
 refine .mk _ ⟨λ_=>bW.d9 (fH (ob':=(⟨193,11,true,true,_,x160.map bA.av⟩:aW)) (dZ rfl bX rfl rfl rfl rfl rfl (bZ fx156) rfl rfl rfl) (fQ (iE e160))) (λ_ h=>h) (λ_ _=>trivial),λ_ _ _=>trivial⟩ ?_
 rintro _ _ ⟨rfl,rfl⟩
 try dsimp only
 conv=>whnf
 refine .mk ?_
 conv=>whnf
 refine .mk ?_
 conv=>whnf
 refine .mk _ (aF (dA (j:=6) rfl Tryz.underlying225 dM rfl rfl rfl (.list rfl))) ?_
 conv=>whnf
 refine .mk _ (aF (gM rfl Tryz.underlying75 rfl (.pt rfl rfl rfl) rfl)) ?_
 conv=>whnf
 refine .mk λp161=>?_
 conv=>whnf
 refine .mk λx162 e162=>?_
 conv=>whnf
 refine .mk λx163 e163=>?_
 conv=>whnf
 refine .mk _ ⟨λ_=>aQ rfl rfl (.cons rfl .nil) eD (PC.mono (eB (s:=x159) (id:=2) (aD:=(u2 2)) rfl p161) (R':=λy H'=>y=int x162/\H'=upd _ 2 (some (cK 125 (u2 2) x163))) (λy H' h=>⟨h.1.trans (congrArg int e162),h.2.trans (dN e163)⟩)),λ_ _ _=>trivial⟩ ?_
 rintro _ _ ⟨rfl,rfl⟩
 try dsimp only
 conv=>whnf
 refine .mk _ (aF (bK rfl rfl (.pt rfl rfl (bZ fx160)))) ?_
 conv=>whnf
 refine .mk λx164 e164=>?_
 have fx164:=gT fx160 e164;have lx164:=gQ e164 lx160
 conv=>whnf
 refine .mk _ ⟨λ_=>bW.d9 (fH (ob':=(⟨193,11,true,true,_,x164.map bA.av⟩:aW)) (dZ rfl bX rfl rfl rfl rfl rfl (bZ fx160) rfl rfl rfl) (fQ (iE e164))) (λ_ h=>h) (λ_ _=>trivial),λ_ _ _=>trivial⟩ ?_
 rintro _ _ ⟨rfl,rfl⟩
 try dsimp only
 conv=>whnf
 refine .mk ?_
 conv=>whnf
 refine .mk ?_
 conv=>whnf
 refine .mk _ (aF (dA (j:=7) rfl Tryz.underlying225 dM rfl rfl rfl (.list rfl))) ?_
 conv=>whnf
 refine .mk _ (aF (gM rfl Tryz.underlying75 rfl (.pt rfl rfl rfl) rfl)) ?_
 conv=>whnf
 refine .mk λp165=>?_
 conv=>whnf
 refine .mk λx166 e166=>?_
 conv=>whnf
 refine .mk λx167 e167=>?_
 conv=>whnf
 refine .mk _ ⟨λ_=>aQ rfl rfl (.cons rfl .nil) eD (PC.mono (eB (s:=x163) (id:=2) (aD:=(u2 2)) rfl p165) (R':=λy H'=>y=int x166/\H'=upd _ 2 (some (cK 125 (u2 2) x167))) (λy H' h=>⟨h.1.trans (congrArg int e166),h.2.trans (dN e167)⟩)),λ_ _ _=>trivial⟩ ?_
 rintro _ _ ⟨rfl,rfl⟩
 try dsimp only
 conv=>whnf
 refine .mk _ (aF (bK rfl rfl (.pt rfl rfl (bZ fx164)))) ?_
 conv=>whnf
 refine .mk λx168 e168=>?_
 have fx168:=gT fx164 e168;have lx168:=gQ e168 lx164
 conv=>whnf
 refine .mk _ ⟨λ_=>bW.d9 (fH (ob':=(⟨193,11,true,true,_,x168.map bA.av⟩:aW)) (dZ rfl bX rfl rfl rfl rfl rfl (bZ fx164) rfl rfl rfl) (fQ (iE e168))) (λ_ h=>h) (λ_ _=>trivial),λ_ _ _=>trivial⟩ ?_
 rintro _ _ ⟨rfl,rfl⟩
 try dsimp only
 conv=>whnf
 refine .mk ?_
 conv=>whnf
 refine .mk ?_
 conv=>whnf
 refine .mk _ (aF (dA (j:=8) rfl Tryz.underlying225 dM rfl rfl rfl (.list rfl))) ?_
 conv=>whnf
 refine .mk _ (aF (gM rfl Tryz.underlying75 rfl (.pt rfl rfl rfl) rfl)) ?_
 conv=>whnf
 refine .mk λp169=>?_
 conv=>whnf
 refine .mk λx170 e170=>?_
 conv=>whnf
 refine .mk λx171 e171=>?_
 conv=>whnf
 refine .mk _ ⟨λ_=>aQ rfl rfl (.cons rfl .nil) eD (PC.mono (eB (s:=x167) (id:=2) (aD:=(u2 2)) rfl p169) (R':=λy H'=>y=int x170/\H'=upd _ 2 (some (cK 125 (u2 2) x171))) (λy H' h=>⟨h.1.trans (congrArg int e170),h.2.trans (dN e171)⟩)),λ_ _ _=>trivial⟩ ?_
 rintro _ _ ⟨rfl,rfl⟩
 try dsimp only
 conv=>whnf
 refine .mk _ (aF (bK rfl rfl (.pt rfl rfl (bZ fx168)))) ?_
 conv=>whnf
 refine .mk λx172 e172=>?_
 have fx172:=gT fx168 e172;have lx172:=gQ e172 lx168
 conv=>whnf
 refine .mk _ ⟨λ_=>bW.d9 (fH (ob':=(⟨193,11,true,true,_,x172.map bA.av⟩:aW)) (dZ rfl bX rfl rfl rfl rfl rfl (bZ fx168) rfl rfl rfl) (fQ (iE e172))) (λ_ h=>h) (λ_ _=>trivial),λ_ _ _=>trivial⟩ ?_
 rintro _ _ ⟨rfl,rfl⟩
 try dsimp only
 conv=>whnf
 refine .mk ?_
 conv=>whnf
 refine .mk ?_
 conv=>whnf
 refine .mk _ (aF (dA (j:=9) rfl Tryz.underlying225 dM rfl rfl rfl (.list rfl))) ?_
 conv=>whnf
 refine .mk _ (aF (gM rfl Tryz.underlying75 rfl (.pt rfl rfl rfl) rfl)) ?_
 conv=>whnf
 refine .mk λp173=>?_
 conv=>whnf
 refine .mk λx174 e174=>?_
 conv=>whnf
 refine .mk λx175 e175=>?_
 conv=>whnf
 refine .mk _ ⟨λ_=>aQ rfl rfl (.cons rfl .nil) eD (PC.mono (eB (s:=x171) (id:=2) (aD:=(u2 2)) rfl p173) (R':=λy H'=>y=int x174/\H'=upd _ 2 (some (cK 125 (u2 2) x175))) (λy H' h=>⟨h.1.trans (congrArg int e174),h.2.trans (dN e175)⟩)),λ_ _ _=>trivial⟩ ?_
 rintro _ _ ⟨rfl,rfl⟩
 try dsimp only
 conv=>whnf
 refine .mk _ (aF (bK rfl rfl (.pt rfl rfl (bZ fx172)))) ?_
 conv=>whnf
 refine .mk λx176 e176=>?_
 have fx176:=gT fx172 e176;have lx176:=gQ e176 lx172
 conv=>whnf
 refine .mk _ ⟨λ_=>bW.d9 (fH (ob':=(⟨193,11,true,true,_,x176.map bA.av⟩:aW)) (dZ rfl bX rfl rfl rfl rfl rfl (bZ fx172) rfl rfl rfl) (fQ (iE e176))) (λ_ h=>h) (λ_ _=>trivial),λ_ _ _=>trivial⟩ ?_
 rintro _ _ ⟨rfl,rfl⟩
 try dsimp only
 conv=>whnf
 refine .mk ?_
 conv=>whnf
 refine .mk ?_
 conv=>whnf
 refine .mk _ (aF (dA (j:=10) rfl Tryz.underlying225 dM rfl rfl rfl (.list rfl))) ?_
 conv=>whnf
 refine .mk _ (aF (gM rfl Tryz.underlying75 rfl (.pt rfl rfl rfl) rfl)) ?_
 conv=>whnf
 refine .mk λp177=>?_
 conv=>whnf
 refine .mk λx178 e178=>?_
 conv=>whnf
 refine .mk λx179 e179=>?_
 conv=>whnf
 refine .mk _ ⟨λ_=>aQ rfl rfl (.cons rfl .nil) eD (PC.mono (eB (s:=x175) (id:=2) (aD:=(u2 2)) rfl p177) (R':=λy H'=>y=int x178/\H'=upd _ 2 (some (cK 125 (u2 2) x179))) (λy H' h=>⟨h.1.trans (congrArg int e178),h.2.trans (dN e179)⟩)),λ_ _ _=>trivial⟩ ?_
 rintro _ _ ⟨rfl,rfl⟩
 try dsimp only
 conv=>whnf
 refine .mk _ (aF (bK rfl rfl (.pt rfl rfl (bZ fx176)))) ?_
 conv=>whnf
 refine .mk λx180 e180=>?_
 have fx180:=gT fx176 e180;have lx180:=gQ e180 lx176
 conv=>whnf
 refine .mk _ ⟨λ_=>bW.d9 (fH (ob':=(⟨193,11,true,true,_,x180.map bA.av⟩:aW)) (dZ rfl bX rfl rfl rfl rfl rfl (bZ fx176) rfl rfl rfl) (fQ (iE e180))) (λ_ h=>h) (λ_ _=>trivial),λ_ _ _=>trivial⟩ ?_
 rintro _ _ ⟨rfl,rfl⟩
 try dsimp only
 conv=>whnf
 refine .mk ?_
 conv=>whnf
 refine .mk ?_
 conv=>whnf
 exact .mk ⟨trivial,⟨⟨_,rfl,(.refl _)⟩,⟨_,rfl,(by first | exact (.refl _) | exact ⟨rfl,fV (.cons (.refl _) (.cons (.refl _) (.cons aU (.cons aU (.cons aU (.cons (.refl _) (.cons (.refl _) (.cons (.refl _) .nil))))))))⟩)⟩,⟨_,rfl,(.refl _)⟩,⟨_,rfl,(.refl _)⟩,⟨_,rfl,(.refl _)⟩,⟨_,rfl,(.refl _)⟩,⟨_,rfl,(.refl _)⟩,⟨_,rfl,(.refl _)⟩,⟨_,rfl,(.refl _)⟩,⟨_,rfl,(.refl _)⟩,⟨_,rfl,(.refl _)⟩,⟨_,rfl,(.refl _)⟩,⟨_,rfl,(.refl _)⟩,⟨_,rfl,(.refl _)⟩,trivial⟩⟩
 intro _ _
 conv=>whnf
 try dsimp only
 repeat (conv in (uV _ _ _ _)=>whnf)
 exact .mk
 intro _ _
 conv=>whnf
 refine .mk trivial ?_
 try dsimp only
 repeat (conv in (uV _ _ _ _)=>whnf)
 conv=>whnf
 exact .mk
 intro _ _
 conv=>whnf
 refine .mk trivial ?_
 try dsimp only
 repeat (conv in (uV _ _ _ _)=>whnf)
 conv=>whnf
 refine .mk λp181=>?_
 conv=>whnf
 refine .mk λx182=>?_
 conv=>whnf
 exact .mk ⟨⟨⟨_,rfl,aU⟩,⟨_,rfl,(.refl _)⟩,⟨_,rfl,(.refl _)⟩,⟨_,rfl,(.refl _)⟩,⟨_,rfl,(.refl _)⟩,trivial⟩,⟨⟨_,rfl,(.refl _)⟩,⟨_,rfl,(by first | exact (.refl _) | exact ⟨rfl,fV (.cons (.refl _) (.cons (.refl _) (.cons aU (.cons aU (.cons aU (.cons (.refl _) (.cons (.refl _) (.cons (.refl _) .nil))))))))⟩)⟩,⟨_,rfl,(.refl _)⟩,⟨_,rfl,(.refl _)⟩,⟨_,rfl,(.refl _)⟩,⟨_,rfl,(.refl _)⟩,⟨_,rfl,(.refl _)⟩,⟨_,rfl,(.refl _)⟩,⟨_,rfl,(.refl _)⟩,⟨_,rfl,(.refl _)⟩,⟨_,rfl,(.refl _)⟩,⟨_,rfl,(.refl _)⟩,⟨_,rfl,(.refl _)⟩,⟨_,rfl,(.refl _)⟩,trivial⟩⟩
 conv=>whnf
 exact .mk ⟨trivial,⟨⟨_,rfl,(.refl _)⟩,⟨_,rfl,(by first | exact (.refl _) | exact ⟨rfl,fV (.cons (.refl _) (.cons (.refl _) (.cons aU (.cons aU (.cons aU (.cons (.refl _) (.cons (.refl _) (.cons (.refl _) .nil))))))))⟩)⟩,⟨_,rfl,(.refl _)⟩,⟨_,rfl,(.refl _)⟩,⟨_,rfl,(.refl _)⟩,⟨_,rfl,(.refl _)⟩,⟨_,rfl,(.refl _)⟩,⟨_,rfl,(.refl _)⟩,⟨_,rfl,(.refl _)⟩,⟨_,rfl,(.refl _)⟩,⟨_,rfl,(.refl _)⟩,⟨_,rfl,(.refl _)⟩,⟨_,rfl,(.refl _)⟩,trivial⟩⟩
 intro _ _
 conv=>whnf
 try dsimp only
 repeat (conv in (uV _ _ _ _)=>whnf)
 exact .mk
 rintro ⟨y10_1,y10_2⟩ _
 conv=>whnf
 refine .mk trivial ?_
 try dsimp only
 repeat (conv in (uV _ _ _ _)=>whnf)
 conv=>whnf
 refine .mk λp183=>?_
 conv=>whnf
 refine .mk _ (aF (bK rfl rfl (.pt rfl rfl (bY e32)))) ?_
 conv=>whnf
 refine .mk _ (aF (dX rfl MQ rfl (.pt rfl rfl (bY e32)) (.pt _ _ _ _ _))) ?_
 conv=>whnf
 refine .mk ?_ ?_
 intro v186
 conv=>whnf
 refine .mk _ (aF (gM rfl Tryz.underlying75 rfl (.pt rfl rfl rfl) rfl)) ?_
 conv=>whnf
 refine .mk λp187=>?_
 conv=>whnf
 refine .mk λx188 e188=>?_
 conv=>whnf
 refine .mk λx189 e189=>?_
 conv=>whnf
 refine .mk _ ⟨λ_=>aQ rfl rfl (.cons rfl (.cons rfl .nil)) l7 (PC.mono (mE (most:=5) (s:=((y10_1.s,y10_1.bad):RS)) (id:=2) (aD:=(u2 2)) rfl p187) (R':=λy H'=>y=int x188/\H'=upd _ 2 (some (cK 125 (u2 2) x189))) (λy H' h=>⟨h.1.trans (congrArg int e188),h.2.trans (dN e189)⟩)),λ_ _ _=>trivial⟩ ?_
 rintro _ _ ⟨rfl,rfl⟩
 try dsimp only
 conv=>whnf
 refine .mk λp190=>?_
 conv=>whnf
 refine .mk λx191 e191=>?_
 have lx191:x191.length=(Int.toNat x188):=by rw [<- e191];exact List.length_replicate
 conv=>whnf
 refine .mk _ ⟨λ_=>oW 35 (g:=fI) (z0:=(0:Int)) .any rfl Tryz.underlying23 kR oP rfl rfl rfl p190 (.cons (.sc _) .nil) e191,λ_ _ _=>trivial⟩ ?_
 rintro _ _ ⟨v192,-,rfl,rfl⟩
 try dsimp only
 conv=>whnf
 refine .mk _ (aF (bK rfl rfl (.pt rfl rfl (bY e32)))) ?_
 conv=>whnf
 refine .mk _ ⟨λ_=>bW.d9 (fH (ob':=(⟨110,8,true,true,_,(y5_3.map aH.av).set (Int.toNat y5_1) [int y6_2,aA y7_2,.sl 12 (C182+3) 0 (Int.toNat x33),.sl 13 (C182+4) 0 (Int.toNat 17),.sl 14 (C182+6) 0 y10_2.length,.sl 35 v192 0 (Int.toNat x188),.sc (.slice none 0 0),.sc (.slice none 0 0)]⟩:aW)) (dZ rfl kV rfl rfl rfl rfl rfl (bY e32) rfl rfl rfl) (fQ kZ)) (λ_ h=>h) (λ_ _=>trivial),λ_ _ _=>trivial⟩ ?_
 rintro _ _ ⟨rfl,rfl⟩
 try dsimp only
 conv=>whnf
 refine .mk ?_
 conv=>whnf
 refine .mk _ (λH hH _=>bK rfl rfl (.pt ((hH _ (by decide)).trans rfl) rfl (bY e32))) ?_
 conv=>whnf
 refine .mk _ (λH hH _=>fG rfl kV rfl (.pt ((hH _ (by decide)).trans rfl) rfl (bY e32)) rfl) ?_
 conv=>whnf
 refine .mk ?_ ?_
 intro v195
 conv=>whnf
 refine .mk ?_ ?_
 conv=>whnf
 refine .mk ?_ ⟨⟨⟨_,rfl,aU⟩,⟨_,rfl,(.refl _)⟩,⟨_,rfl,(.refl _)⟩,⟨_,rfl,(.refl _)⟩,⟨_,rfl,(.refl _)⟩,trivial⟩,⟨⟨_,rfl,(.refl _)⟩,⟨_,rfl,(by first | exact (.refl _) | exact ⟨rfl,fV (.cons (.refl _) (.cons (.refl _) (.cons aU (.cons aU (.cons aU (.cons aU (.cons (.refl _) (.cons (.refl _) .nil))))))))⟩)⟩,⟨_,rfl,(.refl _)⟩,⟨_,rfl,(.refl _)⟩,⟨_,rfl,(.refl _)⟩,⟨_,rfl,(.refl _)⟩,⟨_,rfl,(.refl _)⟩,⟨_,rfl,(.refl _)⟩,⟨_,rfl,(.refl _)⟩,⟨_,rfl,(.refl _)⟩,⟨_,rfl,(.refl _)⟩,⟨_,rfl,(.refl _)⟩,⟨_,rfl,(.refl _)⟩,⟨_,rfl,(.refl _)⟩,⟨_,rfl,(.refl _)⟩,⟨_,rfl,(.refl _)⟩,trivial⟩⟩
 rintro ⟨y67_1,y67_2,y67_3⟩ _
 conv=>whnf
 try dsimp only
 repeat (conv in (uV _ _ _ _)=>whnf)
 refine .mk λx196=>?_
 conv=>whnf
 refine .mk ?_ ?_
 conv=>whnf
 refine .mk ?_
 conv=>whnf
 refine .mk λx197 e197=>?_
 conv=>whnf
 refine .mk _ (λH hH _=>iY rfl Tryz.underlying23 bX rfl rfl ((hH _ (by decide)).trans rfl) rfl rfl (Eq.symm rfl) (List.length_map _) e197) ?_
 conv=>whnf
 refine .mk ?_ ?_
 conv=>whnf
 refine .mk _ (aF (dY (ps:=[(0,_)]) (rows:=[[.pt 35 v192 (Int.toNat y67_1) 0]]) rfl Tryz.underlying225 iH (.cons rfl .nil) (by kernel_rfl) rfl rfl rfl)) ?_
 conv=>whnf
 refine .mk ?_ ?_
 conv=>whnf
 refine .mk ?_ ?_
 conv=>whnf
 refine .mk ?_
 conv=>whnf
 refine .mk _ (aF (dA (j:=0) rfl Tryz.underlying225 dM rfl rfl rfl (.list rfl))) ?_
 conv=>whnf
 refine .mk _ (aF (gM rfl Tryz.underlying75 rfl (.pt rfl rfl rfl) rfl)) ?_
 conv=>whnf
 refine .mk λp204=>?_
 conv=>whnf
 refine .mk λx205 e205=>?_
 conv=>whnf
 refine .mk λx206 e206=>?_
 conv=>whnf
 refine .mk _ ⟨λ_=>aQ rfl rfl (.cons rfl .nil) eD (PC.mono (eB (s:=((y67_2.s,y67_2.bad):RS)) (id:=2) (aD:=(u2 2)) rfl p204) (R':=λy H'=>y=int x205/\H'=upd _ 2 (some (cK 125 (u2 2) x206))) (λy H' h=>⟨h.1.trans (congrArg int e205),h.2.trans (dN e206)⟩)),λ_ _ _=>trivial⟩ ?_
 rintro _ _ ⟨rfl,rfl⟩
 try dsimp only
 conv=>whnf
 refine .mk _ (aF (bK rfl rfl (.pt rfl rfl (bZ e197)))) ?_
 conv=>whnf
 refine .mk λx207 e207=>?_
 have fx207:=gT e197 e207;have lx207:=gQ e207 (rfl:y67_3.length=y67_3.length)
 conv=>whnf
 refine .mk _ ⟨λ_=>bW.d9 (fH (ob':=(⟨3,1,true,true,_,x207.map fI⟩:aW)) (dZ rfl bX rfl rfl rfl rfl rfl (bZ e197) rfl rfl rfl) (fQ (iE e207))) (λ_ h=>h) (λ_ _=>trivial),λ_ _ _=>trivial⟩ ?_
 rintro _ _ ⟨rfl,rfl⟩
 try dsimp only
 conv=>whnf
 refine .mk ?_
 conv=>whnf
 refine .mk ?_
 conv=>whnf
 exact .mk ⟨trivial,⟨⟨_,rfl,(.refl _)⟩,⟨_,rfl,(by first | exact (.refl _) | exact ⟨rfl,fV (.cons (.refl _) (.cons (.refl _) (.cons aU (.cons aU (.cons aU (.cons aU (.cons (.refl _) (.cons (.refl _) .nil))))))))⟩)⟩,⟨_,rfl,(.refl _)⟩,⟨_,rfl,(.refl _)⟩,⟨_,rfl,(.refl _)⟩,⟨_,rfl,(.refl _)⟩,⟨_,rfl,(.refl _)⟩,⟨_,rfl,(.refl _)⟩,⟨_,rfl,(.refl _)⟩,⟨_,rfl,(.refl _)⟩,⟨_,rfl,(.refl _)⟩,⟨_,rfl,(.refl _)⟩,⟨_,rfl,(.refl _)⟩,⟨_,rfl,(.refl _)⟩,⟨_,rfl,(.refl _)⟩,⟨_,rfl,(.refl _)⟩,trivial⟩⟩
 intro _ _
 conv=>whnf
 try dsimp only
 repeat (conv in (uV _ _ _ _)=>whnf)
 exact .mk
 intro _ _
 conv=>whnf
 refine .mk trivial ?_
 try dsimp only
 repeat (conv in (uV _ _ _ _)=>whnf)
 conv=>whnf
 exact .mk
 intro _ _
 conv=>whnf
 refine .mk trivial ?_
 try dsimp only
 repeat (conv in (uV _ _ _ _)=>whnf)
 conv=>whnf
 refine .mk λp208=>?_
 conv=>whnf
 refine .mk λx209=>?_
 conv=>whnf
 exact .mk ⟨⟨⟨_,rfl,aU⟩,⟨_,rfl,(.refl _)⟩,⟨_,rfl,(.refl _)⟩,⟨_,rfl,(.refl _)⟩,⟨_,rfl,(.refl _)⟩,trivial⟩,⟨⟨_,rfl,(.refl _)⟩,⟨_,rfl,(by first | exact (.refl _) | exact ⟨rfl,fV (.cons (.refl _) (.cons (.refl _) (.cons aU (.cons aU (.cons aU (.cons aU (.cons (.refl _) (.cons (.refl _) .nil))))))))⟩)⟩,⟨_,rfl,(.refl _)⟩,⟨_,rfl,(.refl _)⟩,⟨_,rfl,(.refl _)⟩,⟨_,rfl,(.refl _)⟩,⟨_,rfl,(.refl _)⟩,⟨_,rfl,(.refl _)⟩,⟨_,rfl,(.refl _)⟩,⟨_,rfl,(.refl _)⟩,⟨_,rfl,(.refl _)⟩,⟨_,rfl,(.refl _)⟩,⟨_,rfl,(.refl _)⟩,⟨_,rfl,(.refl _)⟩,⟨_,rfl,(.refl _)⟩,⟨_,rfl,(.refl _)⟩,trivial⟩⟩
 conv=>whnf
 exact .mk ⟨trivial,⟨⟨_,rfl,(.refl _)⟩,⟨_,rfl,(by first | exact (.refl _) | exact ⟨rfl,fV (.cons (.refl _) (.cons (.refl _) (.cons aU (.cons aU (.cons aU (.cons aU (.cons (.refl _) (.cons (.refl _) .nil))))))))⟩)⟩,⟨_,rfl,(.refl _)⟩,⟨_,rfl,(.refl _)⟩,⟨_,rfl,(.refl _)⟩,⟨_,rfl,(.refl _)⟩,⟨_,rfl,(.refl _)⟩,⟨_,rfl,(.refl _)⟩,⟨_,rfl,(.refl _)⟩,⟨_,rfl,(.refl _)⟩,⟨_,rfl,(.refl _)⟩,⟨_,rfl,(.refl _)⟩,⟨_,rfl,(.refl _)⟩,⟨_,rfl,(.refl _)⟩,⟨_,rfl,(.refl _)⟩,trivial⟩⟩
 intro _ _
 conv=>whnf
 try dsimp only
 repeat (conv in (uV _ _ _ _)=>whnf)
 exact .mk
 rintro ⟨y66_1,y66_2⟩ _
 conv=>whnf
 refine .mk trivial ?_
 try dsimp only
 repeat (conv in (uV _ _ _ _)=>whnf)
 conv=>whnf
 refine .mk λp210=>?_
 conv=>whnf
 refine .mk _ (aF (oM rfl Tryz.underlying75 rfl (.pt rfl rfl rfl) rfl)) ?_
 conv=>whnf
 refine .mk _ (aF (bK rfl rfl (.pt rfl rfl (bY e32)))) ?_
 conv=>whnf
 refine .mk _ (aF (fG rfl kV rfl (.pt rfl rfl (bY e32)) rfl)) ?_
 conv=>whnf
 refine .mk λx211=>?_
 conv=>whnf
 refine .mk ?_ ?_
 conv=>whnf
 refine .mk ?_ ?_
 conv=>whnf
 refine .mk _ (aF (bK rfl rfl (.pt rfl rfl (bY e32)))) ?_
 conv=>whnf
 refine .mk _ ⟨λ_=>bW.d9 (fH (ob':=(⟨110,8,true,true,_,(y5_3.map aH.av).set (Int.toNat y5_1) [int y6_2,aA y7_2,.sl 12 (C182+3) 0 (Int.toNat x33),.sl 13 (C182+4) 0 (Int.toNat 17),.sl 14 (C182+6) 0 (Int.toNat (x21.1.bC.length:Int)),.sc (.slice none 0 0),.sc (.slice none 0 0),.sc (.slice none 0 0)]⟩:aW)) (dZ rfl kV rfl rfl rfl rfl rfl (bY e32) rfl rfl rfl) (fQ kZ)) (λ_ h=>h) (λ_ _=>trivial),λ_ _ _=>trivial⟩ ?_
 rintro _ _ ⟨rfl,rfl⟩
 try dsimp only
 conv=>whnf
 exact .mk ⟨trivial,⟨⟨_,rfl,(by first | exact (.refl _) | exact ⟨rfl,fV (.cons (.refl _) (.cons (.refl _) (.cons aU (.cons aU (.cons aU (.cons (.nil _) (.cons (.refl _) (.cons (.refl _) .nil))))))))⟩)⟩,⟨_,rfl,(.refl _)⟩,⟨_,rfl,(.refl _)⟩,⟨_,rfl,(.refl _)⟩,⟨_,rfl,(.refl _)⟩,⟨_,rfl,(.refl _)⟩,⟨_,rfl,(.refl _)⟩,⟨_,rfl,(.refl _)⟩,⟨_,rfl,(.refl _)⟩,⟨_,rfl,(.refl _)⟩,⟨_,rfl,(.refl _)⟩,⟨_,rfl,(.refl _)⟩,⟨_,rfl,(.refl _)⟩,trivial⟩⟩
 conv=>whnf
 exact .mk ⟨trivial,⟨⟨_,rfl,(by first | exact (.refl _) | exact ⟨rfl,fV (.cons (.refl _) (.cons (.refl _) (.cons aU (.cons aU (.cons aU (.cons (gB (ob:=(⟨3,1,false,true,v192,y66_2.map fI⟩:aW)) rfl rfl rfl rfl rfl rfl) (.cons (.refl _) (.cons (.refl _) .nil))))))))⟩)⟩,⟨_,rfl,(.refl _)⟩,⟨_,rfl,(.refl _)⟩,⟨_,rfl,(.refl _)⟩,⟨_,rfl,(.refl _)⟩,⟨_,rfl,(.refl _)⟩,⟨_,rfl,(.refl _)⟩,⟨_,rfl,(.refl _)⟩,⟨_,rfl,(.refl _)⟩,⟨_,rfl,(.refl _)⟩,⟨_,rfl,(.refl _)⟩,⟨_,rfl,(.refl _)⟩,⟨_,rfl,(.refl _)⟩,trivial⟩⟩
 intro _ _
 conv=>whnf
 try dsimp only
 repeat (conv in (uV _ _ _ _)=>whnf)
 exact .mk
 rintro ⟨y11_1,y11_2⟩ _
 conv=>whnf
 refine .mk trivial ?_
 try dsimp only
 repeat (conv in (uV _ _ _ _)=>whnf)
 conv=>whnf
 refine .mk _ (aF (bK rfl rfl (.pt rfl rfl (bY e32)))) ?_
 conv=>whnf
 refine .mk _ (aF (dX rfl V4 rfl (.pt rfl rfl (bY e32)) (.pt _ _ _ _ _))) ?_
 conv=>whnf
 refine .mk ?_ ?_
 intro v214
 conv=>whnf
 refine .mk _ (aF (gM rfl Tryz.underlying75 rfl (.pt rfl rfl rfl) rfl)) ?_
 conv=>whnf
 refine .mk λp215=>?_
 conv=>whnf
 refine .mk λx216 e216=>?_
 conv=>whnf
 refine .mk λx217 e217=>?_
 conv=>whnf
 refine .mk _ ⟨λ_=>aQ rfl rfl (.cons rfl (.cons rfl .nil)) l7 (PC.mono (mE (most:=5) (s:=((y11_1.s,y11_1.bad):RS)) (id:=2) (aD:=(u2 2)) rfl p215) (R':=λy H'=>y=int x216/\H'=upd _ 2 (some (cK 125 (u2 2) x217))) (λy H' h=>⟨h.1.trans (congrArg int e216),h.2.trans (dN e217)⟩)),λ_ _ _=>trivial⟩ ?_
 rintro _ _ ⟨rfl,rfl⟩
 try dsimp only
 conv=>whnf
 refine .mk λp218=>?_
 conv=>whnf
 refine .mk λx219 e219=>?_
 have lx219:x219.length=(Int.toNat x216):=by rw [<- e219];exact List.length_replicate
 conv=>whnf
 refine .mk _ ⟨λ_=>oW 38 (g:=fI) (z0:=(0:Int)) .any rfl Tryz.underlying23 kR oP rfl rfl rfl p218 (.cons (.sc _) .nil) e219,λ_ _ _=>trivial⟩ ?_
 rintro _ _ ⟨v220,-,rfl,rfl⟩
 try dsimp only
 conv=>whnf
 refine .mk _ (aF (bK rfl rfl (.pt rfl rfl (bY e32)))) ?_
 conv=>whnf
 refine .mk _ ⟨λ_=>bW.d9 (fH (ob':=(⟨110,8,true,true,_,(y5_3.map aH.av).set (Int.toNat y5_1) [int y6_2,aA y7_2,.sl 12 (C182+3) 0 (Int.toNat x33),.sl 13 (C182+4) 0 (Int.toNat 17),.sl 14 (C182+6) 0 (Int.toNat (x21.1.bC.length:Int)),aG 1 fI y11_2,.sl 38 v220 0 (Int.toNat x216),.sc (.slice none 0 0)]⟩:aW)) (dZ rfl kV rfl rfl rfl rfl rfl (bY e32) rfl rfl rfl) (fQ kZ)) (λ_ h=>h) (λ_ _=>trivial),λ_ _ _=>trivial⟩ ?_
 rintro _ _ ⟨rfl,rfl⟩
 try dsimp only
 conv=>whnf
 refine .mk ?_
 conv=>whnf
 refine .mk _ (λH hH _=>bK rfl rfl (.pt ((hH _ (by decide)).trans rfl) rfl (bY e32))) ?_
 conv=>whnf
 refine .mk _ (λH hH _=>fG rfl kV rfl (.pt ((hH _ (by decide)).trans rfl) rfl (bY e32)) rfl) ?_
 conv=>whnf
 refine .mk ?_ ?_
 intro v223
 conv=>whnf
 refine .mk ?_ ?_
 conv=>whnf
 refine .mk ?_ ⟨⟨⟨_,rfl,aU⟩,⟨_,rfl,(.refl _)⟩,⟨_,rfl,(.refl _)⟩,⟨_,rfl,(.refl _)⟩,⟨_,rfl,(.refl _)⟩,trivial⟩,⟨⟨_,rfl,(.refl _)⟩,⟨_,rfl,(by first | exact (.refl _) | exact ⟨rfl,fV (.cons (.refl _) (.cons (.refl _) (.cons aU (.cons aU (.cons aU (.cons (.refl _) (.cons aU (.cons (.refl _) .nil))))))))⟩)⟩,⟨_,rfl,(.refl _)⟩,⟨_,rfl,(.refl _)⟩,⟨_,rfl,(.refl _)⟩,⟨_,rfl,(.refl _)⟩,⟨_,rfl,(.refl _)⟩,⟨_,rfl,(.refl _)⟩,⟨_,rfl,(.refl _)⟩,⟨_,rfl,(.refl _)⟩,⟨_,rfl,(.refl _)⟩,⟨_,rfl,(.refl _)⟩,⟨_,rfl,(.refl _)⟩,⟨_,rfl,(.refl _)⟩,⟨_,rfl,(.refl _)⟩,⟨_,rfl,(.refl _)⟩,trivial⟩⟩
 rintro ⟨y75_1,y75_2,y75_3⟩ _
 conv=>whnf
 try dsimp only
 repeat (conv in (uV _ _ _ _)=>whnf)
 refine .mk λx224=>?_
 conv=>whnf
 refine .mk ?_ ?_
 conv=>whnf
 refine .mk ?_
 conv=>whnf
 refine .mk λx225 e225=>?_
 conv=>whnf
 refine .mk _ (λH hH _=>iY rfl Tryz.underlying23 bX rfl rfl ((hH _ (by decide)).trans rfl) rfl rfl (Eq.symm rfl) (List.length_map _) e225) ?_
 conv=>whnf
 refine .mk ?_ ?_
 conv=>whnf
 refine .mk _ (aF (dY (ps:=[(0,_)]) (rows:=[[.pt 38 v220 (Int.toNat y75_1) 0]]) rfl Tryz.underlying225 iH (.cons rfl .nil) (by kernel_rfl) rfl rfl rfl)) ?_
 conv=>whnf
 refine .mk ?_ ?_
 conv=>whnf
 refine .mk ?_ ?_
 conv=>whnf
 refine .mk ?_
 conv=>whnf
 refine .mk _ (aF (dA (j:=0) rfl Tryz.underlying225 dM rfl rfl rfl (.list rfl))) ?_
 conv=>whnf
 refine .mk _ (aF (gM rfl Tryz.underlying75 rfl (.pt rfl rfl rfl) rfl)) ?_
 conv=>whnf
 refine .mk λp232=>?_
 conv=>whnf
 refine .mk λx233 e233=>?_
 conv=>whnf
 refine .mk λx234 e234=>?_
 conv=>whnf
 refine .mk _ ⟨λ_=>aQ rfl rfl (.cons rfl .nil) eD (PC.mono (eB (s:=((y75_2.s,y75_2.bad):RS)) (id:=2) (aD:=(u2 2)) rfl p232) (R':=λy H'=>y=int x233/\H'=upd _ 2 (some (cK 125 (u2 2) x234))) (λy H' h=>⟨h.1.trans (congrArg int e233),h.2.trans (dN e234)⟩)),λ_ _ _=>trivial⟩ ?_
 rintro _ _ ⟨rfl,rfl⟩
 try dsimp only
 conv=>whnf
 refine .mk _ (aF (bK rfl rfl (.pt rfl rfl (bZ e225)))) ?_
 conv=>whnf
 refine .mk λx235 e235=>?_
 have fx235:=gT e225 e235;have lx235:=gQ e235 (rfl:y75_3.length=y75_3.length)
 conv=>whnf
 refine .mk _ ⟨λ_=>bW.d9 (fH (ob':=(⟨3,1,true,true,_,x235.map fI⟩:aW)) (dZ rfl bX rfl rfl rfl rfl rfl (bZ e225) rfl rfl rfl) (fQ (iE e235))) (λ_ h=>h) (λ_ _=>trivial),λ_ _ _=>trivial⟩ ?_
 rintro _ _ ⟨rfl,rfl⟩
 try dsimp only
 conv=>whnf
 refine .mk ?_
 conv=>whnf
 refine .mk ?_
 conv=>whnf
 exact .mk ⟨trivial,⟨⟨_,rfl,(.refl _)⟩,⟨_,rfl,(by first | exact (.refl _) | exact ⟨rfl,fV (.cons (.refl _) (.cons (.refl _) (.cons aU (.cons aU (.cons aU (.cons (.refl _) (.cons aU (.cons (.refl _) .nil))))))))⟩)⟩,⟨_,rfl,(.refl _)⟩,⟨_,rfl,(.refl _)⟩,⟨_,rfl,(.refl _)⟩,⟨_,rfl,(.refl _)⟩,⟨_,rfl,(.refl _)⟩,⟨_,rfl,(.refl _)⟩,⟨_,rfl,(.refl _)⟩,⟨_,rfl,(.refl _)⟩,⟨_,rfl,(.refl _)⟩,⟨_,rfl,(.refl _)⟩,⟨_,rfl,(.refl _)⟩,⟨_,rfl,(.refl _)⟩,⟨_,rfl,(.refl _)⟩,⟨_,rfl,(.refl _)⟩,trivial⟩⟩
 intro _ _
 conv=>whnf
 try dsimp only
 repeat (conv in (uV _ _ _ _)=>whnf)
 exact .mk
 intro _ _
 conv=>whnf
 refine .mk trivial ?_
 try dsimp only
 repeat (conv in (uV _ _ _ _)=>whnf)
 conv=>whnf
 exact .mk
 intro _ _
 conv=>whnf
 refine .mk trivial ?_
 try dsimp only
 repeat (conv in (uV _ _ _ _)=>whnf)
 conv=>whnf
 refine .mk λp236=>?_
 conv=>whnf
 refine .mk λx237=>?_
 conv=>whnf
 exact .mk ⟨⟨⟨_,rfl,aU⟩,⟨_,rfl,(.refl _)⟩,⟨_,rfl,(.refl _)⟩,⟨_,rfl,(.refl _)⟩,⟨_,rfl,(.refl _)⟩,trivial⟩,⟨⟨_,rfl,(.refl _)⟩,⟨_,rfl,(by first | exact (.refl _) | exact ⟨rfl,fV (.cons (.refl _) (.cons (.refl _) (.cons aU (.cons aU (.cons aU (.cons (.refl _) (.cons aU (.cons (.refl _) .nil))))))))⟩)⟩,⟨_,rfl,(.refl _)⟩,⟨_,rfl,(.refl _)⟩,⟨_,rfl,(.refl _)⟩,⟨_,rfl,(.refl _)⟩,⟨_,rfl,(.refl _)⟩,⟨_,rfl,(.refl _)⟩,⟨_,rfl,(.refl _)⟩,⟨_,rfl,(.refl _)⟩,⟨_,rfl,(.refl _)⟩,⟨_,rfl,(.refl _)⟩,⟨_,rfl,(.refl _)⟩,⟨_,rfl,(.refl _)⟩,⟨_,rfl,(.refl _)⟩,⟨_,rfl,(.refl _)⟩,trivial⟩⟩
 conv=>whnf
 exact .mk ⟨trivial,⟨⟨_,rfl,(.refl _)⟩,⟨_,rfl,(by first | exact (.refl _) | exact ⟨rfl,fV (.cons (.refl _) (.cons (.refl _) (.cons aU (.cons aU (.cons aU (.cons (.refl _) (.cons aU (.cons (.refl _) .nil))))))))⟩)⟩,⟨_,rfl,(.refl _)⟩,⟨_,rfl,(.refl _)⟩,⟨_,rfl,(.refl _)⟩,⟨_,rfl,(.refl _)⟩,⟨_,rfl,(.refl _)⟩,⟨_,rfl,(.refl _)⟩,⟨_,rfl,(.refl _)⟩,⟨_,rfl,(.refl _)⟩,⟨_,rfl,(.refl _)⟩,⟨_,rfl,(.refl _)⟩,⟨_,rfl,(.refl _)⟩,⟨_,rfl,(.refl _)⟩,⟨_,rfl,(.refl _)⟩,trivial⟩⟩
 intro _ _
 conv=>whnf
 try dsimp only
 repeat (conv in (uV _ _ _ _)=>whnf)
 exact .mk
 rintro ⟨y74_1,y74_2⟩ _
 conv=>whnf
 refine .mk trivial ?_
 try dsimp only
 repeat (conv in (uV _ _ _ _)=>whnf)
 conv=>whnf
 refine .mk λp238=>?_
 conv=>whnf
 refine .mk _ (aF (oM rfl Tryz.underlying75 rfl (.pt rfl rfl rfl) rfl)) ?_
 conv=>whnf
 refine .mk _ (aF (bK rfl rfl (.pt rfl rfl (bY e32)))) ?_
 conv=>whnf
 refine .mk _ (aF (fG rfl kV rfl (.pt rfl rfl (bY e32)) rfl)) ?_
 conv=>whnf
 refine .mk λx239=>?_
 conv=>whnf
 refine .mk ?_ ?_
 conv=>whnf
 refine .mk ?_ ?_
 conv=>whnf
 refine .mk _ (aF (bK rfl rfl (.pt rfl rfl (bY e32)))) ?_
 conv=>whnf
 refine .mk _ ⟨λ_=>bW.d9 (fH (ob':=(⟨110,8,true,true,_,(y5_3.map aH.av).set (Int.toNat y5_1) [int y6_2,aA y7_2,.sl 12 (C182+3) 0 (Int.toNat x33),.sl 13 (C182+4) 0 (Int.toNat 17),.sl 14 (C182+6) 0 (Int.toNat (x21.1.bC.length:Int)),aG 1 fI y11_2,.sc (.slice none 0 0),.sc (.slice none 0 0)]⟩:aW)) (dZ rfl kV rfl rfl rfl rfl rfl (bY e32) rfl rfl rfl) (fQ kZ)) (λ_ h=>h) (λ_ _=>trivial),λ_ _ _=>trivial⟩ ?_
 rintro _ _ ⟨rfl,rfl⟩
 try dsimp only
 conv=>whnf
 exact .mk ⟨trivial,⟨⟨_,rfl,(by first | exact (.refl _) | exact ⟨rfl,fV (.cons (.refl _) (.cons (.refl _) (.cons aU (.cons aU (.cons aU (.cons (.refl _) (.cons (.nil _) (.cons (.refl _) .nil))))))))⟩)⟩,⟨_,rfl,(.refl _)⟩,⟨_,rfl,(.refl _)⟩,⟨_,rfl,(.refl _)⟩,⟨_,rfl,(.refl _)⟩,⟨_,rfl,(.refl _)⟩,⟨_,rfl,(.refl _)⟩,⟨_,rfl,(.refl _)⟩,⟨_,rfl,(.refl _)⟩,⟨_,rfl,(.refl _)⟩,⟨_,rfl,(.refl _)⟩,⟨_,rfl,(.refl _)⟩,⟨_,rfl,(.refl _)⟩,trivial⟩⟩
 conv=>whnf
 exact .mk ⟨trivial,⟨⟨_,rfl,(by first | exact (.refl _) | exact ⟨rfl,fV (.cons (.refl _) (.cons (.refl _) (.cons aU (.cons aU (.cons aU (.cons (.refl _) (.cons (gB (ob:=(⟨3,1,false,true,v220,y74_2.map fI⟩:aW)) rfl rfl rfl rfl rfl rfl) (.cons (.refl _) .nil))))))))⟩)⟩,⟨_,rfl,(.refl _)⟩,⟨_,rfl,(.refl _)⟩,⟨_,rfl,(.refl _)⟩,⟨_,rfl,(.refl _)⟩,⟨_,rfl,(.refl _)⟩,⟨_,rfl,(.refl _)⟩,⟨_,rfl,(.refl _)⟩,⟨_,rfl,(.refl _)⟩,⟨_,rfl,(.refl _)⟩,⟨_,rfl,(.refl _)⟩,⟨_,rfl,(.refl _)⟩,⟨_,rfl,(.refl _)⟩,trivial⟩⟩
 intro _ _
 conv=>whnf
 try dsimp only
 repeat (conv in (uV _ _ _ _)=>whnf)
 exact .mk
 rintro ⟨y12_1,y12_2⟩ _
 conv=>whnf
 refine .mk trivial ?_
 try dsimp only
 repeat (conv in (uV _ _ _ _)=>whnf)
 conv=>whnf
 refine .mk ?_
 conv=>whnf
 refine .mk _ (λH hH _=>bK rfl rfl (.pt ((hH _ (by decide)).trans rfl) rfl (bY e32))) ?_
 conv=>whnf
 refine .mk _ (λH hH _=>dX rfl G4 rfl (.pt ((hH _ (by decide)).trans rfl) rfl (bY e32)) (.pt _ _ _ _ _)) ?_
 conv=>whnf
 refine .mk ?_ ?_
 intro v240
 intro v241
 conv=>whnf
 exact .mk
 intro _ _
 conv=>whnf
 try dsimp only
 repeat (conv in (uV _ _ _ _)=>whnf)
 refine .mk ⟨rfl,rfl,trivial⟩ ?_
 conv=>whnf
 refine .mk ?_ ?_
 intro v242
 conv=>whnf
 refine .mk _ (aF (gM rfl Tryz.underlying75 rfl (.pt rfl rfl rfl) rfl)) ?_
 conv=>whnf
 refine .mk λp243=>?_
 conv=>whnf
 refine .mk λx244 e244=>?_
 conv=>whnf
 refine .mk λx245 e245=>?_
 conv=>whnf
 refine .mk _ ⟨λ_=>aQ rfl rfl (.cons rfl (.cons rfl .nil)) l7 (PC.mono (mE (most:=1) (s:=((y12_1.s,y12_1.bad):RS)) (id:=2) (aD:=(u2 2)) rfl p243) (R':=λy H'=>y=int x244/\H'=upd _ 2 (some (cK 125 (u2 2) x245))) (λy H' h=>⟨h.1.trans (congrArg int e244),h.2.trans (dN e245)⟩)),λ_ _ _=>trivial⟩ ?_
 rintro _ _ ⟨rfl,rfl⟩
 try dsimp only
 conv=>whnf
 refine .mk λp246=>?_
 conv=>whnf
 refine .mk λx247 e247=>?_
 have lx247:x247.length=(Int.toNat x244):=by rw [<- e247];exact List.length_replicate
 conv=>whnf
 refine .mk _ ⟨λ_=>oW 18 (g:=aH.av) (z0:=((⟨0,false,[],[],[],[],[],[]⟩:aH):aH)) .any rfl Tryz.underlying55 wK BL rfl rfl rfl p246 (.cons (.sc _) (.cons (.sc _) (.cons (.nil _) (.cons (.nil _) (.cons (.nil _) (.cons (.nil _) (.cons (.nil _) (.cons (.nil _) .nil)))))))) e247,λ_ _ _=>trivial⟩ ?_
 rintro _ _ ⟨v248,-,rfl,rfl⟩
 try dsimp only
 conv=>whnf
 refine .mk _ (aF (bK rfl rfl (.pt rfl rfl (bY e32)))) ?_
 conv=>whnf
 refine .mk _ ⟨λ_=>bW.d9 (fH (ob':=(⟨110,8,true,true,_,(y5_3.map aH.av).set (Int.toNat y5_1) [int y6_2,aA y7_2,.sl 12 (C182+3) 0 (Int.toNat x33),.sl 13 (C182+4) 0 (Int.toNat 17),.sl 14 (C182+6) 0 (Int.toNat (x21.1.bC.length:Int)),aG 1 fI y11_2,aG 1 fI y12_2,.sl 18 v248 0 (Int.toNat x244)]⟩:aW)) (dZ rfl sP rfl rfl rfl rfl rfl (bY e32) rfl rfl rfl) (fQ kZ)) (λ_ h=>h) (λ_ _=>trivial),λ_ _ _=>trivial⟩ ?_
 rintro _ _ ⟨rfl,rfl⟩
 try dsimp only
 conv=>whnf
 refine .mk ?_
 conv=>whnf
 refine .mk _ (λH hH _=>bK rfl rfl (.pt ((hH _ (by decide)).trans rfl) rfl (bY e32))) ?_
 conv=>whnf
 refine .mk _ (λH hH _=>fG rfl sP rfl (.pt ((hH _ (by decide)).trans rfl) rfl (bY e32)) rfl) ?_
 conv=>whnf
 refine .mk ?_ ?_
 intro v249
 conv=>whnf
 refine .mk ?_ ?_
 conv=>whnf
 refine .mk ?_ ⟨⟨⟨_,rfl,aU⟩,⟨_,rfl,(.refl _)⟩,⟨_,rfl,(.refl _)⟩,⟨_,rfl,(.refl _)⟩,⟨_,rfl,(.refl _)⟩,trivial⟩,⟨⟨_,rfl,(.refl _)⟩,⟨_,rfl,(by first | exact (.refl _) | exact ⟨rfl,fV (.cons (.refl _) (.cons (.refl _) (.cons aU (.cons aU (.cons aU (.cons (.refl _) (.cons (.refl _) (.cons aU .nil))))))))⟩)⟩,⟨_,rfl,(.refl _)⟩,⟨_,rfl,(.refl _)⟩,⟨_,rfl,(.refl _)⟩,⟨_,rfl,(.refl _)⟩,⟨_,rfl,(.refl _)⟩,⟨_,rfl,(.refl _)⟩,⟨_,rfl,(.refl _)⟩,⟨_,rfl,(.refl _)⟩,⟨_,rfl,(.refl _)⟩,⟨_,rfl,(.refl _)⟩,⟨_,rfl,(.refl _)⟩,⟨_,rfl,(.refl _)⟩,⟨_,rfl,(.refl _)⟩,⟨_,rfl,(.refl _)⟩,⟨_,rfl,(.refl _)⟩,⟨_,rfl,(.refl _)⟩,trivial⟩⟩
 rintro ⟨y14_1,y14_2,y14_3⟩ _
 conv=>whnf
 try dsimp only
 repeat (conv in (uV _ _ _ _)=>whnf)
 refine .mk λx250=>?_
 conv=>whnf
 refine .mk ?_ ?_
 conv=>whnf
 refine .mk ?_
 conv=>whnf
 refine .mk λx251 e251=>?_
 conv=>whnf
 refine .mk _ (λH hH _=>iY rfl Tryz.underlying55 sQ rfl rfl ((hH _ (by decide)).trans rfl) rfl rfl (Eq.symm rfl) (List.length_map _) e251) ?_
 conv=>whnf
 refine .mk ?_ ?_
 conv=>whnf
 refine .mk _ (aF (oM rfl Tryz.underlying75 rfl (.pt rfl rfl rfl) rfl)) ?_
 conv=>whnf
 refine .mk ?_
 intro C195
 conv=>whnf
 refine .mk λx252=>?_
 conv=>whnf
 refine .mk λp253=>?_
 conv=>whnf
 refine .mk λx254 e254=>?_
 have lx254:x254.length=(Int.toNat x252):=by rw [<- e254];exact List.length_replicate
 conv=>whnf
 refine .mk ?_
 conv=>whnf
 refine .mk (by repeat (first | exact ZL.nil | refine ZL.cons ?_ ?_ | exact .sc _ | exact .nil _)) ⟨by assumption,by assumption⟩ ?_
 conv=>whnf
 refine .mk λp256=>?_
 conv=>whnf
 refine .mk λx257 e257=>?_
 have lx257:x257.length=(Int.toNat 17):=by rw [<- e257];exact List.length_replicate
 conv=>whnf
 refine .mk ?_
 conv=>whnf
 refine .mk (by repeat (first | exact ZL.nil | refine ZL.cons ?_ ?_ | exact .sc _ | exact .nil _)) ⟨by assumption,by assumption⟩ ?_
 conv=>whnf
 refine .mk λp259=>?_
 conv=>whnf
 refine .mk λx260 e260=>?_
 have lx260:x260.length=(Int.toNat (x21.1.bC.length:Int)):=by rw [<- e260];exact List.length_replicate
 conv=>whnf
 refine .mk ?_
 conv=>whnf
 refine .mk (by repeat (first | exact ZL.nil | refine ZL.cons ?_ ?_ | exact .sc _ | exact .nil _)) ⟨by assumption,by assumption⟩ ?_
 conv=>whnf
 refine .mk _ (λH hH _=>bK rfl rfl (.pt ((hH _ (by decide)).trans rfl) rfl (kG e251 (aH.gI _)))) ?_
 conv=>whnf
 refine .mk (⟨110,8,true,true,_,(y14_3.map aH.av).set (Int.toNat y14_1) [int 0,aA false,.sl 20 (C195+3) 0 (Int.toNat x252),.sl 21 (C195+4) 0 (Int.toNat 17),.sl 22 (C195+6) 0 (Int.toNat (x21.1.bC.length:Int)),.sc (.slice none 0 0),.sc (.slice none 0 0),.sc (.slice none 0 0)]⟩:aW) (λ_ H hH=>(fH (ob':=(⟨110,8,true,true,_,(y14_3.map aH.av).set (Int.toNat y14_1) [int 0,aA false,.sl 20 (C195+3) 0 (Int.toNat x252),.sl 21 (C195+4) 0 (Int.toNat 17),.sl 22 (C195+6) 0 (Int.toNat (x21.1.bC.length:Int)),.sc (.slice none 0 0),.sc (.slice none 0 0),.sc (.slice none 0 0)]⟩:aW)) (dZ rfl sQ rfl rfl ((hH _ (.head _)).trans rfl) rfl rfl (kG e251 (aH.gI _)) rfl rfl rfl) (fQ rfl)).d9 (λ_ h=>h.elim) λ_ h=>h.elim) ?_
 conv=>whnf
 refine .mk _ (aF (bK rfl rfl (.pt rfl rfl (bY e251)))) ?_
 conv=>whnf
 refine .mk _ (aF (dX rfl TJ rfl (.pt rfl rfl (bY e251)) (.pt _ _ _ _ _))) ?_
 conv=>whnf
 refine .mk _ (aF (dY (ps:=[(0,_)]) (rows:=[[.pt 18 v248 (Int.toNat y14_1) 0]]) rfl Tryz.underlying225 iH (.cons rfl .nil) (by kernel_rfl) rfl rfl rfl)) ?_
 conv=>whnf
 refine .mk ?_ ?_
 conv=>whnf
 refine .mk ?_ ?_
 conv=>whnf
 refine .mk ?_
 conv=>whnf
 refine .mk _ (aF (dA (j:=0) rfl Tryz.underlying225 dM rfl rfl rfl (.list rfl))) ?_
 conv=>whnf
 refine .mk _ (aF (gM rfl Tryz.underlying75 rfl (.pt rfl rfl rfl) rfl)) ?_
 conv=>whnf
 refine .mk λp264=>?_
 conv=>whnf
 refine .mk λx265 e265=>?_
 conv=>whnf
 refine .mk λx266 e266=>?_
 conv=>whnf
 refine .mk _ ⟨λ_=>aQ rfl rfl (.cons rfl .nil) eD (PC.mono (eB (s:=((y14_2.s,y14_2.bad):RS)) (id:=2) (aD:=(u2 2)) rfl p264) (R':=λy H'=>y=int x265/\H'=upd _ 2 (some (cK 125 (u2 2) x266))) (λy H' h=>⟨h.1.trans (congrArg int e265),h.2.trans (dN e266)⟩)),λ_ _ _=>trivial⟩ ?_
 rintro _ _ ⟨rfl,rfl⟩
 try dsimp only
 conv=>whnf
 refine .mk _ (aF (bK rfl rfl (.pt rfl rfl (bY e251)))) ?_
 conv=>whnf
 refine .mk _ ⟨λ_=>bW.d9 (fH (ob':=(⟨110,8,true,true,_,(y14_3.map aH.av).set (Int.toNat y14_1) [int x265,aA false,.sl 20 (C195+3) 0 (Int.toNat x252),.sl 21 (C195+4) 0 (Int.toNat 17),.sl 22 (C195+6) 0 (Int.toNat (x21.1.bC.length:Int)),.sc (.slice none 0 0),.sc (.slice none 0 0),.sc (.slice none 0 0)]⟩:aW)) (dZ rfl bX rfl rfl rfl rfl rfl (bY e251) rfl rfl rfl) (fQ kZ)) (λ_ h=>h) (λ_ _=>trivial),λ_ _ _=>trivial⟩ ?_
 rintro _ _ ⟨rfl,rfl⟩
 try dsimp only
 conv=>whnf
 refine .mk ?_
 conv=>whnf
 refine .mk ?_
 conv=>whnf
 exact .mk ⟨trivial,⟨⟨_,rfl,(.refl _)⟩,⟨_,rfl,(by first | exact (.refl _) | exact ⟨rfl,fV (.cons (.refl _) (.cons (.refl _) (.cons aU (.cons aU (.cons aU (.cons (.refl _) (.cons (.refl _) (.cons (.refl _) .nil))))))))⟩)⟩,⟨_,rfl,(.refl _)⟩,⟨_,rfl,(.refl _)⟩,⟨_,rfl,(.refl _)⟩,⟨_,rfl,(.refl _)⟩,⟨_,rfl,(.refl _)⟩,⟨_,rfl,(.refl _)⟩,⟨_,rfl,(.refl _)⟩,⟨_,rfl,(.refl _)⟩,⟨_,rfl,(.refl _)⟩,⟨_,rfl,(.refl _)⟩,⟨_,rfl,(.refl _)⟩,⟨_,rfl,(.refl _)⟩,⟨_,rfl,(.refl _)⟩,⟨_,rfl,(.refl _)⟩,⟨_,rfl,(.refl _)⟩,⟨_,rfl,(.refl _)⟩,⟨_,rfl,(.refl _)⟩,⟨_,rfl,(.refl _)⟩,⟨_,rfl,(.refl _)⟩,trivial⟩⟩
 intro _ _
 conv=>whnf
 try dsimp only
 repeat (conv in (uV _ _ _ _)=>whnf)
 exact .mk
 rintro ⟨y15_1,y15_2⟩ _
 conv=>whnf
 refine .mk trivial ?_
 try dsimp only
 repeat (conv in (uV _ _ _ _)=>whnf)
 conv=>whnf
 refine .mk _ (aF (bK rfl rfl (.pt rfl rfl (bY e251)))) ?_
 conv=>whnf
 refine .mk _ (aF (dX rfl E5 rfl (.pt rfl rfl (bY e251)) (.pt _ _ _ _ _))) ?_
 conv=>whnf
 refine .mk ?_ ?_
 conv=>whnf
 refine .mk _ (aF (bK rfl rfl (.pt rfl rfl (bY e251)))) ?_
 conv=>whnf
 refine .mk _ (aF (fG rfl uH rfl (.pt rfl rfl (bY e251)) rfl)) ?_
 conv=>whnf
 refine .mk _ (aF (gM rfl Tryz.underlying75 rfl (.pt rfl rfl rfl) rfl)) ?_
 conv=>whnf
 refine .mk λp269=>?_
 conv=>whnf
 refine .mk λx270 e270=>?_
 conv=>whnf
 refine .mk λx271 e271=>?_
 conv=>whnf
 refine .mk _ ⟨λ_=>aQ rfl rfl (.cons rfl (.cons rfl .nil)) l7 (PC.mono (mE (most:=1) (s:=((y15_1.s,y15_1.bad):RS)) (id:=2) (aD:=(u2 2)) rfl p269) (R':=λy H'=>y=int x270/\H'=upd _ 2 (some (cK 125 (u2 2) x271))) (λy H' h=>⟨h.1.trans (congrArg int e270),h.2.trans (dN e271)⟩)),λ_ _ _=>trivial⟩ ?_
 rintro _ _ ⟨rfl,rfl⟩
 try dsimp only
 conv=>whnf
 refine .mk λx272=>?_
 conv=>whnf
 refine .mk _ (aF (bK rfl rfl (.pt rfl rfl (bY e251)))) ?_
 conv=>whnf
 refine .mk _ ⟨λ_=>bW.d9 (fH (ob':=(⟨110,8,true,true,_,(y14_3.map aH.av).set (Int.toNat y14_1) [int y15_2,aA x272,.sl 20 (C195+3) 0 (Int.toNat x252),.sl 21 (C195+4) 0 (Int.toNat 17),.sl 22 (C195+6) 0 (Int.toNat (x21.1.bC.length:Int)),.sc (.slice none 0 0),.sc (.slice none 0 0),.sc (.slice none 0 0)]⟩:aW)) (dZ rfl uH rfl rfl rfl rfl rfl (bY e251) rfl rfl rfl) (fQ kZ)) (λ_ h=>h) (λ_ _=>trivial),λ_ _ _=>trivial⟩ ?_
 rintro _ _ ⟨rfl,rfl⟩
 try dsimp only
 conv=>whnf
 exact .mk rfl ⟨(by first | rfl | exact p97 ▸ rfl | exact p115 ▸ rfl | exact p183 ▸ rfl | exact lx254 ▸ rfl | exact lx257 ▸ rfl | exact lx260 ▸ rfl),rfl,rfl,rfl,rfl,rfl,rfl,rfl,rfl,rfl,rfl,rfl,rfl,rfl,rfl,rfl,rfl,rfl,rfl,rfl,rfl,trivial⟩
 rintro ⟨y16_1,y16_2⟩ _
 conv=>whnf
 refine .mk trivial ?_
 try dsimp only
 repeat (conv in (uV _ _ _ _)=>whnf)
 conv=>whnf
 refine .mk _ (aF (bK rfl rfl (.pt rfl rfl (bY e251)))) ?_
 conv=>whnf
 refine .mk _ (aF (dX rfl xM rfl (.pt rfl rfl (bY e251)) (.pt _ _ _ _ _))) ?_
 conv=>whnf
 refine .mk _ (aF (fG rfl xR rfl (.pt rfl rfl (bY e251)) rfl)) ?_
 conv=>whnf
 refine .mk ?_ ?_
 intro v275
 conv=>whnf
 refine .mk ?_ ?_
 conv=>whnf
 refine .mk ?_ ⟨⟨⟨_,rfl,aU⟩,⟨_,rfl,(.refl _)⟩,⟨_,rfl,(.refl _)⟩,⟨_,rfl,(.refl _)⟩,⟨_,rfl,(.refl _)⟩,trivial⟩,⟨⟨_,rfl,(.refl _)⟩,⟨_,rfl,(by first | exact (.refl _) | exact ⟨rfl,fV (.cons (.refl _) (.cons (.refl _) (.cons aU (.cons aU (.cons aU (.cons (.refl _) (.cons (.refl _) (.cons (.refl _) .nil))))))))⟩)⟩,⟨_,rfl,(.refl _)⟩,⟨_,rfl,(.refl _)⟩,⟨_,rfl,(.refl _)⟩,⟨_,rfl,(.refl _)⟩,⟨_,rfl,(.refl _)⟩,⟨_,rfl,(.refl _)⟩,⟨_,rfl,(.refl _)⟩,⟨_,rfl,(.refl _)⟩,⟨_,rfl,(.refl _)⟩,⟨_,rfl,(.refl _)⟩,⟨_,rfl,(.refl _)⟩,⟨_,rfl,(.refl _)⟩,⟨_,rfl,(.refl _)⟩,⟨_,rfl,(.refl _)⟩,⟨_,rfl,(.refl _)⟩,⟨_,rfl,(.refl _)⟩,⟨_,rfl,(.refl _)⟩,⟨_,rfl,(.refl _)⟩,⟨_,rfl,(.refl _)⟩,⟨_,rfl,(.refl _)⟩,trivial⟩⟩
 rintro ⟨y84_1,y84_2,y84_3⟩ _
 conv=>whnf
 try dsimp only
 repeat (conv in (uV _ _ _ _)=>whnf)
 refine .mk λx276=>?_
 conv=>whnf
 refine .mk ?_ ?_
 conv=>whnf
 refine .mk ?_
 conv=>whnf
 refine .mk λx277 e277=>?_
 conv=>whnf
 refine .mk _ (λH hH _=>iY rfl Tryz.underlying107 yM rfl rfl ((hH _ (by decide)).trans rfl) rfl rfl (Eq.symm rfl) (List.length_map _) e277) ?_
 conv=>whnf
 refine .mk ?_ ?_
 conv=>whnf
 refine .mk _ (aF (bK rfl rfl (.pt rfl rfl (bZ e277)))) ?_
 conv=>whnf
 refine .mk _ (aF (dX rfl NU rfl (.pt rfl rfl (bZ e277)) (.pt _ _ _ _ _))) ?_
 conv=>whnf
 refine .mk ?_ ?_
 intro v286
 conv=>whnf
 refine .mk _ (aF (gM rfl Tryz.underlying75 rfl (.pt rfl rfl rfl) rfl)) ?_
 conv=>whnf
 refine .mk λp287=>?_
 conv=>whnf
 refine .mk λx288 e288=>?_
 conv=>whnf
 refine .mk λx289 e289=>?_
 conv=>whnf
 refine .mk _ ⟨λ_=>aQ rfl rfl (.cons rfl (.cons rfl .nil)) l7 (PC.mono (mE (most:=30) (s:=((y84_2.s,y84_2.bad):RS)) (id:=2) (aD:=(u2 2)) rfl p287) (R':=λy H'=>y=int x288/\H'=upd _ 2 (some (cK 125 (u2 2) x289))) (λy H' h=>⟨h.1.trans (congrArg int e288),h.2.trans (dN e289)⟩)),λ_ _ _=>trivial⟩ ?_
 rintro _ _ ⟨rfl,rfl⟩
 try dsimp only
 conv=>whnf
 refine .mk λp290=>?_
 conv=>whnf
 refine .mk λx291 e291=>?_
 have lx291:x291.length=(Int.toNat x288):=by rw [<- e291];exact List.length_replicate
 conv=>whnf
 refine .mk _ ⟨λ_=>oW 42 (g:=bQ.av) (z0:=((⟨0,0,0⟩:bQ):bQ)) .any rfl Tryz.underlying187 xV DW rfl rfl rfl p290 (.cons (.sc _) (.cons (.sc _) (.cons (.sc _) .nil))) e291,λ_ _ _=>trivial⟩ ?_
 rintro _ _ ⟨v292,-,rfl,rfl⟩
 try dsimp only
 conv=>whnf
 refine .mk _ (aF (bK rfl rfl (.pt rfl rfl (bZ e277)))) ?_
 conv=>whnf
 refine .mk _ ⟨λ_=>bW.d9 (fH (ob':=(⟨190,4,true,true,_,(y84_3.map aT.av).set (Int.toNat y84_1) [.sl 42 v292 0 (Int.toNat x288),int x277.dU.a0,int x277.dU.a1,int x277.dU.a2]⟩:aW)) (dZ rfl sW rfl rfl rfl rfl rfl (bZ e277) rfl rfl rfl) (fQ rfl)) (λ_ h=>h) (λ_ _=>trivial),λ_ _ _=>trivial⟩ ?_
 rintro _ _ ⟨rfl,rfl⟩
 try dsimp only
 conv=>whnf
 refine .mk ?_
 conv=>whnf
 refine .mk _ (λH hH _=>bK rfl rfl (.pt ((hH _ (by decide)).trans rfl) rfl (bY e277))) ?_
 conv=>whnf
 refine .mk _ (λH hH _=>fG rfl sW rfl (.pt ((hH _ (by decide)).trans rfl) rfl (bY e277)) rfl) ?_
 conv=>whnf
 refine .mk ?_ ?_
 intro v295
 conv=>whnf
 refine .mk ?_ ?_
 conv=>whnf
 refine .mk ?_
 intro _ _
 conv=>whnf
 try dsimp only
 repeat (conv in (uV _ _ _ _)=>whnf)
 refine .mk λx296=>?_
 conv=>whnf
 refine .mk ?_
 conv=>whnf
 exact .mk
 intro _ _
 conv=>whnf
 try dsimp only
 repeat (conv in (uV _ _ _ _)=>whnf)
 exact .mk rfl ⟨(by first | rfl | exact p97 ▸ rfl | exact p115 ▸ rfl | exact p183 ▸ rfl | exact lx257 ▸ rfl | exact lx260 ▸ rfl | exact lx291 ▸ rfl),(by first | rfl | exact lx291 ▸ rfl | exact lx291 ▸ rfl),rfl,rfl,rfl,rfl,rfl,rfl,rfl,rfl,rfl,rfl,rfl,rfl,rfl,rfl,rfl,rfl,rfl,rfl,rfl,rfl,rfl,rfl,trivial⟩
 rintro ⟨y88_1,y88_2⟩ _
 conv=>whnf
 refine .mk trivial ?_
 try dsimp only
 repeat (conv in (uV _ _ _ _)=>whnf)
 conv=>whnf
 refine .mk λp297=>?_
 conv=>whnf
 refine .mk _ (aF (oM rfl Tryz.underlying75 rfl (.pt rfl rfl rfl) rfl)) ?_
 conv=>whnf
 refine .mk _ (aF (bK rfl rfl (.pt rfl rfl (bY e277)))) ?_
 conv=>whnf
 refine .mk _ (aF (fG rfl sW rfl (.pt rfl rfl (bY e277)) rfl)) ?_
 conv=>whnf
 refine .mk λx298=>?_
 conv=>whnf
 refine .mk ?_ ?_
 conv=>whnf
 refine .mk ?_ ?_
 conv=>whnf
 refine .mk _ (aF (bK rfl rfl (.pt rfl rfl (bY e277)))) ?_
 conv=>whnf
 refine .mk _ ⟨λ_=>bW.d9 (fH (ob':=(⟨190,4,true,true,_,(y84_3.map aT.av).set (Int.toNat y84_1) [.sc (.slice none 0 0),int x277.dU.a0,int x277.dU.a1,int x277.dU.a2]⟩:aW)) (dZ rfl sW rfl rfl rfl rfl rfl (bY e277) rfl rfl rfl) (fQ kZ)) (λ_ h=>h) (λ_ _=>trivial),λ_ _ _=>trivial⟩ ?_
 rintro _ _ ⟨rfl,rfl⟩
 try dsimp only
 conv=>whnf
 exact .mk ⟨trivial,⟨⟨_,rfl,(by first | exact (.refl _) | exact ⟨rfl,fV (.cons (.nil _) (.cons (.refl _) (.cons (.refl _) (.cons (.refl _) .nil))))⟩)⟩,⟨_,rfl,(.refl _)⟩,⟨_,rfl,(.refl _)⟩,⟨_,rfl,(.refl _)⟩,⟨_,rfl,(.refl _)⟩,⟨_,rfl,(.refl _)⟩,⟨_,rfl,(.refl _)⟩,⟨_,rfl,(.refl _)⟩,⟨_,rfl,(.refl _)⟩,⟨_,rfl,(.refl _)⟩,⟨_,rfl,(.refl _)⟩,⟨_,rfl,(.refl _)⟩,⟨_,rfl,(.refl _)⟩,⟨_,rfl,(.refl _)⟩,⟨_,rfl,(.refl _)⟩,⟨_,rfl,(.refl _)⟩,⟨_,rfl,(.refl _)⟩,⟨_,rfl,(.refl _)⟩,⟨_,rfl,(.refl _)⟩,⟨_,rfl,(.refl _)⟩,⟨_,rfl,(.refl _)⟩,⟨_,rfl,(.refl _)⟩,trivial⟩⟩
 conv=>whnf
 exact .mk ⟨trivial,⟨⟨_,rfl,(by first | exact (.refl _) | exact ⟨rfl,fV (.cons (gB (ob:=(⟨170,3,false,true,v292,y88_2.map bQ.av⟩:aW)) rfl rfl rfl rfl rfl rfl) (.cons (.refl _) (.cons (.refl _) (.cons (.refl _) .nil))))⟩)⟩,⟨_,rfl,(.refl _)⟩,⟨_,rfl,(.refl _)⟩,⟨_,rfl,(.refl _)⟩,⟨_,rfl,(.refl _)⟩,⟨_,rfl,(.refl _)⟩,⟨_,rfl,(.refl _)⟩,⟨_,rfl,(.refl _)⟩,⟨_,rfl,(.refl _)⟩,⟨_,rfl,(.refl _)⟩,⟨_,rfl,(.refl _)⟩,⟨_,rfl,(.refl _)⟩,⟨_,rfl,(.refl _)⟩,⟨_,rfl,(.refl _)⟩,⟨_,rfl,(.refl _)⟩,⟨_,rfl,(.refl _)⟩,⟨_,rfl,(.refl _)⟩,⟨_,rfl,(.refl _)⟩,⟨_,rfl,(.refl _)⟩,⟨_,rfl,(.refl _)⟩,⟨_,rfl,(.refl _)⟩,⟨_,rfl,(.refl _)⟩,trivial⟩⟩
 intro _ _
 conv=>whnf
 try dsimp only
 repeat (conv in (uV _ _ _ _)=>whnf)
 exact .mk
 rintro ⟨y87_1,y87_2⟩ _
 conv=>whnf
 refine .mk trivial ?_
 try dsimp only
 repeat (conv in (uV _ _ _ _)=>whnf)
 conv=>whnf
 refine .mk ?_
 conv=>whnf
 refine .mk _ (λH hH _=>bK rfl rfl (.pt ((hH _ (by decide)).trans rfl) rfl (bY e277))) ?_
 conv=>whnf
 refine .mk _ (λH hH _=>dX rfl wM rfl (.pt ((hH _ (by decide)).trans rfl) rfl (bY e277)) (.pt _ _ _ _ _)) ?_
 conv=>whnf
 refine .mk _ (λH hH _=>aN (y:=.pt 20 (C195+3) (Int.toNat y84_1) 1) (tZ rfl Tryz.underlying188 bX rfl rfl ((hH _ (by decide)).trans rfl) rfl (bY e277) (by decide)) rfl) ?_
 conv=>whnf
 refine .mk _ (λH hH _=>bK rfl rfl (.pt ((hH _ (by decide)).trans rfl) rfl (bY e277))) ?_
 conv=>whnf
 refine .mk _ (λH hH _=>dX rfl wM rfl (.pt ((hH _ (by decide)).trans rfl) rfl (bY e277)) (.pt _ _ _ _ _)) ?_
 conv=>whnf
 refine .mk _ (λH hH _=>aN (y:=.pt 20 (C195+3) (Int.toNat y84_1) 2) (tZ rfl Tryz.underlying188 bX rfl rfl ((hH _ (by decide)).trans rfl) rfl (bY e277) (by decide)) rfl) ?_
 conv=>whnf
 refine .mk _ (λH hH _=>bK rfl rfl (.pt ((hH _ (by decide)).trans rfl) rfl (bY e277))) ?_
 conv=>whnf
 refine .mk _ (λH hH _=>dX rfl wM rfl (.pt ((hH _ (by decide)).trans rfl) rfl (bY e277)) (.pt _ _ _ _ _)) ?_
 conv=>whnf
 refine .mk _ (λH hH _=>aN (y:=.pt 20 (C195+3) (Int.toNat y84_1) 3) (tZ rfl Tryz.underlying188 bX rfl rfl ((hH _ (by decide)).trans rfl) rfl (bY e277) (by decide)) rfl) ?_
 conv=>whnf
 refine .mk _ (λH hH _=>dY (ps:=[(0,_),(1,_),(2,_)]) (rows:=[[.pt 20 (C195+3) (Int.toNat y84_1) 1],[.pt 20 (C195+3) (Int.toNat y84_1) 2],[.pt 20 (C195+3) (Int.toNat y84_1) 3]]) rfl Tryz.underlying225 iH (.cons rfl (.cons rfl (.cons rfl .nil))) (by kernel_rfl) rfl rfl rfl) ?_
 conv=>whnf
 refine .mk ?_ ?_
 conv=>whnf
 refine .mk ?_ ?_
 conv=>whnf
 refine .mk ?_
 conv=>whnf
 refine .mk _ (aF (dA (j:=0) rfl Tryz.underlying225 dM rfl rfl rfl (.list rfl))) ?_
 conv=>whnf
 refine .mk _ (aF (gM rfl Tryz.underlying75 rfl (.pt rfl rfl rfl) rfl)) ?_
 conv=>whnf
 refine .mk λp302=>?_
 conv=>whnf
 refine .mk λx303 e303=>?_
 conv=>whnf
 refine .mk λx304 e304=>?_
 conv=>whnf
 refine .mk _ ⟨λ_=>aQ rfl rfl (.cons rfl .nil) eD (PC.mono (eB (s:=((y87_1.s,y87_1.bad):RS)) (id:=2) (aD:=(u2 2)) rfl p302) (R':=λy H'=>y=int x303/\H'=upd _ 2 (some (cK 125 (u2 2) x304))) (λy H' h=>⟨h.1.trans (congrArg int e303),h.2.trans (dN e304)⟩)),λ_ _ _=>trivial⟩ ?_
 rintro _ _ ⟨rfl,rfl⟩
 try dsimp only
 conv=>whnf
 refine .mk _ (aF (bK rfl rfl (.pt rfl rfl (bY e277)))) ?_
 conv=>whnf
 refine .mk λx305 e305=>?_
 have fx305:=gT e277 e305;have lx305:=gQ e305 (rfl:y84_3.length=y84_3.length)
 conv=>whnf
 refine .mk _ ⟨λ_=>bW.d9 (fH (ob':=(⟨190,4,true,true,_,x305.map aT.av⟩:aW)) (dZ rfl bX rfl rfl rfl rfl rfl (bY e277) rfl rfl rfl) (fQ (kZ.trans (iE e305)))) (λ_ h=>h) (λ_ _=>trivial),λ_ _ _=>trivial⟩ ?_
 rintro _ _ ⟨rfl,rfl⟩
 try dsimp only
 conv=>whnf
 refine .mk ?_
 conv=>whnf
 refine .mk ?_
 conv=>whnf
 refine .mk _ (aF (dA (j:=1) rfl Tryz.underlying225 dM rfl rfl rfl (.list rfl))) ?_
 conv=>whnf
 refine .mk _ (aF (gM rfl Tryz.underlying75 rfl (.pt rfl rfl rfl) rfl)) ?_
 conv=>whnf
 refine .mk λp306=>?_
 conv=>whnf
 refine .mk λx307 e307=>?_
 conv=>whnf
 refine .mk λx308 e308=>?_
 conv=>whnf
 refine .mk _ ⟨λ_=>aQ rfl rfl (.cons rfl .nil) eD (PC.mono (eB (s:=x304) (id:=2) (aD:=(u2 2)) rfl p306) (R':=λy H'=>y=int x307/\H'=upd _ 2 (some (cK 125 (u2 2) x308))) (λy H' h=>⟨h.1.trans (congrArg int e307),h.2.trans (dN e308)⟩)),λ_ _ _=>trivial⟩ ?_
 rintro _ _ ⟨rfl,rfl⟩
 try dsimp only
 conv=>whnf
 refine .mk _ (aF (bK rfl rfl (.pt rfl rfl (bZ fx305)))) ?_
 conv=>whnf
 refine .mk λx309 e309=>?_
 have fx309:=gT fx305 e309;have lx309:=gQ e309 lx305
 conv=>whnf
 refine .mk _ ⟨λ_=>bW.d9 (fH (ob':=(⟨190,4,true,true,_,x309.map aT.av⟩:aW)) (dZ rfl bX rfl rfl rfl rfl rfl (bZ fx305) rfl rfl rfl) (fQ (iE e309))) (λ_ h=>h) (λ_ _=>trivial),λ_ _ _=>trivial⟩ ?_
 rintro _ _ ⟨rfl,rfl⟩
 try dsimp only
 conv=>whnf
 refine .mk ?_
 conv=>whnf
 refine .mk ?_
 conv=>whnf
 refine .mk _ (aF (dA (j:=2) rfl Tryz.underlying225 dM rfl rfl rfl (.list rfl))) ?_
 conv=>whnf
 refine .mk _ (aF (gM rfl Tryz.underlying75 rfl (.pt rfl rfl rfl) rfl)) ?_
 conv=>whnf
 refine .mk λp310=>?_
 conv=>whnf
 refine .mk λx311 e311=>?_
 conv=>whnf
 refine .mk λx312 e312=>?_
 conv=>whnf
 refine .mk _ ⟨λ_=>aQ rfl rfl (.cons rfl .nil) eD (PC.mono (eB (s:=x308) (id:=2) (aD:=(u2 2)) rfl p310) (R':=λy H'=>y=int x311/\H'=upd _ 2 (some (cK 125 (u2 2) x312))) (λy H' h=>⟨h.1.trans (congrArg int e311),h.2.trans (dN e312)⟩)),λ_ _ _=>trivial⟩ ?_
 rintro _ _ ⟨rfl,rfl⟩
 try dsimp only
 conv=>whnf
 refine .mk _ (aF (bK rfl rfl (.pt rfl rfl (bZ fx309)))) ?_
 conv=>whnf
 refine .mk λx313 e313=>?_
 have fx313:=gT fx309 e313;have lx313:=gQ e313 lx309
 conv=>whnf
 refine .mk _ ⟨λ_=>bW.d9 (fH (ob':=(⟨190,4,true,true,_,x313.map aT.av⟩:aW)) (dZ rfl bX rfl rfl rfl rfl rfl (bZ fx309) rfl rfl rfl) (fQ (iE e313))) (λ_ h=>h) (λ_ _=>trivial),λ_ _ _=>trivial⟩ ?_
 rintro _ _ ⟨rfl,rfl⟩
 try dsimp only
 conv=>whnf
 refine .mk ?_
 conv=>whnf
 refine .mk ?_
 conv=>whnf
 exact .mk ⟨trivial,⟨⟨_,rfl,(.refl _)⟩,⟨_,rfl,(by first | exact (.refl _) | exact ⟨rfl,fV (.cons (.refl _) (.cons (.refl _) (.cons aU (.cons aU (.cons aU (.cons (.refl _) (.cons (.refl _) (.cons (.refl _) .nil))))))))⟩)⟩,⟨_,rfl,(.refl _)⟩,⟨_,rfl,(.refl _)⟩,⟨_,rfl,(.refl _)⟩,⟨_,rfl,(.refl _)⟩,⟨_,rfl,(.refl _)⟩,⟨_,rfl,(.refl _)⟩,⟨_,rfl,(.refl _)⟩,⟨_,rfl,(.refl _)⟩,⟨_,rfl,(.refl _)⟩,⟨_,rfl,(.refl _)⟩,⟨_,rfl,(.refl _)⟩,⟨_,rfl,(.refl _)⟩,⟨_,rfl,(.refl _)⟩,⟨_,rfl,(.refl _)⟩,⟨_,rfl,(.refl _)⟩,⟨_,rfl,(.refl _)⟩,⟨_,rfl,(.refl _)⟩,⟨_,rfl,(.refl _)⟩,⟨_,rfl,(.refl _)⟩,⟨_,rfl,(.refl _)⟩,trivial⟩⟩
 intro _ _
 conv=>whnf
 try dsimp only
 repeat (conv in (uV _ _ _ _)=>whnf)
 exact .mk
 intro _ _
 conv=>whnf
 refine .mk trivial ?_
 try dsimp only
 repeat (conv in (uV _ _ _ _)=>whnf)
 conv=>whnf
 exact .mk
 intro _ _
 conv=>whnf
 refine .mk trivial ?_
 try dsimp only
 repeat (conv in (uV _ _ _ _)=>whnf)
 conv=>whnf
 refine .mk λp314=>?_
 conv=>whnf
 refine .mk λx315=>?_
 conv=>whnf
 exact .mk ⟨⟨⟨_,rfl,aU⟩,⟨_,rfl,(.refl _)⟩,⟨_,rfl,(.refl _)⟩,⟨_,rfl,(.refl _)⟩,⟨_,rfl,(.refl _)⟩,trivial⟩,⟨⟨_,rfl,(.refl _)⟩,⟨_,rfl,(by first | exact (.refl _) | exact ⟨rfl,fV (.cons (.refl _) (.cons (.refl _) (.cons aU (.cons aU (.cons aU (.cons (.refl _) (.cons (.refl _) (.cons (.refl _) .nil))))))))⟩)⟩,⟨_,rfl,(.refl _)⟩,⟨_,rfl,(.refl _)⟩,⟨_,rfl,(.refl _)⟩,⟨_,rfl,(.refl _)⟩,⟨_,rfl,(.refl _)⟩,⟨_,rfl,(.refl _)⟩,⟨_,rfl,(.refl _)⟩,⟨_,rfl,(.refl _)⟩,⟨_,rfl,(.refl _)⟩,⟨_,rfl,(.refl _)⟩,⟨_,rfl,(.refl _)⟩,⟨_,rfl,(.refl _)⟩,⟨_,rfl,(.refl _)⟩,⟨_,rfl,(.refl _)⟩,⟨_,rfl,(.refl _)⟩,⟨_,rfl,(.refl _)⟩,⟨_,rfl,(.refl _)⟩,⟨_,rfl,(.refl _)⟩,⟨_,rfl,(.refl _)⟩,⟨_,rfl,(.refl _)⟩,trivial⟩⟩
 conv=>whnf
 exact .mk ⟨trivial,⟨⟨_,rfl,(.refl _)⟩,⟨_,rfl,(by first | exact (.refl _) | exact ⟨rfl,fV (.cons (.refl _) (.cons (.refl _) (.cons aU (.cons aU (.cons aU (.cons (.refl _) (.cons (.refl _) (.cons (.refl _) .nil))))))))⟩)⟩,⟨_,rfl,(.refl _)⟩,⟨_,rfl,(.refl _)⟩,⟨_,rfl,(.refl _)⟩,⟨_,rfl,(.refl _)⟩,⟨_,rfl,(.refl _)⟩,⟨_,rfl,(.refl _)⟩,⟨_,rfl,(.refl _)⟩,⟨_,rfl,(.refl _)⟩,⟨_,rfl,(.refl _)⟩,⟨_,rfl,(.refl _)⟩,⟨_,rfl,(.refl _)⟩,⟨_,rfl,(.refl _)⟩,⟨_,rfl,(.refl _)⟩,⟨_,rfl,(.refl _)⟩,⟨_,rfl,(.refl _)⟩,⟨_,rfl,(.refl _)⟩,⟨_,rfl,(.refl _)⟩,⟨_,rfl,(.refl _)⟩,⟨_,rfl,(.refl _)⟩,trivial⟩⟩
 intro _ _
 conv=>whnf
 try dsimp only
 repeat (conv in (uV _ _ _ _)=>whnf)
 exact .mk
 intro _ _
 conv=>whnf
 refine .mk trivial ?_
 try dsimp only
 repeat (conv in (uV _ _ _ _)=>whnf)
 conv=>whnf
 refine .mk λp316=>?_
 conv=>whnf
 refine .mk _ (aF (bK rfl rfl (.pt rfl rfl (bY e251)))) ?_
 conv=>whnf
 refine .mk _ (aF (dX rfl F4 rfl (.pt rfl rfl (bY e251)) (.pt _ _ _ _ _))) ?_
 conv=>whnf
 refine .mk _ (aF (fG rfl kV rfl (.pt rfl rfl (bY e251)) rfl)) ?_
 conv=>whnf
 refine .mk ?_ ?_
 intro v319
 conv=>whnf
 refine .mk ?_ ?_
 conv=>whnf
 refine .mk ?_ ⟨⟨⟨_,rfl,aU⟩,⟨_,rfl,(.refl _)⟩,⟨_,rfl,(.refl _)⟩,⟨_,rfl,(.refl _)⟩,⟨_,rfl,(.refl _)⟩,trivial⟩,⟨⟨_,rfl,(.refl _)⟩,⟨_,rfl,(by first | exact (.refl _) | exact ⟨rfl,fV (.cons (.refl _) (.cons (.refl _) (.cons aU (.cons aU (.cons aU (.cons (.refl _) (.cons (.refl _) (.cons (.refl _) .nil))))))))⟩)⟩,⟨_,rfl,(.refl _)⟩,⟨_,rfl,(.refl _)⟩,⟨_,rfl,(.refl _)⟩,⟨_,rfl,(.refl _)⟩,⟨_,rfl,(.refl _)⟩,⟨_,rfl,(.refl _)⟩,⟨_,rfl,(.refl _)⟩,⟨_,rfl,(.refl _)⟩,⟨_,rfl,(.refl _)⟩,⟨_,rfl,(.refl _)⟩,⟨_,rfl,(.refl _)⟩,⟨_,rfl,(.refl _)⟩,⟨_,rfl,(.refl _)⟩,⟨_,rfl,(.refl _)⟩,⟨_,rfl,(.refl _)⟩,⟨_,rfl,(.refl _)⟩,⟨_,rfl,(.refl _)⟩,⟨_,rfl,(.refl _)⟩,⟨_,rfl,(.refl _)⟩,⟨_,rfl,(.refl _)⟩,trivial⟩⟩
 rintro ⟨y95_1,y95_2,y95_3⟩ _
 conv=>whnf
 try dsimp only
 repeat (conv in (uV _ _ _ _)=>whnf)
 refine .mk λx320=>?_
 conv=>whnf
 refine .mk ?_ ?_
 conv=>whnf
 refine .mk ?_
 conv=>whnf
 refine .mk λx321 e321=>?_
 conv=>whnf
 refine .mk _ (λH hH _=>iY rfl Tryz.underlying23 bX rfl rfl ((hH _ (by decide)).trans rfl) rfl rfl (Eq.symm rfl) (List.length_map _) e321) ?_
 conv=>whnf
 refine .mk ?_ ?_
 conv=>whnf
 refine .mk _ (aF (dY (ps:=[(0,_)]) (rows:=[[.pt 21 (C195+4) (Int.toNat y95_1) 0]]) rfl Tryz.underlying225 iH (.cons rfl .nil) (by kernel_rfl) rfl rfl rfl)) ?_
 conv=>whnf
 refine .mk ?_ ?_
 conv=>whnf
 refine .mk ?_ ?_
 conv=>whnf
 refine .mk ?_
 conv=>whnf
 refine .mk _ (aF (dA (j:=0) rfl Tryz.underlying225 dM rfl rfl rfl (.list rfl))) ?_
 conv=>whnf
 refine .mk _ (aF (gM rfl Tryz.underlying75 rfl (.pt rfl rfl rfl) rfl)) ?_
 conv=>whnf
 refine .mk λp328=>?_
 conv=>whnf
 refine .mk λx329 e329=>?_
 conv=>whnf
 refine .mk λx330 e330=>?_
 conv=>whnf
 refine .mk _ ⟨λ_=>aQ rfl rfl (.cons rfl .nil) eD (PC.mono (eB (s:=((y95_2.s,y95_2.bad):RS)) (id:=2) (aD:=(u2 2)) rfl p328) (R':=λy H'=>y=int x329/\H'=upd _ 2 (some (cK 125 (u2 2) x330))) (λy H' h=>⟨h.1.trans (congrArg int e329),h.2.trans (dN e330)⟩)),λ_ _ _=>trivial⟩ ?_
 rintro _ _ ⟨rfl,rfl⟩
 try dsimp only
 conv=>whnf
 refine .mk _ (aF (bK rfl rfl (.pt rfl rfl (bZ e321)))) ?_
 conv=>whnf
 refine .mk λx331 e331=>?_
 have fx331:=gT e321 e331;have lx331:=gQ e331 (rfl:y95_3.length=y95_3.length)
 conv=>whnf
 refine .mk _ ⟨λ_=>bW.d9 (fH (ob':=(⟨3,1,true,true,_,x331.map fI⟩:aW)) (dZ rfl bX rfl rfl rfl rfl rfl (bZ e321) rfl rfl rfl) (fQ (iE e331))) (λ_ h=>h) (λ_ _=>trivial),λ_ _ _=>trivial⟩ ?_
 rintro _ _ ⟨rfl,rfl⟩
 try dsimp only
 conv=>whnf
 refine .mk ?_
 conv=>whnf
 refine .mk ?_
 conv=>whnf
 exact .mk ⟨trivial,⟨⟨_,rfl,(.refl _)⟩,⟨_,rfl,(by first | exact (.refl _) | exact ⟨rfl,fV (.cons (.refl _) (.cons (.refl _) (.cons aU (.cons aU (.cons aU (.cons (.refl _) (.cons (.refl _) (.cons (.refl _) .nil))))))))⟩)⟩,⟨_,rfl,(.refl _)⟩,⟨_,rfl,(.refl _)⟩,⟨_,rfl,(.refl _)⟩,⟨_,rfl,(.refl _)⟩,⟨_,rfl,(.refl _)⟩,⟨_,rfl,(.refl _)⟩,⟨_,rfl,(.refl _)⟩,⟨_,rfl,(.refl _)⟩,⟨_,rfl,(.refl _)⟩,⟨_,rfl,(.refl _)⟩,⟨_,rfl,(.refl _)⟩,⟨_,rfl,(.refl _)⟩,⟨_,rfl,(.refl _)⟩,⟨_,rfl,(.refl _)⟩,⟨_,rfl,(.refl _)⟩,⟨_,rfl,(.refl _)⟩,⟨_,rfl,(.refl _)⟩,⟨_,rfl,(.refl _)⟩,⟨_,rfl,(.refl _)⟩,⟨_,rfl,(.refl _)⟩,trivial⟩⟩
 intro _ _
 conv=>whnf
 try dsimp only
 repeat (conv in (uV _ _ _ _)=>whnf)
 exact .mk
 intro _ _
 conv=>whnf
 refine .mk trivial ?_
 try dsimp only
 repeat (conv in (uV _ _ _ _)=>whnf)
 conv=>whnf
 exact .mk
 intro _ _
 conv=>whnf
 refine .mk trivial ?_
 try dsimp only
 repeat (conv in (uV _ _ _ _)=>whnf)
 conv=>whnf
 refine .mk λp332=>?_
 conv=>whnf
 refine .mk λx333=>?_
 conv=>whnf
 exact .mk ⟨⟨⟨_,rfl,aU⟩,⟨_,rfl,(.refl _)⟩,⟨_,rfl,(.refl _)⟩,⟨_,rfl,(.refl _)⟩,⟨_,rfl,(.refl _)⟩,trivial⟩,⟨⟨_,rfl,(.refl _)⟩,⟨_,rfl,(by first | exact (.refl _) | exact ⟨rfl,fV (.cons (.refl _) (.cons (.refl _) (.cons aU (.cons aU (.cons aU (.cons (.refl _) (.cons (.refl _) (.cons (.refl _) .nil))))))))⟩)⟩,⟨_,rfl,(.refl _)⟩,⟨_,rfl,(.refl _)⟩,⟨_,rfl,(.refl _)⟩,⟨_,rfl,(.refl _)⟩,⟨_,rfl,(.refl _)⟩,⟨_,rfl,(.refl _)⟩,⟨_,rfl,(.refl _)⟩,⟨_,rfl,(.refl _)⟩,⟨_,rfl,(.refl _)⟩,⟨_,rfl,(.refl _)⟩,⟨_,rfl,(.refl _)⟩,⟨_,rfl,(.refl _)⟩,⟨_,rfl,(.refl _)⟩,⟨_,rfl,(.refl _)⟩,⟨_,rfl,(.refl _)⟩,⟨_,rfl,(.refl _)⟩,⟨_,rfl,(.refl _)⟩,⟨_,rfl,(.refl _)⟩,⟨_,rfl,(.refl _)⟩,⟨_,rfl,(.refl _)⟩,trivial⟩⟩
 conv=>whnf
 exact .mk ⟨trivial,⟨⟨_,rfl,(.refl _)⟩,⟨_,rfl,(by first | exact (.refl _) | exact ⟨rfl,fV (.cons (.refl _) (.cons (.refl _) (.cons aU (.cons aU (.cons aU (.cons (.refl _) (.cons (.refl _) (.cons (.refl _) .nil))))))))⟩)⟩,⟨_,rfl,(.refl _)⟩,⟨_,rfl,(.refl _)⟩,⟨_,rfl,(.refl _)⟩,⟨_,rfl,(.refl _)⟩,⟨_,rfl,(.refl _)⟩,⟨_,rfl,(.refl _)⟩,⟨_,rfl,(.refl _)⟩,⟨_,rfl,(.refl _)⟩,⟨_,rfl,(.refl _)⟩,⟨_,rfl,(.refl _)⟩,⟨_,rfl,(.refl _)⟩,⟨_,rfl,(.refl _)⟩,⟨_,rfl,(.refl _)⟩,⟨_,rfl,(.refl _)⟩,⟨_,rfl,(.refl _)⟩,⟨_,rfl,(.refl _)⟩,⟨_,rfl,(.refl _)⟩,⟨_,rfl,(.refl _)⟩,⟨_,rfl,(.refl _)⟩,trivial⟩⟩
 intro _ _
 conv=>whnf
 try dsimp only
 repeat (conv in (uV _ _ _ _)=>whnf)
 exact .mk
 intro _ _
 conv=>whnf
 refine .mk trivial ?_
 try dsimp only
 repeat (conv in (uV _ _ _ _)=>whnf)
 conv=>whnf
 refine .mk λp334=>?_
 conv=>whnf
 refine .mk _ (aF (bK rfl rfl (.pt rfl rfl (bY e251)))) ?_
 conv=>whnf
 refine .mk _ (aF (dX rfl xJ rfl (.pt rfl rfl (bY e251)) (.pt _ _ _ _ _))) ?_
 conv=>whnf
 refine .mk _ (aF (fG rfl y8 rfl (.pt rfl rfl (bY e251)) rfl)) ?_
 conv=>whnf
 refine .mk ?_ ?_
 intro v337
 conv=>whnf
 refine .mk ?_ ?_
 conv=>whnf
 refine .mk ?_ ⟨⟨⟨_,rfl,aU⟩,⟨_,rfl,(.refl _)⟩,⟨_,rfl,(.refl _)⟩,⟨_,rfl,(.refl _)⟩,⟨_,rfl,(.refl _)⟩,trivial⟩,⟨⟨_,rfl,(.refl _)⟩,⟨_,rfl,(by first | exact (.refl _) | exact ⟨rfl,fV (.cons (.refl _) (.cons (.refl _) (.cons aU (.cons aU (.cons aU (.cons (.refl _) (.cons (.refl _) (.cons (.refl _) .nil))))))))⟩)⟩,⟨_,rfl,(.refl _)⟩,⟨_,rfl,(.refl _)⟩,⟨_,rfl,(.refl _)⟩,⟨_,rfl,(.refl _)⟩,⟨_,rfl,(.refl _)⟩,⟨_,rfl,(.refl _)⟩,⟨_,rfl,(.refl _)⟩,⟨_,rfl,(.refl _)⟩,⟨_,rfl,(.refl _)⟩,⟨_,rfl,(.refl _)⟩,⟨_,rfl,(.refl _)⟩,⟨_,rfl,(.refl _)⟩,⟨_,rfl,(.refl _)⟩,⟨_,rfl,(.refl _)⟩,⟨_,rfl,(.refl _)⟩,⟨_,rfl,(.refl _)⟩,⟨_,rfl,(.refl _)⟩,⟨_,rfl,(.refl _)⟩,⟨_,rfl,(.refl _)⟩,⟨_,rfl,(.refl _)⟩,trivial⟩⟩
 rintro ⟨y101_1,y101_2,y101_3⟩ _
 conv=>whnf
 try dsimp only
 repeat (conv in (uV _ _ _ _)=>whnf)
 refine .mk λx338=>?_
 conv=>whnf
 refine .mk ?_ ?_
 conv=>whnf
 refine .mk ?_
 conv=>whnf
 refine .mk λx339 e339=>?_
 conv=>whnf
 refine .mk _ (λH hH _=>iY rfl Tryz.underlying108 B5 rfl rfl ((hH _ (by decide)).trans rfl) rfl rfl (Eq.symm rfl) (List.length_map _) e339) ?_
 conv=>whnf
 refine .mk ?_ ?_
 conv=>whnf
 refine .mk ?_
 conv=>whnf
 refine .mk _ (λH hH _=>bK rfl rfl (.pt ((hH _ (by decide)).trans rfl) rfl (bZ e339))) ?_
 conv=>whnf
 refine .mk _ (λH hH _=>dX rfl TM rfl (.pt ((hH _ (by decide)).trans rfl) rfl (bZ e339)) (.pt _ _ _ _ _)) ?_
 conv=>whnf
 refine .mk _ (λH hH _=>bK rfl rfl (.pt ((hH _ (by decide)).trans rfl) rfl (bZ e339))) ?_
 conv=>whnf
 refine .mk _ (λH hH _=>dX rfl VM rfl (.pt ((hH _ (by decide)).trans rfl) rfl (bZ e339)) (.pt _ _ _ _ _)) ?_
 conv=>whnf
 refine .mk _ (λH hH _=>bK rfl rfl (.pt ((hH _ (by decide)).trans rfl) rfl (bZ e339))) ?_
 conv=>whnf
 refine .mk _ (λH hH _=>dX rfl PN rfl (.pt ((hH _ (by decide)).trans rfl) rfl (bZ e339)) (.pt _ _ _ _ _)) ?_
 conv=>whnf
 refine .mk _ (λH hH _=>bK rfl rfl (.pt ((hH _ (by decide)).trans rfl) rfl (bZ e339))) ?_
 conv=>whnf
 refine .mk _ (λH hH _=>dX rfl NA rfl (.pt ((hH _ (by decide)).trans rfl) rfl (bZ e339)) (.pt _ _ _ _ _)) ?_
 conv=>whnf
 refine .mk _ (λH hH _=>bK rfl rfl (.pt ((hH _ (by decide)).trans rfl) rfl (bZ e339))) ?_
 conv=>whnf
 refine .mk _ (λH hH _=>dX rfl NI rfl (.pt ((hH _ (by decide)).trans rfl) rfl (bZ e339)) (.pt _ _ _ _ _)) ?_
 conv=>whnf
 refine .mk _ (λH hH _=>bK rfl rfl (.pt ((hH _ (by decide)).trans rfl) rfl (bZ e339))) ?_
 conv=>whnf
 refine .mk _ (λH hH _=>dX rfl RF rfl (.pt ((hH _ (by decide)).trans rfl) rfl (bZ e339)) (.pt _ _ _ _ _)) ?_
 conv=>whnf
 refine .mk _ (λH hH _=>bK rfl rfl (.pt ((hH _ (by decide)).trans rfl) rfl (bZ e339))) ?_
 conv=>whnf
 refine .mk _ (λH hH _=>dX rfl QI rfl (.pt ((hH _ (by decide)).trans rfl) rfl (bZ e339)) (.pt _ _ _ _ _)) ?_
 conv=>whnf
 refine .mk _ (λH hH _=>bK rfl rfl (.pt ((hH _ (by decide)).trans rfl) rfl (bZ e339))) ?_
 conv=>whnf
 refine .mk _ (λH hH _=>dX rfl MI rfl (.pt ((hH _ (by decide)).trans rfl) rfl (bZ e339)) (.pt _ _ _ _ _)) ?_
 conv=>whnf
 refine .mk _ (λH hH _=>bK rfl rfl (.pt ((hH _ (by decide)).trans rfl) rfl (bZ e339))) ?_
 conv=>whnf
 refine .mk _ (λH hH _=>dX rfl VK rfl (.pt ((hH _ (by decide)).trans rfl) rfl (bZ e339)) (.pt _ _ _ _ _)) ?_
 conv=>whnf
 refine .mk _ (λH hH _=>bK rfl rfl (.pt ((hH _ (by decide)).trans rfl) rfl (bZ e339))) ?_
 conv=>whnf
 refine .mk _ (λH hH _=>dX rfl OG rfl (.pt ((hH _ (by decide)).trans rfl) rfl (bZ e339)) (.pt _ _ _ _ _)) ?_
 conv=>whnf
 refine .mk _ (λH hH _=>bK rfl rfl (.pt ((hH _ (by decide)).trans rfl) rfl (bZ e339))) ?_
 conv=>whnf
 refine .mk _ (λH hH _=>dX rfl RN rfl (.pt ((hH _ (by decide)).trans rfl) rfl (bZ e339)) (.pt _ _ _ _ _)) ?_
 conv=>whnf
 refine .mk _ (λH hH _=>dY (ps:=[(0,_),(1,_),(2,_),(3,_),(4,_),(5,_),(6,_),(7,_),(8,_),(9,_),(10,_)]) (rows:=[[.pt 22 (C195+6) (Int.toNat y101_1) 0],[.pt 22 (C195+6) (Int.toNat y101_1) 1],[.pt 22 (C195+6) (Int.toNat y101_1) 2],[.pt 22 (C195+6) (Int.toNat y101_1) 3],[.pt 22 (C195+6) (Int.toNat y101_1) 4],[.pt 22 (C195+6) (Int.toNat y101_1) 5],[.pt 22 (C195+6) (Int.toNat y101_1) 6],[.pt 22 (C195+6) (Int.toNat y101_1) 7],[.pt 22 (C195+6) (Int.toNat y101_1) 8],[.pt 22 (C195+6) (Int.toNat y101_1) 9],[.pt 22 (C195+6) (Int.toNat y101_1) 10]]) rfl Tryz.underlying225 iH (.cons rfl (.cons rfl (.cons rfl (.cons rfl (.cons rfl (.cons rfl (.cons rfl (.cons rfl (.cons rfl (.cons rfl (.cons rfl .nil))))))))))) (by kernel_rfl) rfl rfl rfl) ?_
 conv=>whnf
 refine .mk ?_ ?_
 conv=>whnf
 refine .mk ?_ ?_
 conv=>whnf
 refine .mk ?_
 conv=>whnf
 refine .mk _ (aF (dA (j:=0) rfl Tryz.underlying225 dM rfl rfl rfl (.list rfl))) ?_
 conv=>whnf
 refine .mk _ (aF (gM rfl Tryz.underlying75 rfl (.pt rfl rfl rfl) rfl)) ?_
 conv=>whnf
 refine .mk λp356=>?_
 conv=>whnf
 refine .mk λx357 e357=>?_
 conv=>whnf
 refine .mk λx358 e358=>?_
 conv=>whnf
 refine .mk _ ⟨λ_=>aQ rfl rfl (.cons rfl .nil) eD (PC.mono (eB (s:=((y101_2.s,y101_2.bad):RS)) (id:=2) (aD:=(u2 2)) rfl p356) (R':=λy H'=>y=int x357/\H'=upd _ 2 (some (cK 125 (u2 2) x358))) (λy H' h=>⟨h.1.trans (congrArg int e357),h.2.trans (dN e358)⟩)),λ_ _ _=>trivial⟩ ?_
 rintro _ _ ⟨rfl,rfl⟩
 try dsimp only
 conv=>whnf
 refine .mk _ (aF (bK rfl rfl (.pt rfl rfl (bZ e339)))) ?_
 conv=>whnf
 refine .mk λx359 e359=>?_
 have fx359:=gT e339 e359;have lx359:=gQ e359 (rfl:y101_3.length=y101_3.length)
 conv=>whnf
 refine .mk _ ⟨λ_=>bW.d9 (fH (ob':=(⟨193,11,true,true,_,x359.map bA.av⟩:aW)) (dZ rfl bX rfl rfl rfl rfl rfl (bZ e339) rfl rfl rfl) (fQ (iE e359))) (λ_ h=>h) (λ_ _=>trivial),λ_ _ _=>trivial⟩ ?_
 rintro _ _ ⟨rfl,rfl⟩
 try dsimp only
 conv=>whnf
 refine .mk ?_
 conv=>whnf
 refine .mk ?_
 conv=>whnf
 refine .mk _ (aF (dA (j:=1) rfl Tryz.underlying225 dM rfl rfl rfl (.list rfl))) ?_
 conv=>whnf
 refine .mk _ (aF (gM rfl Tryz.underlying75 rfl (.pt rfl rfl rfl) rfl)) ?_
 conv=>whnf
 refine .mk λp360=>?_
 conv=>whnf
 refine .mk λx361 e361=>?_
 conv=>whnf
 refine .mk λx362 e362=>?_
 conv=>whnf
 refine .mk _ ⟨λ_=>aQ rfl rfl (.cons rfl .nil) eD (PC.mono (eB (s:=x358) (id:=2) (aD:=(u2 2)) rfl p360) (R':=λy H'=>y=int x361/\H'=upd _ 2 (some (cK 125 (u2 2) x362))) (λy H' h=>⟨h.1.trans (congrArg int e361),h.2.trans (dN e362)⟩)),λ_ _ _=>trivial⟩ ?_
 rintro _ _ ⟨rfl,rfl⟩
 try dsimp only
 conv=>whnf
 refine .mk _ (aF (bK rfl rfl (.pt rfl rfl (bZ fx359)))) ?_
 conv=>whnf
 refine .mk λx363 e363=>?_
 have fx363:=gT fx359 e363;have lx363:=gQ e363 lx359
 conv=>whnf
 refine .mk _ ⟨λ_=>bW.d9 (fH (ob':=(⟨193,11,true,true,_,x363.map bA.av⟩:aW)) (dZ rfl bX rfl rfl rfl rfl rfl (bZ fx359) rfl rfl rfl) (fQ (iE e363))) (λ_ h=>h) (λ_ _=>trivial),λ_ _ _=>trivial⟩ ?_
 rintro _ _ ⟨rfl,rfl⟩
 try dsimp only
 conv=>whnf
 refine .mk ?_
 conv=>whnf
 refine .mk ?_
 conv=>whnf
 refine .mk _ (aF (dA (j:=2) rfl Tryz.underlying225 dM rfl rfl rfl (.list rfl))) ?_
 conv=>whnf
 refine .mk _ (aF (gM rfl Tryz.underlying75 rfl (.pt rfl rfl rfl) rfl)) ?_
 conv=>whnf
 refine .mk λp364=>?_
 conv=>whnf
 refine .mk λx365 e365=>?_
 conv=>whnf
 refine .mk λx366 e366=>?_
 conv=>whnf
 refine .mk _ ⟨λ_=>aQ rfl rfl (.cons rfl .nil) eD (PC.mono (eB (s:=x362) (id:=2) (aD:=(u2 2)) rfl p364) (R':=λy H'=>y=int x365/\H'=upd _ 2 (some (cK 125 (u2 2) x366))) (λy H' h=>⟨h.1.trans (congrArg int e365),h.2.trans (dN e366)⟩)),λ_ _ _=>trivial⟩ ?_
 rintro _ _ ⟨rfl,rfl⟩
 try dsimp only
 conv=>whnf
 refine .mk _ (aF (bK rfl rfl (.pt rfl rfl (bZ fx363)))) ?_
 conv=>whnf
 refine .mk λx367 e367=>?_
 have fx367:=gT fx363 e367;have lx367:=gQ e367 lx363
 conv=>whnf
 refine .mk _ ⟨λ_=>bW.d9 (fH (ob':=(⟨193,11,true,true,_,x367.map bA.av⟩:aW)) (dZ rfl bX rfl rfl rfl rfl rfl (bZ fx363) rfl rfl rfl) (fQ (iE e367))) (λ_ h=>h) (λ_ _=>trivial),λ_ _ _=>trivial⟩ ?_
 rintro _ _ ⟨rfl,rfl⟩
 try dsimp only
 conv=>whnf
 refine .mk ?_
 conv=>whnf
 refine .mk ?_
 conv=>whnf
 refine .mk _ (aF (dA (j:=3) rfl Tryz.underlying225 dM rfl rfl rfl (.list rfl))) ?_
 conv=>whnf
 refine .mk _ (aF (gM rfl Tryz.underlying75 rfl (.pt rfl rfl rfl) rfl)) ?_
 conv=>whnf
 refine .mk λp368=>?_
 conv=>whnf
 refine .mk λx369 e369=>?_
 conv=>whnf
 refine .mk λx370 e370=>?_
 conv=>whnf
 refine .mk _ ⟨λ_=>aQ rfl rfl (.cons rfl .nil) eD (PC.mono (eB (s:=x366) (id:=2) (aD:=(u2 2)) rfl p368) (R':=λy H'=>y=int x369/\H'=upd _ 2 (some (cK 125 (u2 2) x370))) (λy H' h=>⟨h.1.trans (congrArg int e369),h.2.trans (dN e370)⟩)),λ_ _ _=>trivial⟩ ?_
 rintro _ _ ⟨rfl,rfl⟩
 try dsimp only
 conv=>whnf
 refine .mk _ (aF (bK rfl rfl (.pt rfl rfl (bZ fx367)))) ?_
 conv=>whnf
 refine .mk λx371 e371=>?_
 have fx371:=gT fx367 e371;have lx371:=gQ e371 lx367
 conv=>whnf
 refine .mk _ ⟨λ_=>bW.d9 (fH (ob':=(⟨193,11,true,true,_,x371.map bA.av⟩:aW)) (dZ rfl bX rfl rfl rfl rfl rfl (bZ fx367) rfl rfl rfl) (fQ (iE e371))) (λ_ h=>h) (λ_ _=>trivial),λ_ _ _=>trivial⟩ ?_
 rintro _ _ ⟨rfl,rfl⟩
 try dsimp only
 conv=>whnf
 refine .mk ?_
 conv=>whnf
 refine .mk ?_
 conv=>whnf
 refine .mk _ (aF (dA (j:=4) rfl Tryz.underlying225 dM rfl rfl rfl (.list rfl))) ?_
 conv=>whnf
 refine .mk _ (aF (gM rfl Tryz.underlying75 rfl (.pt rfl rfl rfl) rfl)) ?_
 conv=>whnf
 refine .mk λp372=>?_
 conv=>whnf
 refine .mk λx373 e373=>?_
 conv=>whnf
 refine .mk λx374 e374=>?_
 conv=>whnf
 refine .mk _ ⟨λ_=>aQ rfl rfl (.cons rfl .nil) eD (PC.mono (eB (s:=x370) (id:=2) (aD:=(u2 2)) rfl p372) (R':=λy H'=>y=int x373/\H'=upd _ 2 (some (cK 125 (u2 2) x374))) (λy H' h=>⟨h.1.trans (congrArg int e373),h.2.trans (dN e374)⟩)),λ_ _ _=>trivial⟩ ?_
 rintro _ _ ⟨rfl,rfl⟩
 try dsimp only
 conv=>whnf
 refine .mk _ (aF (bK rfl rfl (.pt rfl rfl (bZ fx371)))) ?_
 conv=>whnf
 refine .mk λx375 e375=>?_
 have fx375:=gT fx371 e375;have lx375:=gQ e375 lx371
 conv=>whnf
 refine .mk _ ⟨λ_=>bW.d9 (fH (ob':=(⟨193,11,true,true,_,x375.map bA.av⟩:aW)) (dZ rfl bX rfl rfl rfl rfl rfl (bZ fx371) rfl rfl rfl) (fQ (iE e375))) (λ_ h=>h) (λ_ _=>trivial),λ_ _ _=>trivial⟩ ?_
 rintro _ _ ⟨rfl,rfl⟩
 try dsimp only
 conv=>whnf
 refine .mk ?_
 conv=>whnf
 refine .mk ?_
 conv=>whnf
 refine .mk _ (aF (dA (j:=5) rfl Tryz.underlying225 dM rfl rfl rfl (.list rfl))) ?_
 conv=>whnf
 refine .mk _ (aF (gM rfl Tryz.underlying75 rfl (.pt rfl rfl rfl) rfl)) ?_
 conv=>whnf
 refine .mk λp376=>?_
 conv=>whnf
 refine .mk λx377 e377=>?_
 conv=>whnf
 refine .mk λx378 e378=>?_
 conv=>whnf
 refine .mk _ ⟨λ_=>aQ rfl rfl (.cons rfl .nil) eD (PC.mono (eB (s:=x374) (id:=2) (aD:=(u2 2)) rfl p376) (R':=λy H'=>y=int x377/\H'=upd _ 2 (some (cK 125 (u2 2) x378))) (λy H' h=>⟨h.1.trans (congrArg int e377),h.2.trans (dN e378)⟩)),λ_ _ _=>trivial⟩ ?_
 rintro _ _ ⟨rfl,rfl⟩
 try dsimp only
 conv=>whnf
 refine .mk _ (aF (bK rfl rfl (.pt rfl rfl (bZ fx375)))) ?_
 conv=>whnf
 refine .mk λx379 e379=>?_
 have fx379:=gT fx375 e379;have lx379:=gQ e379 lx375
 conv=>whnf
 refine .mk _ ⟨λ_=>bW.d9 (fH (ob':=(⟨193,11,true,true,_,x379.map bA.av⟩:aW)) (dZ rfl bX rfl rfl rfl rfl rfl (bZ fx375) rfl rfl rfl) (fQ (iE e379))) (λ_ h=>h) (λ_ _=>trivial),λ_ _ _=>trivial⟩ ?_
 rintro _ _ ⟨rfl,rfl⟩
 try dsimp only
 conv=>whnf
 refine .mk ?_
 conv=>whnf
 refine .mk ?_
 conv=>whnf
 refine .mk _ (aF (dA (j:=6) rfl Tryz.underlying225 dM rfl rfl rfl (.list rfl))) ?_
 conv=>whnf
 refine .mk _ (aF (gM rfl Tryz.underlying75 rfl (.pt rfl rfl rfl) rfl)) ?_
 conv=>whnf
 refine .mk λp380=>?_
 conv=>whnf
 refine .mk λx381 e381=>?_
 conv=>whnf
 refine .mk λx382 e382=>?_
 conv=>whnf
 refine .mk _ ⟨λ_=>aQ rfl rfl (.cons rfl .nil) eD (PC.mono (eB (s:=x378) (id:=2) (aD:=(u2 2)) rfl p380) (R':=λy H'=>y=int x381/\H'=upd _ 2 (some (cK 125 (u2 2) x382))) (λy H' h=>⟨h.1.trans (congrArg int e381),h.2.trans (dN e382)⟩)),λ_ _ _=>trivial⟩ ?_
 rintro _ _ ⟨rfl,rfl⟩
 try dsimp only
 conv=>whnf
 refine .mk _ (aF (bK rfl rfl (.pt rfl rfl (bZ fx379)))) ?_
 conv=>whnf
 refine .mk λx383 e383=>?_
 have fx383:=gT fx379 e383;have lx383:=gQ e383 lx379
 conv=>whnf
 refine .mk _ ⟨λ_=>bW.d9 (fH (ob':=(⟨193,11,true,true,_,x383.map bA.av⟩:aW)) (dZ rfl bX rfl rfl rfl rfl rfl (bZ fx379) rfl rfl rfl) (fQ (iE e383))) (λ_ h=>h) (λ_ _=>trivial),λ_ _ _=>trivial⟩ ?_
 rintro _ _ ⟨rfl,rfl⟩
 try dsimp only
 conv=>whnf
 refine .mk ?_
 conv=>whnf
 refine .mk ?_
 conv=>whnf
 refine .mk _ (aF (dA (j:=7) rfl Tryz.underlying225 dM rfl rfl rfl (.list rfl))) ?_
 conv=>whnf
 refine .mk _ (aF (gM rfl Tryz.underlying75 rfl (.pt rfl rfl rfl) rfl)) ?_
 conv=>whnf
 refine .mk λp384=>?_
 conv=>whnf
 refine .mk λx385 e385=>?_
 conv=>whnf
 refine .mk λx386 e386=>?_
 conv=>whnf
 refine .mk _ ⟨λ_=>aQ rfl rfl (.cons rfl .nil) eD (PC.mono (eB (s:=x382) (id:=2) (aD:=(u2 2)) rfl p384) (R':=λy H'=>y=int x385/\H'=upd _ 2 (some (cK 125 (u2 2) x386))) (λy H' h=>⟨h.1.trans (congrArg int e385),h.2.trans (dN e386)⟩)),λ_ _ _=>trivial⟩ ?_
 rintro _ _ ⟨rfl,rfl⟩
 try dsimp only
 conv=>whnf
 refine .mk _ (aF (bK rfl rfl (.pt rfl rfl (bZ fx383)))) ?_
 conv=>whnf
 refine .mk λx387 e387=>?_
 have fx387:=gT fx383 e387;have lx387:=gQ e387 lx383
 conv=>whnf
 refine .mk _ ⟨λ_=>bW.d9 (fH (ob':=(⟨193,11,true,true,_,x387.map bA.av⟩:aW)) (dZ rfl bX rfl rfl rfl rfl rfl (bZ fx383) rfl rfl rfl) (fQ (iE e387))) (λ_ h=>h) (λ_ _=>trivial),λ_ _ _=>trivial⟩ ?_
 rintro _ _ ⟨rfl,rfl⟩
 try dsimp only
 conv=>whnf
 refine .mk ?_
 conv=>whnf
 refine .mk ?_
 conv=>whnf
 refine .mk _ (aF (dA (j:=8) rfl Tryz.underlying225 dM rfl rfl rfl (.list rfl))) ?_
 conv=>whnf
 refine .mk _ (aF (gM rfl Tryz.underlying75 rfl (.pt rfl rfl rfl) rfl)) ?_
 conv=>whnf
 refine .mk λp388=>?_
 conv=>whnf
 refine .mk λx389 e389=>?_
 conv=>whnf
 refine .mk λx390 e390=>?_
 conv=>whnf
 refine .mk _ ⟨λ_=>aQ rfl rfl (.cons rfl .nil) eD (PC.mono (eB (s:=x386) (id:=2) (aD:=(u2 2)) rfl p388) (R':=λy H'=>y=int x389/\H'=upd _ 2 (some (cK 125 (u2 2) x390))) (λy H' h=>⟨h.1.trans (congrArg int e389),h.2.trans (dN e390)⟩)),λ_ _ _=>trivial⟩ ?_
 rintro _ _ ⟨rfl,rfl⟩
 try dsimp only
 conv=>whnf
 refine .mk _ (aF (bK rfl rfl (.pt rfl rfl (bZ fx387)))) ?_
 conv=>whnf
 refine .mk λx391 e391=>?_
 have fx391:=gT fx387 e391;have lx391:=gQ e391 lx387
 conv=>whnf
 refine .mk _ ⟨λ_=>bW.d9 (fH (ob':=(⟨193,11,true,true,_,x391.map bA.av⟩:aW)) (dZ rfl bX rfl rfl rfl rfl rfl (bZ fx387) rfl rfl rfl) (fQ (iE e391))) (λ_ h=>h) (λ_ _=>trivial),λ_ _ _=>trivial⟩ ?_
 rintro _ _ ⟨rfl,rfl⟩
 try dsimp only
 conv=>whnf
 refine .mk ?_
 conv=>whnf
 refine .mk ?_
 conv=>whnf
 refine .mk _ (aF (dA (j:=9) rfl Tryz.underlying225 dM rfl rfl rfl (.list rfl))) ?_
 conv=>whnf
 refine .mk _ (aF (gM rfl Tryz.underlying75 rfl (.pt rfl rfl rfl) rfl)) ?_
 conv=>whnf
 refine .mk λp392=>?_
 conv=>whnf
 refine .mk λx393 e393=>?_
 conv=>whnf
 refine .mk λx394 e394=>?_
 conv=>whnf
 refine .mk _ ⟨λ_=>aQ rfl rfl (.cons rfl .nil) eD (PC.mono (eB (s:=x390) (id:=2) (aD:=(u2 2)) rfl p392) (R':=λy H'=>y=int x393/\H'=upd _ 2 (some (cK 125 (u2 2) x394))) (λy H' h=>⟨h.1.trans (congrArg int e393),h.2.trans (dN e394)⟩)),λ_ _ _=>trivial⟩ ?_
 rintro _ _ ⟨rfl,rfl⟩
 try dsimp only
 conv=>whnf
 refine .mk _ (aF (bK rfl rfl (.pt rfl rfl (bZ fx391)))) ?_
 conv=>whnf
 refine .mk λx395 e395=>?_
 have fx395:=gT fx391 e395;have lx395:=gQ e395 lx391
 conv=>whnf
 refine .mk _ ⟨λ_=>bW.d9 (fH (ob':=(⟨193,11,true,true,_,x395.map bA.av⟩:aW)) (dZ rfl bX rfl rfl rfl rfl rfl (bZ fx391) rfl rfl rfl) (fQ (iE e395))) (λ_ h=>h) (λ_ _=>trivial),λ_ _ _=>trivial⟩ ?_
 rintro _ _ ⟨rfl,rfl⟩
 try dsimp only
 conv=>whnf
 refine .mk ?_
 conv=>whnf
 refine .mk ?_
 conv=>whnf
 refine .mk _ (aF (dA (j:=10) rfl Tryz.underlying225 dM rfl rfl rfl (.list rfl))) ?_
 conv=>whnf
 refine .mk _ (aF (gM rfl Tryz.underlying75 rfl (.pt rfl rfl rfl) rfl)) ?_
 conv=>whnf
 refine .mk λp396=>?_
 conv=>whnf
 refine .mk λx397 e397=>?_
 conv=>whnf
 refine .mk λx398 e398=>?_
 conv=>whnf
 refine .mk _ ⟨λ_=>aQ rfl rfl (.cons rfl .nil) eD (PC.mono (eB (s:=x394) (id:=2) (aD:=(u2 2)) rfl p396) (R':=λy H'=>y=int x397/\H'=upd _ 2 (some (cK 125 (u2 2) x398))) (λy H' h=>⟨h.1.trans (congrArg int e397),h.2.trans (dN e398)⟩)),λ_ _ _=>trivial⟩ ?_
 rintro _ _ ⟨rfl,rfl⟩
 try dsimp only
 conv=>whnf
 refine .mk _ (aF (bK rfl rfl (.pt rfl rfl (bZ fx395)))) ?_
 conv=>whnf
 refine .mk λx399 e399=>?_
 have fx399:=gT fx395 e399;have lx399:=gQ e399 lx395
 conv=>whnf
 refine .mk _ ⟨λ_=>bW.d9 (fH (ob':=(⟨193,11,true,true,_,x399.map bA.av⟩:aW)) (dZ rfl bX rfl rfl rfl rfl rfl (bZ fx395) rfl rfl rfl) (fQ (iE e399))) (λ_ h=>h) (λ_ _=>trivial),λ_ _ _=>trivial⟩ ?_
 rintro _ _ ⟨rfl,rfl⟩
 try dsimp only
 conv=>whnf
 refine .mk ?_
 conv=>whnf
 refine .mk ?_
 conv=>whnf
 exact .mk ⟨trivial,⟨⟨_,rfl,(.refl _)⟩,⟨_,rfl,(by first | exact (.refl _) | exact ⟨rfl,fV (.cons (.refl _) (.cons (.refl _) (.cons aU (.cons aU (.cons aU (.cons (.refl _) (.cons (.refl _) (.cons (.refl _) .nil))))))))⟩)⟩,⟨_,rfl,(.refl _)⟩,⟨_,rfl,(.refl _)⟩,⟨_,rfl,(.refl _)⟩,⟨_,rfl,(.refl _)⟩,⟨_,rfl,(.refl _)⟩,⟨_,rfl,(.refl _)⟩,⟨_,rfl,(.refl _)⟩,⟨_,rfl,(.refl _)⟩,⟨_,rfl,(.refl _)⟩,⟨_,rfl,(.refl _)⟩,⟨_,rfl,(.refl _)⟩,⟨_,rfl,(.refl _)⟩,⟨_,rfl,(.refl _)⟩,⟨_,rfl,(.refl _)⟩,⟨_,rfl,(.refl _)⟩,⟨_,rfl,(.refl _)⟩,⟨_,rfl,(.refl _)⟩,⟨_,rfl,(.refl _)⟩,⟨_,rfl,(.refl _)⟩,⟨_,rfl,(.refl _)⟩,trivial⟩⟩
 intro _ _
 conv=>whnf
 try dsimp only
 repeat (conv in (uV _ _ _ _)=>whnf)
 exact .mk
 intro _ _
 conv=>whnf
 refine .mk trivial ?_
 try dsimp only
 repeat (conv in (uV _ _ _ _)=>whnf)
 conv=>whnf
 exact .mk
 intro _ _
 conv=>whnf
 refine .mk trivial ?_
 try dsimp only
 repeat (conv in (uV _ _ _ _)=>whnf)
 conv=>whnf
 refine .mk λp400=>?_
 conv=>whnf
 refine .mk λx401=>?_
 conv=>whnf
 exact .mk ⟨⟨⟨_,rfl,aU⟩,⟨_,rfl,(.refl _)⟩,⟨_,rfl,(.refl _)⟩,⟨_,rfl,(.refl _)⟩,⟨_,rfl,(.refl _)⟩,trivial⟩,⟨⟨_,rfl,(.refl _)⟩,⟨_,rfl,(by first | exact (.refl _) | exact ⟨rfl,fV (.cons (.refl _) (.cons (.refl _) (.cons aU (.cons aU (.cons aU (.cons (.refl _) (.cons (.refl _) (.cons (.refl _) .nil))))))))⟩)⟩,⟨_,rfl,(.refl _)⟩,⟨_,rfl,(.refl _)⟩,⟨_,rfl,(.refl _)⟩,⟨_,rfl,(.refl _)⟩,⟨_,rfl,(.refl _)⟩,⟨_,rfl,(.refl _)⟩,⟨_,rfl,(.refl _)⟩,⟨_,rfl,(.refl _)⟩,⟨_,rfl,(.refl _)⟩,⟨_,rfl,(.refl _)⟩,⟨_,rfl,(.refl _)⟩,⟨_,rfl,(.refl _)⟩,⟨_,rfl,(.refl _)⟩,⟨_,rfl,(.refl _)⟩,⟨_,rfl,(.refl _)⟩,⟨_,rfl,(.refl _)⟩,⟨_,rfl,(.refl _)⟩,⟨_,rfl,(.refl _)⟩,⟨_,rfl,(.refl _)⟩,⟨_,rfl,(.refl _)⟩,trivial⟩⟩
 conv=>whnf
 exact .mk ⟨trivial,⟨⟨_,rfl,(.refl _)⟩,⟨_,rfl,(by first | exact (.refl _) | exact ⟨rfl,fV (.cons (.refl _) (.cons (.refl _) (.cons aU (.cons aU (.cons aU (.cons (.refl _) (.cons (.refl _) (.cons (.refl _) .nil))))))))⟩)⟩,⟨_,rfl,(.refl _)⟩,⟨_,rfl,(.refl _)⟩,⟨_,rfl,(.refl _)⟩,⟨_,rfl,(.refl _)⟩,⟨_,rfl,(.refl _)⟩,⟨_,rfl,(.refl _)⟩,⟨_,rfl,(.refl _)⟩,⟨_,rfl,(.refl _)⟩,⟨_,rfl,(.refl _)⟩,⟨_,rfl,(.refl _)⟩,⟨_,rfl,(.refl _)⟩,⟨_,rfl,(.refl _)⟩,⟨_,rfl,(.refl _)⟩,⟨_,rfl,(.refl _)⟩,⟨_,rfl,(.refl _)⟩,⟨_,rfl,(.refl _)⟩,⟨_,rfl,(.refl _)⟩,⟨_,rfl,(.refl _)⟩,⟨_,rfl,(.refl _)⟩,trivial⟩⟩
 intro _ _
 conv=>whnf
 try dsimp only
 repeat (conv in (uV _ _ _ _)=>whnf)
 exact .mk
 rintro ⟨y19_1,y19_2⟩ _
 conv=>whnf
 refine .mk trivial ?_
 try dsimp only
 repeat (conv in (uV _ _ _ _)=>whnf)
 conv=>whnf
 refine .mk λp402=>?_
 conv=>whnf
 refine .mk _ (aF (bK rfl rfl (.pt rfl rfl (bY e251)))) ?_
 conv=>whnf
 refine .mk _ (aF (dX rfl MQ rfl (.pt rfl rfl (bY e251)) (.pt _ _ _ _ _))) ?_
 conv=>whnf
 refine .mk ?_ ?_
 intro v405
 conv=>whnf
 refine .mk _ (aF (gM rfl Tryz.underlying75 rfl (.pt rfl rfl rfl) rfl)) ?_
 conv=>whnf
 refine .mk λp406=>?_
 conv=>whnf
 refine .mk λx407 e407=>?_
 conv=>whnf
 refine .mk λx408 e408=>?_
 conv=>whnf
 refine .mk _ ⟨λ_=>aQ rfl rfl (.cons rfl (.cons rfl .nil)) l7 (PC.mono (mE (most:=5) (s:=((y19_1.s,y19_1.bad):RS)) (id:=2) (aD:=(u2 2)) rfl p406) (R':=λy H'=>y=int x407/\H'=upd _ 2 (some (cK 125 (u2 2) x408))) (λy H' h=>⟨h.1.trans (congrArg int e407),h.2.trans (dN e408)⟩)),λ_ _ _=>trivial⟩ ?_
 rintro _ _ ⟨rfl,rfl⟩
 try dsimp only
 conv=>whnf
 refine .mk λp409=>?_
 conv=>whnf
 refine .mk λx410 e410=>?_
 have lx410:x410.length=(Int.toNat x407):=by rw [<- e410];exact List.length_replicate
 conv=>whnf
 refine .mk _ ⟨λ_=>oW 47 (g:=fI) (z0:=(0:Int)) .any rfl Tryz.underlying23 kR oP rfl rfl rfl p409 (.cons (.sc _) .nil) e410,λ_ _ _=>trivial⟩ ?_
 rintro _ _ ⟨v411,-,rfl,rfl⟩
 try dsimp only
 conv=>whnf
 refine .mk _ (aF (bK rfl rfl (.pt rfl rfl (bY e251)))) ?_
 conv=>whnf
 refine .mk _ ⟨λ_=>bW.d9 (fH (ob':=(⟨110,8,true,true,_,(y14_3.map aH.av).set (Int.toNat y14_1) [int y15_2,aA y16_2,.sl 20 (C195+3) 0 (Int.toNat x252),.sl 21 (C195+4) 0 (Int.toNat 17),.sl 22 (C195+6) 0 y19_2.length,.sl 47 v411 0 (Int.toNat x407),.sc (.slice none 0 0),.sc (.slice none 0 0)]⟩:aW)) (dZ rfl kV rfl rfl rfl rfl rfl (bY e251) rfl rfl rfl) (fQ kZ)) (λ_ h=>h) (λ_ _=>trivial),λ_ _ _=>trivial⟩ ?_
 rintro _ _ ⟨rfl,rfl⟩
 try dsimp only
 conv=>whnf
 refine .mk ?_
 conv=>whnf
 refine .mk _ (λH hH _=>bK rfl rfl (.pt ((hH _ (by decide)).trans rfl) rfl (bY e251))) ?_
 conv=>whnf
 refine .mk _ (λH hH _=>fG rfl kV rfl (.pt ((hH _ (by decide)).trans rfl) rfl (bY e251)) rfl) ?_
 conv=>whnf
 refine .mk ?_ ?_
 intro v414
 conv=>whnf
 refine .mk ?_ ?_
 conv=>whnf
 refine .mk ?_ ⟨⟨⟨_,rfl,aU⟩,⟨_,rfl,(.refl _)⟩,⟨_,rfl,(.refl _)⟩,⟨_,rfl,(.refl _)⟩,⟨_,rfl,(.refl _)⟩,trivial⟩,⟨⟨_,rfl,(.refl _)⟩,⟨_,rfl,(by first | exact (.refl _) | exact ⟨rfl,fV (.cons (.refl _) (.cons (.refl _) (.cons aU (.cons aU (.cons aU (.cons aU (.cons (.refl _) (.cons (.refl _) .nil))))))))⟩)⟩,⟨_,rfl,(.refl _)⟩,⟨_,rfl,(.refl _)⟩,⟨_,rfl,(.refl _)⟩,⟨_,rfl,(.refl _)⟩,⟨_,rfl,(.refl _)⟩,⟨_,rfl,(.refl _)⟩,⟨_,rfl,(.refl _)⟩,⟨_,rfl,(.refl _)⟩,⟨_,rfl,(.refl _)⟩,⟨_,rfl,(.refl _)⟩,⟨_,rfl,(.refl _)⟩,⟨_,rfl,(.refl _)⟩,⟨_,rfl,(.refl _)⟩,⟨_,rfl,(.refl _)⟩,⟨_,rfl,(.refl _)⟩,⟨_,rfl,(.refl _)⟩,⟨_,rfl,(.refl _)⟩,⟨_,rfl,(.refl _)⟩,⟨_,rfl,(.refl _)⟩,⟨_,rfl,(.refl _)⟩,⟨_,rfl,(.refl _)⟩,⟨_,rfl,(.refl _)⟩,trivial⟩⟩
 rintro ⟨y108_1,y108_2,y108_3⟩ _
 conv=>whnf
 try dsimp only
 repeat (conv in (uV _ _ _ _)=>whnf)
 refine .mk λx415=>?_
 conv=>whnf
 refine .mk ?_ ?_
 conv=>whnf
 refine .mk ?_
 conv=>whnf
 refine .mk λx416 e416=>?_
 conv=>whnf
 refine .mk _ (λH hH _=>iY rfl Tryz.underlying23 bX rfl rfl ((hH _ (by decide)).trans rfl) rfl rfl (Eq.symm rfl) (List.length_map _) e416) ?_
 conv=>whnf
 refine .mk ?_ ?_
 conv=>whnf
 refine .mk _ (aF (dY (ps:=[(0,_)]) (rows:=[[.pt 47 v411 (Int.toNat y108_1) 0]]) rfl Tryz.underlying225 iH (.cons rfl .nil) (by kernel_rfl) rfl rfl rfl)) ?_
 conv=>whnf
 refine .mk ?_ ?_
 conv=>whnf
 refine .mk ?_ ?_
 conv=>whnf
 refine .mk ?_
 conv=>whnf
 refine .mk _ (aF (dA (j:=0) rfl Tryz.underlying225 dM rfl rfl rfl (.list rfl))) ?_
 conv=>whnf
 refine .mk _ (aF (gM rfl Tryz.underlying75 rfl (.pt rfl rfl rfl) rfl)) ?_
 conv=>whnf
 refine .mk λp423=>?_
 conv=>whnf
 refine .mk λx424 e424=>?_
 conv=>whnf
 refine .mk λx425 e425=>?_
 conv=>whnf
 refine .mk _ ⟨λ_=>aQ rfl rfl (.cons rfl .nil) eD (PC.mono (eB (s:=((y108_2.s,y108_2.bad):RS)) (id:=2) (aD:=(u2 2)) rfl p423) (R':=λy H'=>y=int x424/\H'=upd _ 2 (some (cK 125 (u2 2) x425))) (λy H' h=>⟨h.1.trans (congrArg int e424),h.2.trans (dN e425)⟩)),λ_ _ _=>trivial⟩ ?_
 rintro _ _ ⟨rfl,rfl⟩
 try dsimp only
 conv=>whnf
 refine .mk _ (aF (bK rfl rfl (.pt rfl rfl (bZ e416)))) ?_
 conv=>whnf
 refine .mk λx426 e426=>?_
 have fx426:=gT e416 e426;have lx426:=gQ e426 (rfl:y108_3.length=y108_3.length)
 conv=>whnf
 refine .mk _ ⟨λ_=>bW.d9 (fH (ob':=(⟨3,1,true,true,_,x426.map fI⟩:aW)) (dZ rfl bX rfl rfl rfl rfl rfl (bZ e416) rfl rfl rfl) (fQ (iE e426))) (λ_ h=>h) (λ_ _=>trivial),λ_ _ _=>trivial⟩ ?_
 rintro _ _ ⟨rfl,rfl⟩
 try dsimp only
 conv=>whnf
 refine .mk ?_
 conv=>whnf
 refine .mk ?_
 conv=>whnf
 exact .mk ⟨trivial,⟨⟨_,rfl,(.refl _)⟩,⟨_,rfl,(by first | exact (.refl _) | exact ⟨rfl,fV (.cons (.refl _) (.cons (.refl _) (.cons aU (.cons aU (.cons aU (.cons aU (.cons (.refl _) (.cons (.refl _) .nil))))))))⟩)⟩,⟨_,rfl,(.refl _)⟩,⟨_,rfl,(.refl _)⟩,⟨_,rfl,(.refl _)⟩,⟨_,rfl,(.refl _)⟩,⟨_,rfl,(.refl _)⟩,⟨_,rfl,(.refl _)⟩,⟨_,rfl,(.refl _)⟩,⟨_,rfl,(.refl _)⟩,⟨_,rfl,(.refl _)⟩,⟨_,rfl,(.refl _)⟩,⟨_,rfl,(.refl _)⟩,⟨_,rfl,(.refl _)⟩,⟨_,rfl,(.refl _)⟩,⟨_,rfl,(.refl _)⟩,⟨_,rfl,(.refl _)⟩,⟨_,rfl,(.refl _)⟩,⟨_,rfl,(.refl _)⟩,⟨_,rfl,(.refl _)⟩,⟨_,rfl,(.refl _)⟩,⟨_,rfl,(.refl _)⟩,⟨_,rfl,(.refl _)⟩,⟨_,rfl,(.refl _)⟩,trivial⟩⟩
 intro _ _
 conv=>whnf
 try dsimp only
 repeat (conv in (uV _ _ _ _)=>whnf)
 exact .mk
 intro _ _
 conv=>whnf
 refine .mk trivial ?_
 try dsimp only
 repeat (conv in (uV _ _ _ _)=>whnf)
 conv=>whnf
 exact .mk
 intro _ _
 conv=>whnf
 refine .mk trivial ?_
 try dsimp only
 repeat (conv in (uV _ _ _ _)=>whnf)
 conv=>whnf
 refine .mk λp427=>?_
 conv=>whnf
 refine .mk λx428=>?_
 conv=>whnf
 exact .mk ⟨⟨⟨_,rfl,aU⟩,⟨_,rfl,(.refl _)⟩,⟨_,rfl,(.refl _)⟩,⟨_,rfl,(.refl _)⟩,⟨_,rfl,(.refl _)⟩,trivial⟩,⟨⟨_,rfl,(.refl _)⟩,⟨_,rfl,(by first | exact (.refl _) | exact ⟨rfl,fV (.cons (.refl _) (.cons (.refl _) (.cons aU (.cons aU (.cons aU (.cons aU (.cons (.refl _) (.cons (.refl _) .nil))))))))⟩)⟩,⟨_,rfl,(.refl _)⟩,⟨_,rfl,(.refl _)⟩,⟨_,rfl,(.refl _)⟩,⟨_,rfl,(.refl _)⟩,⟨_,rfl,(.refl _)⟩,⟨_,rfl,(.refl _)⟩,⟨_,rfl,(.refl _)⟩,⟨_,rfl,(.refl _)⟩,⟨_,rfl,(.refl _)⟩,⟨_,rfl,(.refl _)⟩,⟨_,rfl,(.refl _)⟩,⟨_,rfl,(.refl _)⟩,⟨_,rfl,(.refl _)⟩,⟨_,rfl,(.refl _)⟩,⟨_,rfl,(.refl _)⟩,⟨_,rfl,(.refl _)⟩,⟨_,rfl,(.refl _)⟩,⟨_,rfl,(.refl _)⟩,⟨_,rfl,(.refl _)⟩,⟨_,rfl,(.refl _)⟩,⟨_,rfl,(.refl _)⟩,⟨_,rfl,(.refl _)⟩,trivial⟩⟩
 conv=>whnf
 exact .mk ⟨trivial,⟨⟨_,rfl,(.refl _)⟩,⟨_,rfl,(by first | exact (.refl _) | exact ⟨rfl,fV (.cons (.refl _) (.cons (.refl _) (.cons aU (.cons aU (.cons aU (.cons aU (.cons (.refl _) (.cons (.refl _) .nil))))))))⟩)⟩,⟨_,rfl,(.refl _)⟩,⟨_,rfl,(.refl _)⟩,⟨_,rfl,(.refl _)⟩,⟨_,rfl,(.refl _)⟩,⟨_,rfl,(.refl _)⟩,⟨_,rfl,(.refl _)⟩,⟨_,rfl,(.refl _)⟩,⟨_,rfl,(.refl _)⟩,⟨_,rfl,(.refl _)⟩,⟨_,rfl,(.refl _)⟩,⟨_,rfl,(.refl _)⟩,⟨_,rfl,(.refl _)⟩,⟨_,rfl,(.refl _)⟩,⟨_,rfl,(.refl _)⟩,⟨_,rfl,(.refl _)⟩,⟨_,rfl,(.refl _)⟩,⟨_,rfl,(.refl _)⟩,⟨_,rfl,(.refl _)⟩,⟨_,rfl,(.refl _)⟩,⟨_,rfl,(.refl _)⟩,⟨_,rfl,(.refl _)⟩,trivial⟩⟩
 intro _ _
 conv=>whnf
 try dsimp only
 repeat (conv in (uV _ _ _ _)=>whnf)
 exact .mk
 rintro ⟨y107_1,y107_2⟩ _
 conv=>whnf
 refine .mk trivial ?_
 try dsimp only
 repeat (conv in (uV _ _ _ _)=>whnf)
 conv=>whnf
 refine .mk λp429=>?_
 conv=>whnf
 refine .mk _ (aF (oM rfl Tryz.underlying75 rfl (.pt rfl rfl rfl) rfl)) ?_
 conv=>whnf
 refine .mk _ (aF (bK rfl rfl (.pt rfl rfl (bY e251)))) ?_
 conv=>whnf
 refine .mk _ (aF (fG rfl kV rfl (.pt rfl rfl (bY e251)) rfl)) ?_
 conv=>whnf
 refine .mk λx430=>?_
 conv=>whnf
 refine .mk ?_ ?_
 conv=>whnf
 refine .mk ?_ ?_
 conv=>whnf
 refine .mk _ (aF (bK rfl rfl (.pt rfl rfl (bY e251)))) ?_
 conv=>whnf
 refine .mk _ ⟨λ_=>bW.d9 (fH (ob':=(⟨110,8,true,true,_,(y14_3.map aH.av).set (Int.toNat y14_1) [int y15_2,aA y16_2,.sl 20 (C195+3) 0 (Int.toNat x252),.sl 21 (C195+4) 0 (Int.toNat 17),.sl 22 (C195+6) 0 (Int.toNat (x21.1.bC.length:Int)),.sc (.slice none 0 0),.sc (.slice none 0 0),.sc (.slice none 0 0)]⟩:aW)) (dZ rfl kV rfl rfl rfl rfl rfl (bY e251) rfl rfl rfl) (fQ kZ)) (λ_ h=>h) (λ_ _=>trivial),λ_ _ _=>trivial⟩ ?_
 rintro _ _ ⟨rfl,rfl⟩
 try dsimp only
 conv=>whnf
 exact .mk ⟨trivial,⟨⟨_,rfl,(by first | exact (.refl _) | exact ⟨rfl,fV (.cons (.refl _) (.cons (.refl _) (.cons aU (.cons aU (.cons aU (.cons (.nil _) (.cons (.refl _) (.cons (.refl _) .nil))))))))⟩)⟩,⟨_,rfl,(.refl _)⟩,⟨_,rfl,(.refl _)⟩,⟨_,rfl,(.refl _)⟩,⟨_,rfl,(.refl _)⟩,⟨_,rfl,(.refl _)⟩,⟨_,rfl,(.refl _)⟩,⟨_,rfl,(.refl _)⟩,⟨_,rfl,(.refl _)⟩,⟨_,rfl,(.refl _)⟩,⟨_,rfl,(.refl _)⟩,⟨_,rfl,(.refl _)⟩,⟨_,rfl,(.refl _)⟩,⟨_,rfl,(.refl _)⟩,⟨_,rfl,(.refl _)⟩,⟨_,rfl,(.refl _)⟩,⟨_,rfl,(.refl _)⟩,⟨_,rfl,(.refl _)⟩,⟨_,rfl,(.refl _)⟩,⟨_,rfl,(.refl _)⟩,⟨_,rfl,(.refl _)⟩,trivial⟩⟩
 conv=>whnf
 exact .mk ⟨trivial,⟨⟨_,rfl,(by first | exact (.refl _) | exact ⟨rfl,fV (.cons (.refl _) (.cons (.refl _) (.cons aU (.cons aU (.cons aU (.cons (gB (ob:=(⟨3,1,false,true,v411,y107_2.map fI⟩:aW)) rfl rfl rfl rfl rfl rfl) (.cons (.refl _) (.cons (.refl _) .nil))))))))⟩)⟩,⟨_,rfl,(.refl _)⟩,⟨_,rfl,(.refl _)⟩,⟨_,rfl,(.refl _)⟩,⟨_,rfl,(.refl _)⟩,⟨_,rfl,(.refl _)⟩,⟨_,rfl,(.refl _)⟩,⟨_,rfl,(.refl _)⟩,⟨_,rfl,(.refl _)⟩,⟨_,rfl,(.refl _)⟩,⟨_,rfl,(.refl _)⟩,⟨_,rfl,(.refl _)⟩,⟨_,rfl,(.refl _)⟩,⟨_,rfl,(.refl _)⟩,⟨_,rfl,(.refl _)⟩,⟨_,rfl,(.refl _)⟩,⟨_,rfl,(.refl _)⟩,⟨_,rfl,(.refl _)⟩,⟨_,rfl,(.refl _)⟩,⟨_,rfl,(.refl _)⟩,⟨_,rfl,(.refl _)⟩,trivial⟩⟩
 intro _ _
 conv=>whnf
 try dsimp only
 repeat (conv in (uV _ _ _ _)=>whnf)
 exact .mk
 rintro ⟨y20_1,y20_2⟩ _
 conv=>whnf
 refine .mk trivial ?_
 try dsimp only
 repeat (conv in (uV _ _ _ _)=>whnf)
 conv=>whnf
 refine .mk _ (aF (bK rfl rfl (.pt rfl rfl (bY e251)))) ?_
 conv=>whnf
 refine .mk _ (aF (dX rfl V4 rfl (.pt rfl rfl (bY e251)) (.pt _ _ _ _ _))) ?_
 conv=>whnf
 refine .mk ?_ ?_
 intro v433
 conv=>whnf
 refine .mk _ (aF (gM rfl Tryz.underlying75 rfl (.pt rfl rfl rfl) rfl)) ?_
 conv=>whnf
 refine .mk λp434=>?_
 conv=>whnf
 refine .mk λx435 e435=>?_
 conv=>whnf
 refine .mk λx436 e436=>?_
 conv=>whnf
 refine .mk _ ⟨λ_=>aQ rfl rfl (.cons rfl (.cons rfl .nil)) l7 (PC.mono (mE (most:=5) (s:=((y20_1.s,y20_1.bad):RS)) (id:=2) (aD:=(u2 2)) rfl p434) (R':=λy H'=>y=int x435/\H'=upd _ 2 (some (cK 125 (u2 2) x436))) (λy H' h=>⟨h.1.trans (congrArg int e435),h.2.trans (dN e436)⟩)),λ_ _ _=>trivial⟩ ?_
 rintro _ _ ⟨rfl,rfl⟩
 try dsimp only
 conv=>whnf
 refine .mk λp437=>?_
 conv=>whnf
 refine .mk λx438 e438=>?_
 have lx438:x438.length=(Int.toNat x435):=by rw [<- e438];exact List.length_replicate
 conv=>whnf
 refine .mk _ ⟨λ_=>oW 50 (g:=fI) (z0:=(0:Int)) .any rfl Tryz.underlying23 kR oP rfl rfl rfl p437 (.cons (.sc _) .nil) e438,λ_ _ _=>trivial⟩ ?_
 rintro _ _ ⟨v439,-,rfl,rfl⟩
 try dsimp only
 conv=>whnf
 refine .mk _ (aF (bK rfl rfl (.pt rfl rfl (bY e251)))) ?_
 conv=>whnf
 refine .mk _ ⟨λ_=>bW.d9 (fH (ob':=(⟨110,8,true,true,_,(y14_3.map aH.av).set (Int.toNat y14_1) [int y15_2,aA y16_2,.sl 20 (C195+3) 0 (Int.toNat x252),.sl 21 (C195+4) 0 (Int.toNat 17),.sl 22 (C195+6) 0 (Int.toNat (x21.1.bC.length:Int)),aG 1 fI y20_2,.sl 50 v439 0 (Int.toNat x435),.sc (.slice none 0 0)]⟩:aW)) (dZ rfl kV rfl rfl rfl rfl rfl (bY e251) rfl rfl rfl) (fQ kZ)) (λ_ h=>h) (λ_ _=>trivial),λ_ _ _=>trivial⟩ ?_
 rintro _ _ ⟨rfl,rfl⟩
 try dsimp only
 conv=>whnf
 refine .mk ?_
 conv=>whnf
 refine .mk _ (λH hH _=>bK rfl rfl (.pt ((hH _ (by decide)).trans rfl) rfl (bY e251))) ?_
 conv=>whnf
 refine .mk _ (λH hH _=>fG rfl kV rfl (.pt ((hH _ (by decide)).trans rfl) rfl (bY e251)) rfl) ?_
 conv=>whnf
 refine .mk ?_ ?_
 intro v442
 conv=>whnf
 refine .mk ?_ ?_
 conv=>whnf
 refine .mk ?_ ⟨⟨⟨_,rfl,aU⟩,⟨_,rfl,(.refl _)⟩,⟨_,rfl,(.refl _)⟩,⟨_,rfl,(.refl _)⟩,⟨_,rfl,(.refl _)⟩,trivial⟩,⟨⟨_,rfl,(.refl _)⟩,⟨_,rfl,(by first | exact (.refl _) | exact ⟨rfl,fV (.cons (.refl _) (.cons (.refl _) (.cons aU (.cons aU (.cons aU (.cons (.refl _) (.cons aU (.cons (.refl _) .nil))))))))⟩)⟩,⟨_,rfl,(.refl _)⟩,⟨_,rfl,(.refl _)⟩,⟨_,rfl,(.refl _)⟩,⟨_,rfl,(.refl _)⟩,⟨_,rfl,(.refl _)⟩,⟨_,rfl,(.refl _)⟩,⟨_,rfl,(.refl _)⟩,⟨_,rfl,(.refl _)⟩,⟨_,rfl,(.refl _)⟩,⟨_,rfl,(.refl _)⟩,⟨_,rfl,(.refl _)⟩,⟨_,rfl,(.refl _)⟩,⟨_,rfl,(.refl _)⟩,⟨_,rfl,(.refl _)⟩,⟨_,rfl,(.refl _)⟩,⟨_,rfl,(.refl _)⟩,⟨_,rfl,(.refl _)⟩,⟨_,rfl,(.refl _)⟩,⟨_,rfl,(.refl _)⟩,⟨_,rfl,(.refl _)⟩,⟨_,rfl,(.refl _)⟩,⟨_,rfl,(.refl _)⟩,trivial⟩⟩
 rintro ⟨y116_1,y116_2,y116_3⟩ _
 conv=>whnf
 try dsimp only
 repeat (conv in (uV _ _ _ _)=>whnf)
 refine .mk λx443=>?_
 conv=>whnf
 refine .mk ?_ ?_
 conv=>whnf
 refine .mk ?_
 conv=>whnf
 refine .mk λx444 e444=>?_
 conv=>whnf
 refine .mk _ (λH hH _=>iY rfl Tryz.underlying23 bX rfl rfl ((hH _ (by decide)).trans rfl) rfl rfl (Eq.symm rfl) (List.length_map _) e444) ?_
 conv=>whnf
 refine .mk ?_ ?_
 conv=>whnf
 refine .mk _ (aF (dY (ps:=[(0,_)]) (rows:=[[.pt 50 v439 (Int.toNat y116_1) 0]]) rfl Tryz.underlying225 iH (.cons rfl .nil) (by kernel_rfl) rfl rfl rfl)) ?_
 conv=>whnf
 refine .mk ?_ ?_
 conv=>whnf
 refine .mk ?_ ?_
 conv=>whnf
 refine .mk ?_
 conv=>whnf
 refine .mk _ (aF (dA (j:=0) rfl Tryz.underlying225 dM rfl rfl rfl (.list rfl))) ?_
 conv=>whnf
 refine .mk _ (aF (gM rfl Tryz.underlying75 rfl (.pt rfl rfl rfl) rfl)) ?_
 conv=>whnf
 refine .mk λp451=>?_
 conv=>whnf
 refine .mk λx452 e452=>?_
 conv=>whnf
 refine .mk λx453 e453=>?_
 conv=>whnf
 refine .mk _ ⟨λ_=>aQ rfl rfl (.cons rfl .nil) eD (PC.mono (eB (s:=((y116_2.s,y116_2.bad):RS)) (id:=2) (aD:=(u2 2)) rfl p451) (R':=λy H'=>y=int x452/\H'=upd _ 2 (some (cK 125 (u2 2) x453))) (λy H' h=>⟨h.1.trans (congrArg int e452),h.2.trans (dN e453)⟩)),λ_ _ _=>trivial⟩ ?_
 rintro _ _ ⟨rfl,rfl⟩
 try dsimp only
 conv=>whnf
 refine .mk _ (aF (bK rfl rfl (.pt rfl rfl (bZ e444)))) ?_
 conv=>whnf
 refine .mk λx454 e454=>?_
 have fx454:=gT e444 e454;have lx454:=gQ e454 (rfl:y116_3.length=y116_3.length)
 conv=>whnf
 refine .mk _ ⟨λ_=>bW.d9 (fH (ob':=(⟨3,1,true,true,_,x454.map fI⟩:aW)) (dZ rfl bX rfl rfl rfl rfl rfl (bZ e444) rfl rfl rfl) (fQ (iE e454))) (λ_ h=>h) (λ_ _=>trivial),λ_ _ _=>trivial⟩ ?_
 rintro _ _ ⟨rfl,rfl⟩
 try dsimp only
 conv=>whnf
 refine .mk ?_
 conv=>whnf
 refine .mk ?_
 conv=>whnf
 exact .mk ⟨trivial,⟨⟨_,rfl,(.refl _)⟩,⟨_,rfl,(by first | exact (.refl _) | exact ⟨rfl,fV (.cons (.refl _) (.cons (.refl _) (.cons aU (.cons aU (.cons aU (.cons (.refl _) (.cons aU (.cons (.refl _) .nil))))))))⟩)⟩,⟨_,rfl,(.refl _)⟩,⟨_,rfl,(.refl _)⟩,⟨_,rfl,(.refl _)⟩,⟨_,rfl,(.refl _)⟩,⟨_,rfl,(.refl _)⟩,⟨_,rfl,(.refl _)⟩,⟨_,rfl,(.refl _)⟩,⟨_,rfl,(.refl _)⟩,⟨_,rfl,(.refl _)⟩,⟨_,rfl,(.refl _)⟩,⟨_,rfl,(.refl _)⟩,⟨_,rfl,(.refl _)⟩,⟨_,rfl,(.refl _)⟩,⟨_,rfl,(.refl _)⟩,⟨_,rfl,(.refl _)⟩,⟨_,rfl,(.refl _)⟩,⟨_,rfl,(.refl _)⟩,⟨_,rfl,(.refl _)⟩,⟨_,rfl,(.refl _)⟩,⟨_,rfl,(.refl _)⟩,⟨_,rfl,(.refl _)⟩,⟨_,rfl,(.refl _)⟩,trivial⟩⟩
 intro _ _
 conv=>whnf
 try dsimp only
 repeat (conv in (uV _ _ _ _)=>whnf)
 exact .mk
 intro _ _
 conv=>whnf
 refine .mk trivial ?_
 try dsimp only
 repeat (conv in (uV _ _ _ _)=>whnf)
 conv=>whnf
 exact .mk
 intro _ _
 conv=>whnf
 refine .mk trivial ?_
 try dsimp only
 repeat (conv in (uV _ _ _ _)=>whnf)
 conv=>whnf
 refine .mk λp455=>?_
 conv=>whnf
 refine .mk λx456=>?_
 conv=>whnf
 exact .mk ⟨⟨⟨_,rfl,aU⟩,⟨_,rfl,(.refl _)⟩,⟨_,rfl,(.refl _)⟩,⟨_,rfl,(.refl _)⟩,⟨_,rfl,(.refl _)⟩,trivial⟩,⟨⟨_,rfl,(.refl _)⟩,⟨_,rfl,(by first | exact (.refl _) | exact ⟨rfl,fV (.cons (.refl _) (.cons (.refl _) (.cons aU (.cons aU (.cons aU (.cons (.refl _) (.cons aU (.cons (.refl _) .nil))))))))⟩)⟩,⟨_,rfl,(.refl _)⟩,⟨_,rfl,(.refl _)⟩,⟨_,rfl,(.refl _)⟩,⟨_,rfl,(.refl _)⟩,⟨_,rfl,(.refl _)⟩,⟨_,rfl,(.refl _)⟩,⟨_,rfl,(.refl _)⟩,⟨_,rfl,(.refl _)⟩,⟨_,rfl,(.refl _)⟩,⟨_,rfl,(.refl _)⟩,⟨_,rfl,(.refl _)⟩,⟨_,rfl,(.refl _)⟩,⟨_,rfl,(.refl _)⟩,⟨_,rfl,(.refl _)⟩,⟨_,rfl,(.refl _)⟩,⟨_,rfl,(.refl _)⟩,⟨_,rfl,(.refl _)⟩,⟨_,rfl,(.refl _)⟩,⟨_,rfl,(.refl _)⟩,⟨_,rfl,(.refl _)⟩,⟨_,rfl,(.refl _)⟩,⟨_,rfl,(.refl _)⟩,trivial⟩⟩
 conv=>whnf
 exact .mk ⟨trivial,⟨⟨_,rfl,(.refl _)⟩,⟨_,rfl,(by first | exact (.refl _) | exact ⟨rfl,fV (.cons (.refl _) (.cons (.refl _) (.cons aU (.cons aU (.cons aU (.cons (.refl _) (.cons aU (.cons (.refl _) .nil))))))))⟩)⟩,⟨_,rfl,(.refl _)⟩,⟨_,rfl,(.refl _)⟩,⟨_,rfl,(.refl _)⟩,⟨_,rfl,(.refl _)⟩,⟨_,rfl,(.refl _)⟩,⟨_,rfl,(.refl _)⟩,⟨_,rfl,(.refl _)⟩,⟨_,rfl,(.refl _)⟩,⟨_,rfl,(.refl _)⟩,⟨_,rfl,(.refl _)⟩,⟨_,rfl,(.refl _)⟩,⟨_,rfl,(.refl _)⟩,⟨_,rfl,(.refl _)⟩,⟨_,rfl,(.refl _)⟩,⟨_,rfl,(.refl _)⟩,⟨_,rfl,(.refl _)⟩,⟨_,rfl,(.refl _)⟩,⟨_,rfl,(.refl _)⟩,⟨_,rfl,(.refl _)⟩,⟨_,rfl,(.refl _)⟩,⟨_,rfl,(.refl _)⟩,trivial⟩⟩
 intro _ _
 conv=>whnf
 try dsimp only
 repeat (conv in (uV _ _ _ _)=>whnf)
 exact .mk
 rintro ⟨y115_1,y115_2⟩ _
 conv=>whnf
 refine .mk trivial ?_
 try dsimp only
 repeat (conv in (uV _ _ _ _)=>whnf)
 conv=>whnf
 refine .mk λp457=>?_
 conv=>whnf
 refine .mk _ (aF (oM rfl Tryz.underlying75 rfl (.pt rfl rfl rfl) rfl)) ?_
 conv=>whnf
 refine .mk _ (aF (bK rfl rfl (.pt rfl rfl (bY e251)))) ?_
 conv=>whnf
 refine .mk _ (aF (fG rfl kV rfl (.pt rfl rfl (bY e251)) rfl)) ?_
 conv=>whnf
 refine .mk λx458=>?_
 conv=>whnf
 refine .mk ?_ ?_
 conv=>whnf
 refine .mk ?_ ?_
 conv=>whnf
 refine .mk _ (aF (bK rfl rfl (.pt rfl rfl (bY e251)))) ?_
 conv=>whnf
 refine .mk _ ⟨λ_=>bW.d9 (fH (ob':=(⟨110,8,true,true,_,(y14_3.map aH.av).set (Int.toNat y14_1) [int y15_2,aA y16_2,.sl 20 (C195+3) 0 (Int.toNat x252),.sl 21 (C195+4) 0 (Int.toNat 17),.sl 22 (C195+6) 0 (Int.toNat (x21.1.bC.length:Int)),aG 1 fI y20_2,.sc (.slice none 0 0),.sc (.slice none 0 0)]⟩:aW)) (dZ rfl kV rfl rfl rfl rfl rfl (bY e251) rfl rfl rfl) (fQ kZ)) (λ_ h=>h) (λ_ _=>trivial),λ_ _ _=>trivial⟩ ?_
 rintro _ _ ⟨rfl,rfl⟩
 try dsimp only
 conv=>whnf
 exact .mk ⟨trivial,⟨⟨_,rfl,(by first | exact (.refl _) | exact ⟨rfl,fV (.cons (.refl _) (.cons (.refl _) (.cons aU (.cons aU (.cons aU (.cons (.refl _) (.cons (.nil _) (.cons (.refl _) .nil))))))))⟩)⟩,⟨_,rfl,(.refl _)⟩,⟨_,rfl,(.refl _)⟩,⟨_,rfl,(.refl _)⟩,⟨_,rfl,(.refl _)⟩,⟨_,rfl,(.refl _)⟩,⟨_,rfl,(.refl _)⟩,⟨_,rfl,(.refl _)⟩,⟨_,rfl,(.refl _)⟩,⟨_,rfl,(.refl _)⟩,⟨_,rfl,(.refl _)⟩,⟨_,rfl,(.refl _)⟩,⟨_,rfl,(.refl _)⟩,⟨_,rfl,(.refl _)⟩,⟨_,rfl,(.refl _)⟩,⟨_,rfl,(.refl _)⟩,⟨_,rfl,(.refl _)⟩,⟨_,rfl,(.refl _)⟩,⟨_,rfl,(.refl _)⟩,⟨_,rfl,(.refl _)⟩,⟨_,rfl,(.refl _)⟩,trivial⟩⟩
 conv=>whnf
 exact .mk ⟨trivial,⟨⟨_,rfl,(by first | exact (.refl _) | exact ⟨rfl,fV (.cons (.refl _) (.cons (.refl _) (.cons aU (.cons aU (.cons aU (.cons (.refl _) (.cons (gB (ob:=(⟨3,1,false,true,v439,y115_2.map fI⟩:aW)) rfl rfl rfl rfl rfl rfl) (.cons (.refl _) .nil))))))))⟩)⟩,⟨_,rfl,(.refl _)⟩,⟨_,rfl,(.refl _)⟩,⟨_,rfl,(.refl _)⟩,⟨_,rfl,(.refl _)⟩,⟨_,rfl,(.refl _)⟩,⟨_,rfl,(.refl _)⟩,⟨_,rfl,(.refl _)⟩,⟨_,rfl,(.refl _)⟩,⟨_,rfl,(.refl _)⟩,⟨_,rfl,(.refl _)⟩,⟨_,rfl,(.refl _)⟩,⟨_,rfl,(.refl _)⟩,⟨_,rfl,(.refl _)⟩,⟨_,rfl,(.refl _)⟩,⟨_,rfl,(.refl _)⟩,⟨_,rfl,(.refl _)⟩,⟨_,rfl,(.refl _)⟩,⟨_,rfl,(.refl _)⟩,⟨_,rfl,(.refl _)⟩,⟨_,rfl,(.refl _)⟩,trivial⟩⟩
 intro _ _
 conv=>whnf
 try dsimp only
 repeat (conv in (uV _ _ _ _)=>whnf)
 exact .mk
 rintro ⟨y21_1,y21_2⟩ _
 conv=>whnf
 refine .mk trivial ?_
 try dsimp only
 repeat (conv in (uV _ _ _ _)=>whnf)
 conv=>whnf
 refine .mk ?_
 conv=>whnf
 refine .mk _ (λH hH _=>bK rfl rfl (.pt ((hH _ (by decide)).trans rfl) rfl (bY e251))) ?_
 conv=>whnf
 refine .mk _ (λH hH _=>dX rfl G4 rfl (.pt ((hH _ (by decide)).trans rfl) rfl (bY e251)) (.pt _ _ _ _ _)) ?_
 conv=>whnf
 refine .mk ?_ ?_
 intro v459
 intro v460
 conv=>whnf
 exact .mk
 intro _ _
 conv=>whnf
 try dsimp only
 repeat (conv in (uV _ _ _ _)=>whnf)
 refine .mk ⟨rfl,rfl,trivial⟩ ?_
 conv=>whnf
 refine .mk ?_ ?_
 intro v461
 conv=>whnf
 refine .mk _ (aF (gM rfl Tryz.underlying75 rfl (.pt rfl rfl rfl) rfl)) ?_
 conv=>whnf
 refine .mk λp462=>?_
 conv=>whnf
 refine .mk λx463 e463=>?_
 conv=>whnf
 refine .mk λx464 e464=>?_
 conv=>whnf
 refine .mk _ ⟨λ_=>aQ rfl rfl (.cons rfl (.cons rfl .nil)) l7 (PC.mono (mE (most:=0) (s:=((y21_1.s,y21_1.bad):RS)) (id:=2) (aD:=(u2 2)) rfl p462) (R':=λy H'=>y=int x463/\H'=upd _ 2 (some (cK 125 (u2 2) x464))) (λy H' h=>⟨h.1.trans (congrArg int e463),h.2.trans (dN e464)⟩)),λ_ _ _=>trivial⟩ ?_
 rintro _ _ ⟨rfl,rfl⟩
 try dsimp only
 conv=>whnf
 refine .mk λp465=>?_
 conv=>whnf
 refine .mk λx466 e466=>?_
 have lx466:x466.length=(Int.toNat x463):=by rw [<- e466];exact List.length_replicate
 conv=>whnf
 refine .mk _ ⟨λ_=>oW 26 (g:=aH.av) (z0:=((⟨0,false,[],[],[],[],[],[]⟩:aH):aH)) .any rfl Tryz.underlying55 wK BL rfl rfl rfl p465 (.cons (.sc _) (.cons (.sc _) (.cons (.nil _) (.cons (.nil _) (.cons (.nil _) (.cons (.nil _) (.cons (.nil _) (.cons (.nil _) .nil)))))))) e466,λ_ _ _=>trivial⟩ ?_
 rintro _ _ ⟨v467,-,rfl,rfl⟩
 try dsimp only
 conv=>whnf
 refine .mk _ (aF (bK rfl rfl (.pt rfl rfl (bY e251)))) ?_
 conv=>whnf
 refine .mk _ ⟨λ_=>bW.d9 (fH (ob':=(⟨110,8,true,true,_,(y14_3.map aH.av).set (Int.toNat y14_1) [int y15_2,aA y16_2,.sl 20 (C195+3) 0 (Int.toNat x252),.sl 21 (C195+4) 0 (Int.toNat 17),.sl 22 (C195+6) 0 (Int.toNat (x21.1.bC.length:Int)),aG 1 fI y20_2,aG 1 fI y21_2,.sl 26 v467 0 (Int.toNat x463)]⟩:aW)) (dZ rfl sP rfl rfl rfl rfl rfl (bY e251) rfl rfl rfl) (fQ kZ)) (λ_ h=>h) (λ_ _=>trivial),λ_ _ _=>trivial⟩ ?_
 rintro _ _ ⟨rfl,rfl⟩
 try dsimp only
 conv=>whnf
 refine .mk ?_
 conv=>whnf
 refine .mk _ (λH hH _=>bK rfl rfl (.pt ((hH _ (by decide)).trans rfl) rfl (bY e251))) ?_
 conv=>whnf
 refine .mk _ (λH hH _=>fG rfl sP rfl (.pt ((hH _ (by decide)).trans rfl) rfl (bY e251)) rfl) ?_
 conv=>whnf
 refine .mk ?_ ?_
 intro v468
 conv=>whnf
 refine .mk ?_ ?_
 conv=>whnf
 refine .mk ?_
 intro _ _
 conv=>whnf
 try dsimp only
 repeat (conv in (uV _ _ _ _)=>whnf)
 refine .mk λx469=>?_
 conv=>whnf
 refine .mk ?_
 conv=>whnf
 exact .mk
 intro _ _
 conv=>whnf
 try dsimp only
 repeat (conv in (uV _ _ _ _)=>whnf)
 exact .mk
 intro _ _
 conv=>whnf
 refine .mk trivial ?_
 try dsimp only
 repeat (conv in (uV _ _ _ _)=>whnf)
 conv=>whnf
 refine .mk _ (aF (oM rfl Tryz.underlying75 rfl (.pt rfl rfl rfl) rfl)) ?_
 conv=>whnf
 refine .mk _ (aF (bK rfl rfl (.pt rfl rfl (bY e251)))) ?_
 conv=>whnf
 refine .mk _ (aF (fG rfl sP rfl (.pt rfl rfl (bY e251)) rfl)) ?_
 conv=>whnf
 refine .mk λx470=>?_
 conv=>whnf
 refine .mk ?_ ?_
 conv=>whnf
 refine .mk ?_ ?_
 conv=>whnf
 refine .mk _ (aF (bK rfl rfl (.pt rfl rfl (bY e251)))) ?_
 conv=>whnf
 refine .mk _ ⟨λ_=>bW.d9 (fH (ob':=(⟨110,8,true,true,_,(y14_3.map aH.av).set (Int.toNat y14_1) [int y15_2,aA y16_2,.sl 20 (C195+3) 0 (Int.toNat x252),.sl 21 (C195+4) 0 (Int.toNat 17),.sl 22 (C195+6) 0 (Int.toNat (x21.1.bC.length:Int)),aG 1 fI y20_2,aG 1 fI y21_2,.sc (.slice none 0 0)]⟩:aW)) (dZ rfl sP rfl rfl rfl rfl rfl (bY e251) rfl rfl rfl) (fQ kZ)) (λ_ h=>h) (λ_ _=>trivial),λ_ _ _=>trivial⟩ ?_
 rintro _ _ ⟨rfl,rfl⟩
 try dsimp only
 conv=>whnf
 exact .mk ⟨trivial,⟨⟨_,rfl,(by first | exact (.refl _) | exact ⟨rfl,fV (.cons (.refl _) (.cons (.refl _) (.cons aU (.cons aU (.cons aU (.cons (.refl _) (.cons (.refl _) (.cons (.nil _) .nil))))))))⟩)⟩,⟨_,rfl,(.refl _)⟩,⟨_,rfl,(.refl _)⟩,⟨_,rfl,(.refl _)⟩,⟨_,rfl,(.refl _)⟩,⟨_,rfl,(.refl _)⟩,⟨_,rfl,(.refl _)⟩,⟨_,rfl,(.refl _)⟩,⟨_,rfl,(.refl _)⟩,⟨_,rfl,(.refl _)⟩,⟨_,rfl,(.refl _)⟩,⟨_,rfl,(.refl _)⟩,⟨_,rfl,(.refl _)⟩,⟨_,rfl,(.refl _)⟩,⟨_,rfl,(.refl _)⟩,⟨_,rfl,(.refl _)⟩,⟨_,rfl,(.refl _)⟩,⟨_,rfl,(.refl _)⟩,⟨_,rfl,(.refl _)⟩,⟨_,rfl,(.refl _)⟩,⟨_,rfl,(.refl _)⟩,⟨_,rfl,(.refl _)⟩,⟨_,rfl,(.refl _)⟩,trivial⟩⟩
 conv=>whnf
 exact .mk ⟨trivial,⟨⟨_,rfl,(by first | exact (.refl _) | exact ⟨rfl,fV (.cons (.refl _) (.cons (.refl _) (.cons aU (.cons aU (.cons aU (.cons (.refl _) (.cons (.refl _) (.cons (gB (ob:=(⟨110,8,false,true,v467,x466.map aH.av⟩:aW)) rfl rfl rfl rfl rfl (Eq.symm lx466)) .nil))))))))⟩)⟩,⟨_,rfl,(.refl _)⟩,⟨_,rfl,(.refl _)⟩,⟨_,rfl,(.refl _)⟩,⟨_,rfl,(.refl _)⟩,⟨_,rfl,(.refl _)⟩,⟨_,rfl,(.refl _)⟩,⟨_,rfl,(.refl _)⟩,⟨_,rfl,(.refl _)⟩,⟨_,rfl,(.refl _)⟩,⟨_,rfl,(.refl _)⟩,⟨_,rfl,(.refl _)⟩,⟨_,rfl,(.refl _)⟩,⟨_,rfl,(.refl _)⟩,⟨_,rfl,(.refl _)⟩,⟨_,rfl,(.refl _)⟩,⟨_,rfl,(.refl _)⟩,⟨_,rfl,(.refl _)⟩,⟨_,rfl,(.refl _)⟩,⟨_,rfl,(.refl _)⟩,⟨_,rfl,(.refl _)⟩,⟨_,rfl,(.refl _)⟩,⟨_,rfl,(.refl _)⟩,trivial⟩⟩
 intro _ _
 conv=>whnf
 try dsimp only
 repeat (conv in (uV _ _ _ _)=>whnf)
 exact .mk rfl ⟨(by first | rfl | exact p97 ▸ rfl | exact p115 ▸ rfl | exact p183 ▸ rfl | exact p316 ▸ rfl | exact p334 ▸ rfl | exact p402 ▸ rfl),rfl,rfl,rfl,rfl,rfl,rfl,rfl,rfl,rfl,rfl,rfl,rfl,rfl,rfl,rfl,rfl,rfl,rfl,rfl,rfl,rfl,rfl,trivial⟩
 intro _ _
 conv=>whnf
 refine .mk trivial ?_
 try dsimp only
 repeat (conv in (uV _ _ _ _)=>whnf)
 conv=>whnf
 exact .mk rfl ⟨rfl,(by first | rfl | exact p316 ▸ p334 ▸ p402 ▸ rfl | exact p316 ▸ rfl | exact p334 ▸ rfl | exact p402 ▸ rfl),rfl,rfl,rfl,rfl,rfl,rfl,rfl,rfl,rfl,rfl,rfl,rfl,rfl,rfl,rfl,rfl,rfl,rfl,rfl,trivial⟩
 intro _ _
 conv=>whnf
 refine .mk trivial ?_
 try dsimp only
 repeat (conv in (uV _ _ _ _)=>whnf)
 conv=>whnf
 refine .mk λx471=>?_
 conv=>whnf
 exact .mk ⟨⟨⟨_,rfl,(nL (Eq.symm List.length_set))⟩,⟨_,rfl,(.refl _)⟩,⟨_,rfl,(.refl _)⟩,⟨_,rfl,(.refl _)⟩,⟨_,rfl,(.refl _)⟩,trivial⟩,⟨⟨_,rfl,(.refl _)⟩,⟨_,rfl,(by first | exact (.refl _) | exact ⟨rfl,fV (.cons (.refl _) (.cons (.refl _) (.cons aU (.cons aU (.cons aU (.cons (.refl _) (.cons (.refl _) (.cons (nL (Eq.symm List.length_set)) .nil))))))))⟩)⟩,⟨_,rfl,⟨rfl,LP rfl (rG (.cons (.refl _) (.cons (.refl _) (.cons (gB rfl rfl rfl rfl rfl (by first | rfl | exact Eq.symm rfl)) (.cons (gB rfl rfl rfl rfl rfl (by first | rfl | exact Eq.symm rfl)) (.cons (gB rfl rfl rfl rfl rfl (by first | rfl | exact Eq.symm rfl)) (.cons (.refl _) (.cons (.refl _) (.cons (.refl _) .nil)))))))) (aH.gI _))⟩⟩,⟨_,rfl,(.refl _)⟩,⟨_,rfl,(.refl _)⟩,⟨_,rfl,(.refl _)⟩,⟨_,rfl,(.refl _)⟩,⟨_,rfl,(.refl _)⟩,⟨_,rfl,(.refl _)⟩,⟨_,rfl,(.refl _)⟩,⟨_,rfl,(.refl _)⟩,⟨_,rfl,(.refl _)⟩,⟨_,rfl,(.refl _)⟩,⟨_,rfl,(.refl _)⟩,⟨_,rfl,(.refl _)⟩,⟨_,rfl,(.refl _)⟩,⟨_,rfl,(.refl _)⟩,⟨_,rfl,(.refl _)⟩,trivial⟩⟩
 conv=>whnf
 exact .mk ⟨trivial,⟨⟨_,rfl,(.refl _)⟩,⟨_,rfl,(by first | exact (.refl _) | exact ⟨rfl,fV (.cons (.refl _) (.cons (.refl _) (.cons aU (.cons aU (.cons aU (.cons (.refl _) (.cons (.refl _) (.cons aU .nil))))))))⟩)⟩,⟨_,rfl,(.refl _)⟩,⟨_,rfl,(.refl _)⟩,⟨_,rfl,(.refl _)⟩,⟨_,rfl,(.refl _)⟩,⟨_,rfl,(.refl _)⟩,⟨_,rfl,(.refl _)⟩,⟨_,rfl,(.refl _)⟩,⟨_,rfl,(.refl _)⟩,⟨_,rfl,(.refl _)⟩,⟨_,rfl,(.refl _)⟩,⟨_,rfl,(.refl _)⟩,⟨_,rfl,(.refl _)⟩,⟨_,rfl,(.refl _)⟩,⟨_,rfl,(.refl _)⟩,⟨_,rfl,(.refl _)⟩,trivial⟩⟩
 intro _ _
 conv=>whnf
 try dsimp only
 repeat (conv in (uV _ _ _ _)=>whnf)
 exact .mk
 rintro ⟨y30_1,y30_2⟩ _
 conv=>whnf
 refine .mk trivial ?_
 try dsimp only
 repeat (conv in (uV _ _ _ _)=>whnf)
 conv=>whnf
 refine .mk λp472=>?_
 conv=>whnf
 refine .mk _ (aF (oM rfl Tryz.underlying75 rfl (.pt rfl rfl rfl) rfl)) ?_
 conv=>whnf
 refine .mk _ (aF (bK rfl rfl (.pt rfl rfl (bY e32)))) ?_
 conv=>whnf
 refine .mk _ (aF (fG rfl sP rfl (.pt rfl rfl (bY e32)) rfl)) ?_
 conv=>whnf
 refine .mk λx473=>?_
 conv=>whnf
 refine .mk ?_ ?_
 conv=>whnf
 refine .mk ?_ ?_
 conv=>whnf
 refine .mk _ (aF (bK rfl rfl (.pt rfl rfl (bY e32)))) ?_
 conv=>whnf
 refine .mk _ ⟨λ_=>bW.d9 (fH (ob':=(⟨110,8,true,true,_,(y5_3.map aH.av).set (Int.toNat y5_1) [int y6_2,aA y7_2,.sl 12 (C182+3) 0 (Int.toNat x33),.sl 13 (C182+4) 0 (Int.toNat 17),.sl 14 (C182+6) 0 (Int.toNat (x21.1.bC.length:Int)),aG 1 fI y11_2,aG 1 fI y12_2,.sc (.slice none 0 0)]⟩:aW)) (dZ rfl sP rfl rfl rfl rfl rfl (bY e32) rfl rfl rfl) (fQ kZ)) (λ_ h=>h) (λ_ _=>trivial),λ_ _ _=>trivial⟩ ?_
 rintro _ _ ⟨rfl,rfl⟩
 try dsimp only
 conv=>whnf
 exact .mk ⟨trivial,⟨⟨_,rfl,(by first | exact (.refl _) | exact ⟨rfl,fV (.cons (.refl _) (.cons (.refl _) (.cons aU (.cons aU (.cons aU (.cons (.refl _) (.cons (.refl _) (.cons (.nil _) .nil))))))))⟩)⟩,⟨_,rfl,(.refl _)⟩,⟨_,rfl,(.refl _)⟩,⟨_,rfl,(.refl _)⟩,⟨_,rfl,(.refl _)⟩,⟨_,rfl,(.refl _)⟩,⟨_,rfl,(.refl _)⟩,⟨_,rfl,(.refl _)⟩,⟨_,rfl,(.refl _)⟩,⟨_,rfl,(.refl _)⟩,⟨_,rfl,(.refl _)⟩,⟨_,rfl,(.refl _)⟩,⟨_,rfl,(.refl _)⟩,⟨_,rfl,(.refl _)⟩,⟨_,rfl,(.refl _)⟩,trivial⟩⟩
 conv=>whnf
 exact .mk ⟨trivial,⟨⟨_,rfl,(by first | exact (.refl _) | exact ⟨rfl,fV (.cons (.refl _) (.cons (.refl _) (.cons aU (.cons aU (.cons aU (.cons (.refl _) (.cons (.refl _) (.cons (gB (ob:=(⟨110,8,false,true,v248,y30_2.map aH.av⟩:aW)) rfl rfl rfl rfl rfl rfl) .nil))))))))⟩)⟩,⟨_,rfl,(.refl _)⟩,⟨_,rfl,(.refl _)⟩,⟨_,rfl,(.refl _)⟩,⟨_,rfl,(.refl _)⟩,⟨_,rfl,(.refl _)⟩,⟨_,rfl,(.refl _)⟩,⟨_,rfl,(.refl _)⟩,⟨_,rfl,(.refl _)⟩,⟨_,rfl,(.refl _)⟩,⟨_,rfl,(.refl _)⟩,⟨_,rfl,(.refl _)⟩,⟨_,rfl,(.refl _)⟩,⟨_,rfl,(.refl _)⟩,⟨_,rfl,(.refl _)⟩,trivial⟩⟩
 intro _ _
 conv=>whnf
 try dsimp only
 repeat (conv in (uV _ _ _ _)=>whnf)
 exact .mk
 intro _ _
 conv=>whnf
 refine .mk trivial ?_
 try dsimp only
 repeat (conv in (uV _ _ _ _)=>whnf)
 conv=>whnf
 exact .mk rfl ⟨rfl,(by first | rfl | exact p97 ▸ p115 ▸ p183 ▸ rfl | exact p97 ▸ rfl | exact p115 ▸ rfl | exact p183 ▸ rfl),rfl,rfl,rfl,rfl,rfl,rfl,rfl,rfl,rfl,rfl,rfl,trivial⟩
 intro _ _
 conv=>whnf
 refine .mk trivial ?_
 try dsimp only
 repeat (conv in (uV _ _ _ _)=>whnf)
 conv=>whnf
 refine .mk λx474=>?_
 conv=>whnf
 exact .mk ⟨⟨⟨_,rfl,(nL (Eq.symm List.length_set))⟩,⟨_,rfl,(.refl _)⟩,⟨_,rfl,(.refl _)⟩,⟨_,rfl,(.refl _)⟩,⟨_,rfl,(.refl _)⟩,trivial⟩,⟨⟨_,rfl,(.refl _)⟩,⟨_,rfl,⟨rfl,LP rfl (rG (.cons (.refl _) (.cons (.refl _) (.cons (gB rfl rfl rfl rfl rfl (by first | rfl | exact Eq.symm rfl)) (.cons (gB rfl rfl rfl rfl rfl (by first | rfl | exact Eq.symm rfl)) (.cons (gB rfl rfl rfl rfl rfl (by first | rfl | exact Eq.symm rfl)) (.cons (.refl _) (.cons (.refl _) (.cons (.refl _) .nil)))))))) (aH.gI _))⟩⟩,⟨_,rfl,⟨rfl,(.cons (.cons (.refl _) (.cons (.refl _) (.cons (.refl _) (.cons (.refl _) (.cons (.refl _) (.cons (nL (Eq.symm List.length_set)) (.cons (.refl _) (.cons (.refl _) (.cons (.refl _) (.cons (.refl _) .nil)))))))))) .nil)⟩⟩,⟨_,rfl,(.refl _)⟩,⟨_,rfl,(.refl _)⟩,⟨_,rfl,(.refl _)⟩,⟨_,rfl,(.refl _)⟩,⟨_,rfl,(.refl _)⟩,⟨_,rfl,(.refl _)⟩,⟨_,rfl,(.refl _)⟩,trivial⟩⟩
 conv=>whnf
 exact .mk ⟨trivial,⟨⟨_,rfl,(.refl _)⟩,⟨_,rfl,(.refl _)⟩,⟨_,rfl,⟨rfl,(.cons (.cons (.refl _) (.cons (.refl _) (.cons (.refl _) (.cons (.refl _) (.cons (.refl _) (.cons aU (.cons (.refl _) (.cons (.refl _) (.cons (.refl _) (.cons (.refl _) .nil)))))))))) .nil)⟩⟩,⟨_,rfl,(.refl _)⟩,⟨_,rfl,(.refl _)⟩,⟨_,rfl,(.refl _)⟩,⟨_,rfl,(.refl _)⟩,⟨_,rfl,(.refl _)⟩,⟨_,rfl,(.refl _)⟩,trivial⟩⟩
 intro _ _
 conv=>whnf
 try dsimp only
 repeat (conv in (uV _ _ _ _)=>whnf)
 exact .mk
 rintro ⟨y35_1,y35_2⟩ _
 conv=>whnf
 refine .mk trivial ?_
 try dsimp only
 repeat (conv in (uV _ _ _ _)=>whnf)
 conv=>whnf
 refine .mk λp475=>?_
 conv=>whnf
 refine .mk ?_ ?_
 intro v478
 conv=>whnf
 refine .mk _ (aF (gM rfl Tryz.underlying75 rfl (.pt rfl rfl rfl) rfl)) ?_
 conv=>whnf
 refine .mk λp479=>?_
 conv=>whnf
 refine .mk λx480 e480=>?_
 conv=>whnf
 refine .mk λx481 e481=>?_
 conv=>whnf
 refine .mk _ ⟨λ_=>aQ rfl rfl (.cons rfl (.cons rfl .nil)) l7 (PC.mono (mE (most:=40) (s:=((y35_1.s,y35_1.bad):RS)) (id:=2) (aD:=(u2 2)) rfl p479) (R':=λy H'=>y=int x480/\H'=upd _ 2 (some (cK 125 (u2 2) x481))) (λy H' h=>⟨h.1.trans (congrArg int e480),h.2.trans (dN e481)⟩)),λ_ _ _=>trivial⟩ ?_
 rintro _ _ ⟨rfl,rfl⟩
 try dsimp only
 conv=>whnf
 refine .mk λp482=>?_
 conv=>whnf
 refine .mk λx483 e483=>?_
 have lx483:x483.length=(Int.toNat x480):=by rw [<- e483];exact List.length_replicate
 conv=>whnf
 refine .mk _ ⟨λ_=>oW 53 (g:=fP.av) (z0:=((⟨0,0,0,0,0,0,0,0⟩:fP):fP)) .any rfl Tryz.underlying56 AX KA rfl rfl rfl p482 (.cons (.sc _) (.cons (.sc _) (.cons (.sc _) (.cons (.sc _) (.cons (.sc _) (.cons (.sc _) (.cons (.sc _) (.cons (.sc _) .nil)))))))) e483,λ_ _ _=>trivial⟩ ?_
 rintro _ _ ⟨v484,-,rfl,rfl⟩
 try dsimp only
 conv=>whnf
 refine .mk ?_
 conv=>whnf
 refine .mk ?_ ?_
 intro v487
 conv=>whnf
 refine .mk ?_ ?_
 conv=>whnf
 refine .mk ?_ ⟨⟨⟨_,rfl,(.refl _)⟩,⟨_,rfl,(.refl _)⟩,⟨_,rfl,(.refl _)⟩,⟨_,rfl,(.refl _)⟩,⟨_,rfl,(.refl _)⟩,trivial⟩,⟨⟨_,rfl,⟨rfl,(.cons (.cons (.refl _) (.cons (.refl _) (.cons (.refl _) (.cons (.refl _) (.cons (.refl _) (.cons aU (.cons aU (.cons (.refl _) (.cons (.refl _) (.cons (.refl _) .nil)))))))))) .nil)⟩⟩,⟨_,rfl,(.refl _)⟩,⟨_,rfl,(.refl _)⟩,⟨_,rfl,(.refl _)⟩,⟨_,rfl,(.refl _)⟩,⟨_,rfl,(.refl _)⟩,⟨_,rfl,(.refl _)⟩,⟨_,rfl,(.refl _)⟩,⟨_,rfl,(.refl _)⟩,⟨_,rfl,(.refl _)⟩,⟨_,rfl,(.refl _)⟩,⟨_,rfl,(.refl _)⟩,trivial⟩⟩
 intro _ _
 conv=>whnf
 try dsimp only
 repeat (conv in (uV _ _ _ _)=>whnf)
 refine .mk λx488=>?_
 conv=>whnf
 refine .mk ?_
 conv=>whnf
 exact .mk ⟨trivial,⟨⟨_,rfl,⟨rfl,(.cons (.cons (.refl _) (.cons (.refl _) (.cons (.refl _) (.cons (.refl _) (.cons (.refl _) (.cons aU (.cons aU (.cons (.refl _) (.cons (.refl _) (.cons (.refl _) .nil)))))))))) .nil)⟩⟩,⟨_,rfl,(.refl _)⟩,⟨_,rfl,(.refl _)⟩,⟨_,rfl,(.refl _)⟩,⟨_,rfl,(.refl _)⟩,⟨_,rfl,(.refl _)⟩,⟨_,rfl,(.refl _)⟩,⟨_,rfl,(.refl _)⟩,⟨_,rfl,(.refl _)⟩,⟨_,rfl,(.refl _)⟩,⟨_,rfl,(.refl _)⟩,trivial⟩⟩
 intro _ _
 conv=>whnf
 try dsimp only
 repeat (conv in (uV _ _ _ _)=>whnf)
 exact .mk rfl ⟨(by first | rfl | exact p475 ▸ rfl | exact lx483 ▸ rfl),(by first | rfl | exact p475 ▸ lx483 ▸ rfl | exact p475 ▸ rfl | exact lx483 ▸ rfl),rfl,rfl,rfl,rfl,rfl,rfl,rfl,rfl,rfl,trivial⟩
 rintro ⟨y123_1,y123_2⟩ _
 conv=>whnf
 refine .mk trivial ?_
 try dsimp only
 repeat (conv in (uV _ _ _ _)=>whnf)
 conv=>whnf
 refine .mk λp489=>?_
 conv=>whnf
 refine .mk _ (aF (oM rfl Tryz.underlying75 rfl (.pt rfl rfl rfl) rfl)) ?_
 conv=>whnf
 refine .mk λx490=>?_
 conv=>whnf
 refine .mk ?_ ?_
 conv=>whnf
 refine .mk ?_ ?_
 conv=>whnf
 exact .mk ⟨trivial,⟨⟨_,rfl,⟨rfl,(.cons (.cons (.refl _) (.cons (.refl _) (.cons (.refl _) (.cons (.refl _) (.cons (.refl _) (.cons aU (.cons (.nil _) (.cons (.refl _) (.cons (.refl _) (.cons (.refl _) .nil)))))))))) .nil)⟩⟩,⟨_,rfl,(.refl _)⟩,⟨_,rfl,(.refl _)⟩,⟨_,rfl,(.refl _)⟩,⟨_,rfl,(.refl _)⟩,⟨_,rfl,(.refl _)⟩,⟨_,rfl,(.refl _)⟩,⟨_,rfl,(.refl _)⟩,⟨_,rfl,(.refl _)⟩,trivial⟩⟩
 conv=>whnf
 exact .mk ⟨trivial,⟨⟨_,rfl,⟨rfl,(.cons (.cons (.refl _) (.cons (.refl _) (.cons (.refl _) (.cons (.refl _) (.cons (.refl _) (.cons aU (.cons (gB (ob:=(⟨138,8,false,true,v484,y123_2.map fP.av⟩:aW)) rfl rfl rfl rfl rfl rfl) (.cons (.refl _) (.cons (.refl _) (.cons (.refl _) .nil)))))))))) .nil)⟩⟩,⟨_,rfl,(.refl _)⟩,⟨_,rfl,(.refl _)⟩,⟨_,rfl,(.refl _)⟩,⟨_,rfl,(.refl _)⟩,⟨_,rfl,(.refl _)⟩,⟨_,rfl,(.refl _)⟩,⟨_,rfl,(.refl _)⟩,⟨_,rfl,(.refl _)⟩,trivial⟩⟩
 intro _ _
 conv=>whnf
 try dsimp only
 repeat (conv in (uV _ _ _ _)=>whnf)
 exact .mk
 rintro ⟨y36_1,y36_2⟩ _
 conv=>whnf
 refine .mk trivial ?_
 try dsimp only
 repeat (conv in (uV _ _ _ _)=>whnf)
 conv=>whnf
 refine .mk ?_ ?_
 intro v493
 conv=>whnf
 refine .mk _ (aF (gM rfl Tryz.underlying75 rfl (.pt rfl rfl rfl) rfl)) ?_
 conv=>whnf
 refine .mk λp494=>?_
 conv=>whnf
 refine .mk λx495 e495=>?_
 conv=>whnf
 refine .mk λx496 e496=>?_
 conv=>whnf
 refine .mk _ ⟨λ_=>aQ rfl rfl (.cons rfl (.cons rfl .nil)) l7 (PC.mono (mE (most:=40) (s:=((y36_1.s,y36_1.bad):RS)) (id:=2) (aD:=(u2 2)) rfl p494) (R':=λy H'=>y=int x495/\H'=upd _ 2 (some (cK 125 (u2 2) x496))) (λy H' h=>⟨h.1.trans (congrArg int e495),h.2.trans (dN e496)⟩)),λ_ _ _=>trivial⟩ ?_
 rintro _ _ ⟨rfl,rfl⟩
 try dsimp only
 conv=>whnf
 refine .mk λp497=>?_
 conv=>whnf
 refine .mk λx498 e498=>?_
 have lx498:x498.length=(Int.toNat x495):=by rw [<- e498];exact List.length_replicate
 conv=>whnf
 refine .mk _ ⟨λ_=>oW 56 (g:=gV.av) (z0:=((⟨0,0,0,0,0,0,0,0,false⟩:gV):gV)) .any rfl Tryz.underlying57 aIN aCJ rfl rfl rfl p497 (.cons (.sc _) (.cons (.sc _) (.cons (.sc _) (.cons (.sc _) (.cons (.sc _) (.cons (.sc _) (.cons (.sc _) (.cons (.sc _) (.cons (.sc _) .nil))))))))) e498,λ_ _ _=>trivial⟩ ?_
 rintro _ _ ⟨v499,-,rfl,rfl⟩
 try dsimp only
 conv=>whnf
 refine .mk ?_
 conv=>whnf
 refine .mk ?_ ?_
 intro v502
 conv=>whnf
 refine .mk ?_ ?_
 conv=>whnf
 refine .mk ?_
 intro _ _
 conv=>whnf
 try dsimp only
 repeat (conv in (uV _ _ _ _)=>whnf)
 refine .mk λx503=>?_
 conv=>whnf
 refine .mk ?_
 conv=>whnf
 exact .mk
 intro _ _
 conv=>whnf
 try dsimp only
 repeat (conv in (uV _ _ _ _)=>whnf)
 exact .mk rfl ⟨(by first | rfl | exact p475 ▸ rfl | exact lx498 ▸ rfl),(by first | rfl | exact p475 ▸ lx498 ▸ rfl | exact p475 ▸ rfl | exact lx498 ▸ rfl),rfl,rfl,rfl,rfl,rfl,rfl,rfl,rfl,rfl,trivial⟩
 rintro ⟨y127_1,y127_2⟩ _
 conv=>whnf
 refine .mk trivial ?_
 try dsimp only
 repeat (conv in (uV _ _ _ _)=>whnf)
 conv=>whnf
 refine .mk λp504=>?_
 conv=>whnf
 refine .mk _ (aF (oM rfl Tryz.underlying75 rfl (.pt rfl rfl rfl) rfl)) ?_
 conv=>whnf
 refine .mk λx505=>?_
 conv=>whnf
 refine .mk ?_ ?_
 conv=>whnf
 refine .mk ?_ ?_
 conv=>whnf
 exact .mk ⟨trivial,⟨⟨_,rfl,⟨rfl,(.cons (.cons (.refl _) (.cons (.refl _) (.cons (.refl _) (.cons (.refl _) (.cons (.refl _) (.cons aU (.cons (.refl _) (.cons (.nil _) (.cons (.refl _) (.cons (.refl _) .nil)))))))))) .nil)⟩⟩,⟨_,rfl,(.refl _)⟩,⟨_,rfl,(.refl _)⟩,⟨_,rfl,(.refl _)⟩,⟨_,rfl,(.refl _)⟩,⟨_,rfl,(.refl _)⟩,⟨_,rfl,(.refl _)⟩,⟨_,rfl,(.refl _)⟩,⟨_,rfl,(.refl _)⟩,trivial⟩⟩
 conv=>whnf
 exact .mk ⟨trivial,⟨⟨_,rfl,⟨rfl,(.cons (.cons (.refl _) (.cons (.refl _) (.cons (.refl _) (.cons (.refl _) (.cons (.refl _) (.cons aU (.cons (.refl _) (.cons (gB (ob:=(⟨140,9,false,true,v499,y127_2.map gV.av⟩:aW)) rfl rfl rfl rfl rfl rfl) (.cons (.refl _) (.cons (.refl _) .nil)))))))))) .nil)⟩⟩,⟨_,rfl,(.refl _)⟩,⟨_,rfl,(.refl _)⟩,⟨_,rfl,(.refl _)⟩,⟨_,rfl,(.refl _)⟩,⟨_,rfl,(.refl _)⟩,⟨_,rfl,(.refl _)⟩,⟨_,rfl,(.refl _)⟩,⟨_,rfl,(.refl _)⟩,trivial⟩⟩
 intro _ _
 conv=>whnf
 try dsimp only
 repeat (conv in (uV _ _ _ _)=>whnf)
 exact .mk
 rintro ⟨y37_1,y37_2⟩ _
 conv=>whnf
 refine .mk trivial ?_
 try dsimp only
 repeat (conv in (uV _ _ _ _)=>whnf)
 conv=>whnf
 refine .mk ?_ ?_
 intro v508
 conv=>whnf
 refine .mk _ (aF (gM rfl Tryz.underlying75 rfl (.pt rfl rfl rfl) rfl)) ?_
 conv=>whnf
 refine .mk λp509=>?_
 conv=>whnf
 refine .mk λx510 e510=>?_
 conv=>whnf
 refine .mk λx511 e511=>?_
 conv=>whnf
 refine .mk _ ⟨λ_=>aQ rfl rfl (.cons rfl (.cons rfl .nil)) l7 (PC.mono (mE (most:=40) (s:=((y37_1.s,y37_1.bad):RS)) (id:=2) (aD:=(u2 2)) rfl p509) (R':=λy H'=>y=int x510/\H'=upd _ 2 (some (cK 125 (u2 2) x511))) (λy H' h=>⟨h.1.trans (congrArg int e510),h.2.trans (dN e511)⟩)),λ_ _ _=>trivial⟩ ?_
 rintro _ _ ⟨rfl,rfl⟩
 try dsimp only
 conv=>whnf
 refine .mk λp512=>?_
 conv=>whnf
 refine .mk λx513 e513=>?_
 have lx513:x513.length=(Int.toNat x510):=by rw [<- e513];exact List.length_replicate
 conv=>whnf
 refine .mk _ ⟨λ_=>oW 59 (g:=iD.av) (z0:=((⟨0,0,0,0,0,0⟩:iD):iD)) .any rfl Tryz.underlying58 YP WZ rfl rfl rfl p512 (.cons (.sc _) (.cons (.sc _) (.cons (.sc _) (.cons (.sc _) (.cons (.sc _) (.cons (.sc _) .nil)))))) e513,λ_ _ _=>trivial⟩ ?_
 rintro _ _ ⟨v514,-,rfl,rfl⟩
 try dsimp only
 conv=>whnf
 refine .mk ?_
 conv=>whnf
 refine .mk ?_ ?_
 intro v517
 conv=>whnf
 refine .mk ?_ ?_
 conv=>whnf
 refine .mk ?_
 intro _ _
 conv=>whnf
 try dsimp only
 repeat (conv in (uV _ _ _ _)=>whnf)
 refine .mk λx518=>?_
 conv=>whnf
 refine .mk ?_
 conv=>whnf
 exact .mk
 intro _ _
 conv=>whnf
 try dsimp only
 repeat (conv in (uV _ _ _ _)=>whnf)
 exact .mk rfl ⟨(by first | rfl | exact p475 ▸ rfl | exact lx513 ▸ rfl),(by first | rfl | exact p475 ▸ lx513 ▸ rfl | exact p475 ▸ rfl | exact lx513 ▸ rfl),rfl,rfl,rfl,rfl,rfl,rfl,rfl,rfl,rfl,trivial⟩
 rintro ⟨y131_1,y131_2⟩ _
 conv=>whnf
 refine .mk trivial ?_
 try dsimp only
 repeat (conv in (uV _ _ _ _)=>whnf)
 conv=>whnf
 refine .mk λp519=>?_
 conv=>whnf
 refine .mk _ (aF (oM rfl Tryz.underlying75 rfl (.pt rfl rfl rfl) rfl)) ?_
 conv=>whnf
 refine .mk λx520=>?_
 conv=>whnf
 refine .mk ?_ ?_
 conv=>whnf
 refine .mk ?_ ?_
 conv=>whnf
 exact .mk ⟨trivial,⟨⟨_,rfl,⟨rfl,(.cons (.cons (.refl _) (.cons (.refl _) (.cons (.refl _) (.cons (.refl _) (.cons (.refl _) (.cons aU (.cons (.refl _) (.cons (.refl _) (.cons (.nil _) (.cons (.refl _) .nil)))))))))) .nil)⟩⟩,⟨_,rfl,(.refl _)⟩,⟨_,rfl,(.refl _)⟩,⟨_,rfl,(.refl _)⟩,⟨_,rfl,(.refl _)⟩,⟨_,rfl,(.refl _)⟩,⟨_,rfl,(.refl _)⟩,⟨_,rfl,(.refl _)⟩,⟨_,rfl,(.refl _)⟩,trivial⟩⟩
 conv=>whnf
 exact .mk ⟨trivial,⟨⟨_,rfl,⟨rfl,(.cons (.cons (.refl _) (.cons (.refl _) (.cons (.refl _) (.cons (.refl _) (.cons (.refl _) (.cons aU (.cons (.refl _) (.cons (.refl _) (.cons (gB (ob:=(⟨142,6,false,true,v514,y131_2.map iD.av⟩:aW)) rfl rfl rfl rfl rfl rfl) (.cons (.refl _) .nil)))))))))) .nil)⟩⟩,⟨_,rfl,(.refl _)⟩,⟨_,rfl,(.refl _)⟩,⟨_,rfl,(.refl _)⟩,⟨_,rfl,(.refl _)⟩,⟨_,rfl,(.refl _)⟩,⟨_,rfl,(.refl _)⟩,⟨_,rfl,(.refl _)⟩,⟨_,rfl,(.refl _)⟩,trivial⟩⟩
 intro _ _
 conv=>whnf
 try dsimp only
 repeat (conv in (uV _ _ _ _)=>whnf)
 exact .mk
 rintro ⟨y38_1,y38_2⟩ _
 conv=>whnf
 refine .mk trivial ?_
 try dsimp only
 repeat (conv in (uV _ _ _ _)=>whnf)
 conv=>whnf
 refine .mk _ (aF (dY (ps:=[(0,_)]) (rows:=[[.pt 8 (C1+5) 0 9]]) rfl Tryz.underlying225 iH (.cons rfl .nil) (by kernel_rfl) rfl rfl rfl)) ?_
 conv=>whnf
 refine .mk ?_ ?_
 conv=>whnf
 refine .mk ?_ ?_
 conv=>whnf
 refine .mk ?_
 conv=>whnf
 refine .mk _ (aF (dA (j:=0) rfl Tryz.underlying225 dM rfl rfl rfl (.list rfl))) ?_
 conv=>whnf
 refine .mk _ (aF (gM rfl Tryz.underlying75 rfl (.pt rfl rfl rfl) rfl)) ?_
 conv=>whnf
 refine .mk λp523=>?_
 conv=>whnf
 refine .mk λx524 e524=>?_
 conv=>whnf
 refine .mk λx525 e525=>?_
 conv=>whnf
 refine .mk _ ⟨λ_=>aQ rfl rfl (.cons rfl .nil) eD (PC.mono (eB (s:=((y38_1.s,y38_1.bad):RS)) (id:=2) (aD:=(u2 2)) rfl p523) (R':=λy H'=>y=int x524/\H'=upd _ 2 (some (cK 125 (u2 2) x525))) (λy H' h=>⟨h.1.trans (congrArg int e524),h.2.trans (dN e525)⟩)),λ_ _ _=>trivial⟩ ?_
 rintro _ _ ⟨rfl,rfl⟩
 try dsimp only
 conv=>whnf
 refine .mk ?_
 conv=>whnf
 refine .mk ?_
 conv=>whnf
 exact .mk ⟨trivial,⟨⟨_,rfl,(.refl _)⟩,⟨_,rfl,⟨rfl,(.cons (.cons (.refl _) (.cons (.refl _) (.cons (.refl _) (.cons (.refl _) (.cons (.refl _) (.cons aU (.cons (.refl _) (.cons (.refl _) (.cons (.refl _) (.cons (.refl _) .nil)))))))))) .nil)⟩⟩,⟨_,rfl,(.refl _)⟩,⟨_,rfl,(.refl _)⟩,⟨_,rfl,(.refl _)⟩,⟨_,rfl,(.refl _)⟩,⟨_,rfl,(.refl _)⟩,⟨_,rfl,(.refl _)⟩,⟨_,rfl,(.refl _)⟩,trivial⟩⟩
 intro _ _
 conv=>whnf
 try dsimp only
 repeat (conv in (uV _ _ _ _)=>whnf)
 exact .mk
 intro _ _
 conv=>whnf
 refine .mk trivial ?_
 try dsimp only
 repeat (conv in (uV _ _ _ _)=>whnf)
 conv=>whnf
 exact .mk rfl ⟨rfl,rfl,(by first | rfl | exact p475 ▸ rfl | exact p475 ▸ rfl),rfl,rfl,rfl,rfl,trivial⟩
 rintro ⟨y40_1,y40_2,y40_3,y40_4,y40_5,y40_6⟩ _
 conv=>whnf
 refine .mk trivial ?_
 try dsimp only
 repeat (conv in (uV _ _ _ _)=>whnf)
 conv=>whnf
 refine .mk λp526=>?_
 conv=>whnf
 refine .mk ?_ ?_
 conv=>whnf
 refine .mk _ (aF (kL rfl rfl (.cons rfl .nil) lD (lH (s:=((y40_1.s,y40_1.bad):RS)) (id:=2) (aD:=(u2 2)) rfl) (.sc _))) ?_
 conv=>whnf
 refine .mk ?_ ?_
 conv=>whnf
 exact .mk ⟨⟨⟨_,rfl,(.refl _)⟩,⟨_,rfl,(.refl _)⟩,⟨_,rfl,(.refl _)⟩,⟨_,rfl,(.refl _)⟩,trivial⟩,⟨⟨_,rfl,⟨rfl,(.cons (.cons (.refl _) (.cons (.refl _) (.cons (.refl _) (.cons (.refl _) (.cons (.refl _) (.cons aU (.cons (.refl _) (.cons (.refl _) (.cons (.refl _) (.cons (.refl _) .nil)))))))))) .nil)⟩⟩,⟨_,rfl,(.refl _)⟩,⟨_,rfl,(.refl _)⟩,trivial⟩⟩
 conv=>whnf
 refine .mk _ (aF (kL rfl rfl (.cons rfl .nil) GK (J8 (s:=((y40_1.s,y40_1.bad):RS)) (id:=2) (aD:=(u2 2)) rfl) (.sc _))) ?_
 conv=>whnf
 refine .mk λx527=>?_
 conv=>whnf
 refine .mk ?_ ?_
 conv=>whnf
 exact .mk ⟨⟨⟨_,rfl,(.refl _)⟩,⟨_,rfl,(.refl _)⟩,⟨_,rfl,(.refl _)⟩,⟨_,rfl,(.refl _)⟩,trivial⟩,⟨⟨_,rfl,⟨rfl,(.cons (.cons (.refl _) (.cons (.refl _) (.cons (.refl _) (.cons (.refl _) (.cons (.refl _) (.cons aU (.cons (.refl _) (.cons (.refl _) (.cons (.refl _) (.cons (.refl _) .nil)))))))))) .nil)⟩⟩,⟨_,rfl,(.refl _)⟩,⟨_,rfl,(.refl _)⟩,trivial⟩⟩
 conv=>whnf
 refine .mk (λx528 e528=>?_) rfl (by rintro _ rfl;exact (.cons (cO.agg (.cons (.refl _) (.cons (.refl _) (.cons (.refl _) (.cons (.refl _) (.cons (.refl _) (.cons (gB rfl rfl rfl rfl rfl (by first | rfl | exact Eq.symm p526)) (.cons (.refl _) (.cons (.refl _) (.cons (.refl _) (.cons (.refl _) .nil))))))))))) .nil))
 conv=>whnf
 refine .mk λx529=>?_
 conv=>whnf
 exact .mk ⟨⟨⟨_,rfl,(.refl _)⟩,⟨_,rfl,(.refl _)⟩,⟨_,rfl,(.refl _)⟩,⟨_,rfl,(.refl _)⟩,trivial⟩,⟨⟨_,rfl,⟨rfl,(.cons (.cons (.refl _) (.cons (.refl _) (.cons (.refl _) (.cons (.refl _) (.cons (.refl _) (.cons aU (.cons (.refl _) (.cons (.refl _) (.cons (.refl _) (.cons (.refl _) .nil)))))))))) .nil)⟩⟩,⟨_,rfl,(.refl _)⟩,⟨_,rfl,(.refl _)⟩,trivial⟩⟩
 intro _ _
 conv=>whnf
 try dsimp only
 repeat (conv in (uV _ _ _ _)=>whnf)
 refine .mk ?_
 conv=>whnf
 exact .mk (cO.aM (.cons (cO.agg (.cons (.refl _) (.cons (.refl _) (.cons (.nil _) (.cons (.nil _) (.cons (.nil _) (.cons (.nil _) (.cons (.nil _) (.cons (.nil _) (.cons (.nil _) (.cons (.refl _) .nil))))))))))) (.cons (.refl _) .nil)))
end
end Go.Pv
