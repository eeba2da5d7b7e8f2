import Derived.Test.YtihfgehjjbnffaaGreatXU
set_option linter.unusedVariables false
set_option linter.unusedSimpArgs false
namespace Go.Pv
open Go.Proofs
set_option maxRecDepth 100000
set_option maxHeartbeats 4000000
noncomputable section
def aBR (a1:aA) (a2:Int) (a3:Int):WB (Int) :=
 .al 1<|.cl 11 (yJ a1 a2 a3) PG VP λx5=>.bB 12 (!x5) λx6=>.ifs [12] x6 (.ret ((4:Int))) (.iF 17 aP.av gE aP.dA a1.aW a2 λx7=>.wt 13 <|.ifs [13] x7.Closed (.ret ((7:Int))) (.ret ((0:Int))))
def nW (a1:aA) (a2:Int) (a3:Int):Option (Int):=(aBR a1 a2 a3).run
theorem pG {a1 a2 a3}:PZ (nW a1 a2 a3) 130 [.agg (aA.av a1),int a2,int a3] int:=wq Tryz.func130
def aG2 (a1:Int):WB (Bool) :=
 .jn 1 [] [] [] (λ_ (a:Bool)=>[(2,aI a)]) (λ_ _=>[]) (.bB 4 (decide (a1>=0)) λx2=>.ifs [4] x2 (.bB 7 (decide (a1<=1073741824)) λx3=>.ret x3) (.ret false)) (λy0_1=>.ret ((y0_1:Bool)))
def C6 (a1:Int):Option (Bool):=(aG2 a1).run
theorem O0 {a1}:PZ (C6 a1) 223 [int a1] aI:=wq Tryz.func223
def WU (a1:Int) (a2:Int):WB (Int×Int) :=
 .bI 11 (wu64 a1) λx3=>.bI 13 (wu64 a2) λx4=>.bI 15 (x3.tmod 4294967296) λx5=>.bI 17 (x4.tmod 4294967296) λx6=>.bI 18 (wu64 (x5*x6)) λx7=>.bI 20 (wu64 (x3.tdiv 4294967296)) λx8=>.bI 22 (x4.tmod 4294967296) λx9=>.bI 23 (wu64 (x8*x9)) λx10=>.bI 25 (x3.tmod 4294967296) λx11=>.bI 27 (wu64 (x4.tdiv 4294967296)) λx12=>.bI 28 (wu64 (x11*x12)) λx13=>.bI 30 (wu64 (x3.tdiv 4294967296)) λx14=>.bI 32 (wu64 (x4.tdiv 4294967296)) λx15=>.bI 33 (wu64 (x14*x15)) λx16=>.gv 34<|.al 1<|.gv 35<|.bI 37 (wu64 (x7.tdiv 4294967296)) λx18=>.gv 38<|.bI 40 (x10.tmod 4294967296) λx19=>.bI 41 (wu64 (x18+x19)) λx20=>.gv 42<|.bI 44 (x13.tmod 4294967296) λx21=>.bI 45 (wu64 (x20+x21)) λx22=>.gv 46<|.gv 48<|.bI 50 (wu64 (x10.tdiv 4294967296)) λx23=>.bI 51 (wu64 (x16+x23)) λx24=>.gv 52<|.bI 54 (wu64 (x13.tdiv 4294967296)) λx25=>.bI 55 (wu64 (x24+x25)) λx26=>.bI 57 (wu64 (x22.tdiv 4294967296)) λx27=>.bI 58 (wu64 (x26+x27)) λx28=>.bI 61 (wu64 (x3*x4)) λx29=>.ret ((x28:Int),x29)
def FM (a1:Int) (a2:Int):Option (Int×Int):=(WU a1 a2).run
theorem aAL {a1 a2}:PZ (FM a1 a2) 102 [int a1,int a2] (λr=>.bD [.sc (.int .u64 r.1),.sc (.int .u64 r.2)]):=by
 refine wm Tryz.func102 ?_
 refine .mk λx3=>?_
 refine .mk λx4=>?_
 refine .mk λx5=>?_
 refine .mk λx6=>?_
 refine .mk λx7=>?_
 refine .mk λx8=>?_
 refine .mk λx9=>?_
 refine .mk λx10=>?_
 refine .mk λx11=>?_
 refine .mk λx12=>?_
 refine .mk λx13=>?_
 refine .mk λx14=>?_
 refine .mk λx15=>?_
 refine .mk λx16=>?_
 refine .mk _ (bK (wF (cs:=[.sc (.int .u64 x7),.sc (.int .u64 x10),.sc (.int .u64 x13),.sc (.int .u64 x16)]) (ps:=[(0,_),(1,_),(2,_),(3,_)]) rfl Tryz.underlying245 zL WL rfl (.cons rfl (.cons rfl (.cons rfl (.cons rfl .nil)))) (by kernel_rfl))) ?_
 intro v17
 refine .mk _ (bK (dK (y:=.pt 1 v17 0 0) (qF rfl Tryz.underlying245 zL rfl rfl rfl rfl rfl (by decide)) rfl)) ?_
 refine .mk λx18=>?_
 refine .mk _ (bK (dK (y:=.pt 1 v17 0 1) (qF rfl Tryz.underlying245 zL rfl rfl rfl rfl rfl (by decide)) rfl)) ?_
 refine .mk λx19=>?_
 refine .mk λx20=>?_
 refine .mk _ (bK (dK (y:=.pt 1 v17 0 2) (qF rfl Tryz.underlying245 zL rfl rfl rfl rfl rfl (by decide)) rfl)) ?_
 refine .mk λx21=>?_
 refine .mk λx22=>?_
 refine .mk _ (bK (dK (y:=.pt 1 v17 0 3) (qF rfl Tryz.underlying245 zL rfl rfl rfl rfl rfl (by decide)) rfl)) ?_
 refine .mk _ (bK (dK (y:=.pt 1 v17 0 1) (qF rfl Tryz.underlying245 zL rfl rfl rfl rfl rfl (by decide)) rfl)) ?_
 refine .mk λx23=>?_
 refine .mk λx24=>?_
 refine .mk _ (bK (dK (y:=.pt 1 v17 0 2) (qF rfl Tryz.underlying245 zL rfl rfl rfl rfl rfl (by decide)) rfl)) ?_
 refine .mk λx25=>?_
 refine .mk λx26=>?_
 refine .mk λx27=>?_
 refine .mk λx28=>?_
 refine .mk λx29=>?_
 exact .mk
def aAD (a1:Int):WB (Int) :=
 .bB 4 (decide (a1>=4294967296)) λx2=>.jn 0 [] [] [] (λ_ (a:Int×Int)=>[(0,.sc (.int .u64 a.1)),(2,int a.2)]) (λ_ _=>[]) (.ifs [4] x2 (.bI 6 (a1.fdiv (2 ^ (min (32:Int).toNat IntKind.u64.bits))) λx3=>.ret ((x3:Int),32)) (.ret ((a1:Int),0))) (pw λy0_1 y0_2=>.bB 8 (decide (y0_1>=65536)) λx4=>.jn 0 [] [] [] (λ_ (a:Int×Int)=>[(0,.sc (.int .u64 a.1)),(2,int a.2)]) (λ_ _=>[]) (.ifs [8] x4 (.bI 10 (y0_1.fdiv (2 ^ (min (16:Int).toNat IntKind.u64.bits))) λx5=>.bI 12 (bA (y0_2+16)) λx6=>.ret ((x5:Int),x6)) (.ret ((y0_1:Int),y0_2))) (pw λy1_1 y1_2=>.bB 14 (decide (y1_1>=256)) λx7=>.jn 0 [] [] [] (λ_ (a:Int×Int)=>[(0,.sc (.int .u64 a.1)),(2,int a.2)]) (λ_ _=>[]) (.ifs [14] x7 (.bI 16 (y1_1.fdiv (2 ^ (min (8:Int).toNat IntKind.u64.bits))) λx8=>.bI 18 (bA (y1_2+8)) λx9=>.ret ((x8:Int),x9)) (.ret ((y1_1:Int),y1_2))) (pw λy2_1 y2_2=>.bI 21 (FV y2_1) λx10=>.bo (ix ([0,1,2,2,3,3,3,3,4,4,4,4,4,4,4,4,5,5,5,5,5,5,5,5,5,5,5,5,5,5,5,5,6,6,6,6,6,6,6,6,6,6,6,6,6,6,6,6,6,6,6,6,6,6,6,6,6,6,6,6,6,6,6,6,7,7,7,7,7,7,7,7,7,7,7,7,7,7,7,7,7,7,7,7,7,7,7,7,7,7,7,7,7,7,7,7,7,7,7,7,7,7,7,7,7,7,7,7,7,7,7,7,7,7,7,7,7,7,7,7,7,7,7,7,7,7,7,7,8,8,8,8,8,8,8,8,8,8,8,8,8,8,8,8,8,8,8,8,8,8,8,8,8,8,8,8,8,8,8,8,8,8,8,8,8,8,8,8,8,8,8,8,8,8,8,8,8,8,8,8,8,8,8,8,8,8,8,8,8,8,8,8,8,8,8,8,8,8,8,8,8,8,8,8,8,8,8,8,8,8,8,8,8,8,8,8,8,8,8,8,8,8,8,8,8,8,8,8,8,8,8,8,8,8,8,8,8,8,8,8,8,8,8,8,8,8,8,8,8,8,8,8,8,8,8,8]:List UInt8) x10) λx11=>.gv 22<|.bI 23 (bA (x11.toNat:Int)) λx12=>.bI 24 (bA (y2_2+x12)) λx13=>.ret ((x13:Int)))))
def JV (a1:Int):Option (Int):=(aAD a1).run
theorem aSK {a1}:PZ (JV a1) 225 [.sc (.int .u64 a1)] int:=wq Tryz.func225
def aEE (a1:Int):WB (Int) :=
 .cl 4 (JV a1) aLF aSK λx2=>.bI 5 (bA (64-x2)) λx3=>.ret ((x3:Int))
def JK (a1:Int):Option (Int):=(aEE a1).run
theorem aVH {a1}:PZ (JK a1) 215 [.sc (.int .u64 a1)] int:=wq Tryz.func215
def V9 (n:Nat) (a1:Int) (a2:Int) (a3:Int):WB (Int×Int) :=
 .bB 20 (decide (a3=0)) λx4=>.ifs [20] x4 (.fl) (.bB 24 (decide (a3<=a1)) λx5=>.ifs [24] x5 (.fl) (.bB 27 (decide (a1=0)) λx6=>.ifs [27] x6 (.dr [] [] [] [] [0,1,2,3,4,5,6,7] (.as (a3≠0) inferInstance<|.bl (wu64 (a2.tdiv a3):Int) λx8=>.gv 30<|.as (a3≠0) inferInstance<|.bl (a2.tmod a3:Int) λx10=>.gv 33<|.ret ((x8:Int),x10))) (.cl 35 (JK a3) aNG aVH λx11=>.bI 36 (wu64 x11) λx12=>.as ((0:Int)<=x12) inferInstance<|.bl (wu64 (a3*(2 ^ (min x12.toNat IntKind.u64.bits))):Int) λx14=>.gv 39<|.bI 41 (x14.fdiv (2 ^ (min (32:Int).toNat IntKind.u64.bits))) λx15=>.bl (wu64 ((BitVec.ofInt IntKind.u64.bits x14 &&& BitVec.ofInt IntKind.u64.bits 4294967295).toNat:Int):Int) λx16=>.gv 43<|.as ((0:Int)<=x12) inferInstance<|.bl (wu64 (a1*(2 ^ (min x12.toNat IntKind.u64.bits))):Int) λx18=>.gv 46<|.bI 49 (wu64 (64-x12)) λx19=>.as ((0:Int)<=x19) inferInstance<|.bl (a2.fdiv (2 ^ (min x19.toNat IntKind.u64.bits)):Int) λx21=>.gv 50<|.bl (wu64 ((BitVec.ofInt IntKind.u64.bits x18 ||| BitVec.ofInt IntKind.u64.bits x21).toNat:Int):Int) λx22=>.gv 51<|.as ((0:Int)<=x12) inferInstance<|.bl (wu64 (a2*(2 ^ (min x12.toNat IntKind.u64.bits))):Int) λx24=>.gv 54<|.bI 56 (x24.fdiv (2 ^ (min (32:Int).toNat IntKind.u64.bits))) λx25=>.bl (wu64 ((BitVec.ofInt IntKind.u64.bits x24 &&& BitVec.ofInt IntKind.u64.bits 4294967295).toNat:Int):Int) λx26=>.gv 58<|.as (x15≠0) inferInstance<|.bl (wu64 (x22.tdiv x15):Int) λx28=>.gv 61<|.bI 65 (wu64 (x28*x15)) λx29=>.bI 66 (wu64 (x22-x29)) λx30=>.jn 0 [2,6,7,8,9,10,11,13,14] [] [] (λ_ (a:Int)=>[(15,.sc (.int .u64 a))]) (λ_ _=>[]) (.lp [2,6,7,8,9,10,11,13,14] [] [] (λ_ (a:Int×Int)=>[(15,.sc (.int .u64 a.1)),(16,.sc (.int .u64 a.2))]) (λ_ _=>[]) n ((x28:Int),x30) (pw λy0_1 y0_2=>.jn 0 [2,6,7,8,9,10,11,13,14,15,16] [] [] (λ_ (a:Bool)=>[(78,aI a)]) (λ_ _=>[]) (.bB 68 (decide (y0_1>=4294967296)) λx31=>.ifs [68] x31 (.ret true) (.bI 72 (wu64 (y0_1*x16)) λx32=>.bI 74 (wu64 (4294967296*y0_2)) λx33=>.bI 76 (wu64 (x33+x25)) λx34=>.bB 77 (decide (x32>x34)) λx35=>.ret x35)) (λy1_1=>.ifs [78] y1_1 (.bI 80 (wu64 (y0_1-1)) λx36=>.bI 83 (wu64 (y0_2+x15)) λx37=>.bB 85 (decide (x37>=4294967296)) λx38=>.ifs [85] x38 (.esc (.ret x36)) (.brk ((x36:Int),x37))) (.esc (.ret y0_1))))) (λy2_1=>.bI 87 (wu64 (x22*4294967296)) λx39=>.bI 89 (wu64 (x39+x25)) λx40=>.bI 92 (wu64 (y2_1*x14)) λx41=>.bI 93 (wu64 (x40-x41)) λx42=>.as (x15≠0) inferInstance<|.bl (wu64 (x42.tdiv x15):Int) λx44=>.gv 96<|.bI 100 (wu64 (x44*x15)) λx45=>.bI 101 (wu64 (x42-x45)) λx46=>.jn 0 [2,6,7,8,14,15,17] [] [] (λ_ (a:Int)=>[(18,.sc (.int .u64 a))]) (λ_ _=>[]) (.lp [2,6,7,8,9,10,14,15,17] [] [] (λ_ (a:Int×Int)=>[(16,.sc (.int .u64 a.1)),(18,.sc (.int .u64 a.2))]) (λ_ _=>[]) n ((x46:Int),x44) (pw λy3_1 y3_2=>.jn 0 [2,6,7,8,9,10,14,15,16,17,18] [] [] (λ_ (a:Bool)=>[(113,aI a)]) (λ_ _=>[]) (.bB 103 (decide (y3_2>=4294967296)) λx47=>.ifs [103] x47 (.ret true) (.bI 107 (wu64 (y3_2*x16)) λx48=>.bI 109 (wu64 (4294967296*y3_1)) λx49=>.bI 111 (wu64 (x49+x26)) λx50=>.bB 112 (decide (x48>x50)) λx51=>.ret x51)) (λy4_1=>.ifs [113] y4_1 (.bI 115 (wu64 (y3_2-1)) λx52=>.bI 118 (wu64 (y3_1+x15)) λx53=>.bB 120 (decide (x53>=4294967296)) λx54=>.ifs [120] x54 (.esc (.ret x52)) (.brk ((x53:Int),x52))) (.esc (.ret y3_2))))) (λy5_1=>.bI 122 (wu64 (y2_1*4294967296)) λx55=>.bI 124 (wu64 (x55+y5_1)) λx56=>.bI 126 (wu64 (x42*4294967296)) λx57=>.bI 128 (wu64 (x57+x26)) λx58=>.bI 131 (wu64 (y5_1*x14)) λx59=>.bI 132 (wu64 (x58-x59)) λx60=>.as ((0:Int)<=x12) inferInstance<|.bl (x60.fdiv (2 ^ (min x12.toNat IntKind.u64.bits)):Int) λx62=>.gv 134<|.ret ((x56:Int),x62))))))
def DR (n:Nat) (a1:Int) (a2:Int) (a3:Int):Option (Int×Int):=(V9 n a1 a2 a3).run
theorem aRF {n a1 a2 a3}:PZ (DR n a1 a2 a3) 198 [.sc (.int .u64 a1),.sc (.int .u64 a2),.sc (.int .u64 a3)] (λr=>.bD [.sc (.int .u64 r.1),.sc (.int .u64 r.2)]):=wq Tryz.func198
def aF4 (n:Nat) (a1:Int) (a2:Int) (a3:Int):WB (Int×Int×Int) :=
 .jn 1 [0,1,2,6,7,8] [] [] (λ_ (a:Bool)=>[(22,aI a)]) (λ_ _=>[]) (.bB 14 (decide (a1<0)) λx4=>.ifs [14] x4 (.ret true) (.bB 17 (decide (a2<0)) λx5=>.ifs [17] x5 (.ret true) (.bB 21 (decide (a3<1)) λx6=>.ret x6))) (λy0_1=>.ifs [22] y0_1 (.ret ((0:Int),0,1)) (.cl 26 (FM a1 a2) aE7 aAL λx7=>.bI 31 (wu64 a3) λx8=>.bB 32 (decide (x7.1>=x8)) λx9=>.ifs [32] x9 (.ret ((0:Int),0,2)) (.bI 37 (wu64 a3) λx10=>.cl 38 (DR n x7.1 x7.2 x10) aUC aRF λx11=>.bB 42 (decide (x11.1>288230376151711744)) λx12=>.ifs [42] x12 (.ret ((0:Int),0,2)) (.bI 44 (bA x11.1) λx13=>.bI 46 (bA x11.2) λx14=>.ret ((x13:Int),x14,0)))))
def vJ (n:Nat) (a1:Int) (a2:Int) (a3:Int):Option (Int×Int×Int):=(aF4 n a1 a2 a3).run
theorem CU {n a1 a2 a3}:PZ (vJ n a1 a2 a3) 156 [int a1,int a2,int a3] (λr=>.bD [int r.1,int r.2.1,int r.2.2]):=wq Tryz.func156
def aBH (n:Nat) (a1:Int) (a2:Int):WB (Int×Int) :=
 .bl (if 0>a2 then 0 else a2:Int) λx3=>.gv 11<|.cl 13 (vJ n x3 a1 1) BX CU λx4=>.ret ((x4.1:Int),x4.2.2)
def AU (n:Nat) (a1:Int) (a2:Int):Option (Int×Int):=(aBH n a1 a2).run
theorem RJ {n a1 a2}:PZ (AU n a1 a2) 224 [int a1,int a2] (λr=>.bD [int r.1,int r.2]):=wq Tryz.func224
def aSN (n:Nat) (a1:List aM) (a2:Int):WB ((List aM)×Int×Int) :=
 .as (a1.length<=68719476736) inferInstance<|.ge 11 1<|.cl 13 (C6 a2) TA O0 λx5=>.bB 14 (!x5) λx6=>.ifs [14] x6 (.ret ((a1:List aM),0,1)) (.bB 18 (decide ((a1.length:Int)=0)) λx7=>.ifs [18] x7 (.ret ((a1:List aM),0,0)) (.bo (ix a1 0) λx8=>.gv 23<|.gv 24<|.gv 25<|.cl 26 (AU n a2 x8.aS) VQ RJ λx9=>.bB 30 (decide (x9.2≠0)) λx10=>.ifs [30] x10 (.ret ((a1:List aM),0,x9.2)) (.gv 35<|.gv 36<|.gv 37<|.bI 38 (bA (x9.1-x8.Value)) λx11=>.gv 41<|.gv 42<|.bl (a1.set (Int.toNat 0) ((⟨x8.aS,x9.1,x8.bE⟩:aM):aM):List aM) λx12=>.ge 1010004 0<|.ret ((x12:List aM),x11,0))))
def aGQ (n:Nat) (a1:List aM) (a2:Int):Option ((List aM)×Int×Int):=(aSN n a1 a2).run
theorem aN7 {n a1 a2}:PZ (aGQ n a1 a2) 212 [aH 3 aM.av a1,int a2] (λr=>.bD [aH 3 aM.av r.1,int r.2.1,int r.2.2]):=wq Tryz.func212
def aDG (a1:Int) (a2:Int):WB (aQ) :=
 .al 1<|.ret (((⟨a1,a2⟩:aQ):aQ))
def qH (a1:Int) (a2:Int):Option (aQ):=(aDG a1 a2).run
theorem uD {a1 a2}:PZ (qH a1 a2) 209 [int a1,int a2] (λr=>.agg (aQ.av r)):=wq Tryz.func209
def QJ (a1:Int):WB (Bool) :=
 .jn 1 [] [] [] (λ_ (a:Bool)=>[(2,aI a)]) (λ_ _=>[]) (.bB 4 (decide (a1>=0)) λx2=>.ifs [4] x2 (.bB 7 (decide (a1<17)) λx3=>.ret x3) (.ret false)) (λy0_1=>.ret ((y0_1:Bool)))
def zD (a1:Int):Option (Bool):=(QJ a1).run
theorem aFV {a1}:PZ (zD a1) 106 [int a1] aI:=wq Tryz.func106
def O1 (a1:Int):WB (Bool) :=
 .jn 1 [] [] [] (λ_ (a:Bool)=>[(2,aI a)]) (λ_ _=>[]) (.bB 4 (decide (a1>=(-288230376151711744))) λx2=>.ifs [4] x2 (.bB 7 (decide (a1<=288230376151711744)) λx3=>.ret x3) (.ret false)) (λy0_1=>.ret ((y0_1:Bool)))
def zV (a1:Int):Option (Bool):=(O1 a1).run
theorem Y1 {a1}:PZ (zV a1) 107 [int a1] aI:=wq Tryz.func107
def PD (a1:aQ):WB (Bool) :=
 .al 1<|.jn 0 [] [] [] (λ_ (a:Bool)=>[(2,aI a)]) (λ_ _=>[]) (.cl 5 (zD a1.jH) aHI aFV λx3=>.bB 6 (!x3) λx4=>.ifs [6] x4 (.ret true) (.cl 10 (zV a1.bO) ZE Y1 λx5=>.bB 11 (!x5) λx6=>.ret x6)) (λy0_1=>.ret ((y0_1:Bool)))
def CE (a1:aQ):Option (Bool):=(PD a1).run
theorem aNK {a1}:PZ (CE a1) 105 [.agg (aQ.av a1)] aI:=wq Tryz.func105
def Z0 (a1:aQ):WB (Int) :=
 .al 1<|.ret ((a1.jH:Int))
def GJ (a1:aQ):Option (Int):=(Z0 a1).run
theorem aFZ {a1}:PZ (GJ a1) 110 [.agg (aQ.av a1)] int:=wq Tryz.func110
def aEV (a1:Int):WB (Bool) :=
 .bB 5 (decide (a1≠a1)) λx2=>.ret ((x2:Bool))
def G7 (a1:Int):Option (Bool):=(aEV a1).run
theorem aDF {a1}:PZ (G7 a1) 202 [int a1] aI:=wq Tryz.func202
def aGC (a1:Int) (a2:Int):WB (Int) :=
 .cl 8 (G7 a1) aCB aDF λx3=>.cl 10 (G7 a2) aCB aDF λx4=>.ifs [5,8] x3 (.ifs [10] x4 (.ret ((0:Int))) (.ret (((-1):Int)))) (.ifs [10] x4 (.ret ((1:Int))) (.bB 16 (decide (a1<a2)) λx5=>.ifs [16] x5 (.ret (((-1):Int))) (.bB 19 (decide (a1>a2)) λx6=>.ifs [19] x6 (.ret ((1:Int))) (.ret ((0:Int))))))
def EY (a1:Int) (a2:Int):Option (Int):=(aGC a1 a2).run
theorem XL {a1 a2}:PZ (EY a1 a2) 162 [int a1,int a2] int:=wq Tryz.func162
def P7 (a1:Int):WB (Bool) :=
 .jn 1 [] [] [] (λ_ (a:Bool)=>[(2,aI a)]) (λ_ _=>[]) (.bB 4 (decide (a1>=(-288230376151711744))) λx2=>.ifs [4] x2 (.bB 7 (decide (a1<=288230376151711744)) λx3=>.ret x3) (.ret false)) (λy0_1=>.ret ((y0_1:Bool)))
def vN (a1:Int):Option (Bool):=(P7 a1).run
theorem KM {a1}:PZ (vN a1) 68 [int a1] aI:=wq Tryz.func68
def SI (a1:Int) (a2:Int):WB (Int×Int) :=
 .jn 1 [0,1,4,5] [] [] (λ_ (a:Bool)=>[(20,aI a)]) (λ_ _=>[]) (.cl 7 (vN a1) IM KM λx3=>.bB 8 (!x3) λx4=>.ifs [8] x4 (.ret true) (.cl 11 (vN a2) IM KM λx5=>.bB 12 (!x5) λx6=>.ifs [12] x6 (.ret true) (.bI 17 (bA (a1+a2)) λx7=>.cl 18 (vN x7) IM KM λx8=>.bB 19 (!x8) λx9=>.ret x9))) (λy0_1=>.ifs [20] y0_1 (.ret ((0:Int),2)) (.bI 23 (bA (a1+a2)) λx10=>.ret ((x10:Int),0)))
def mG (a1:Int) (a2:Int):Option (Int×Int):=(SI a1 a2).run
theorem oW {a1 a2}:PZ (mG a1 a2) 28 [int a1,int a2] (λr=>.bD [int r.1,int r.2]):=wq Tryz.func28
def O3 (a1:aQ):WB (Bool) :=
 .al 1<|.bB 5 (decide (a1.bO=0)) λx3=>.ret ((x3:Bool))
def zC (a1:aQ):Option (Bool):=(O3 a1).run
theorem aC3 {a1}:PZ (zC a1) 112 [.agg (aQ.av a1)] aI:=wq Tryz.func112
def PU (n:Nat) (a1:List aQ):WB ((List aQ)×Int) :=
 .inl 12 aAY Tryz.func104 [] [] (λ_ (a:Bool)=>aI a) (λ_ _=>[]) (.inl 7 VU Tryz.func159 [] [] (λ_ (a:Int)=>int a) (λ_ _=>[]) (.ln 7 aQ.av a1<|.dU 0 [4] [] [] (λ_ (a:Unit)=>[]) (λ_ _=>[]) (.lp [0,1,4,7] [] [] (λ_ (a:Int)=>[(8,int a)]) (λ_ _=>[]) n (0:Int) (λy0_1=>.bB 9 (decide (y0_1<(a1.length:Int))) λx2=>.ifs [9] x2 (.ix 14 aQ.av a1 y0_1 λx3=>.cl 16 (CE x3) aXY aNK λx4=>.ifs [16] x4 (.esc (.esc (.ret (y0_1:Int)))) (.bI 18 (bA (y0_1+1)) λx5=>.brk (x5:Int))) (.esc (.brk ())))) (λ_=>.ret ((-1):Int))) (λy2_1=>.bB 8 (decide (y2_1>=0)) λx6=>.ret x6)) (λy3_1=>.ifs [12] y3_1 (.ret (([]:List aQ),(1:Int))) (.as (a1.length<=68719476736) inferInstance<|.ge 14 1<|.inl 16 aX2 Tryz.func109 [] [] (λ_ (a:(List aQ))=>.bD []) (λ_ a=>[.kp 1 (a.map aQ.av)]) (.al 2<|.inl 6 aMW Tryz.func160 [2] [] (λ_ (a:(List aQ))=>.bD []) (λ_ a=>[.kp 1 (a.map aQ.av)]) (.inl 8 aTP Tryz.func201 [2] [] (λ_ (a:(List aQ))=>.bD []) (λ_ a=>[.kp 1 (a.map aQ.av)]) (.jn 2 [0,1,2,6,7] [1,2] [] (λ_ (a:Unit)=>[]) (λ_ _=>[]) (.lp [0,1,2,6,7,8] [1,2] [] (λ_ (a:Unit)=>[]) (λ_ _=>[]) n () (λ_=>.bB 13 (decide (20<=(a1.length:Int))) λx10=>.az [13] x10 (.esc (.ret ())))) (λ_=>.inl 27 aQD Tryz.func217 [2] [] (λ_ (a:(List aQ))=>.bD []) (λ_ a=>[.kp 1 (a.map aQ.av)]) (.kI 11 1<|.jn 0 [] [2] [] (λ_ (a:(List aQ))=>[]) (λ_ a=>[.kp 1 (a.map aQ.av)]) (.lp [1,2,3] [2] [] (λu107 (a:Int×(List aQ))=>[(0,.sl 1 (u107 1) 0 a.2.length),(8,int a.1)]) (λ_ a=>[.kp 1 (a.2.map aQ.av)]) n ((1:Int),a1) (pw λy6_1 y6_2=>.bB 14 (decide (y6_1<(a1.length:Int))) λx11=>.ifs [14] x11 (.jn 1 [1,2,3,8] [2] [] (λu113 (a:(List aQ))=>[(0,.sl 1 (u113 1) 0 a.length)]) (λ_ a=>[.kp 1 (a.map aQ.av)]) (.jn 2 [1,2,3,8] [2] [] (λu118 (a:(List aQ))=>[(0,.sl 1 (u118 1) 0 a.length)]) (λ_ a=>[.kp 1 (a.map aQ.av)]) (.lp [1,2,3,8] [2] [] (λu121 (a:Int×(List aQ))=>[(0,.sl 1 (u121 1) 0 a.2.length),(9,int a.1)]) (λ_ a=>[.kp 1 (a.2.map aQ.av)]) n ((y6_1:Int),y6_2) (pw λy7_1 y7_2=>.jn 0 [0,1,2,3,8,9] [1,2] [] (λ_ (a:Bool)=>[(34,aI a)]) (λ_ _=>[]) (.dr [(7,[1]),(8,[1]),(12,[1]),(13,[1])] [(14,[])] [1] [14] [0,1,2,3,4,5,6,7,8,9,10,11,12,13,14,15,16] (.bB 20 (decide (y7_1>0)) λx12=>.ifs [20] x12 (.bo (ix y7_2 y7_1) λx13=>.gv 25<|.gv 26<|.bI 29 (bA (y7_1-1)) λx14=>.bo (ix y7_2 x14) λx15=>.gv 30<|.gv 31<|.inl 32 aSE Tryz.func161 [1,2] [] (λ_ (a:Int)=>int a) (λ_ _=>[]) (.al 3<|.al 4<|.dr [(0,[2]),(1,[3]),(3,[2]),(4,[4])] [] [2,3,4] [] [0,1,2,3,4,5,6,7] (.cl 8 (GJ x13) aFK aFZ λx18=>.cl 11 (GJ x15) aFK aFZ λx19=>.cl 12 (EY x18 x19) Y3 XL λx20=>.ret (x20:Int))) (λy8_1=>.bB 33 (decide (y8_1<0)) λx21=>.ret x21)) (.ret false))) (λy9_1=>.ifs [34] y9_1 (.dr [(8,[1]),(9,[1]),(12,[1]),(13,[1]),(14,[1]),(16,[1])] [(15,[]),(17,[])] [1] [15,17] [0,1,2,3,4,5,6,7,8,9,10,11,12,13,14,15,16,17] (.bI 41 (bA (y7_1-1)) λx22=>.bI 44 (bA (y7_1-1)) λx23=>.bo (ix y7_2 x23) λx24=>.gv 45<|.gv 46<|.bo (ix y7_2 y7_1) λx25=>.gv 49<|.gv 50<|.gv 51<|.bl (y7_2.set (Int.toNat y7_1) x24:List aQ) λx26=>.ge 1006015 0<|.bo (ix x26 x22) λx27=>.gv 52<|.bl (x26.set (Int.toNat x22) x25:List aQ) λx28=>.ge 1006017 0<|.bI 36 (bA (y7_1-1)) λx29=>.brk ((x29:Int),x28))) (.esc (.ret y7_2))))) (λy10_1=>.ret y10_1)) (λy11_1=>.bI 16 (bA (y6_1+1)) λx30=>.brk ((x30:Int),y11_1))) (.esc (.ret y6_2)))) (λy12_1=>.ret y12_1)) (λy13_1=>.as (y13_1.length=a1.length) inferInstance<|.jn 0 [] [1,2] [] (λ_ (a:Unit)=>[]) (λ_ _=>[]) (.lp [0,1,2,6] [1,2] [] (λ_ (a:Unit)=>[]) (λ_ _=>[]) n () (λ_=>.bB 30 (decide (20<(a1.length:Int))) λx32=>.az [30] x32 (.esc (.ret ())))) (λ_=>.ret y13_1)))) (λy16_1=>.ret y16_1)) (λy17_1=>.ret y17_1)) (λy18_1=>.as (y18_1.length=a1.length) inferInstance<|.gv 17<|.dU 0 [2,3] [] [7] (λu137 (a:(List aQ))=>[(5,.sl 7 (u137 7) 0 a.length)]) (λ_ a=>[.nw 7 82 2 (a.map aQ.av)]) (.no 5 7 82 2<|.lp [2,3,17,18] [1] [7] (λu142 (a:Int×(List aQ))=>[(5,.sl 7 (u142 7) 0 a.2.length),(19,int a.1)]) (λ_ a=>[.nw 7 82 2 (a.2.map aQ.av)]) n ((0:Int),(([]:List aQ):List aQ)) (pw λy19_2 y19_3=>.bB 20 (decide (y19_2<(a1.length:Int))) λx35=>.ifs [20] x35 (.dU 1 [2,3,17,18,19] [1] [7] (λu144 (a:(List aQ))=>[(5,.sl 7 (u144 7) 0 a.length)]) (λ_ a=>[.nw 7 82 2 (a.map aQ.av)]) (.bo (ix y18_1 y19_2) λx36=>.gv 21<|.gv 22<|.al 5<|.bI 25 (bA ((y19_3.length:Int)-1)) λx38=>.jn 0 [2,3,5,7,8,17,18,19] [1,5,7] [] (λ_ (a:Bool)=>[(37,aI a)]) (λ_ _=>[]) (.dr [(5,[7]),(6,[7]),(7,[7]),(8,[5]),(9,[5])] [] [5,7] [] [0,1,2,3,4,5,6,7,8,9,10,11] (.bB 27 (decide (x38>=0)) λx39=>.ifs [27] x39 (.bo (ix y19_3 x38) λx40=>.gv 31<|.gv 32<|.gv 33<|.bB 36 (decide (x40.jH=x36.jH)) λx41=>.ret x41) (.ret false))) (λy20_1=>.ifs [37] y20_1 (.dr [(2,[7]),(3,[7]),(4,[7]),(5,[5]),(6,[5])] [] [5,7] [] [0,1,2,3,4,5,6,7,8,9,10,11,12] (.bo (ix y19_3 x38) λx42=>.gv 41<|.gv 42<|.gv 43<|.cl 46 (mG x42.bO x36.bO) pP oW λx43=>.bB 50 (decide (x43.2≠0)) λx44=>.ifs [50] x44 (.esc (.esc (.esc (.ret (([]:List aQ),(x43.2:Int)))))) (.gv 55<|.gv 56<|.bl (y19_3.set (Int.toNat x38) ((⟨x42.jH,x43.1⟩:aQ):aQ):List aQ) λx45=>.ge 1014005 0<|.brk x45))) (.to 59 (aH 2 aQ.av ([x36]:List aQ))<|.bl (y19_3++([x36]:List aQ):List aQ) λx46=>.as (x46.length<=68719476736) inferInstance<|.ge 60 0<|.brk x46))) (λy21_2=>.bI 61 (bA (y19_2+1)) λx49=>.brk ((x49:Int),y21_2))) (.esc (.brk y19_3)))) (λy22_2=>.inl 63 aLH Tryz.func111 [] [] (λu157 (a:Nat×Nat×(List aQ))=>.sl 7 (u157 7) a.1 a.2.1) (λ_ a=>[.kp 7 (a.2.2.map aQ.av)]) (.inl 10 VU Tryz.func159 [7] [] (λ_ (a:Int)=>int a) (λ_ _=>[]) (.dU 2 [4] [7] [] (λ_ (a:Unit)=>[]) (λ_ _=>[]) (.lp [0,1,4,7] [7] [] (λ_ (a:Int)=>[(8,int a)]) (λ_ _=>[]) n (0:Int) (λy23_1=>.bB 9 (decide (y23_1<(y22_2.length:Int))) λx50=>.ifs [9] x50 (.bo (ix y22_2 y23_1) λx51=>.gv 14<|.gv 15<|.cl 16 (zC x51) aE3 aC3 λx52=>.ifs [16] x52 (.esc (.esc (.ret (y23_1:Int)))) (.bI 18 (bA (y23_1+1)) λx53=>.brk (x53:Int))) (.esc (.brk ())))) (λ_=>.ret ((-1):Int))) (λy25_1=>.bB 12 (decide (y25_1=(-1))) λx54=>.ifs [12] x54 (.ret ((0:Nat),(y22_2.length:Nat),y22_2)) (.bI 15 (bA (y25_1+1)) λx55=>.jn 0 [4] [] [] (λu166 (a:Int×(List aQ))=>[(0,.sl 7 (u166 7) 0 a.2.length),(5,int a.1)]) (λ_ a=>[.kp 7 (a.2.map aQ.av)]) (.lp [1,4] [] [] (λu169 (a:Int×Int×(List aQ))=>[(0,.sl 7 (u169 7) 0 a.2.2.length),(5,int a.1),(6,int a.2.1)]) (λ_ a=>[.kp 7 (a.2.2.map aQ.av)]) n ((y25_1:Int),(x55:Int),y22_2) (pw λy26_1 q0=>(pw λy26_2 y26_3=>.bB 19 (decide (y26_2<(y26_3.length:Int))) λx56=>.ifs [19] x56 (.jn 1 [1,4,6] [] [] (λu170 (a:Int×(List aQ))=>[(0,.sl 7 (u170 7) 0 a.2.length),(5,int a.1)]) (λ_ a=>[.kp 7 (a.2.map aQ.av)]) (.bo (ix y26_3 y26_2) λx57=>.gv 24<|.gv 25<|.al 8<|.cl 28 (zC x57) aE3 aC3 λx59=>.bB 29 (!x59) λx60=>.ifs [29] x60 (.bo (ix y26_3 y26_1) λx61=>.gv 33<|.bl (y26_3.set (Int.toNat y26_1) x57:List aQ) λx62=>.ge 1009004 0<|.bI 35 (bA (y26_1+1)) λx63=>.ret ((x63:Int),x62)) (.ret ((y26_1:Int),y26_3))) (pw λy27_1 y27_2=>.bI 21 (bA (y26_2+1)) λx64=>.brk ((y27_1:Int),(x64:Int),y27_2))) (.esc (.ret ((y26_1:Int),y26_3)))) q0)) (pw λy28_1 y28_2=>.as ((0:Int)<=y28_1/\y28_1<(y28_2.length:Int)) inferInstance<|.gv 38<|.bl (y28_2.take (0+y28_1.toNat):List aQ) λx66=>.ge 1011003 0<|.as ((0:Int)<=y28_1/\y28_1<=(y28_2.length:Int)) inferInstance<|.gv 41<|.ret (((0+0):Nat),((y28_1.toNat-0):Nat),x66))))) (pw λy29_1 q0=>(pw λy29_2 y29_3=>.as (y29_1+y29_2<=y29_3.length) inferInstance<|.ret (((((y29_3).drop y29_1).take y29_2):List aQ),(0:Int))) q0)))))
def xC (n:Nat) (a1:List aQ):Option ((List aQ)×Int):=(PU n a1).run
theorem SA {n a1}:PZ (xC n a1) 66 [aH 2 aQ.av a1] (λr=>.bD [aH 2 aQ.av r.1,int r.2]):=by
 refine wm Tryz.func66 ?_
 refine .mk ?_ ?_
 refine .mk ?_ ?_
 refine .mk ?_
 refine .mk ?_ ?_
 refine .mk ?_
 intro _ _
 refine .mk λx2=>?_
 refine .mk ?_ ?_
 refine .mk λx3 e3=>?_
 refine .mk λx4 e4=>?_
 refine .mk .mk ?_
 refine .mk λx5=>?_
 exact .mk
 exact .mk
 intro _ _
 exact .mk
 intro _ _
 refine .mk trivial ?_
 refine .mk λx6=>?_
 exact .mk
 intro _ _
 refine .mk trivial ?_
 refine .mk ?_ ?_
 exact .mk (bT.bD (.cons (.nil _) (.cons (.refl _) .nil)))
 refine .mk λp7=>?_
 refine .mk _ ⟨λ_=>eO rfl rfl (.cons rfl .nil) Y5 (jD (Y4.pc (id:=1) (l:=a1) rfl p7) (.cons (.refl _) .nil)),λ_ _ _=>trivial⟩ ?_
 rintro _ _ ⟨v8,rfl,rfl⟩
 refine .mk ?_ ?_
 intro v9
 refine .mk ?_ ?_
 refine .mk ?_ ?_
 refine .mk ?_ ?_
 refine .mk ?_
 intro _ _
 refine .mk λx10=>?_
 refine .mk ?_
 exact .mk
 intro _ _
 refine .mk ?_ ?_
 refine .mk ?_
 refine .mk ?_ ?_
 refine .mk ?_
 intro _ _
 refine .mk λx11=>?_
 refine .mk ?_ ?_
 refine .mk ?_ ?_
 refine .mk ?_ ?_
 refine .mk ?_
 rintro ⟨y7_1,y7_2⟩ _
 refine .mk ?_ ?_
 refine .mk ?_
 refine .mk λx12=>?_
 refine .mk ?_ ?_
 refine .mk λx13 e13=>?_
 refine .mk _ (λH hH _=>eY rfl Tryz.underlying46 kK rfl rfl ((hH _ (by decide)).trans rfl) rfl rfl (Eq.symm rfl) (List.length_map _) e13) ?_
 refine .mk _ (λH hH _=>fU rfl kK rfl (.pt ((hH _ (by decide)).trans rfl) rfl (dN e13)) rfl) ?_
 refine .mk λx14=>?_
 refine .mk λx15 e15=>?_
 refine .mk _ (λH hH _=>eY rfl Tryz.underlying46 kK rfl rfl ((hH _ (by decide)).trans rfl) rfl rfl (Eq.symm rfl) (List.length_map _) e15) ?_
 refine .mk _ (λH hH _=>fU rfl kK rfl (.pt ((hH _ (by decide)).trans rfl) rfl (dN e15)) rfl) ?_
 refine .mk ?_ ?_
 intro v16
 intro v17
 refine .mk ?_
 refine .mk λx18 e18=>?_
 refine .mk λx19 e19=>?_
 refine .mk λx20 e20=>?_
 exact .mk
 intro _ _
 refine .mk trivial ?_
 refine .mk λx21=>?_
 exact .mk
 exact .mk
 intro _ _
 refine .mk ?_ ?_
 refine .mk ?_
 refine .mk λx22=>?_
 refine .mk λx23=>?_
 refine .mk λx24 e24=>?_
 refine .mk _ (λH hH _=>eY rfl Tryz.underlying46 kK rfl rfl ((hH _ (by decide)).trans rfl) rfl rfl (Eq.symm rfl) (List.length_map _) e24) ?_
 refine .mk _ (λH hH _=>fU rfl kK rfl (.pt ((hH _ (by decide)).trans rfl) rfl (dN e24)) rfl) ?_
 refine .mk λx25 e25=>?_
 refine .mk _ (λH hH _=>eY rfl Tryz.underlying46 kK rfl rfl ((hH _ (by decide)).trans rfl) rfl rfl (Eq.symm rfl) (List.length_map _) e25) ?_
 refine .mk _ (λH hH _=>fU rfl kK rfl (.pt ((hH _ (by decide)).trans rfl) rfl (dN e25)) rfl) ?_
 refine .mk _ (λH hH _=>eY rfl Tryz.underlying46 kK rfl rfl ((hH _ (by decide)).trans rfl) rfl rfl (Eq.symm rfl) (List.length_map _) e25) ?_
 refine .mk λx26 e26=>?_
 have fx26:=iE e25 e26;have lx26:=iD e26 (rfl:y7_2.length=y7_2.length)
 refine .mk _ ⟨λ_=>bY.eX (fH (ob':=(⟨82,2,true,true,_,x26.map aQ.av⟩:bH)) (fC rfl kK rfl rfl rfl rfl rfl (dN e25) rfl rfl rfl) (iC (jB e26))) (λ_ h=>h) (λ_ _=>trivial),by rintro _ _ ⟨rfl,rfl⟩;exact trivial⟩ ?_
 rintro _ _ ⟨rfl,rfl⟩
 refine .mk λx27 e27=>?_
 refine .mk _ (λH hH _=>eY rfl Tryz.underlying46 kK rfl rfl ((hH _ (by decide)).trans rfl) rfl rfl (Eq.symm lx26) (List.length_map _) e27) ?_
 refine .mk λx28 e28=>?_
 have fx28:=iE e27 e28;have lx28:=iD e28 lx26
 refine .mk _ ⟨λ_=>bY.eX (fH (ob':=(⟨82,2,true,true,_,x28.map aQ.av⟩:bH)) (fC rfl kK rfl rfl rfl rfl rfl (dN e27) rfl rfl rfl) (iC (jB e28))) (λ_ h=>h) (λ_ _=>trivial),by rintro _ _ ⟨rfl,rfl⟩;exact trivial⟩ ?_
 rintro _ _ ⟨rfl,rfl⟩
 refine .mk λx29=>?_
 exact .mk ⟨⟨⟨_,rfl,(kJ (Eq.symm lx28))⟩,⟨_,rfl,(.refl _)⟩,⟨_,rfl,(.refl _)⟩,⟨_,rfl,(.refl _)⟩,⟨_,rfl,(.refl _)⟩,⟨_,rfl,(.refl _)⟩,trivial⟩,⟨⟨_,rfl,(.refl _)⟩,⟨_,rfl,(.refl _)⟩,trivial⟩⟩
 exact .mk
 intro _ _
 exact .mk
 intro _ _
 refine .mk λx30=>?_
 exact .mk
 exact .mk
 intro _ _
 exact .mk
 intro _ _
 refine .mk trivial ?_
 refine .mk λp31=>?_
 refine .mk ?_ ?_
 refine .mk ?_
 intro _ _
 refine .mk λx32=>?_
 refine .mk ?_
 exact .mk
 intro _ _
 exact .mk
 intro _ _
 refine .mk trivial ?_
 exact .mk
 intro _ _
 refine .mk trivial ?_
 exact .mk
 intro _ _
 refine .mk trivial ?_
 refine .mk λp33=>?_
 refine .mk _ (bK (mK rfl rfl)) ?_
 refine .mk ?_ ?_
 intro v34
 refine .mk ?_
 rintro ⟨y19_2,y19_3⟩ _
 refine .mk λx35=>?_
 refine .mk ?_ ?_
 refine .mk ?_ ?_
 refine .mk λx36 e36=>?_
 refine .mk _ (bK (eY rfl Tryz.underlying46 kK rfl rfl rfl rfl rfl (Eq.symm p33) (List.length_map _) e36)) ?_
 refine .mk _ (bK (fU rfl kK rfl (.pt rfl rfl (dN e36)) rfl)) ?_
 intro v37
 refine .mk λx38=>?_
 refine .mk ?_ ?_
 refine .mk ?_
 refine .mk λx39=>?_
 refine .mk ?_ ?_
 refine .mk λx40 e40=>?_
 refine .mk _ (λH hH _=>eY rfl Tryz.underlying46 kK rfl rfl ((hH _ (by decide)).trans rfl) rfl rfl (Eq.symm rfl) (List.length_map _) e40) ?_
 refine .mk _ (λH hH _=>fZ rfl aMY rfl (.pt ((hH _ (by decide)).trans rfl) rfl (dN e40)) (.pt _ _ _ _ _)) ?_
 refine .mk _ (λH hH _=>fU rfl dP rfl (.pt ((hH _ (by decide)).trans rfl) rfl (dN e40)) rfl) ?_
 refine .mk λx41=>?_
 exact .mk
 exact .mk
 intro _ _
 refine .mk ?_ ?_
 refine .mk ?_
 refine .mk λx42 e42=>?_
 refine .mk _ (λH hH _=>eY rfl Tryz.underlying46 kK rfl rfl ((hH _ (by decide)).trans rfl) rfl rfl (Eq.symm rfl) (List.length_map _) e42) ?_
 refine .mk _ (λH hH _=>fZ rfl aHC rfl (.pt ((hH _ (by decide)).trans rfl) rfl (dN e42)) (.pt _ _ _ _ _)) ?_
 refine .mk _ (λH hH _=>fU rfl dP rfl (.pt ((hH _ (by decide)).trans rfl) rfl (dN e42)) rfl) ?_
 refine .mk λx43 e43=>?_
 refine .mk λx44=>?_
 refine .mk ?_ ?_
 exact .mk (bT.bD (.cons (.nil _) (.cons (.refl _) .nil)))
 refine .mk _ (bK (eY rfl Tryz.underlying46 kK rfl rfl rfl rfl rfl (Eq.symm rfl) (List.length_map _) e42)) ?_
 refine .mk _ (bK (fZ rfl aHC rfl (.pt rfl rfl (dN e42)) (.pt _ _ _ _ _))) ?_
 refine .mk λx45 e45=>?_
 have fx45:=iE e42 e45;have lx45:=iD e45 (rfl:y19_3.length=y19_3.length)
 refine .mk _ ⟨λ_=>bY.eX (fH (ob':=(⟨82,2,true,true,_,x45.map aQ.av⟩:bH)) (fC rfl dP rfl rfl rfl rfl rfl (dN e42) rfl rfl rfl) (iC (jB e45))) (λ_ h=>h) (λ_ _=>trivial),λ_ _ _=>trivial⟩ ?_
 rintro _ _ ⟨rfl,rfl⟩
 exact .mk ⟨⟨⟨_,rfl,(kJ (Eq.symm lx45))⟩,⟨_,rfl,(.refl _)⟩,⟨_,rfl,(.refl _)⟩,⟨_,rfl,(.refl _)⟩,⟨_,rfl,(.refl _)⟩,⟨_,rfl,(.refl _)⟩,trivial⟩,⟨⟨_,rfl,(.refl _)⟩,⟨_,rfl,(.refl _)⟩,trivial⟩⟩
 refine .mk (bK (dK (y:=aH 2 aQ.av ([x36]:List aQ)) (gM (ps:=[(0,_)]) (rows:=[[int x36.jH,int x36.bO]]) rfl Tryz.underlying46 qD (.cons rfl .nil) (by kernel_rfl) rfl rfl rfl) rfl)) ?_
 refine .mk λx46 e46=>?_
 refine .mk λp47=>?_
 refine .mk _ ⟨λ_=>kQ (g:=aQ.av) (l:=y19_3) (m:=([x36]:List aQ)) .any rfl Tryz.underlying46 qD GD rfl rfl rfl rfl rfl rfl rfl rfl rfl rfl (Eq.symm rfl) (.refl _) (λ_=>rfl) e46 p47,λ_ _ _=>trivial⟩ ?_
 rintro _ _ ⟨v48,-,rfl,rfl⟩
 exact .mk
 intro _ _
 refine .mk λx49=>?_
 exact .mk
 exact .mk
 intro _ _
 refine .mk ?_ ?_
 refine .mk ?_ ?_
 refine .mk ?_ ?_
 refine .mk ?_
 intro _ _
 refine .mk λx50=>?_
 refine .mk ?_ ?_
 refine .mk λx51 e51=>?_
 refine .mk _ (bK (eY rfl Tryz.underlying46 kK rfl rfl rfl rfl rfl (Eq.symm rfl) (List.length_map _) e51)) ?_
 refine .mk _ (bK (fU rfl kK rfl (.pt rfl rfl (dN e51)) rfl)) ?_
 refine .mk λx52 e52=>?_
 refine .mk .mk ?_
 refine .mk λx53=>?_
 exact .mk
 exact .mk
 intro _ _
 exact .mk
 intro _ _
 refine .mk trivial ?_
 refine .mk λx54=>?_
 refine .mk .mk ?_
 refine .mk λx55=>?_
 refine .mk ?_ ?_
 refine .mk ?_
 rintro ⟨y26_1,y26_2,y26_3⟩ _
 refine .mk λx56=>?_
 refine .mk ?_ ?_
 refine .mk ?_ ?_
 refine .mk λx57 e57=>?_
 refine .mk _ (bK (eY rfl Tryz.underlying46 kK rfl rfl rfl rfl rfl (Eq.symm rfl) (List.length_map _) e57)) ?_
 refine .mk _ (bK (fU rfl kK rfl (.pt rfl rfl (dN e57)) rfl)) ?_
 intro v58
 refine .mk λx59 e59=>?_
 refine .mk λx60=>?_
 refine .mk ?_ ?_
 refine .mk λx61 e61=>?_
 refine .mk _ (bK (eY rfl Tryz.underlying46 kK rfl rfl rfl rfl rfl (Eq.symm rfl) (List.length_map _) e61)) ?_
 refine .mk λx62 e62=>?_
 have fx62:=iE e61 e62;have lx62:=iD e62 (rfl:y26_3.length=y26_3.length)
 refine .mk _ ⟨λ_=>bY.eX (fH (ob':=(⟨82,2,true,true,_,x62.map aQ.av⟩:bH)) (fC rfl kK rfl rfl rfl rfl rfl (dN e61) rfl rfl rfl) (iC (jB e62))) (λ_ h=>h) (λ_ _=>trivial),λ_ _ _=>trivial⟩ ?_
 rintro _ _ ⟨rfl,rfl⟩
 refine .mk λx63=>?_
 exact .mk ⟨⟨⟨_,rfl,(kJ (Eq.symm lx62))⟩,⟨_,rfl,(.refl _)⟩,⟨_,rfl,(.refl _)⟩,⟨_,rfl,(.refl _)⟩,⟨_,rfl,(.refl _)⟩,trivial⟩,⟨⟨_,rfl,(.refl _)⟩,trivial⟩⟩
 exact .mk
 intro _ _
 refine .mk λx64=>?_
 exact .mk
 exact .mk
 rintro ⟨y28_1,y28_2⟩ _
 refine .mk λp65=>?_
 refine .mk _ (bK (NQ (len:=y28_2.length) (i:=y28_1.toNat) (j:=y28_2.length) rfl Tryz.underlying46 kK rfl rfl rfl rfl (.yes rfl (by first | omega | (dsimp only;omega) | (dsimp only at *;omega))) .no (by first | omega | (dsimp only;omega) | (dsimp only at *;omega)) (Nat.le_refl _) (.inl (by first | omega | (dsimp only;omega) | (dsimp only at *;omega))))) ?_
 refine .mk λx66 e66=>?_
 refine .mk _ ⟨λ_=>bY.eX (fH (ob':=(⟨82,2,true,true,_,x66.map aQ.av⟩:bH)) (aT2 rfl Tryz.underlying46 qD rfl rfl rfl rfl rfl rfl e66) rfl) (λ_ h=>h) (λ_ _=>trivial),λ_ _ _=>trivial⟩ ?_
 rintro _ _ ⟨rfl,rfl⟩
 refine .mk λp67=>?_
 refine .mk _ (bK (NQ (len:=y28_2.length) (i:=0) (j:=y28_1.toNat) rfl Tryz.underlying46 kK rfl rfl rfl rfl .no (.yes rfl (by first | omega | (dsimp only;omega) | (dsimp only at *;omega))) (Nat.zero_le _) (by first | omega | (dsimp only;omega) | (dsimp only at *;omega)) (.inr rfl))) ?_
 exact .mk
 rintro ⟨y29_1,y29_2,y29_3⟩ _
 refine .mk trivial ?_
 refine .mk λp68=>?_
 exact .mk (bT.bD (.cons (KC (l:=y29_3) rfl rfl rfl rfl (iT.refl _) (by first | omega | (simp only [List.length_set];omega)) rfl) (.cons (.refl _) .nil)))
def SH (n:Nat) (a1:List Int):WB (Int×Int) :=
 .ln 9 fI a1<|.dU 0 [2,3] [] [] (λ_ (a:Int)=>[(4,int a)]) (λ_ _=>[]) (.lp [2,3,8,9] [] [] (λ_ (a:Int×Int)=>[(4,int a.1),(10,int a.2)]) (λ_ _=>[]) n ((0:Int),0) (pw λy0_1 y0_2=>.bB 11 (decide (y0_2<(a1.length:Int))) λx2=>.ifs [11] x2 (.ix 12 fI a1 y0_2 λx3=>.cl 17 (mG y0_1 x3) pP oW λx4=>.bB 21 (decide (x4.2≠0)) λx5=>.ifs [21] x5 (.esc (.esc (.ret ((0:Int),x4.2)))) (.bI 23 (bA (y0_2+1)) λx6=>.brk ((x4.1:Int),x6))) (.esc (.brk y0_1)))) (λy1_1=>.ret ((y1_1:Int),0))
def kN (n:Nat) (a1:List Int):Option (Int×Int):=(SH n a1).run
theorem nO {n a1}:PZ (kN n a1) 61 [aH 1 fI a1] (λr=>.bD [int r.1,int r.2]):=wq Tryz.func61
def RP (n:Nat) (a1:List aQ):WB (Int×Int) :=
 .ln 8 aQ.av a1<|.jn 0 [2,3] [] [3] (λu2 (a:(List Int))=>[(4,.sl 3 (u2 3) 0 a.length)]) (λ_ a=>[.nw 3 3 1 (a.map fI)]) (.no 4 3 3 1<|.lp [2,3,7,8] [] [3] (λu3 (a:Int×(List Int))=>[(4,.sl 3 (u3 3) 0 a.2.length),(9,int a.1)]) (λ_ a=>[.nw 3 3 1 (a.2.map fI)]) n ((0:Int),(([]:List Int):List Int)) (pw λy0_2 y0_3=>.bB 10 (decide (y0_2<(a1.length:Int))) λx3=>.ifs [10] x3 (.ix 11 aQ.av a1 y0_2 λx4=>.al 1<|.to 16 (aH 1 fI ([x4.bO]:List Int))<|.bl (y0_3++([x4.bO]:List Int):List Int) λx6=>.as (x6.length<=68719476736) inferInstance<|.ge 17 0<|.bI 18 (bA (y0_2+1)) λx9=>.brk ((x9:Int),x6)) (.esc (.ret y0_3)))) (λy1_2=>.jF 20 (kN n y1_2) nM nO (λ_=>rfl) λx10=>.ret ((x10.1:Int),x10.2))
def BI (n:Nat) (a1:List aQ):Option (Int×Int):=(RP n a1).run
theorem aOZ {n a1}:PZ (BI n a1) 196 [aH 2 aQ.av a1] (λr=>.bD [int r.1,int r.2]):=wq Tryz.func196
def QI (a1:aQ):WB (Bool) :=
 .al 1<|.jn 0 [] [] [] (λ_ (a:Bool)=>[(2,aI a)]) (λ_ _=>[]) (.cl 5 (zD a1.jH) aHI aFV λx3=>.bB 6 (!x3) λx4=>.ifs [6] x4 (.ret true) (.bB 10 (decide (a1.bO=0)) λx5=>.ifs [10] x5 (.ret true) (.cl 15 (zV a1.bO) ZE Y1 λx6=>.bB 16 (!x6) λx7=>.ret x7))) (λy0_1=>.ret ((y0_1:Bool)))
def C9 (a1:aQ):Option (Bool):=(QI a1).run
theorem aPQ {a1}:PZ (C9 a1) 195 [.agg (aQ.av a1)] aI:=wq Tryz.func195
def SG (n:Nat) (a1:List aQ):WB (Bool) :=
 .jn 1 [0,2] [] [] (λ_ (a:Bool)=>[(13,aI a)]) (λ_ _=>[]) (.ln 7 aQ.av a1<|.bB 8 (decide ((a1.length:Int)<1)) λx2=>.ifs [8] x2 (.ret true) (.ln 11 aQ.av a1<|.bB 12 (decide ((a1.length:Int)>12)) λx3=>.ret x3)) (λy0_1=>.ifs [13] y0_1 (.ret ((false:Bool))) (.cl 16 (BI n a1) aRO aOZ λx4=>.jn 0 [] [] [] (λ_ (a:Bool)=>[(2,aI a)]) (λ_ _=>[]) (.inl 21 aAY Tryz.func104 [] [] (λ_ (a:Bool)=>aI a) (λ_ _=>[]) (.inl 7 VU Tryz.func159 [] [] (λ_ (a:Int)=>int a) (λ_ _=>[]) (.ln 7 aQ.av a1<|.dU 0 [4] [] [] (λ_ (a:Unit)=>[]) (λ_ _=>[]) (.lp [0,1,4,7] [] [] (λ_ (a:Int)=>[(8,int a)]) (λ_ _=>[]) n 0 (λy1_1=>.bB 9 (decide (y1_1<(a1.length:Int))) λx5=>.ifs [9] x5 (.ix 14 aQ.av a1 y1_1 λx6=>.cl 16 (C9 x6) aTM aPQ λx7=>.ifs [16] x7 (.esc (.esc (.ret y1_1))) (.bI 18 (bA (y1_1+1)) λx8=>.brk x8)) (.esc (.brk ())))) (λ_=>.ret (-1))) (λy3_1=>.bB 8 (decide (y3_1>=0)) λx9=>.ret x9)) (λy4_1=>.bB 22 (!y4_1) λx10=>.ifs [22] x10 (.bB 25 (decide (x4.1=0)) λx11=>.ifs [25] x11 (.bB 29 (decide (x4.2=0)) λx12=>.ret x12) (.ret false)) (.ret false))) (λy5_1=>.ret ((y5_1:Bool)))))
def D5 (n:Nat) (a1:List aQ):Option (Bool):=(SG n a1).run
theorem aXP {n a1}:PZ (D5 n a1) 152 [aH 2 aQ.av a1] aI:=wq Tryz.func152
def VD (n:Nat) (a1:List Int) (a2:List aQ):WB ((List Int)×Int) :=
 .al 1<|.ln 7 fI a1<|.bB 8 (decide ((a1.length:Int)≠17)) λx4=>.ifs [8] x4 (.ret (([]:List Int),1)) (.inl 11 aOS Tryz.func150 [1] [2,4] (B:=(Int)⊕((List Int))) (λu8=>Sum.elim (λa=>.bD [.sl 4 (u8 4) 0 a1.length,int a]) (λa=>.bD [.sl 2 (u8 2) 0 a.length,int 0])) (λu8=>Sum.elim (λa=>[.nw 4 3 1 (a1.map fI)]) (λa=>[.nw 2 3 1 (a.map fI)])) (.as (a1.length<=68719476736) inferInstance<|.ge 9 2<|.inl 12 aH9 Tryz.func151 [1] [] (λ_ (a:Int×(List Int))=>int a.1) (λ_ a=>[.kp 2 (a.2.map fI)]) (.cl 10 (xC n a2) PR SA λx7=>.jn 0 [0,3,4] [1,2] [] (λ_ (a:Bool)=>[(24,aI a)]) (λ_ _=>[]) (.bB 14 (decide (x7.2≠0)) λx8=>.ifs [14] x8 (.ret true) (.ln 17 aQ.av x7.1<|.bB 18 (decide ((x7.1.length:Int)>0)) λx9=>.ifs [18] x9 (.cl 21 (D5 n x7.1) aQL aXP λx10=>.bB 22 (!x10) λx11=>.ret x11) (.ret false))) (λy0_1=>.ifs [24] y0_1 (.ret ((10:Int),a1)) (.ln 26 aQ.av x7.1<|.dU 0 [3] [1] [] (λ_ (a:(List Int))=>[]) (λ_ a=>[.kp 2 (a.map fI)]) (.lp [3,25,26] [1] [] (λu14 (a:Int×(List Int))=>[(0,.sl 2 (u14 2) 0 a.2.length),(27,int a.1)]) (λ_ a=>[.kp 2 (a.2.map fI)]) n ((0:Int),a1) (pw λy1_1 y1_2=>.bB 28 (decide (y1_1<(x7.1.length:Int))) λx12=>.ifs [28] x12 (.ix 29 aQ.av x7.1 y1_1 λx13=>.al 3<|.dr [(1,[3]),(2,[3]),(4,[3]),(5,[3]),(6,[2]),(7,[2]),(8,[3]),(9,[3]),(14,[2])] [(15,[])] [2,3] [15] [0,1,2,3,4,5,6,7,8,9,10,11,12,13,14,15,16] (.bo (ix y1_2 x13.jH) λx15=>.gv 38<|.gv 39<|.cl 42 (mG x15 x13.bO) pP oW λx16=>.gv 45<|.bl (y1_2.set (Int.toNat x13.jH) x16.1:List Int) λx17=>.ge 1007015 0<|.bB 47 (decide (x16.2≠0)) λx18=>.ifs [47] x18 (.esc (.esc (.ret ((x16.2:Int),x17)))) (.bI 49 (bA (y1_1+1)) λx19=>.brk ((x19:Int),x17)))) (.esc (.brk y1_2)))) (λy2_1=>.ret ((0:Int),y2_1))))) (pw λy3_1 y3_2=>.bB 14 (decide (y3_1≠0)) λx20=>.ifs [14] x20 (.as (a1.length<=68719476736) inferInstance<|.ge 16 4<|.ret (.inl y3_1)) (.as (y3_2.length=a1.length) inferInstance<|.gv 18<|.ret (.inr y3_2)))) (Sum.elim (λy4_2=>.ret ((a1:List Int),y4_2)) (λy5_2=>.ret ((y5_2:List Int),0))))
def AX (n:Nat) (a1:List Int) (a2:List aQ):Option ((List Int)×Int):=(VD n a1 a2).run
theorem aOJ {n a1 a2}:PZ (AX n a1 a2) 97 [aH 1 fI a1,aH 2 aQ.av a2] (λr=>.bD [aH 1 fI r.1,int r.2]):=by
 refine wm Tryz.func97 ?_
 intro v3
 refine .mk ?_
 refine .mk λx4=>?_
 refine .mk ?_ ?_
 exact .mk (bT.bD (.cons (.nil _) (.cons (.refl _) .nil)))
 refine .mk ?_ ?_
 refine .mk λp5=>?_
 refine .mk _ ⟨λ_=>eO rfl rfl (.cons rfl .nil) DX (jD (A9.pc (id:=2) (l:=a1) rfl p5) (.cons (.refl _) .nil)),λ_ _ _=>trivial⟩ ?_
 rintro _ _ ⟨v6,rfl,rfl⟩
 refine .mk ?_ ?_
 refine .mk λx7 e7=>?_
 refine .mk ?_ ?_
 refine .mk λx8=>?_
 refine .mk .mk ?_
 refine .mk ?_
 refine .mk λx9=>?_
 refine .mk ?_ ?_
 refine .mk λx10 e10=>?_
 refine .mk λx11=>?_
 exact .mk
 exact .mk
 intro _ _
 refine .mk .mk ?_
 refine .mk ?_
 refine .mk ?_ ?_
 refine .mk ?_
 rintro ⟨y1_1,y1_2⟩ _
 refine .mk λx12=>?_
 refine .mk ?_ ?_
 refine .mk λx13 e13=>?_
 intro v14
 refine .mk ?_
 refine .mk λx15 e15=>?_
 refine .mk _ (λH hH _=>eY rfl Tryz.underlying22 dP rfl rfl ((hH _ (by decide)).trans rfl) rfl rfl (Eq.symm rfl) (List.length_map _) e15) ?_
 refine .mk _ (λH hH _=>fU rfl dP rfl (.pt ((hH _ (by decide)).trans rfl) rfl (dN e15)) rfl) ?_
 refine .mk λx16 e16=>?_
 refine .mk _ (λH hH _=>eY rfl Tryz.underlying22 dP rfl rfl ((hH _ (by decide)).trans rfl) rfl rfl (Eq.symm rfl) (List.length_map _) e15) ?_
 refine .mk λx17 e17=>?_
 have fx17:=iE e15 e17;have lx17:=iD e17 (rfl:y1_2.length=y1_2.length)
 refine .mk _ ⟨λ_=>bY.eX (fH (ob':=(⟨3,1,true,true,_,x17.map fI⟩:bH)) (fC rfl dP rfl rfl rfl rfl rfl (dN e15) rfl rfl rfl) (iC (jB e17))) (λ_ h=>h) (λ_ _=>trivial),by rintro _ _ ⟨rfl,rfl⟩;exact trivial⟩ ?_
 rintro _ _ ⟨rfl,rfl⟩
 refine .mk λx18=>?_
 refine .mk .mk ?_
 refine .mk λx19=>?_
 exact .mk ⟨⟨⟨_,rfl,(kJ (Eq.symm lx17))⟩,⟨_,rfl,(.refl _)⟩,⟨_,rfl,(.refl _)⟩,⟨_,rfl,(.refl _)⟩,⟨_,rfl,(.refl _)⟩,trivial⟩,⟨⟨_,rfl,(.refl _)⟩,⟨_,rfl,(.refl _)⟩,trivial⟩⟩
 exact .mk
 intro _ _
 exact .mk
 intro _ _
 refine .mk trivial ?_
 refine .mk λx20=>?_
 refine .mk ?_ ?_
 refine .mk λp21=>?_
 refine .mk _ ⟨λ_=>eO rfl rfl (.cons rfl .nil) DX (jD (A9.pc (id:=4) (l:=a1) rfl p21) (.cons (.refl _) .nil)),λ_ _ _=>trivial⟩ ?_
 rintro _ _ ⟨v22,rfl,rfl⟩
 exact .mk
 refine .mk λp23=>?_
 refine .mk _ (bK (mK rfl rfl)) ?_
 exact .mk (V2 (Eq.symm p23)) ⟨rfl,rfl,trivial⟩
 rintro (y4_2 | y5_2) _
 refine .mk trivial ?_
 exact .mk (bT.bD (.cons (dZ rfl rfl rfl rfl rfl (Eq.symm rfl)) (.cons (.refl _) .nil)))
 refine .mk trivial ?_
 exact .mk (bT.bD (.cons (dZ rfl rfl rfl rfl rfl (Eq.symm rfl)) (.cons (.refl _) .nil)))
end
end Go.Pv
