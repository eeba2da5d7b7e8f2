import Derived.Test.YtkgnickfdedbmabGreatXCg
set_option linter.unusedVariables false
set_option linter.unusedSimpArgs false
namespace Go.Pv
open Go.Proofs
set_option maxRecDepth 100000
set_option maxHeartbeats 4000000
noncomputable section
def aAP (n:Nat) (a1:List aB):WB (Bool) :=
 .ln 9 aB.av a1<|.jn 0 [2] [] [3] (λu2 (a:(List Int))=>[(3,.sl 3 (u2 3) 0 a.length)]) (λ_ a=>[.nw 3 3 1 (a.map fI)]) (.no 3 3 3 1<|.lp [2,8,9] [] [3] (λu3 (a:Int×(List Int))=>[(3,.sl 3 (u3 3) 0 a.2.length),(10,int a.1)]) (λ_ a=>[.nw 3 3 1 (a.2.map fI)]) n ((0:Int),(([]:List Int):List Int)) (pw λy0_2 y0_3=>.bB 11 (decide (y0_2<(a1.length:Int))) λx3=>.ifs [11] x3 (.ix 12 aB.av a1 y0_2 λx4=>.al 1<|.bI 19 (aI (0-x4.bO)) λx6=>.bl (if x6>x4.bO then x6 else x4.bO:Int) λx7=>.gv 20<|.to 21 (aD 1 fI ([x7]:List Int))<|.bl (y0_3++([x7]:List Int):List Int) λx8=>.as (x8.length<=68719476736) inferInstance<|.ge 22 0<|.bI 23 (aI (y0_2+1)) λx11=>.brk ((x11:Int),x8)) (.esc (.ret y0_3)))) (λy1_2=>.gK 26 (nV n y1_2) pG o5 (λ_=>rfl) λx12=>.bB 30 (decide (x12.2=0)) λx13=>.ret ((x13:Bool)))
def UH (n:Nat) (a1:List aB):Option (Bool):=(aAP n a1).run
theorem aHB {n a1}:PZ (UH n a1) 243 [aD 3 aB.av a1] aF:=wq Tryz.func243
def aJ8 (n:Nat) (a1:List aB):WB (Bool) :=
 .jn 1 [0,2] [] [] (λ_ (a:Bool)=>[(11,aF a)]) (λ_ _=>[]) (.ln 6 aB.av a1<|.bB 7 (decide ((a1.length:Int)>30)) λx2=>.ifs [7] x2 (.ret true) (.inl 10 aE5 Tryz.func241 [] [] (λ_ (a:Bool)=>aF a) (λ_ _=>[]) (.inl 7 aFX Tryz.func250 [] [] (λ_ (a:Int)=>int a) (λ_ _=>[]) (.ln 7 aB.av a1<|.dF 0 [4] [] [] (λ_ (a:Unit)=>[]) (λ_ _=>[]) (.lp [0,1,4,7] [] [] (λ_ (a:Int)=>[(8,int a)]) (λ_ _=>[]) n 0 (λy0_1=>.bB 9 (decide (y0_1<(a1.length:Int))) λx3=>.ifs [9] x3 (.ix 14 aB.av a1 y0_1 λx4=>.cl 16 (TU x4) aD5 aFP λx5=>.ifs [16] x5 (.esc (.esc (.ret y0_1))) (.bI 18 (aI (y0_1+1)) λx6=>.brk x6)) (.esc (.brk ())))) (λ_=>.ret (-1))) (λy2_1=>.bB 8 (decide (y2_1>=0)) λx7=>.ret x7)) (λy3_1=>.ret y3_1))) (λy4_1=>.ifs [11] y4_1 (.ret ((false:Bool))) (.cl 14 (y8 n a1) z8 BD λx8=>.al 1<|.jn 0 [] [] [] (λ_ (a:Bool)=>[(2,aF a)]) (λ_ _=>[]) (.bB 18 (decide (x8.2=0)) λx10=>.ifs [18] x10 (.cl 21 (UH n a1) aOA aHB λx11=>.ret x11) (.ret false)) (λy5_1=>.ret ((y5_1:Bool)))))
def L5 (n:Nat) (a1:List aB):Option (Bool):=(aJ8 n a1).run
theorem aN0 {n a1}:PZ (L5 n a1) 227 [aD 3 aB.av a1] aF:=wq Tryz.func227
def WO (n:Nat) (a1:List aB) (a2:aB):WB ((List aB)×Int) :=
 .al 1<|.as (a1.length<=68719476736) inferInstance<|.ge 8 2<|.jn 1 [0,3,4,5] [1,2] [] (λ_ (a:Bool)=>[(9,aF a)]) (λ_ _=>[]) (.bB 12 (decide (a2.aQ<1)) λx6=>.ifs [12] x6 (.ret true) (.bB 16 (decide (a2.Value<0)) λx7=>.ret x7)) (λy0_1=>.ifs [9] y0_1 (.ret ((a1:List aB),1)) (.bB 22 (decide ((a1.length:Int)>=30)) λx8=>.ifs [22] x8 (.ret ((a1:List aB),6)) (.dr [(2,[1])] [(4,[])] [1] [1,4] [0,2,3,1,4,5] (.to 27 (aD 3 aB.av ([a2]:List aB))<|.as (a1.length<=68719476736) inferInstance<|.ge 25 3<|.bl (a1++([a2]:List aB):List aB) λx11=>.as (x11.length<=68719476736) inferInstance<|.ge 28 0<|.gK 30 (L5 n x11) aMB aN0 (λ_=>rfl) λx14=>.bB 31 (!x14) λx15=>.ifs [31] x15 (.ret ((a1:List aB),2)) (.ret ((x11:List aB),0))))))
def JM (n:Nat) (a1:List aB) (a2:aB):Option ((List aB)×Int):=(WO n a1 a2).run
theorem ND {n a1 a2}:PZ (JM n a1 a2) 272 [aD 3 aB.av a1,.agg (aB.av a2)] (λr=>.aU [aD 3 aB.av r.1,int r.2]):=by
 refine wm Tryz.func272 ?_
 intro v3
 refine .mk λp4=>?_
 refine .mk _ ⟨λ_=>d9 rfl rfl (.cons rfl .nil) vJ (iK (wU.pc (id:=2) (l:=a1) rfl p4) (.cons (.refl _) .nil)),λ_ _ _=>trivial⟩ ?_
 rintro _ _ ⟨v5,rfl,rfl⟩
 refine .mk ?_ ?_
 refine .mk λx6=>?_
 refine .mk .mk ?_
 refine .mk λx7=>?_
 exact .mk
 intro _ _
 refine .mk ?_ ?_
 exact .mk (bK.aU (.cons (dH rfl rfl rfl rfl rfl (Eq.symm rfl)) (.cons (.refl _) .nil)))
 refine .mk λx8=>?_
 refine .mk ?_ ?_
 exact .mk (bK.aU (.cons (dH rfl rfl rfl rfl rfl (Eq.symm rfl)) (.cons (.refl _) .nil)))
 refine .mk ?_
 refine .mk (λH hH _=>bX (y:=aD 3 aB.av ([a2]:List aB)) (dQ (ps:=[(0,_)]) (rows:=[[int a2.aQ,int a2.Value,int a2.bO]]) rfl Tryz.underlying123 DY (.cons rfl .nil) (by kernel_rfl) rfl rfl rfl) rfl) ?_
 refine .mk λp9=>?_
 refine .mk _ ⟨λ_=>bQ.fO 2 rfl (d9 rfl rfl (.cons rfl .nil) vJ (iK (wU.pc (id:=3) (l:=a1) rfl p9) (.cons (dH rfl rfl rfl rfl rfl (Eq.symm rfl)) .nil))),by rintro _ _ ⟨v10,rfl,rfl⟩;exact ⟨rfl,trivial⟩⟩ ?_
 rintro _ _ ⟨v10,rfl,rfl⟩
 refine .mk λx11 e11=>?_
 refine .mk λp12=>?_
 refine .mk _ ⟨λ_=>jU (g:=aB.av) (l:=a1) (m:=([a2]:List aB)) .any rfl Tryz.underlying123 DY O6 rfl rfl rfl rfl rfl rfl rfl rfl rfl rfl (Eq.symm rfl) (.refl _) (λ_=>rfl) e11 p12,by rintro _ _ ⟨v13,-,rfl,rfl⟩;exact trivial⟩ ?_
 rintro _ _ ⟨v13,-,rfl,rfl⟩
 refine .mk (λx14 e14=>?_) rfl (by rintro _ rfl;exact (.cons (dH rfl rfl rfl rfl rfl (Eq.symm rfl)) .nil))
 refine .mk λx15=>?_
 refine .mk ?_ ?_
 exact .mk (bK.aU (.cons (dH rfl rfl rfl rfl rfl (Eq.symm rfl)) (.cons (.refl _) .nil)))
 exact .mk (bK.aU (.cons (dH rfl rfl rfl rfl rfl (Eq.symm rfl)) (.cons (.refl _) .nil)))
def aM7 (a1:aM) (a2:List aB):WB (aM) :=
 .al 1<|.al 2<|.ret (((⟨a2,a1.bF⟩:aM):aM))
def rX (a1:aM) (a2:List aB):Option (aM):=(aM7 a1 a2).run
theorem wK {a1 a2}:PZ (rX a1 a2) 213 [.agg (aM.av a1),aD 3 aB.av a2] (λr=>.agg (aM.av r)):=wq Tryz.func213
def aG7 (a1:aM):WB (aM) :=
 .al 1<|.al 2<|.dr [(0,[1]),(1,[1]),(2,[1])] [(4,[]),(5,[])] [1] [3,4,5] [0,1,2,3,4,5] (.as (a1.cO.length<=68719476736) inferInstance<|.ge 6 3<|.inl 7 rV Tryz.func213 [1,2,3] [] (λu2 (a:Unit)=>.agg [.sl 3 (u2 3) 0 a1.cO.length,int a1.bF.a0,int a1.bF.a1,int a1.bF.a2]) (λ_ _=>[]) (.al 4<|.al 5<|.ret ()) (λ_=>.ret ((a1:aM))))
def j4 (a1:aM):Option (aM):=(aG7 a1).run
theorem kP {a1}:PZ (j4 a1) 162 [.agg (aM.av a1)] (λr=>.agg (aM.av r)):=wq Tryz.func162
def aAB (n:Nat) (a1:List aB) (a2:aB):WB ((List aB)×Int) :=
 .al 1<|.dr [(3,[1])] [] [1] [0] [2,3,0,1,4,5,6,7,8,9] (.inl 10 AB Tryz.func279 [1] [] (λ_ (a:Unit)=>.agg [.fn (.func 272) [] [],.fn (.func 273) [] [],.fn (.func 163) [] []]) (λ_ _=>[]) (.al 2<|.ret ()) (λ_=>.cl 14 (JM n a1 a2) RZ ND λx5=>.bB 18 (decide (x5.2≠0)) λx6=>.ifs [18] x6 (.ret ((x5.1:List aB),x5.2)) (.inl 22 AB Tryz.func279 [1] [] (λ_ (a:Unit)=>.agg [.fn (.func 272) [] [],.fn (.func 273) [] [],.fn (.func 163) [] []]) (λ_ _=>[]) (.al 3<|.ret ()) (λ_=>.cl 25 (y8 n x5.1) z8 BD λx8=>.al 4<|.bB 29 (decide (x8.2≠0)) λx10=>.ifs [29] x10 (.as (a1.length<=68719476736) inferInstance<|.ge 31 5<|.ret ((a1:List aB),x8.2)) (.to 34 (aD 3 aB.av ([x8.1]:List aB))<|.ret ((([x8.1]:List aB):List aB),0))))))
def DT (n:Nat) (a1:List aB) (a2:aB):Option ((List aB)×Int):=(aAB n a1 a2).run
theorem FI {n a1 a2}:PZ (DT n a1 a2) 277 [aD 3 aB.av a1,.agg (aB.av a2)] (λr=>.aU [aD 3 aB.av r.1,int r.2]):=wq Tryz.func277
def aBV (a1:aM) (a2:List aB):WB (aM) :=
 .al 1<|.al 2<|.as (a2.length<=68719476736) inferInstance<|.ge 6 3<|.ret (((⟨a2,a1.bF⟩:aM):aM))
def rG (a1:aM) (a2:List aB):Option (aM):=(aBV a1 a2).run
theorem vY {a1 a2}:PZ (rG a1 a2) 178 [.agg (aM.av a1),aD 3 aB.av a2] (λr=>.agg (aM.av r)):=wq Tryz.func178
def X7 (n:Nat) (a1:aM) (a2:aB):WB (aM×Int) :=
 .al 1<|.al 2<|.al 3<|.cl 12 (DT n a1.cO a2) IX FI λx6=>.cl 17 (rG a1 x6.1) vC vY λx7=>.ret ((x7:aM),x6.2)
def VJ (n:Nat) (a1:aM) (a2:aB):Option (aM×Int):=(X7 n a1 a2).run
theorem aCD {n a1 a2}:PZ (VJ n a1 a2) 282 [.agg (aM.av a1),.agg (aB.av a2)] (λr=>.aU [.agg (aM.av r.1),int r.2]):=wq Tryz.func282
def aCL (a1:Int):WB (Bool) :=
 .jn 1 [] [] [] (λ_ (a:Bool)=>[(2,aF a)]) (λ_ _=>[]) (.bB 4 (decide (a1>=0)) λx2=>.ifs [4] x2 (.bB 7 (decide (a1<=1073741824)) λx3=>.ret x3) (.ret false)) (λy0_1=>.ret ((y0_1:Bool)))
def BX (a1:Int):Option (Bool):=(aCL a1).run
theorem IL {a1}:PZ (BX a1) 222 [int a1] aF:=wq Tryz.func222
def aKY (a1:Int) (a2:Int):WB (Int×Int) :=
 .bI 11 (wu64 a1) λx3=>.bI 13 (wu64 a2) λx4=>.bI 15 (x3.tmod 4294967296) λx5=>.bI 17 (x4.tmod 4294967296) λx6=>.bI 18 (wu64 (x5*x6)) λx7=>.bI 20 (wu64 (x3.tdiv 4294967296)) λx8=>.bI 22 (x4.tmod 4294967296) λx9=>.bI 23 (wu64 (x8*x9)) λx10=>.bI 25 (x3.tmod 4294967296) λx11=>.bI 27 (wu64 (x4.tdiv 4294967296)) λx12=>.bI 28 (wu64 (x11*x12)) λx13=>.bI 30 (wu64 (x3.tdiv 4294967296)) λx14=>.bI 32 (wu64 (x4.tdiv 4294967296)) λx15=>.bI 33 (wu64 (x14*x15)) λx16=>.gv 34<|.al 1<|.gv 35<|.bI 37 (wu64 (x7.tdiv 4294967296)) λx18=>.gv 38<|.bI 40 (x10.tmod 4294967296) λx19=>.bI 41 (wu64 (x18+x19)) λx20=>.gv 42<|.bI 44 (x13.tmod 4294967296) λx21=>.bI 45 (wu64 (x20+x21)) λx22=>.gv 46<|.gv 48<|.bI 50 (wu64 (x10.tdiv 4294967296)) λx23=>.bI 51 (wu64 (x16+x23)) λx24=>.gv 52<|.bI 54 (wu64 (x13.tdiv 4294967296)) λx25=>.bI 55 (wu64 (x24+x25)) λx26=>.bI 57 (wu64 (x22.tdiv 4294967296)) λx27=>.bI 58 (wu64 (x26+x27)) λx28=>.bI 61 (wu64 (x3*x4)) λx29=>.ret ((x28:Int),x29)
def ME (a1:Int) (a2:Int):Option (Int×Int):=(aKY a1 a2).run
theorem aFI {a1 a2}:PZ (ME a1 a2) 188 [int a1,int a2] (λr=>.aU [.sc (.int .u64 r.1),.sc (.int .u64 r.2)]):=by
 refine wm Tryz.func188 ?_
 refine .mk λx3=>?_
 refine .mk λx4=>?_
 refine .mk λx5=>?_
 refine .mk λx6=>?_
 refine .mk λx7=>?_
 refine .mk λx8=>?_
 refine .mk λx9=>?_
 refine .mk λx10=>?_
 refine .mk λx11=>?_
 refine .mk λx12=>?_
 refine .mk λx13=>?_
 refine .mk λx14=>?_
 refine .mk λx15=>?_
 refine .mk λx16=>?_
 refine .mk _ (bE (qJ (cs:=[.sc (.int .u64 x7),.sc (.int .u64 x10),.sc (.int .u64 x13),.sc (.int .u64 x16)]) (ps:=[(0,_),(1,_),(2,_),(3,_)]) rfl Tryz.underlying252 sM OG rfl (.cons rfl (.cons rfl (.cons rfl (.cons rfl .nil)))) (by kernel_rfl))) ?_
 intro v17
 refine .mk _ (bE (bX (y:=.pt 1 v17 0 0) (pQ rfl Tryz.underlying252 sM rfl rfl rfl rfl rfl (by decide)) rfl)) ?_
 refine .mk λx18=>?_
 refine .mk _ (bE (bX (y:=.pt 1 v17 0 1) (pQ rfl Tryz.underlying252 sM rfl rfl rfl rfl rfl (by decide)) rfl)) ?_
 refine .mk λx19=>?_
 refine .mk λx20=>?_
 refine .mk _ (bE (bX (y:=.pt 1 v17 0 2) (pQ rfl Tryz.underlying252 sM rfl rfl rfl rfl rfl (by decide)) rfl)) ?_
 refine .mk λx21=>?_
 refine .mk λx22=>?_
 refine .mk _ (bE (bX (y:=.pt 1 v17 0 3) (pQ rfl Tryz.underlying252 sM rfl rfl rfl rfl rfl (by decide)) rfl)) ?_
 refine .mk _ (bE (bX (y:=.pt 1 v17 0 1) (pQ rfl Tryz.underlying252 sM rfl rfl rfl rfl rfl (by decide)) rfl)) ?_
 refine .mk λx23=>?_
 refine .mk λx24=>?_
 refine .mk _ (bE (bX (y:=.pt 1 v17 0 2) (pQ rfl Tryz.underlying252 sM rfl rfl rfl rfl rfl (by decide)) rfl)) ?_
 refine .mk λx25=>?_
 refine .mk λx26=>?_
 refine .mk λx27=>?_
 refine .mk λx28=>?_
 refine .mk λx29=>?_
 exact .mk
def XA (a1:Int):WB (Int) :=
 .bB 4 (decide (a1>=4294967296)) λx2=>.jn 0 [] [] [] (λ_ (a:Int×Int)=>[(0,.sc (.int .u64 a.1)),(2,int a.2)]) (λ_ _=>[]) (.ifs [4] x2 (.bI 6 (a1.fdiv (2 ^ (min (32:Int).toNat IntKind.u64.bits))) λx3=>.ret ((x3:Int),32)) (.ret ((a1:Int),0))) (pw λy0_1 y0_2=>.bB 8 (decide (y0_1>=65536)) λx4=>.jn 0 [] [] [] (λ_ (a:Int×Int)=>[(0,.sc (.int .u64 a.1)),(2,int a.2)]) (λ_ _=>[]) (.ifs [8] x4 (.bI 10 (y0_1.fdiv (2 ^ (min (16:Int).toNat IntKind.u64.bits))) λx5=>.bI 12 (aI (y0_2+16)) λx6=>.ret ((x5:Int),x6)) (.ret ((y0_1:Int),y0_2))) (pw λy1_1 y1_2=>.bB 14 (decide (y1_1>=256)) λx7=>.jn 0 [] [] [] (λ_ (a:Int×Int)=>[(0,.sc (.int .u64 a.1)),(2,int a.2)]) (λ_ _=>[]) (.ifs [14] x7 (.bI 16 (y1_1.fdiv (2 ^ (min (8:Int).toNat IntKind.u64.bits))) λx8=>.bI 18 (aI (y1_2+8)) λx9=>.ret ((x8:Int),x9)) (.ret ((y1_1:Int),y1_2))) (pw λy2_1 y2_2=>.bI 21 (wu8 y2_1) λx10=>.bo (ix ([0,1,2,2,3,3,3,3,4,4,4,4,4,4,4,4,5,5,5,5,5,5,5,5,5,5,5,5,5,5,5,5,6,6,6,6,6,6,6,6,6,6,6,6,6,6,6,6,6,6,6,6,6,6,6,6,6,6,6,6,6,6,6,6,7,7,7,7,7,7,7,7,7,7,7,7,7,7,7,7,7,7,7,7,7,7,7,7,7,7,7,7,7,7,7,7,7,7,7,7,7,7,7,7,7,7,7,7,7,7,7,7,7,7,7,7,7,7,7,7,7,7,7,7,7,7,7,7,8,8,8,8,8,8,8,8,8,8,8,8,8,8,8,8,8,8,8,8,8,8,8,8,8,8,8,8,8,8,8,8,8,8,8,8,8,8,8,8,8,8,8,8,8,8,8,8,8,8,8,8,8,8,8,8,8,8,8,8,8,8,8,8,8,8,8,8,8,8,8,8,8,8,8,8,8,8,8,8,8,8,8,8,8,8,8,8,8,8,8,8,8,8,8,8,8,8,8,8,8,8,8,8,8,8,8,8,8,8,8,8,8,8,8,8,8,8,8,8,8,8,8,8,8,8,8,8]:List UInt8) x10) λx11=>.gv 22<|.bI 23 (aI (x11.toNat:Int)) λx12=>.bI 24 (aI (y2_2+x12)) λx13=>.ret ((x13:Int)))))
def V9 (a1:Int):Option (Int):=(XA a1).run
theorem aBJ {a1}:PZ (V9 a1) 238 [.sc (.int .u64 a1)] int:=wq Tryz.func238
def aK2 (a1:Int):WB (Int) :=
 .cl 4 (V9 a1) aNV aBJ λx2=>.bI 5 (aI (64-x2)) λx3=>.ret ((x3:Int))
def R6 (a1:Int):Option (Int):=(aK2 a1).run
theorem aGW {a1}:PZ (R6 a1) 224 [.sc (.int .u64 a1)] int:=wq Tryz.func224
def aG2 (n:Nat) (a1:Int) (a2:Int) (a3:Int):WB (Int×Int) :=
 .bB 20 (decide (a3=0)) λx4=>.ifs [20] x4 (.fl) (.bB 24 (decide (a3<=a1)) λx5=>.ifs [24] x5 (.fl) (.bB 27 (decide (a1=0)) λx6=>.ifs [27] x6 (.dr [] [] [] [] [0,1,2,3,4,5,6,7] (.as (a3≠0) inferInstance<|.bl (wu64 (a2.tdiv a3):Int) λx8=>.gv 30<|.as (a3≠0) inferInstance<|.bl (a2.tmod a3:Int) λx10=>.gv 33<|.ret ((x8:Int),x10))) (.cl 35 (R6 a3) aLI aGW λx11=>.bI 36 (wu64 x11) λx12=>.as ((0:Int)<=x12) inferInstance<|.bl (wu64 (a3*(2 ^ (min x12.toNat IntKind.u64.bits))):Int) λx14=>.gv 39<|.bI 41 (x14.fdiv (2 ^ (min (32:Int).toNat IntKind.u64.bits))) λx15=>.bl (wu64 ((BitVec.ofInt IntKind.u64.bits x14 &&& BitVec.ofInt IntKind.u64.bits 4294967295).toNat:Int):Int) λx16=>.gv 43<|.as ((0:Int)<=x12) inferInstance<|.bl (wu64 (a1*(2 ^ (min x12.toNat IntKind.u64.bits))):Int) λx18=>.gv 46<|.bI 49 (wu64 (64-x12)) λx19=>.as ((0:Int)<=x19) inferInstance<|.bl (a2.fdiv (2 ^ (min x19.toNat IntKind.u64.bits)):Int) λx21=>.gv 50<|.bl (wu64 ((BitVec.ofInt IntKind.u64.bits x18 ||| BitVec.ofInt IntKind.u64.bits x21).toNat:Int):Int) λx22=>.gv 51<|.as ((0:Int)<=x12) inferInstance<|.bl (wu64 (a2*(2 ^ (min x12.toNat IntKind.u64.bits))):Int) λx24=>.gv 54<|.bI 56 (x24.fdiv (2 ^ (min (32:Int).toNat IntKind.u64.bits))) λx25=>.bl (wu64 ((BitVec.ofInt IntKind.u64.bits x24 &&& BitVec.ofInt IntKind.u64.bits 4294967295).toNat:Int):Int) λx26=>.gv 58<|.as (x15≠0) inferInstance<|.bl (wu64 (x22.tdiv x15):Int) λx28=>.gv 61<|.bI 65 (wu64 (x28*x15)) λx29=>.bI 66 (wu64 (x22-x29)) λx30=>.jn 0 [2,6,7,8,9,10,11,13,14] [] [] (λ_ (a:Int)=>[(15,.sc (.int .u64 a))]) (λ_ _=>[]) (.lp [2,6,7,8,9,10,11,13,14] [] [] (λ_ (a:Int×Int)=>[(15,.sc (.int .u64 a.1)),(16,.sc (.int .u64 a.2))]) (λ_ _=>[]) n ((x28:Int),x30) (pw λy0_1 y0_2=>.jn 0 [2,6,7,8,9,10,11,13,14,15,16] [] [] (λ_ (a:Bool)=>[(78,aF a)]) (λ_ _=>[]) (.bB 68 (decide (y0_1>=4294967296)) λx31=>.ifs [68] x31 (.ret true) (.bI 72 (wu64 (y0_1*x16)) λx32=>.bI 74 (wu64 (4294967296*y0_2)) λx33=>.bI 76 (wu64 (x33+x25)) λx34=>.bB 77 (decide (x32>x34)) λx35=>.ret x35)) (λy1_1=>.ifs [78] y1_1 (.bI 80 (wu64 (y0_1-1)) λx36=>.bI 83 (wu64 (y0_2+x15)) λx37=>.bB 85 (decide (x37>=4294967296)) λx38=>.ifs [85] x38 (.esc (.ret x36)) (.brk ((x36:Int),x37))) (.esc (.ret y0_1))))) (λy2_1=>.bI 87 (wu64 (x22*4294967296)) λx39=>.bI 89 (wu64 (x39+x25)) λx40=>.bI 92 (wu64 (y2_1*x14)) λx41=>.bI 93 (wu64 (x40-x41)) λx42=>.as (x15≠0) inferInstance<|.bl (wu64 (x42.tdiv x15):Int) λx44=>.gv 96<|.bI 100 (wu64 (x44*x15)) λx45=>.bI 101 (wu64 (x42-x45)) λx46=>.jn 0 [2,6,7,8,14,15,17] [] [] (λ_ (a:Int)=>[(18,.sc (.int .u64 a))]) (λ_ _=>[]) (.lp [2,6,7,8,9,10,14,15,17] [] [] (λ_ (a:Int×Int)=>[(16,.sc (.int .u64 a.1)),(18,.sc (.int .u64 a.2))]) (λ_ _=>[]) n ((x46:Int),x44) (pw λy3_1 y3_2=>.jn 0 [2,6,7,8,9,10,14,15,16,17,18] [] [] (λ_ (a:Bool)=>[(113,aF a)]) (λ_ _=>[]) (.bB 103 (decide (y3_2>=4294967296)) λx47=>.ifs [103] x47 (.ret true) (.bI 107 (wu64 (y3_2*x16)) λx48=>.bI 109 (wu64 (4294967296*y3_1)) λx49=>.bI 111 (wu64 (x49+x26)) λx50=>.bB 112 (decide (x48>x50)) λx51=>.ret x51)) (λy4_1=>.ifs [113] y4_1 (.bI 115 (wu64 (y3_2-1)) λx52=>.bI 118 (wu64 (y3_1+x15)) λx53=>.bB 120 (decide (x53>=4294967296)) λx54=>.ifs [120] x54 (.esc (.ret x52)) (.brk ((x53:Int),x52))) (.esc (.ret y3_2))))) (λy5_1=>.bI 122 (wu64 (y2_1*4294967296)) λx55=>.bI 124 (wu64 (x55+y5_1)) λx56=>.bI 126 (wu64 (x42*4294967296)) λx57=>.bI 128 (wu64 (x57+x26)) λx58=>.bI 131 (wu64 (y5_1*x14)) λx59=>.bI 132 (wu64 (x58-x59)) λx60=>.as ((0:Int)<=x12) inferInstance<|.bl (x60.fdiv (2 ^ (min x12.toNat IntKind.u64.bits)):Int) λx62=>.gv 134<|.ret ((x56:Int),x62))))))
def KG (n:Nat) (a1:Int) (a2:Int) (a3:Int):Option (Int×Int):=(aG2 n a1 a2 a3).run
theorem aLK {n a1 a2 a3}:PZ (KG n a1 a2 a3) 189 [.sc (.int .u64 a1),.sc (.int .u64 a2),.sc (.int .u64 a3)] (λr=>.aU [.sc (.int .u64 r.1),.sc (.int .u64 r.2)]):=wq Tryz.func189
def aIA (n:Nat) (a1:Int) (a2:Int) (a3:Int):WB (Int×Int×Int) :=
 .jn 1 [0,1,2,6,7,8] [] [] (λ_ (a:Bool)=>[(22,aF a)]) (λ_ _=>[]) (.bB 14 (decide (a1<0)) λx4=>.ifs [14] x4 (.ret true) (.bB 17 (decide (a2<0)) λx5=>.ifs [17] x5 (.ret true) (.bB 21 (decide (a3<1)) λx6=>.ret x6))) (λy0_1=>.ifs [22] y0_1 (.ret ((0:Int),0,1)) (.cl 26 (ME a1 a2) aIV aFI λx7=>.bI 31 (wu64 a3) λx8=>.bB 32 (decide (x7.1>=x8)) λx9=>.ifs [32] x9 (.ret ((0:Int),0,2)) (.bI 37 (wu64 a3) λx10=>.cl 38 (KG n x7.1 x7.2 x10) aCQ aLK λx11=>.bB 42 (decide (x11.1>288230376151711744)) λx12=>.ifs [42] x12 (.ret ((0:Int),0,2)) (.bI 44 (aI x11.1) λx13=>.bI 46 (aI x11.2) λx14=>.ret ((x13:Int),x14,0)))))
def wT (n:Nat) (a1:Int) (a2:Int) (a3:Int):Option (Int×Int×Int):=(aIA n a1 a2 a3).run
theorem xV {n a1 a2 a3}:PZ (wT n a1 a2 a3) 120 [int a1,int a2,int a3] (λr=>.aU [int r.1,int r.2.1,int r.2.2]):=wq Tryz.func120
def aKS (n:Nat) (a1:Int) (a2:Int):WB (Int×Int) :=
 .bl (if 0>a2 then 0 else a2:Int) λx3=>.gv 11<|.cl 13 (wT n x3 a1 1) wY xV λx4=>.ret ((x4.1:Int),x4.2.2)
def CB (n:Nat) (a1:Int) (a2:Int):Option (Int×Int):=(aKS n a1 a2).run
theorem FW {n a1 a2}:PZ (CB n a1 a2) 223 [int a1,int a2] (λr=>.aU [int r.1,int r.2]):=wq Tryz.func223
def aIP (n:Nat) (a1:List aB) (a2:aB) (a3:Int):WB ((List aB)×Int×Int) :=
 .al 1<|.as (a1.length<=68719476736) inferInstance<|.ge 16 2<|.jn 1 [0,2,4,6,7,8,10] [1,2] [] (λ_ (a:Bool)=>[(30,aF a)]) (λ_ _=>[]) (.cl 19 (BX a3) EY IL λx7=>.bB 20 (!x7) λx8=>.ifs [20] x8 (.ret true) (.bB 24 (decide (a2.aQ<1)) λx9=>.ifs [24] x9 (.ret true) (.bB 29 (decide (a2.Value<0)) λx10=>.ret x10))) (λy0_1=>.ifs [30] y0_1 (.ret ((a1:List aB),0,1)) (.cl 37 (CB n a3 a2.aQ) JV FW λx11=>.jn 0 [0,4,6,7,8,11] [1,2] [] (λ_ (a:Bool)=>[(46,aF a)]) (λ_ _=>[]) (.bB 41 (decide (x11.2≠0)) λx12=>.ifs [41] x12 (.ret true) (.bB 45 (decide (a2.Value>288230376151711744)) λx13=>.ret x13)) (λy1_1=>.ifs [46] y1_1 (.ret ((a1:List aB),0,2)) (.bI 51 (aI (a2.Value-x11.1)) λx14=>.fO 2<|.cl 57 (DT n a1 (⟨a2.aQ,x11.1,a2.bO⟩:aB)) IX FI λx15=>.bB 61 (decide (x15.2≠0)) λx16=>.ifs [61] x16 (.ret ((a1:List aB),0,x15.2)) (.ret ((x15.1:List aB),x14,0))))))
def TC (n:Nat) (a1:List aB) (a2:aB) (a3:Int):Option ((List aB)×Int×Int):=(aIP n a1 a2 a3).run
theorem aLU {n a1 a2 a3}:PZ (TC n a1 a2 a3) 286 [aD 3 aB.av a1,.agg (aB.av a2),int a3] (λr=>.aU [aD 3 aB.av r.1,int r.2.1,int r.2.2]):=wq Tryz.func286
def aJE (n:Nat) (a1:Int) (a2:Int) (a3:aM) (a4:aB):WB (aM×Int×Int) :=
 .al 1<|.al 2<|.al 3<|.inl 17 PO Tryz.func161 [1,2,3] [] (B:=(Unit)⊕(Unit)⊕(Unit)⊕(Unit)⊕(Unit)) (λu2=>Sum.elim (λa=>.dW 235 (.agg [])) (Sum.elim (λa=>.dW 236 (.agg [])) (Sum.elim (λa=>.dW 237 (.agg [])) (Sum.elim (λa=>.dW 239 (.agg [int a2])) (λa=>.sc .nilIface))))) (λu2=>Sum.elim (λa=>[]) (Sum.elim (λa=>[]) (Sum.elim (λa=>[]) (Sum.elim (λa=>[]) (λa=>[]))))) (.bB 7 (decide (a1=1)) λx8=>.ifs [7] x8 (.gv 9<|.ret (.inl ())) (.bB 11 (decide (a1=2)) λx9=>.ifs [11] x9 (.gv 13<|.ret (.inr (.inl ()))) (.bB 15 (decide (a1=3)) λx10=>.ifs [15] x10 (.gv 17<|.ret (.inr (.inr (.inl ())))) (.bB 19 (decide (a1=4)) λx11=>.ifs [19] x11 (.gv 22<|.ret (.inr (.inr (.inr (.inl ()))))) (.ret (.inr (.inr (.inr (.inr ()))))))))) (Sum.elim (λ_=>.gv 19<|.iv 26 aFJ aBL Tryz.func270 [1,2,3] [] (λ_ (a:aM×Int)=>.aU [.agg [aD 3 aB.av a.1.cO,int a.1.bF.a0,int a.1.bF.a1,int a.1.bF.a2],int 0,int a.2]) (λ_ _=>[]) (.al 9<|.al 10<|.al 11<|.al 12<|.cl 15 (JM n a3.cO a4) RZ ND λx16=>.cl 20 (rX a3 x16.1) rV wK λx17=>.ret ((x17:aM),x16.2)) (pw λy6_1 y6_2=>.al 8<|.bB 31 (decide (y6_2≠0)) λx19=>.ifs [31] x19 (.cl 33 (j4 a3) kQ kP λx20=>.ret ((x20:aM),0,y6_2)) (.ret ((y6_1:aM),0,0)))) (Sum.elim (λ_=>.gv 19<|.iv 26 aB9 aD4 Tryz.func275 [1,2,3] [] (λ_ (a:aM×Int)=>.aU [.agg [aD 3 aB.av a.1.cO,int a.1.bF.a0,int a.1.bF.a1,int a.1.bF.a2],int 0,int a.2]) (λ_ _=>[]) (.al 17<|.al 18<|.al 19<|.al 20<|.cl 15 (DT n a3.cO a4) IX FI λx25=>.cl 20 (rX a3 x25.1) rV wK λx26=>.ret ((x26:aM),x25.2)) (pw λy8_1 y8_2=>.al 8<|.bB 31 (decide (y8_2≠0)) λx28=>.ifs [31] x28 (.cl 33 (j4 a3) kQ kP λx29=>.ret ((x29:aM),0,y8_2)) (.ret ((y8_1:aM),0,0)))) (Sum.elim (λ_=>.gv 19<|.iv 26 aGX aHO Tryz.func280 [1,2,3] [] (λ_ (a:aM×Int)=>.aU [.agg [aD 3 aB.av a.1.cO,int a.1.bF.a0,int a.1.bF.a1,int a.1.bF.a2],int 0,int a.2]) (λ_ _=>[]) (.al 25<|.al 26<|.al 27<|.al 28<|.cl 13 (VJ n a3 a4) WI aCD λx34=>.ret ((x34.1:aM),x34.2)) (pw λy10_1 y10_2=>.al 8<|.bB 31 (decide (y10_2≠0)) λx36=>.ifs [31] x36 (.cl 33 (j4 a3) kQ kP λx37=>.ret ((x37:aM),0,y10_2)) (.ret ((y10_1:aM),0,0)))) (Sum.elim (λ_=>.gv 19<|.iv 26 aKX aHM Tryz.func284 [1,2,3] [] (λ_ (a:aM×Int×Int)=>.aU [.agg [aD 3 aB.av a.1.cO,int a.1.bF.a0,int a.1.bF.a1,int a.1.bF.a2],int a.2.1,int a.2.2]) (λ_ _=>[]) (.al 33<|.al 34<|.al 35<|.al 36<|.cl 18 (TC n a3.cO a4 a2) aDF aLU λx42=>.cl 24 (rX a3 x42.1) rV wK λx43=>.ret ((x43:aM),x42.2.1,x42.2.2)) (pw λy12_1 q0=>(pw λy12_2 y12_3=>.al 8<|.bB 31 (decide (y12_3≠0)) λx45=>.ifs [31] x45 (.cl 33 (j4 a3) kQ kP λx46=>.ret ((x46:aM),0,y12_3)) (.ret ((y12_1:aM),y12_2,0))) q0)) (λ_=>.gv 19<|.cl 21 (j4 a3) kQ kP λx47=>.ret ((x47:aM),0,12))))))
def UO (n:Nat) (a1:Int) (a2:Int) (a3:aM) (a4:aB):Option (aM×Int×Int):=(aJE n a1 a2 a3 a4).run
theorem aG8 {n a1 a2 a3 a4}:PZ (UO n a1 a2 a3 a4) 89 [int a1,int a2,.agg (aM.av a3),.agg (aB.av a4)] (λr=>.aU [.agg (aM.av r.1),int r.2.1,int r.2.2]):=wq Tryz.func89
def aJC (a1:aA) (a2:Int) (a3:Int) (a4:Int):WB (aM) :=
 .al 1<|.al 2<|.cl 15 (zN a1 a2 a3 a4) I8 FX λx7=>.bB 17 (decide (x7<0)) λx8=>.ifs [17] x8 (.ret (((⟨[],(⟨0,0,0⟩:gJ)⟩:aM):aM))) (.gI 22 aP.av gE aP.bW a1.aW a2 λx9=>.ix 26 aM.av x9.dD x7 λx10=>.al 3<|.as (x10.cO.length<=68719476736) inferInstance<|.ge 30 4<|.ret ((x10:aM)))
def yG (a1:aA) (a2:Int) (a3:Int) (a4:Int):Option (aM):=(aJC a1 a2 a3 a4).run
theorem BV {a1 a2 a3 a4}:PZ (yG a1 a2 a3 a4) 104 [.agg (aA.av a1),int a2,int a3,int a4] (λr=>.agg (aM.av r)):=wq Tryz.func104
def aBY (n:Nat) (a1:aA) (a2:Int) (a3:Int):WB (aB×Bool) :=
 .al 1<|.al 2<|.jn 2 [6,7] [2] [7,8,9] (λu2 (a:(List Int)×(List Int)×(List Int))=>[(8,.sl 7 (u2 7) 0 a.1.length),(9,.sl 8 (u2 8) 0 a.2.1.length),(10,.sl 9 (u2 9) 0 a.2.2.length)]) (λ_ a=>[.nw 7 3 1 (a.1.map fI),.nw 8 3 1 (a.2.1.map fI),.nw 9 3 1 (a.2.2.map fI)]) (.no 8 7 3 1<|.no 9 8 3 1<|.no 10 9 3 1<|.lp [1,2,3,6,7] [1,2] [7,8,9] (λu3 (a:Int×(List Int)×(List Int)×(List Int))=>[(8,.sl 7 (u3 7) 0 a.2.1.length),(9,.sl 8 (u3 8) 0 a.2.2.1.length),(10,.sl 9 (u3 9) 0 a.2.2.2.length),(20,int a.1)]) (λ_ a=>[.nw 7 3 1 (a.2.1.map fI),.nw 8 3 1 (a.2.2.1.map fI),.nw 9 3 1 (a.2.2.2.map fI)]) n ((0:Int),(([]:List Int):List Int),(([]:List Int):List Int),(([]:List Int):List Int)) (pw λy0_4 q0=>(pw λy0_5 q1=>(pw λy0_6 y0_7=>.bB 21 (decide (y0_4<2)) λx9=>.ifs [21] x9 (.cl 28 (yG a1 a2 a3 y0_4) zM BV λx10=>.cl 30 (y8 n x10.cO) z8 BD λx11=>.al 3<|.dr [(1,[3]),(2,[3]),(6,[3]),(7,[3]),(11,[3]),(12,[3])] [(14,[])] [3] [4,9,14] [0,1,2,3,5,6,7,8,10,11,12,13,4,9,14,15,16,17] (.to 36 (aD 1 fI ([x11.1.aQ]:List Int))<|.to 41 (aD 1 fI ([x11.1.Value]:List Int))<|.to 46 (aD 1 fI ([x11.1.bO]:List Int))<|.bl (y0_5++([x11.1.aQ]:List Int):List Int) λx13=>.as (x13.length<=68719476736) inferInstance<|.ge 37 0<|.bl (y0_6++([x11.1.Value]:List Int):List Int) λx16=>.as (x16.length<=68719476736) inferInstance<|.ge 42 0<|.bl (y0_7++([x11.1.bO]:List Int):List Int) λx19=>.as (x19.length<=68719476736) inferInstance<|.ge 47 0<|.bI 48 (aI (y0_4+1)) λx22=>.brk ((x22:Int),x13,x16,x19))) (.esc (.ret ((y0_5:List Int),y0_6,y0_7)))) q1) q0)) (pw λy1_4 q0=>(pw λy1_5 y1_6=>.gK 51 (nV n y1_4) pG o5 (λ_=>rfl) λx23=>.gK 56 (nV n y1_5) pG o5 (λ_=>rfl) λx24=>.gK 61 (nV n y1_6) pG o5 (λ_=>rfl) λx25=>.bl (if x25.2>(if x24.2>x23.2 then x24.2 else x23.2) then x25.2 else (if x24.2>x23.2 then x24.2 else x23.2):Int) λx26=>.gv 71<|.bB 72 (decide (x26=0)) λx27=>.ret (((⟨x23.1,x24.1,x25.1⟩:aB):aB),x27)) q0)
def SB (n:Nat) (a1:aA) (a2:Int) (a3:Int):Option (aB×Bool):=(aBY n a1 a2 a3).run
theorem aOL {n a1 a2 a3}:PZ (SB n a1 a2 a3) 91 [.agg (aA.av a1),int a2,int a3] (λr=>.aU [.agg (aB.av r.1),aF r.2]):=wq Tryz.func91
def ZG (n:Nat) (a1:aA) (a2:Int) (a3:Int):WB (Bool) :=
 .al 1<|.jn 2 [6] [] [4] (λu14 (a:(List Int))=>[(7,.sl 4 (u14 4) 0 a.length)]) (λ_ a=>[.nw 4 3 1 (a.map fI)]) (.no 7 4 3 1<|.lp [1,2,3,6] [1] [4] (λu18 (a:Int×(List Int))=>[(7,.sl 4 (u18 4) 0 a.2.length),(13,int a.1)]) (λ_ a=>[.nw 4 3 1 (a.2.map fI)]) n ((0:Int),(([]:List Int):List Int)) (pw λy0_2 y0_3=>.bB 14 (decide (y0_2<2)) λx6=>.ifs [14] x6 (.jn 1 [1,2,3,6,13] [1] [4] (λu21 (a:(List Int))=>[(7,.sl 4 (u21 4) 0 a.length)]) (λ_ a=>[.nw 4 3 1 (a.map fI)]) (.cl 20 (yG a1 a2 a3 y0_2) zM BV λx7=>.ln 22 aB.av x7.cO<|.jn 0 [1,2,3,6,13] [1] [4] (λu23 (a:(List Int))=>[(7,.sl 4 (u23 4) 0 a.length)]) (λ_ a=>[.nw 4 3 1 (a.map fI)]) (.lp [1,2,3,6,13,21,22] [1] [4] (λu24 (a:Int×(List Int))=>[(7,.sl 4 (u24 4) 0 a.2.length),(23,int a.1)]) (λ_ a=>[.nw 4 3 1 (a.2.map fI)]) n ((0:Int),y0_3) (pw λy1_2 y1_3=>.bB 24 (decide (y1_2<(x7.cO.length:Int))) λx8=>.ifs [24] x8 (.ix 25 aB.av x7.cO y1_2 λx9=>.al 2<|.bI 32 (aI (0-x9.bO)) λx11=>.bl (if x11>x9.bO then x11 else x9.bO:Int) λx12=>.gv 33<|.to 34 (aD 1 fI ([x12]:List Int))<|.bl (y1_3++([x12]:List Int):List Int) λx13=>.as (x13.length<=68719476736) inferInstance<|.ge 35 0<|.bI 36 (aI (y1_2+1)) λx16=>.brk ((x16:Int),x13)) (.esc (.ret y1_3)))) (λy2_2=>.ret y2_2)) (λy3_2=>.bI 37 (aI (y0_2+1)) λx17=>.brk ((x17:Int),y3_2))) (.esc (.ret y0_3)))) (λy4_2=>.gK 40 (nV n y4_2) pG o5 (λ_=>rfl) λx18=>.bB 44 (decide (x18.2=0)) λx19=>.ret ((x19:Bool)))
def RY (n:Nat) (a1:aA) (a2:Int) (a3:Int):Option (Bool):=(ZG n a1 a2 a3).run
theorem Z0 {n a1 a2 a3}:PZ (RY n a1 a2 a3) 92 [.agg (aA.av a1),int a2,int a3] aF:=wq Tryz.func92
def aEQ (n:Nat) (a1:aA) (a2:Int) (a3:Int) (a4:Int) (a5:aB):WB (aA×Int×Int×Int) :=
 .al 1<|.al 2<|.al 3<|.cl 24 (zN a1 a2 a3 a4) I8 FX λx9=>.bB 26 (decide (x9<0)) λx10=>.ifs [26] x10 (.ret ((a1:aA),0,0,4)) (.dr [(0,[1]),(1,[1]),(2,[1]),(9,[1]),(10,[1]),(11,[1]),(18,[1]),(19,[1]),(27,[2])] [(34,[])] [1,2] [33,34] [0,1,2,3,4,5,6,7,8,9,10,11,12,13,14,15,16,17,18,19,20,21,22,23,24,25,26,27,28,29,30,31,32,33,34,35,36] (.ix 33 (fL 1 fI) a1.bA.Methods a2 λx11=>.ix 36 fI x11 a3 λx12=>.ix 42 (fL 1 fI) a1.bA.dN a2 λx13=>.ix 45 fI x13 a3 λx14=>.gI 50 aP.av gE aP.bW a1.aW a2 λx15=>.ix 54 aM.av x15.dD x9 λx16=>.cl 57 (UO n x12 x14 x16 a5) aAF aG8 λx17=>.al 4<|.bB 62 (decide (x17.2.2≠0)) λx19=>.ifs [62] x19 (.ret ((a1:aA),0,0,x17.2.2)) (.al 5<|.inl 70 P4 Tryz.func90 [1,2,3,4] [7,8] (λ_ (a:Int×Bool×(List Int)×(List bM)×(List Int)×(List Int)×(List aP)×(List aM))=>.aU []) (λu4 a=>[.kp 5 [[int a1.bA.eH,int a1.bA.fA,aD 1 fI a1.bA.cB,aD 1 (fL 1 fI) a1.bA.Methods,aD 1 (fL 1 fI) a1.bA.dN,.sl 7 (u4 7) 0 a1.aW.length,aD 8 bH.av a1.bP,aD 9 bS.av a1.bU,aD 6 dB.av a1.bY,int a1.Done]],.nw 7 42 8 ((a1.aW.map aP.av).set (Int.toNat a2) [int a.1,aF a.2.1,.sl 8 (u4 8) 0 a.2.2.2.2.2.2.2.length,aD 1 fI a.2.2.1,aD 11 bM.av a.2.2.2.1,aD 1 fI a.2.2.2.2.1,aD 1 fI a.2.2.2.2.2.1,aD 8 aP.av a.2.2.2.2.2.2.1]),.nw 8 126 4 (a.2.2.2.2.2.2.2.map aM.av)]) (.al 6<|.inl 11 zQ Tryz.func95 [1,2,3,4,6] [7] (λu6 (a:Unit)=>.pt 7 (u6 7) (Int.toNat a2) 0) (λu6 _=>[.kp 5 [[int a1.bA.eH,int a1.bA.fA,aD 1 fI a1.bA.cB,aD 1 (fL 1 fI) a1.bA.Methods,aD 1 (fL 1 fI) a1.bA.dN,.sl 7 (u6 7) 0 a1.aW.length,aD 8 bH.av a1.bP,aD 9 bS.av a1.bU,aD 6 dB.av a1.bY,int a1.Done]],.nw 7 42 8 (a1.aW.map aP.av)]) (.as (a1.aW.length<=68719476736) inferInstance<|.ge 11 7<|.bo (ix a1.aW a2) λx24=>.gv 21<|.ret ()) (λ_=>.bo (ix a1.aW a2) λx25=>.gv 14<|.gv 15<|.gv 16<|.as (x25.dD.length<=68719476736) inferInstance<|.ge 17 8<|.gv 18<|.gv 19<|.ge 1002008 0<|.dr [(1,[7]),(2,[7]),(3,[7]),(5,[6]),(6,[8])] [(7,[])] [6,7,8] [7] [0,1,2,3,4,5,6,7] (.gv 21<|.gv 22<|.gv 23<|.bo (ix x25.dD x9) λx28=>.gv 26<|.bl (x25.dD.set (Int.toNat x9) x17.1:List aM) λx29=>.ge 1003007 0<|.ret ((x25.dS:Int),(x25.Closed:Bool),(x25.dU:List Int),(x25.dI:List bM),(x25.dO:List Int),(x25.Down:List Int),(x25.eT:List aP),x29)))) (pw λy1_2 q0=>(pw λy1_3 q1=>(pw λy1_5 q2=>(pw λy1_6 q3=>(pw λy1_7 q4=>(pw λy1_8 q5=>(pw λy1_9 y1_10=>.bo (ix a1.aW a2) λx30=>.gK 76 (SB n (⟨a1.bA,(a1.aW.set (Int.toNat a2) (⟨y1_2,y1_3,y1_10,y1_5,y1_6,y1_7,y1_8,y1_9⟩:aP)),a1.bP,a1.bU,a1.bY,a1.Done⟩:aA) a2 a3) aMD aOL (λ_=>rfl) λx31=>.al 9<|.jn 0 [5,9,10,11,12,13,17] [1,2,3,5,7,8] [] (λ_ (a:Bool)=>[(88,aF a)]) (λ_ _=>[]) (.bB 80 (!x31.2) λx33=>.ifs [80] x33 (.ret true) (.gK 86 (RY n (⟨a1.bA,(a1.aW.set (Int.toNat a2) (⟨y1_2,y1_3,y1_10,y1_5,y1_6,y1_7,y1_8,y1_9⟩:aP)),a1.bP,a1.bU,a1.bY,a1.Done⟩:aA) a2 a3) WZ Z0 (λ_=>rfl) λx34=>.bB 87 (!x34) λx35=>.ret x35)) (λy2_1=>.ifs [88] y2_1 (.ret ((a1:aA),0,0,2)) (.dr [(0,[5]),(1,[5]),(2,[2]),(3,[2])] [(7,[2])] [2,5] [7] [0,1,2,3,4,5,6,7,8,9,10] (.bI 95 (aI (a5.Value-x17.2.1)) λx36=>.ret (((⟨a1.bA,(a1.aW.set (Int.toNat a2) (⟨y1_2,y1_3,y1_10,y1_5,y1_6,y1_7,y1_8,y1_9⟩:aP)),a1.bP,a1.bU,a1.bY,a1.Done⟩:aA):aA),x36,x17.2.1,0))))) q5) q4) q3) q2) q1) q0))))
def uU (n:Nat) (a1:aA) (a2:Int) (a3:Int) (a4:Int) (a5:aB):Option (aA×Int×Int×Int):=(aEQ n a1 a2 a3 a4 a5).run
theorem yA {n a1 a2 a3 a4 a5}:PZ (uU n a1 a2 a3 a4 a5) 47 [.agg (aA.av a1),int a2,int a3,int a4,.agg (aB.av a5)] (λr=>.aU [.agg (aA.av r.1),int r.2.1,int r.2.2.1,int r.2.2.2]):=by
 refine wm Tryz.func47 ?_
 intro v6
 intro v7
 intro v8
 refine .mk λx9 e9=>?_
 refine .mk λx10=>?_
 refine .mk .mk ?_
 refine .mk ?_
 refine .mk λx11 e11=>?_
 refine .mk λx12 e12=>?_
 refine .mk λx13 e13=>?_
 refine .mk λx14 e14=>?_
 refine .mk λx15 e15=>?_
 refine .mk λx16 e16=>?_
 refine .mk λx17 e17=>?_
 intro v18
 refine .mk λx19=>?_
 refine .mk .mk ?_
 intro v20
 refine .mk ?_ ?_
 intro v21
 refine .mk ?_ ?_
 refine .mk λp22=>?_
 refine .mk _ ⟨λ_=>d9 rfl rfl (.cons rfl .nil) vX (iK (vQ.pc (id:=7) (l:=a1.aW) rfl p22) (.cons (.refl _) .nil)),λ_ _ _=>trivial⟩ ?_
 rintro _ _ ⟨v23,rfl,rfl⟩
 refine .mk λx24 e24=>?_
 refine .mk _ (bE (eB rfl Tryz.underlying26 jE rfl rfl rfl rfl rfl (Eq.symm rfl) (List.length_map _) e24)) ?_
 exact .mk
 intro _ _
 refine .mk trivial ?_
 refine .mk λx25 e25=>?_
 refine .mk _ (bE (iH rfl rfl (.pt rfl rfl (dR e25 (aP.bW _))))) ?_
 refine .mk _ (bE (dK rfl l6 rfl (.pt rfl rfl (dR e25 (aP.bW _))) (.pt _ _ _ _ _))) ?_
 refine .mk _ (bE (dV rfl mH rfl (.pt rfl rfl (dR e25 (aP.bW _))) rfl)) ?_
 refine .mk λp26=>?_
 refine .mk _ ⟨λ_=>d9 rfl rfl (.cons rfl .nil) C4 (iK (AR.pc (id:=8) (l:=x25.dD) rfl p26) (.cons (.refl _) .nil)),λ_ _ _=>trivial⟩ ?_
 rintro _ _ ⟨v27,rfl,rfl⟩
 refine .mk _ (bE (iH rfl rfl (.pt rfl rfl (dR e25 (aP.bW _))))) ?_
 refine .mk _ (bE (dK rfl l6 rfl (.pt rfl rfl (dR e25 (aP.bW _))) (.pt _ _ _ _ _))) ?_
 refine .mk _ ⟨λ_=>bQ.dM (eO (ob':=(⟨42,8,true,true,_,(a1.aW.map aP.av).set (Int.toNat a2) [int x25.dS,aF x25.Closed,.sl 8 v27 0 x25.dD.length,aD 1 fI x25.dU,aD 11 bM.av x25.dI,aD 1 fI x25.dO,aD 1 fI x25.Down,aD 8 aP.av x25.eT]⟩:bC)) (dZ rfl mH rfl rfl rfl rfl rfl (dR e25 (aP.bW _)) rfl rfl rfl) (eU rfl)) (λ_ h=>h) (λ_ _=>trivial),λ_ _ _=>trivial⟩ ?_
 rintro _ _ ⟨rfl,rfl⟩
 refine .mk ?_
 refine .mk _ (λH hH _=>iH rfl rfl (.pt ((hH _ (by decide)).trans rfl) rfl (eY e25))) ?_
 refine .mk _ (λH hH _=>dK rfl l6 rfl (.pt ((hH _ (by decide)).trans rfl) rfl (eY e25)) (.pt _ _ _ _ _)) ?_
 refine .mk _ (λH hH _=>dV rfl mH rfl (.pt ((hH _ (by decide)).trans rfl) rfl (eY e25)) rfl) ?_
 refine .mk λx28 e28=>?_
 refine .mk _ (λH hH _=>eB rfl Tryz.underlying39 qG rfl rfl ((hH _ (by decide)).trans rfl) rfl rfl (Eq.symm rfl) (List.length_map _) e28) ?_
 refine .mk λx29 e29=>?_
 have fx29:=fP e28 e29;have lx29:=fH e29 (rfl:x25.dD.length=x25.dD.length)
 refine .mk _ ⟨λ_=>bQ.dM (eO (ob':=(⟨126,4,true,true,_,x29.map aM.av⟩:bC)) (dZ rfl qG rfl rfl rfl rfl rfl (cZ e28) rfl rfl rfl) (eU (iI e29))) (λ_ h=>h) (λ_ _=>trivial),by rintro _ _ ⟨rfl,rfl⟩;exact trivial⟩ ?_
 rintro _ _ ⟨rfl,rfl⟩
 exact .mk rfl ⟨rfl,(by first | rfl | exact lx29 ▸ rfl),rfl,rfl,rfl,rfl,rfl,trivial⟩
 intro _ _
 refine .mk trivial ?_
 refine .mk λx30 e30=>?_
 refine .mk (λx31 e31=>?_) rfl (by rintro _ rfl;exact (.cons (bK.agg (.cons (.refl _) (.cons (.refl _) (.cons (.refl _) (.cons (.refl _) (.cons (.refl _) (.cons (kZ rfl rfl rfl rfl rfl (Eq.symm rfl) e30 (lW (.cons (.refl _) (.cons (.refl _) (.cons (dH rfl rfl rfl rfl rfl (Eq.symm rfl)) (.cons (.refl _) (.cons (.refl _) (.cons (.refl _) (.cons (.refl _) (.cons (.refl _) .nil)))))))) (aP.bW _))) (.cons (.refl _) (.cons (.refl _) (.cons (.refl _) (.cons (.refl _) .nil))))))))))) (.cons (.refl _) (.cons (.refl _) .nil))))
 intro v32
 refine .mk ?_ ?_
 refine .mk λx33=>?_
 refine .mk .mk ?_
 refine .mk (λx34 e34=>?_) rfl (by rintro _ rfl;exact (.cons (bK.agg (.cons (.refl _) (.cons (.refl _) (.cons (.refl _) (.cons (.refl _) (.cons (.refl _) (.cons (kZ rfl rfl rfl rfl rfl (Eq.symm rfl) e30 (lW (.cons (.refl _) (.cons (.refl _) (.cons (dH rfl rfl rfl rfl rfl (Eq.symm rfl)) (.cons (.refl _) (.cons (.refl _) (.cons (.refl _) (.cons (.refl _) (.cons (.refl _) .nil)))))))) (aP.bW _))) (.cons (.refl _) (.cons (.refl _) (.cons (.refl _) (.cons (.refl _) .nil))))))))))) (.cons (.refl _) (.cons (.refl _) .nil))))
 refine .mk λx35=>?_
 exact .mk
 intro _ _
 refine .mk .mk ?_
 refine .mk ?_
 refine .mk λx36=>?_
 exact .mk (bK.aU (.cons (bK.agg (.cons (.refl _) (.cons (.refl _) (.cons (.refl _) (.cons (.refl _) (.cons (.refl _) (.cons (kZ rfl rfl rfl rfl rfl (Eq.symm rfl) e30 (lW (.cons (.refl _) (.cons (.refl _) (.cons (dH rfl rfl rfl rfl rfl (Eq.symm rfl)) (.cons (.refl _) (.cons (.refl _) (.cons (.refl _) (.cons (.refl _) (.cons (.refl _) .nil)))))))) (aP.bW _))) (.cons (.refl _) (.cons (.refl _) (.cons (.refl _) (.cons (.refl _) .nil))))))))))) (.cons (.refl _) (.cons (.refl _) (.cons (.refl _) .nil)))))
def aNX (a1:Int):WB (Bool) :=
 .jn 1 [] [] [] (λ_ (a:Bool)=>[(2,aF a)]) (λ_ _=>[]) (.bB 4 (decide (a1>=0)) λx2=>.ifs [4] x2 (.bB 7 (decide (a1<17)) λx3=>.ret x3) (.ret false)) (λy0_1=>.ret ((y0_1:Bool)))
def DW (a1:Int):Option (Bool):=(aNX a1).run
theorem T8 {a1}:PZ (DW a1) 166 [int a1] aF:=wq Tryz.func166
def aFB (a1:Int):WB (Bool) :=
 .jn 1 [] [] [] (λ_ (a:Bool)=>[(2,aF a)]) (λ_ _=>[]) (.bB 4 (decide (a1>=(-288230376151711744))) λx2=>.ifs [4] x2 (.bB 7 (decide (a1<=288230376151711744)) λx3=>.ret x3) (.ret false)) (λy0_1=>.ret ((y0_1:Bool)))
def JQ (a1:Int):Option (Bool):=(aFB a1).run
theorem LZ {a1}:PZ (JQ a1) 167 [int a1] aF:=wq Tryz.func167
def aIL (a1:aH):WB (Bool) :=
 .al 1<|.jn 0 [] [] [] (λ_ (a:Bool)=>[(2,aF a)]) (λ_ _=>[]) (.cl 5 (DW a1.fM) NQ T8 λx3=>.bB 6 (!x3) λx4=>.ifs [6] x4 (.ret true) (.cl 10 (JQ a1.bD) Q9 LZ λx5=>.bB 11 (!x5) λx6=>.ret x6)) (λy0_1=>.ret ((y0_1:Bool)))
def U2 (a1:aH):Option (Bool):=(aIL a1).run
theorem aKM {a1}:PZ (U2 a1) 165 [.agg (aH.av a1)] aF:=wq Tryz.func165
def aGK (a1:aH):WB (Int) :=
 .al 1<|.ret ((a1.fM:Int))
def GI (a1:aH):Option (Int):=(aGK a1).run
theorem O8 {a1}:PZ (GI a1) 170 [.agg (aH.av a1)] int:=wq Tryz.func170
def aBT (a1:Int):WB (Bool) :=
 .bB 5 (decide (a1≠a1)) λx2=>.ret ((x2:Bool))
def G6 (a1:Int):Option (Bool):=(aBT a1).run
theorem NJ {a1}:PZ (G6 a1) 226 [int a1] aF:=wq Tryz.func226
def XE (a1:Int) (a2:Int):WB (Int) :=
 .cl 8 (G6 a1) L8 NJ λx3=>.cl 10 (G6 a2) L8 NJ λx4=>.ifs [5,8] x3 (.ifs [10] x4 (.ret ((0:Int))) (.ret (((-1):Int)))) (.ifs [10] x4 (.ret ((1:Int))) (.bB 16 (decide (a1<a2)) λx5=>.ifs [16] x5 (.ret (((-1):Int))) (.bB 19 (decide (a1>a2)) λx6=>.ifs [19] x6 (.ret ((1:Int))) (.ret ((0:Int))))))
def UB (a1:Int) (a2:Int):Option (Int):=(XE a1 a2).run
theorem aO0 {a1 a2}:PZ (UB a1 a2) 192 [int a1,int a2] int:=wq Tryz.func192
def Z9 (a1:aH):WB (Bool) :=
 .al 1<|.bB 5 (decide (a1.bD=0)) λx3=>.ret ((x3:Bool))
def D5 (a1:aH):Option (Bool):=(Z9 a1).run
theorem Q8 {a1}:PZ (D5 a1) 172 [.agg (aH.av a1)] aF:=wq Tryz.func172
end
end Go.Pv
