import Derived.Test.YtmokiknakhhhdaaGreatXRe
set_option linter.unusedVariables false
set_option linter.unusedSimpArgs false
namespace Go.Pv
open Go.Proofs
set_option maxRecDepth 100000
set_option maxHeartbeats 4000000
noncomputable section
def aHE (n:Nat) (a1:bD) (a2:Int) (a3:Int) (a4:Int) (a5:dB):WB (bD×Int×Int×Int) :=
 .al 1<|.al 2<|.al 3<|.cl 24 (L8 a1 a2 a3 a4) XK V3 λx9=>.bB 26 (decide (x9<0)) λx10=>.az [26] x10 (.dr [(0,[1]),(1,[1]),(2,[1]),(9,[1]),(10,[1]),(11,[1]),(18,[1]),(19,[1]),(27,[2])] [(34,[])] [1,2] [33,34] [0,1,2,3,4,5,6,7,8,9,10,11,12,13,14,15,16,17,18,19,20,21,22,23,24,25,26,27,28,29,30,31,32,33,34,35,36] (.ix 33 (fL 1 fI) a1.dR.Methods a2 λx11=>.ix 36 fI x11 a3 λx12=>.ix 42 (fL 1 fI) a1.dR.jO a2 λx13=>.ix 45 fI x13 a3 λx14=>.oC 50 bC.av gE bC.gU a1.dX a2 λx15=>.ix 54 dK.av x15.iF x9 λx16=>.cl 57 (VX n x12 x14 x16 a5) aA4 aBN λx17=>.al 4<|.bB 62 (decide (x17.2.2≠0)) λx19=>.az [62] x19 (.al 5<|.inl 70 aEA Tryz.func230 [1,2,3,4] [7,8] (λ_ (a:Int×Bool×(List Int)×(List gI)×(List Int)×(List Int)×(List bC)×(List dK))=>.aS []) (λu4 a=>[.kp 5 [[int a1.dR.iD,int a1.dR.kV,aG 1 fI a1.dR.dH,aG 1 (fL 1 fI) a1.dR.Methods,aG 1 (fL 1 fI) a1.dR.jO,.sl 7 (u4 7) 0 a1.dX.length,aG 8 iJ.av a1.iO,aG 9 mG.av a1.jH,aG 6 mO.av a1.jQ,int a1.Done]],.nw 7 47 8 ((a1.dX.map bC.av).set (Int.toNat a2) [int a.1,aB a.2.1,.sl 8 (u4 8) 0 a.2.2.2.2.2.2.2.length,aG 1 fI a.2.2.1,aG 11 gI.av a.2.2.2.1,aG 1 fI a.2.2.2.2.1,aG 1 fI a.2.2.2.2.2.1,aG 8 bC.av a.2.2.2.2.2.2.1]),.nw 8 188 4 (a.2.2.2.2.2.2.2.map dK.av)]) (.al 6<|.inl 11 LC Tryz.func185 [1,2,3,4,6] [7] (λu6 (a:Unit)=>.pt 7 (u6 7) (Int.toNat a2) 0) (λu6 _=>[.kp 5 [[int a1.dR.iD,int a1.dR.kV,aG 1 fI a1.dR.dH,aG 1 (fL 1 fI) a1.dR.Methods,aG 1 (fL 1 fI) a1.dR.jO,.sl 7 (u6 7) 0 a1.dX.length,aG 8 iJ.av a1.iO,aG 9 mG.av a1.jH,aG 6 mO.av a1.jQ,int a1.Done]],.nw 7 47 8 (a1.dX.map bC.av)]) (.as (a1.dX.length<=68719476736) inferInstance<|.ge 11 7<|.bo (ix a1.dX a2) λx24=>.gv 21<|.ret ()) (λ_=>.bo (ix a1.dX a2) λx25=>.gv 14<|.gv 15<|.gv 16<|.as (x25.iF.length<=68719476736) inferInstance<|.ge 17 8<|.gv 18<|.gv 19<|.ge 1002008 0<|.dr [(1,[7]),(2,[7]),(3,[7]),(5,[6]),(6,[8])] [(7,[])] [6,7,8] [7] [0,1,2,3,4,5,6,7] (.gv 21<|.gv 22<|.gv 23<|.bo (ix x25.iF x9) λx28=>.gv 26<|.bl (x25.iF.set (Int.toNat x9) x17.1:List dK) λx29=>.ge 1003007 0<|.ret ((x25.l5:Int),(x25.Closed:Bool),(x25.jJ:List Int),(x25.gZ:List gI),(x25.gW:List Int),(x25.Down:List Int),(x25.iX:List bC),x29)))) (pw λy1_2 q0=>(pw λy1_3 q1=>(pw λy1_5 q2=>(pw λy1_6 q3=>(pw λy1_7 q4=>(pw λy1_8 q5=>(pw λy1_9 y1_10=>.bo (ix a1.dX a2) λx30=>.nS 76 (S7 n (⟨a1.dR,(a1.dX.set (Int.toNat a2) (⟨y1_2,y1_3,y1_10,y1_5,y1_6,y1_7,y1_8,y1_9⟩:bC)),a1.iO,a1.jH,a1.jQ,a1.Done⟩:bD) a2 a3) aJN aEF (λ_=>rfl) λx31=>.al 9<|.jn 0 [5,9,10,11,12,13,17] [1,2,3,5,7,8] [] (λ_ (a:Bool)=>[(88,aB a)]) (λ_ _=>[]) (.bB 80 (!x31.2) λx33=>.ifs [80] x33 (.ret true) (.nS 86 (P8 n (⟨a1.dR,(a1.dX.set (Int.toNat a2) (⟨y1_2,y1_3,y1_10,y1_5,y1_6,y1_7,y1_8,y1_9⟩:bC)),a1.iO,a1.jH,a1.jQ,a1.Done⟩:bD) a2 a3) aHK aBK (λ_=>rfl) λx34=>.bB 87 (!x34) λx35=>.ret x35)) (λy2_1=>.az [88] y2_1 (.dr [(0,[5]),(1,[5]),(2,[2]),(3,[2])] [(7,[2])] [2,5] [7] [0,1,2,3,4,5,6,7,8,9,10] (.bI 95 (bM (a5.Value-x17.2.1)) λx36=>.ret (((⟨a1.dR,(a1.dX.set (Int.toNat a2) (⟨y1_2,y1_3,y1_10,y1_5,y1_6,y1_7,y1_8,y1_9⟩:bC)),a1.iO,a1.jH,a1.jQ,a1.Done⟩:bD):bD),x36,x17.2.1,0))))) q5) q4) q3) q2) q1) q0))))
def QI (n:Nat) (a1:bD) (a2:Int) (a3:Int) (a4:Int) (a5:dB):Option (bD×Int×Int×Int):=(aHE n a1 a2 a3 a4 a5).run
theorem aA7 {n a1 a2 a3 a4 a5}:PZ (QI n a1 a2 a3 a4 a5) 195 [.agg (bD.av a1),int a2,int a3,int a4,.agg (dB.av a5)] (λr=>.aS [.agg (bD.av r.1),int r.2.1,int r.2.2.1,int r.2.2.2]):=by
 refine wm Tryz.func195 ?_
 intro v6
 intro v7
 intro v8
 refine .mk λx9 e9=>?_
 refine .mk λx10=>?_
 refine .mk ?_
 refine .mk ?_
 refine .mk λx11 e11=>?_
 refine .mk λx12 e12=>?_
 refine .mk λx13 e13=>?_
 refine .mk λx14 e14=>?_
 refine .mk λx15 e15=>?_
 refine .mk λx16 e16=>?_
 refine .mk λx17 e17=>?_
 intro v18
 refine .mk λx19=>?_
 refine .mk ?_
 intro v20
 refine .mk ?_ ?_
 intro v21
 refine .mk ?_ ?_
 refine .mk λp22=>?_
 refine .mk _ ⟨λ_=>aN rfl rfl (.cons rfl .nil) F7 (pN (C7.pc (id:=7) (l:=a1.dX) rfl p22) (.cons (.refl _) .nil)),λ_ _ _=>trivial⟩ ?_
 rintro _ _ ⟨v23,rfl,rfl⟩
 refine .mk λx24 e24=>?_
 refine .mk _ (aT (lY rfl Tryz.underlying30 E8 rfl rfl rfl rfl rfl (Eq.symm rfl) (List.length_map _) e24)) ?_
 exact .mk
 intro _ _
 refine .mk trivial ?_
 refine .mk λx25 e25=>?_
 refine .mk _ (aT (fU rfl rfl (.pt rfl rfl (nQ e25 (bC.gU _))))) ?_
 refine .mk _ (aT (fT rfl H8 rfl (.pt rfl rfl (nQ e25 (bC.gU _))) (.pt _ _ _ _ _))) ?_
 refine .mk _ (aT (eT rfl JE rfl (.pt rfl rfl (nQ e25 (bC.gU _))) rfl)) ?_
 refine .mk λp26=>?_
 refine .mk _ ⟨λ_=>aN rfl rfl (.cons rfl .nil) ZJ (pN (SV.pc (id:=8) (l:=x25.iF) rfl p26) (.cons (.refl _) .nil)),λ_ _ _=>trivial⟩ ?_
 rintro _ _ ⟨v27,rfl,rfl⟩
 refine .mk _ (aT (fU rfl rfl (.pt rfl rfl (nQ e25 (bC.gU _))))) ?_
 refine .mk _ (aT (fT rfl H8 rfl (.pt rfl rfl (nQ e25 (bC.gU _))) (.pt _ _ _ _ _))) ?_
 refine .mk _ ⟨λ_=>bZ.fA (gM (ob':=(⟨47,8,true,true,_,(a1.dX.map bC.av).set (Int.toNat a2) [int x25.l5,aB x25.Closed,.sl 8 v27 0 x25.iF.length,aG 1 fI x25.jJ,aG 11 gI.av x25.gZ,aG 1 fI x25.gW,aG 1 fI x25.Down,aG 8 bC.av x25.iX]⟩:bA)) (dZ rfl JE rfl rfl rfl rfl rfl (nQ e25 (bC.gU _)) rfl rfl rfl) (qO rfl)) (λ_ h=>h) (λ_ _=>trivial),λ_ _ _=>trivial⟩ ?_
 rintro _ _ ⟨rfl,rfl⟩
 refine .mk ?_
 refine .mk _ (λH hH _=>fU rfl rfl (.pt ((hH _ (by decide)).trans rfl) rfl (wG e25))) ?_
 refine .mk _ (λH hH _=>fT rfl H8 rfl (.pt ((hH _ (by decide)).trans rfl) rfl (wG e25)) (.pt _ _ _ _ _)) ?_
 refine .mk _ (λH hH _=>eT rfl JE rfl (.pt ((hH _ (by decide)).trans rfl) rfl (wG e25)) rfl) ?_
 refine .mk λx28 e28=>?_
 refine .mk _ (λH hH _=>lY rfl Tryz.underlying44 Q7 rfl rfl ((hH _ (by decide)).trans rfl) rfl rfl (Eq.symm rfl) (List.length_map _) e28) ?_
 refine .mk λx29 e29=>?_
 have fx29:=oU e28 e29;have lx29:=nX e29 (rfl:x25.iF.length=x25.iF.length)
 refine .mk _ ⟨λ_=>bZ.fA (gM (ob':=(⟨188,4,true,true,_,x29.map dK.av⟩:bA)) (dZ rfl Q7 rfl rfl rfl rfl rfl (kK e28) rfl rfl rfl) (qO (sH e29))) (λ_ h=>h) (λ_ _=>trivial),by rintro _ _ ⟨rfl,rfl⟩;exact trivial⟩ ?_
 rintro _ _ ⟨rfl,rfl⟩
 exact .mk rfl ⟨rfl,(by first | rfl | exact lx29 ▸ rfl),rfl,rfl,rfl,rfl,rfl,trivial⟩
 intro _ _
 refine .mk trivial ?_
 refine .mk λx30 e30=>?_
 refine .mk (λx31 e31=>?_) rfl (by rintro _ rfl;exact (.cons (bO.agg (.cons (.refl _) (.cons (.refl _) (.cons (.refl _) (.cons (.refl _) (.cons (.refl _) (.cons (xL rfl rfl rfl rfl rfl (Eq.symm rfl) e30 (wB (.cons (.refl _) (.cons (.refl _) (.cons (gJ rfl rfl rfl rfl rfl (Eq.symm rfl)) (.cons (.refl _) (.cons (.refl _) (.cons (.refl _) (.cons (.refl _) (.cons (.refl _) .nil)))))))) (bC.gU _))) (.cons (.refl _) (.cons (.refl _) (.cons (.refl _) (.cons (.refl _) .nil))))))))))) (.cons (.refl _) (.cons (.refl _) .nil))))
 intro v32
 refine .mk ?_ ?_
 refine .mk λx33=>?_
 refine .mk .mk ?_
 refine .mk (λx34 e34=>?_) rfl (by rintro _ rfl;exact (.cons (bO.agg (.cons (.refl _) (.cons (.refl _) (.cons (.refl _) (.cons (.refl _) (.cons (.refl _) (.cons (xL rfl rfl rfl rfl rfl (Eq.symm rfl) e30 (wB (.cons (.refl _) (.cons (.refl _) (.cons (gJ rfl rfl rfl rfl rfl (Eq.symm rfl)) (.cons (.refl _) (.cons (.refl _) (.cons (.refl _) (.cons (.refl _) (.cons (.refl _) .nil)))))))) (bC.gU _))) (.cons (.refl _) (.cons (.refl _) (.cons (.refl _) (.cons (.refl _) .nil))))))))))) (.cons (.refl _) (.cons (.refl _) .nil))))
 refine .mk λx35=>?_
 exact .mk
 intro _ _
 refine .mk ?_
 refine .mk ?_
 refine .mk λx36=>?_
 exact .mk (bO.aS (.cons (bO.agg (.cons (.refl _) (.cons (.refl _) (.cons (.refl _) (.cons (.refl _) (.cons (.refl _) (.cons (xL rfl rfl rfl rfl rfl (Eq.symm rfl) e30 (wB (.cons (.refl _) (.cons (.refl _) (.cons (gJ rfl rfl rfl rfl rfl (Eq.symm rfl)) (.cons (.refl _) (.cons (.refl _) (.cons (.refl _) (.cons (.refl _) (.cons (.refl _) .nil)))))))) (bC.gU _))) (.cons (.refl _) (.cons (.refl _) (.cons (.refl _) (.cons (.refl _) .nil))))))))))) (.cons (.refl _) (.cons (.refl _) (.cons (.refl _) .nil)))))
def aCO (a1:Int):WB (Bool) :=
 .jn 1 [] [] [] (λ_ (a:Bool)=>[(2,aB a)]) (λ_ _=>[]) (.bB 4 (decide (a1>=0)) λx2=>.ifs [4] x2 (.bB 7 (decide (a1<17)) λx3=>.ret x3) (.ret false)) (λy0_1=>.ret ((y0_1:Bool)))
def M8 (a1:Int):Option (Bool):=(aCO a1).run
theorem P5 {a1}:PZ (M8 a1) 141 [int a1] aB:=wq Tryz.func141
def aEG (a1:Int):WB (Bool) :=
 .jn 1 [] [] [] (λ_ (a:Bool)=>[(2,aB a)]) (λ_ _=>[]) (.bB 4 (decide (a1>=(-288230376151711744))) λx2=>.ifs [4] x2 (.bB 7 (decide (a1<=288230376151711744)) λx3=>.ret x3) (.ret false)) (λy0_1=>.ret ((y0_1:Bool)))
def LW (a1:Int):Option (Bool):=(aEG a1).run
theorem V5 {a1}:PZ (LW a1) 142 [int a1] aB:=wq Tryz.func142
def ZW (a1:bY):WB (Bool) :=
 .al 1<|.jn 0 [] [] [] (λ_ (a:Bool)=>[(2,aB a)]) (λ_ _=>[]) (.cl 5 (M8 a1.uK) V7 P5 λx3=>.bB 6 (!x3) λx4=>.ifs [6] x4 (.ret true) (.cl 10 (LW a1.aQ) TC V5 λx5=>.bB 11 (!x5) λx6=>.ret x6)) (λy0_1=>.ret ((y0_1:Bool)))
def YR (a1:bY):Option (Bool):=(ZW a1).run
theorem aHD {a1}:PZ (YR a1) 140 [.agg (bY.av a1)] aB:=wq Tryz.func140
def aB2 (a1:bY):WB (Int) :=
 .al 1<|.ret ((a1.uK:Int))
def L5 (a1:bY):Option (Int):=(aB2 a1).run
theorem ZH {a1}:PZ (L5 a1) 145 [.agg (bY.av a1)] int:=wq Tryz.func145
def aGX (a1:Int):WB (Bool) :=
 .bB 5 (decide (a1≠a1)) λx2=>.ret ((x2:Bool))
def HZ (a1:Int):Option (Bool):=(aGX a1).run
theorem YO {a1}:PZ (HZ a1) 219 [int a1] aB:=wq Tryz.func219
def aMW (a1:Int) (a2:Int):WB (Int) :=
 .cl 8 (HZ a1) OU YO λx3=>.cl 10 (HZ a2) OU YO λx4=>.ifs [5,8] x3 (.ifs [10] x4 (.ret ((0:Int))) (.ret (((-1):Int)))) (.ifs [10] x4 (.ret ((1:Int))) (.bB 16 (decide (a1<a2)) λx5=>.ifs [16] x5 (.ret (((-1):Int))) (.bB 19 (decide (a1>a2)) λx6=>.ifs [19] x6 (.ret ((1:Int))) (.ret ((0:Int))))))
def QT (a1:Int) (a2:Int):Option (Int):=(aMW a1 a2).run
theorem aM1 {a1 a2}:PZ (QT a1 a2) 179 [int a1,int a2] int:=wq Tryz.func179
def aH6 (a1:bY):WB (Bool) :=
 .al 1<|.bB 5 (decide (a1.aQ=0)) λx3=>.ret ((x3:Bool))
def J7 (a1:bY):Option (Bool):=(aH6 a1).run
theorem P7 {a1}:PZ (J7 a1) 147 [.agg (bY.av a1)] aB:=wq Tryz.func147
def aGP (n:Nat) (a1:List bY):WB ((List bY)×Int) :=
 .inl 12 TM Tryz.func139 [] [] (λ_ (a:Bool)=>aB a) (λ_ _=>[]) (.inl 7 M7 Tryz.func176 [] [] (λ_ (a:Int)=>int a) (λ_ _=>[]) (.ln 7 bY.av a1<|.iA 0 [4] [] [] (λ_ (a:Unit)=>[]) (λ_ _=>[]) (.lp [0,1,4,7] [] [] (λ_ (a:Int)=>[(8,int a)]) (λ_ _=>[]) n (0:Int) (λy0_1=>.bB 9 (decide (y0_1<(a1.length:Int))) λx2=>.ifs [9] x2 (.ix 14 bY.av a1 y0_1 λx3=>.cl 16 (YR x3) aAU aHD λx4=>.ifs [16] x4 (.esc (.esc (.ret (y0_1:Int)))) (.bI 18 (bM (y0_1+1)) λx5=>.brk (x5:Int))) (.esc (.brk ())))) (λ_=>.ret ((-1):Int))) (λy2_1=>.bB 8 (decide (y2_1>=0)) λx6=>.ret x6)) (λy3_1=>.az [12] y3_1 (.as (a1.length<=68719476736) inferInstance<|.ge 14 1<|.inl 16 aK6 Tryz.func144 [] [] (λ_ (a:(List bY))=>.aS []) (λ_ a=>[.kp 1 (a.map bY.av)]) (.al 2<|.inl 6 aBH Tryz.func177 [2] [] (λ_ (a:(List bY))=>.aS []) (λ_ a=>[.kp 1 (a.map bY.av)]) (.inl 8 aG0 Tryz.func218 [2] [] (λ_ (a:(List bY))=>.aS []) (λ_ a=>[.kp 1 (a.map bY.av)]) (.jn 2 [0,1,2,6,7] [1,2] [] (λ_ (a:Unit)=>[]) (λ_ _=>[]) (.lp [0,1,2,6,7,8] [1,2] [] (λ_ (a:Unit)=>[]) (λ_ _=>[]) n () (λ_=>.bB 13 (decide (20<=(a1.length:Int))) λx10=>.az [13] x10 (.esc (.ret ())))) (λ_=>.inl 27 aJZ Tryz.func251 [2] [] (λ_ (a:(List bY))=>.aS []) (λ_ a=>[.kp 1 (a.map bY.av)]) (.kI 11 1<|.jn 0 [] [2] [] (λ_ (a:(List bY))=>[]) (λ_ a=>[.kp 1 (a.map bY.av)]) (.lp [1,2,3] [2] [] (λu107 (a:Int×(List bY))=>[(0,.sl 1 (u107 1) 0 a.2.length),(8,int a.1)]) (λ_ a=>[.kp 1 (a.2.map bY.av)]) n ((1:Int),a1) (pw λy6_1 y6_2=>.bB 14 (decide (y6_1<(a1.length:Int))) λx11=>.ifs [14] x11 (.jn 1 [1,2,3,8] [2] [] (λu113 (a:(List bY))=>[(0,.sl 1 (u113 1) 0 a.length)]) (λ_ a=>[.kp 1 (a.map bY.av)]) (.jn 2 [1,2,3,8] [2] [] (λu118 (a:(List bY))=>[(0,.sl 1 (u118 1) 0 a.length)]) (λ_ a=>[.kp 1 (a.map bY.av)]) (.lp [1,2,3,8] [2] [] (λu121 (a:Int×(List bY))=>[(0,.sl 1 (u121 1) 0 a.2.length),(9,int a.1)]) (λ_ a=>[.kp 1 (a.2.map bY.av)]) n ((y6_1:Int),y6_2) (pw λy7_1 y7_2=>.jn 0 [0,1,2,3,8,9] [1,2] [] (λ_ (a:Bool)=>[(34,aB a)]) (λ_ _=>[]) (.dr [(7,[1]),(8,[1]),(12,[1]),(13,[1])] [(14,[])] [1] [14] [0,1,2,3,4,5,6,7,8,9,10,11,12,13,14,15,16] (.bB 20 (decide (y7_1>0)) λx12=>.ifs [20] x12 (.bo (ix y7_2 y7_1) λx13=>.gv 25<|.gv 26<|.bI 29 (bM (y7_1-1)) λx14=>.bo (ix y7_2 x14) λx15=>.gv 30<|.gv 31<|.inl 32 aMH Tryz.func178 [1,2] [] (λ_ (a:Int)=>int a) (λ_ _=>[]) (.al 3<|.al 4<|.dr [(0,[2]),(1,[3]),(3,[2]),(4,[4])] [] [2,3,4] [] [0,1,2,3,4,5,6,7] (.cl 8 (L5 x13) UI ZH λx18=>.cl 11 (L5 x15) UI ZH λx19=>.cl 12 (QT x18 x19) aEJ aM1 λx20=>.ret (x20:Int))) (λy8_1=>.bB 33 (decide (y8_1<0)) λx21=>.ret x21)) (.ret false))) (λy9_1=>.ifs [34] y9_1 (.dr [(8,[1]),(9,[1]),(12,[1]),(13,[1]),(14,[1]),(16,[1])] [(15,[]),(17,[])] [1] [15,17] [0,1,2,3,4,5,6,7,8,9,10,11,12,13,14,15,16,17] (.bI 41 (bM (y7_1-1)) λx22=>.bI 44 (bM (y7_1-1)) λx23=>.bo (ix y7_2 x23) λx24=>.gv 45<|.gv 46<|.bo (ix y7_2 y7_1) λx25=>.gv 49<|.gv 50<|.gv 51<|.bl (y7_2.set (Int.toNat y7_1) x24:List bY) λx26=>.ge 1006015 0<|.bo (ix x26 x22) λx27=>.gv 52<|.bl (x26.set (Int.toNat x22) x25:List bY) λx28=>.ge 1006017 0<|.bI 36 (bM (y7_1-1)) λx29=>.brk ((x29:Int),x28))) (.esc (.ret y7_2))))) (λy10_1=>.ret y10_1)) (λy11_1=>.bI 16 (bM (y6_1+1)) λx30=>.brk ((x30:Int),y11_1))) (.esc (.ret y6_2)))) (λy12_1=>.ret y12_1)) (λy13_1=>.as (y13_1.length=a1.length) inferInstance<|.jn 0 [] [1,2] [] (λ_ (a:Unit)=>[]) (λ_ _=>[]) (.lp [0,1,2,6] [1,2] [] (λ_ (a:Unit)=>[]) (λ_ _=>[]) n () (λ_=>.bB 30 (decide (20<(a1.length:Int))) λx32=>.az [30] x32 (.esc (.ret ())))) (λ_=>.ret y13_1)))) (λy16_1=>.ret y16_1)) (λy17_1=>.ret y17_1)) (λy18_1=>.as (y18_1.length=a1.length) inferInstance<|.gv 17<|.jn 0 [2,3] [] [7] (λu134 (a:(List bY))=>[(5,.sl 7 (u134 7) 0 a.length)]) (λ_ a=>[.nw 7 123 2 (a.map bY.av)]) (.no 5 7 123 2<|.lp [2,3,17,18] [1] [7] (λu137 (a:Int×(List bY))=>[(5,.sl 7 (u137 7) 0 a.2.length),(19,int a.1)]) (λ_ a=>[.nw 7 123 2 (a.2.map bY.av)]) n ((0:Int),(([]:List bY):List bY)) (pw λy19_2 y19_3=>.bB 20 (decide (y19_2<(a1.length:Int))) λx35=>.ifs [20] x35 (.bo (ix y18_1 y19_2) λx36=>.gv 21<|.gv 22<|.al 5<|.bI 25 (bM ((y19_3.length:Int)-1)) λx38=>.jn 0 [2,3,5,7,8,17,18,19] [1,5,7] [] (λ_ (a:Bool)=>[(37,aB a)]) (λ_ _=>[]) (.dr [(5,[7]),(6,[7]),(7,[7]),(8,[5]),(9,[5])] [] [5,7] [] [0,1,2,3,4,5,6,7,8,9,10,11] (.bB 27 (decide (x38>=0)) λx39=>.ifs [27] x39 (.bo (ix y19_3 x38) λx40=>.gv 31<|.gv 32<|.gv 33<|.bB 36 (decide (x40.uK=x36.uK)) λx41=>.ret x41) (.ret false))) (λy20_1=>.az [37] y20_1 (.to 59 (aG 2 bY.av ([x36]:List bY))<|.bl (y19_3++([x36]:List bY):List bY) λx42=>.as (x42.length<=68719476736) inferInstance<|.ge 60 0<|.bI 61 (bM (y19_2+1)) λx45=>.brk ((x45:Int),x42)))) (.esc (.ret y19_3)))) (λy21_2=>.inl 63 aF2 Tryz.func146 [] [] (λu151 (a:Nat×Nat×(List bY))=>.sl 7 (u151 7) a.1 a.2.1) (λ_ a=>[.kp 7 (a.2.2.map bY.av)]) (.inl 10 M7 Tryz.func176 [7] [] (λ_ (a:Int)=>int a) (λ_ _=>[]) (.iA 2 [4] [7] [] (λ_ (a:Unit)=>[]) (λ_ _=>[]) (.lp [0,1,4,7] [7] [] (λ_ (a:Int)=>[(8,int a)]) (λ_ _=>[]) n (0:Int) (λy22_1=>.bB 9 (decide (y22_1<(y21_2.length:Int))) λx46=>.ifs [9] x46 (.bo (ix y21_2 y22_1) λx47=>.gv 14<|.gv 15<|.cl 16 (J7 x47) PO P7 λx48=>.ifs [16] x48 (.esc (.esc (.ret (y22_1:Int)))) (.bI 18 (bM (y22_1+1)) λx49=>.brk (x49:Int))) (.esc (.brk ())))) (λ_=>.ret ((-1):Int))) (λy24_1=>.bB 12 (decide (y24_1=(-1))) λx50=>.ifs [12] x50 (.ret ((0:Nat),(y21_2.length:Nat),y21_2)) (.bI 15 (bM (y24_1+1)) λx51=>.jn 0 [4] [] [] (λu160 (a:Int×(List bY))=>[(0,.sl 7 (u160 7) 0 a.2.length),(5,int a.1)]) (λ_ a=>[.kp 7 (a.2.map bY.av)]) (.lp [1,4] [] [] (λu163 (a:Int×Int×(List bY))=>[(0,.sl 7 (u163 7) 0 a.2.2.length),(5,int a.1),(6,int a.2.1)]) (λ_ a=>[.kp 7 (a.2.2.map bY.av)]) n ((y24_1:Int),(x51:Int),y21_2) (pw λy25_1 q0=>(pw λy25_2 y25_3=>.bB 19 (decide (y25_2<(y25_3.length:Int))) λx52=>.ifs [19] x52 (.jn 1 [1,4,6] [] [] (λu164 (a:Int×(List bY))=>[(0,.sl 7 (u164 7) 0 a.2.length),(5,int a.1)]) (λ_ a=>[.kp 7 (a.2.map bY.av)]) (.bo (ix y25_3 y25_2) λx53=>.gv 24<|.gv 25<|.al 8<|.cl 28 (J7 x53) PO P7 λx55=>.bB 29 (!x55) λx56=>.ifs [29] x56 (.bo (ix y25_3 y25_1) λx57=>.gv 33<|.bl (y25_3.set (Int.toNat y25_1) x53:List bY) λx58=>.ge 1009004 0<|.bI 35 (bM (y25_1+1)) λx59=>.ret ((x59:Int),x58)) (.ret ((y25_1:Int),y25_3))) (pw λy26_1 y26_2=>.bI 21 (bM (y25_2+1)) λx60=>.brk ((y26_1:Int),(x60:Int),y26_2))) (.esc (.ret ((y25_1:Int),y25_3)))) q0)) (pw λy27_1 y27_2=>.as ((0:Int)<=y27_1/\y27_1<(y27_2.length:Int)) inferInstance<|.gv 38<|.bl (y27_2.take (0+y27_1.toNat):List bY) λx62=>.ge 1011003 0<|.as ((0:Int)<=y27_1/\y27_1<=(y27_2.length:Int)) inferInstance<|.gv 41<|.ret (((0+0):Nat),((y27_1.toNat-0):Nat),x62))))) (pw λy28_1 q0=>(pw λy28_2 y28_3=>.as (y28_1+y28_2<=y28_3.length) inferInstance<|.ret (((((y28_3).drop y28_1).take y28_2):List bY),(0:Int))) q0)))))
def MW (n:Nat) (a1:List bY):Option ((List bY)×Int):=(aGP n a1).run
theorem PY {n a1}:PZ (MW n a1) 103 [aG 2 bY.av a1] (λr=>.aS [aG 2 bY.av r.1,int r.2]):=by
 refine wm Tryz.func103 ?_
 refine .mk ?_ ?_
 refine .mk ?_ ?_
 refine .mk ?_
 refine .mk ?_ ?_
 refine .mk ?_
 intro _ _
 refine .mk λx2=>?_
 refine .mk ?_ ?_
 refine .mk λx3 e3=>?_
 refine .mk λx4 e4=>?_
 refine .mk .mk ?_
 refine .mk λx5=>?_
 exact .mk
 exact .mk
 intro _ _
 exact .mk
 intro _ _
 refine .mk trivial ?_
 refine .mk λx6=>?_
 exact .mk
 intro _ _
 refine .mk trivial ?_
 refine .mk ?_
 refine .mk λp7=>?_
 refine .mk _ ⟨λ_=>aN rfl rfl (.cons rfl .nil) YI (pN (R5.pc (id:=1) (l:=a1) rfl p7) (.cons (.refl _) .nil)),λ_ _ _=>trivial⟩ ?_
 rintro _ _ ⟨v8,rfl,rfl⟩
 refine .mk ?_ ?_
 intro v9
 refine .mk ?_ ?_
 refine .mk ?_ ?_
 refine .mk ?_ ?_
 refine .mk ?_
 intro _ _
 refine .mk λx10=>?_
 refine .mk ?_
 exact .mk
 intro _ _
 refine .mk ?_ ?_
 refine .mk ?_
 refine .mk ?_ ?_
 refine .mk ?_
 intro _ _
 refine .mk λx11=>?_
 refine .mk ?_ ?_
 refine .mk ?_ ?_
 refine .mk ?_ ?_
 refine .mk ?_
 rintro ⟨y7_1,y7_2⟩ _
 refine .mk ?_ ?_
 refine .mk ?_
 refine .mk λx12=>?_
 refine .mk ?_ ?_
 refine .mk λx13 e13=>?_
 refine .mk _ (λH hH _=>lY rfl Tryz.underlying53 kY rfl rfl ((hH _ (by decide)).trans rfl) rfl rfl (Eq.symm rfl) (List.length_map _) e13) ?_
 refine .mk _ (λH hH _=>eT rfl kY rfl (.pt ((hH _ (by decide)).trans rfl) rfl (kK e13)) rfl) ?_
 refine .mk λx14=>?_
 refine .mk λx15 e15=>?_
 refine .mk _ (λH hH _=>lY rfl Tryz.underlying53 kY rfl rfl ((hH _ (by decide)).trans rfl) rfl rfl (Eq.symm rfl) (List.length_map _) e15) ?_
 refine .mk _ (λH hH _=>eT rfl kY rfl (.pt ((hH _ (by decide)).trans rfl) rfl (kK e15)) rfl) ?_
 refine .mk ?_ ?_
 intro v16
 intro v17
 refine .mk ?_
 refine .mk λx18 e18=>?_
 refine .mk λx19 e19=>?_
 refine .mk λx20 e20=>?_
 exact .mk
 intro _ _
 refine .mk trivial ?_
 refine .mk λx21=>?_
 exact .mk
 exact .mk
 intro _ _
 refine .mk ?_ ?_
 refine .mk ?_
 refine .mk λx22=>?_
 refine .mk λx23=>?_
 refine .mk λx24 e24=>?_
 refine .mk _ (λH hH _=>lY rfl Tryz.underlying53 kY rfl rfl ((hH _ (by decide)).trans rfl) rfl rfl (Eq.symm rfl) (List.length_map _) e24) ?_
 refine .mk _ (λH hH _=>eT rfl kY rfl (.pt ((hH _ (by decide)).trans rfl) rfl (kK e24)) rfl) ?_
 refine .mk λx25 e25=>?_
 refine .mk _ (λH hH _=>lY rfl Tryz.underlying53 kY rfl rfl ((hH _ (by decide)).trans rfl) rfl rfl (Eq.symm rfl) (List.length_map _) e25) ?_
 refine .mk _ (λH hH _=>eT rfl kY rfl (.pt ((hH _ (by decide)).trans rfl) rfl (kK e25)) rfl) ?_
 refine .mk _ (λH hH _=>lY rfl Tryz.underlying53 kY rfl rfl ((hH _ (by decide)).trans rfl) rfl rfl (Eq.symm rfl) (List.length_map _) e25) ?_
 refine .mk λx26 e26=>?_
 have fx26:=oU e25 e26;have lx26:=nX e26 (rfl:y7_2.length=y7_2.length)
 refine .mk _ ⟨λ_=>bZ.fA (gM (ob':=(⟨123,2,true,true,_,x26.map bY.av⟩:bA)) (dZ rfl kY rfl rfl rfl rfl rfl (kK e25) rfl rfl rfl) (qO (sH e26))) (λ_ h=>h) (λ_ _=>trivial),by rintro _ _ ⟨rfl,rfl⟩;exact trivial⟩ ?_
 rintro _ _ ⟨rfl,rfl⟩
 refine .mk λx27 e27=>?_
 refine .mk _ (λH hH _=>lY rfl Tryz.underlying53 kY rfl rfl ((hH _ (by decide)).trans rfl) rfl rfl (Eq.symm lx26) (List.length_map _) e27) ?_
 refine .mk λx28 e28=>?_
 have fx28:=oU e27 e28;have lx28:=nX e28 lx26
 refine .mk _ ⟨λ_=>bZ.fA (gM (ob':=(⟨123,2,true,true,_,x28.map bY.av⟩:bA)) (dZ rfl kY rfl rfl rfl rfl rfl (kK e27) rfl rfl rfl) (qO (sH e28))) (λ_ h=>h) (λ_ _=>trivial),by rintro _ _ ⟨rfl,rfl⟩;exact trivial⟩ ?_
 rintro _ _ ⟨rfl,rfl⟩
 refine .mk λx29=>?_
 exact .mk ⟨⟨⟨_,rfl,(sF (Eq.symm lx28))⟩,⟨_,rfl,(.refl _)⟩,⟨_,rfl,(.refl _)⟩,⟨_,rfl,(.refl _)⟩,⟨_,rfl,(.refl _)⟩,⟨_,rfl,(.refl _)⟩,trivial⟩,⟨⟨_,rfl,(.refl _)⟩,⟨_,rfl,(.refl _)⟩,trivial⟩⟩
 exact .mk
 intro _ _
 exact .mk
 intro _ _
 refine .mk λx30=>?_
 exact .mk
 exact .mk
 intro _ _
 exact .mk
 intro _ _
 refine .mk trivial ?_
 refine .mk λp31=>?_
 refine .mk ?_ ?_
 refine .mk ?_
 intro _ _
 refine .mk λx32=>?_
 refine .mk ?_
 exact .mk
 intro _ _
 exact .mk
 intro _ _
 refine .mk trivial ?_
 exact .mk
 intro _ _
 refine .mk trivial ?_
 exact .mk
 intro _ _
 refine .mk trivial ?_
 refine .mk λp33=>?_
 refine .mk _ (aT (bF rfl rfl)) ?_
 refine .mk ?_ ?_
 intro v34
 refine .mk ?_
 rintro ⟨y19_2,y19_3⟩ _
 refine .mk λx35=>?_
 refine .mk ?_ ?_
 refine .mk λx36 e36=>?_
 refine .mk _ (aT (lY rfl Tryz.underlying53 kY rfl rfl rfl rfl rfl (Eq.symm p33) (List.length_map _) e36)) ?_
 refine .mk _ (aT (eT rfl kY rfl (.pt rfl rfl (kK e36)) rfl)) ?_
 intro v37
 refine .mk λx38=>?_
 refine .mk ?_ ?_
 refine .mk ?_
 refine .mk λx39=>?_
 refine .mk ?_ ?_
 refine .mk λx40 e40=>?_
 refine .mk _ (λH hH _=>lY rfl Tryz.underlying53 kY rfl rfl ((hH _ (by decide)).trans rfl) rfl rfl (Eq.symm rfl) (List.length_map _) e40) ?_
 refine .mk _ (λH hH _=>fT rfl aBJ rfl (.pt ((hH _ (by decide)).trans rfl) rfl (kK e40)) (.pt _ _ _ _ _)) ?_
 refine .mk _ (λH hH _=>eT rfl bW rfl (.pt ((hH _ (by decide)).trans rfl) rfl (kK e40)) rfl) ?_
 refine .mk λx41=>?_
 exact .mk
 exact .mk
 intro _ _
 refine .mk ?_
 refine .mk (aT (aH (y:=aG 2 bY.av ([x36]:List bY)) (dQ (ps:=[(0,_)]) (rows:=[[int x36.uK,int x36.aQ]]) rfl Tryz.underlying53 BV (.cons rfl .nil) (by kernel_rfl) rfl rfl rfl) rfl)) ?_
 refine .mk λx42 e42=>?_
 refine .mk λp43=>?_
 refine .mk _ ⟨λ_=>iB (g:=bY.av) (l:=y19_3) (m:=([x36]:List bY)) .any rfl Tryz.underlying53 BV XC rfl rfl rfl rfl rfl rfl rfl rfl rfl rfl (Eq.symm rfl) (.refl _) (λ_=>rfl) e42 p43,λ_ _ _=>trivial⟩ ?_
 rintro _ _ ⟨v44,-,rfl,rfl⟩
 refine .mk λx45=>?_
 exact .mk
 exact .mk
 intro _ _
 refine .mk ?_ ?_
 refine .mk ?_ ?_
 refine .mk ?_ ?_
 refine .mk ?_
 intro _ _
 refine .mk λx46=>?_
 refine .mk ?_ ?_
 refine .mk λx47 e47=>?_
 refine .mk _ (aT (lY rfl Tryz.underlying53 kY rfl rfl rfl rfl rfl (Eq.symm rfl) (List.length_map _) e47)) ?_
 refine .mk _ (aT (eT rfl kY rfl (.pt rfl rfl (kK e47)) rfl)) ?_
 refine .mk λx48 e48=>?_
 refine .mk .mk ?_
 refine .mk λx49=>?_
 exact .mk
 exact .mk
 intro _ _
 exact .mk
 intro _ _
 refine .mk trivial ?_
 refine .mk λx50=>?_
 refine .mk .mk ?_
 refine .mk λx51=>?_
 refine .mk ?_ ?_
 refine .mk ?_
 rintro ⟨y25_1,y25_2,y25_3⟩ _
 refine .mk λx52=>?_
 refine .mk ?_ ?_
 refine .mk ?_ ?_
 refine .mk λx53 e53=>?_
 refine .mk _ (aT (lY rfl Tryz.underlying53 kY rfl rfl rfl rfl rfl (Eq.symm rfl) (List.length_map _) e53)) ?_
 refine .mk _ (aT (eT rfl kY rfl (.pt rfl rfl (kK e53)) rfl)) ?_
 intro v54
 refine .mk λx55 e55=>?_
 refine .mk λx56=>?_
 refine .mk ?_ ?_
 refine .mk λx57 e57=>?_
 refine .mk _ (aT (lY rfl Tryz.underlying53 kY rfl rfl rfl rfl rfl (Eq.symm rfl) (List.length_map _) e57)) ?_
 refine .mk λx58 e58=>?_
 have fx58:=oU e57 e58;have lx58:=nX e58 (rfl:y25_3.length=y25_3.length)
 refine .mk _ ⟨λ_=>bZ.fA (gM (ob':=(⟨123,2,true,true,_,x58.map bY.av⟩:bA)) (dZ rfl kY rfl rfl rfl rfl rfl (kK e57) rfl rfl rfl) (qO (sH e58))) (λ_ h=>h) (λ_ _=>trivial),λ_ _ _=>trivial⟩ ?_
 rintro _ _ ⟨rfl,rfl⟩
 refine .mk λx59=>?_
 exact .mk ⟨⟨⟨_,rfl,(sF (Eq.symm lx58))⟩,⟨_,rfl,(.refl _)⟩,⟨_,rfl,(.refl _)⟩,⟨_,rfl,(.refl _)⟩,⟨_,rfl,(.refl _)⟩,trivial⟩,⟨⟨_,rfl,(.refl _)⟩,trivial⟩⟩
 exact .mk
 intro _ _
 refine .mk λx60=>?_
 exact .mk
 exact .mk
 rintro ⟨y27_1,y27_2⟩ _
 refine .mk λp61=>?_
 refine .mk _ (aT (M6 (len:=y27_2.length) (i:=y27_1.toNat) (j:=y27_2.length) rfl Tryz.underlying53 kY rfl rfl rfl rfl (.yes rfl (by first | omega | (dsimp only;omega) | (dsimp only at *;omega))) .no (by first | omega | (dsimp only;omega) | (dsimp only at *;omega)) (Nat.le_refl _) (.inl (by first | omega | (dsimp only;omega) | (dsimp only at *;omega))))) ?_
 refine .mk λx62 e62=>?_
 refine .mk _ ⟨λ_=>bZ.fA (gM (ob':=(⟨123,2,true,true,_,x62.map bY.av⟩:bA)) (aAH rfl Tryz.underlying53 BV rfl rfl rfl rfl rfl rfl e62) rfl) (λ_ h=>h) (λ_ _=>trivial),λ_ _ _=>trivial⟩ ?_
 rintro _ _ ⟨rfl,rfl⟩
 refine .mk λp63=>?_
 refine .mk _ (aT (M6 (len:=y27_2.length) (i:=0) (j:=y27_1.toNat) rfl Tryz.underlying53 kY rfl rfl rfl rfl .no (.yes rfl (by first | omega | (dsimp only;omega) | (dsimp only at *;omega))) (Nat.zero_le _) (by first | omega | (dsimp only;omega) | (dsimp only at *;omega)) (.inr rfl))) ?_
 exact .mk
 rintro ⟨y28_1,y28_2,y28_3⟩ _
 refine .mk trivial ?_
 refine .mk λp64=>?_
 exact .mk (bO.aS (.cons (aOJ (l:=y28_3) rfl rfl rfl rfl (fV.refl _) (by first | omega | (simp only [List.length_set];omega)) rfl) (.cons (.refl _) .nil)))
def aLC (n:Nat) (a1:List bY):WB (Int×Int) :=
 .ln 8 bY.av a1<|.jn 0 [2,3] [] [3] (λu2 (a:(List Int))=>[(4,.sl 3 (u2 3) 0 a.length)]) (λ_ a=>[.nw 3 3 1 (a.map fI)]) (.no 4 3 3 1<|.lp [2,3,7,8] [] [3] (λu3 (a:Int×(List Int))=>[(4,.sl 3 (u3 3) 0 a.2.length),(9,int a.1)]) (λ_ a=>[.nw 3 3 1 (a.2.map fI)]) n ((0:Int),(([]:List Int):List Int)) (pw λy0_2 y0_3=>.bB 10 (decide (y0_2<(a1.length:Int))) λx3=>.ifs [10] x3 (.ix 11 bY.av a1 y0_2 λx4=>.al 1<|.to 16 (aG 1 fI ([x4.aQ]:List Int))<|.bl (y0_3++([x4.aQ]:List Int):List Int) λx6=>.as (x6.length<=68719476736) inferInstance<|.ge 17 0<|.bI 18 (bM (y0_2+1)) λx9=>.brk ((x9:Int),x6)) (.esc (.ret y0_3)))) (λy1_2=>.nS 20 (sG n y1_2) uN tV (λ_=>rfl) λx10=>.ret ((x10.1:Int),x10.2))
def VQ (n:Nat) (a1:List bY):Option (Int×Int):=(aLC n a1).run
theorem aOW {n a1}:PZ (VQ n a1) 256 [aG 2 bY.av a1] (λr=>.aS [int r.1,int r.2]):=wq Tryz.func256
def aGV (a1:bY):WB (Bool) :=
 .al 1<|.jn 0 [] [] [] (λ_ (a:Bool)=>[(2,aB a)]) (λ_ _=>[]) (.cl 5 (M8 a1.uK) V7 P5 λx3=>.bB 6 (!x3) λx4=>.ifs [6] x4 (.ret true) (.bB 10 (decide (a1.aQ=0)) λx5=>.ifs [10] x5 (.ret true) (.cl 15 (LW a1.aQ) TC V5 λx6=>.bB 16 (!x6) λx7=>.ret x7))) (λy0_1=>.ret ((y0_1:Bool)))
def R8 (a1:bY):Option (Bool):=(aGV a1).run
theorem aKL {a1}:PZ (R8 a1) 255 [.agg (bY.av a1)] aB:=wq Tryz.func255
def aEM (n:Nat) (a1:List bY):WB (Bool) :=
 .jn 1 [0,2] [] [] (λ_ (a:Bool)=>[(13,aB a)]) (λ_ _=>[]) (.ln 7 bY.av a1<|.bB 8 (decide ((a1.length:Int)<1)) λx2=>.ifs [8] x2 (.ret true) (.ln 11 bY.av a1<|.bB 12 (decide ((a1.length:Int)>12)) λx3=>.ret x3)) (λy0_1=>.az [13] y0_1 (.cl 16 (VQ n a1) aGU aOW λx4=>.jn 0 [] [] [] (λ_ (a:Bool)=>[(2,aB a)]) (λ_ _=>[]) (.inl 21 TM Tryz.func139 [] [] (λ_ (a:Bool)=>aB a) (λ_ _=>[]) (.inl 7 M7 Tryz.func176 [] [] (λ_ (a:Int)=>int a) (λ_ _=>[]) (.ln 7 bY.av a1<|.iA 0 [4] [] [] (λ_ (a:Unit)=>[]) (λ_ _=>[]) (.lp [0,1,4,7] [] [] (λ_ (a:Int)=>[(8,int a)]) (λ_ _=>[]) n 0 (λy1_1=>.bB 9 (decide (y1_1<(a1.length:Int))) λx5=>.ifs [9] x5 (.ix 14 bY.av a1 y1_1 λx6=>.cl 16 (R8 x6) aM7 aKL λx7=>.ifs [16] x7 (.esc (.esc (.ret y1_1))) (.bI 18 (bM (y1_1+1)) λx8=>.brk x8)) (.esc (.brk ())))) (λ_=>.ret (-1))) (λy3_1=>.bB 8 (decide (y3_1>=0)) λx9=>.ret x9)) (λy4_1=>.bB 22 (!y4_1) λx10=>.ifs [22] x10 (.bB 25 (decide (x4.1=0)) λx11=>.ifs [25] x11 (.bB 29 (decide (x4.2=0)) λx12=>.ret x12) (.ret false)) (.ret false))) (λy5_1=>.ret ((y5_1:Bool)))))
def SO (n:Nat) (a1:List bY):Option (Bool):=(aEM n a1).run
theorem aA1 {n a1}:PZ (SO n a1) 223 [aG 2 bY.av a1] aB:=wq Tryz.func223
def aI8 (n:Nat) (a1:List Int) (a2:List bY):WB ((List Int)×Int) :=
 .al 1<|.ln 7 fI a1<|.bB 8 (decide ((a1.length:Int)≠17)) λx4=>.az [8] x4 (.inl 11 aFA Tryz.func221 [1] [2] (λu7 (a:(List Int))=>.aS [.sl 2 (u7 2) 0 a.length,int 0]) (λ_ a=>[.nw 2 3 1 (a.map fI)]) (.as (a1.length<=68719476736) inferInstance<|.ge 9 2<|.inl 12 aKO Tryz.func222 [1] [] (λ_ (a:(List Int))=>int 0) (λ_ a=>[.kp 2 (a.map fI)]) (.cl 10 (MW n a2) US PY λx7=>.jn 0 [0,3,4] [1,2] [] (λ_ (a:Bool)=>[(24,aB a)]) (λ_ _=>[]) (.bB 14 (decide (x7.2≠0)) λx8=>.ifs [14] x8 (.ret true) (.ln 17 bY.av x7.1<|.bB 18 (decide ((x7.1.length:Int)>0)) λx9=>.ifs [18] x9 (.cl 21 (SO n x7.1) aCU aA1 λx10=>.bB 22 (!x10) λx11=>.ret x11) (.ret false))) (λy0_1=>.az [24] y0_1 (.ln 26 bY.av x7.1<|.jn 0 [3] [1] [] (λ_ (a:(List Int))=>[]) (λ_ a=>[.kp 2 (a.map fI)]) (.lp [3,25,26] [1] [] (λu13 (a:Int×(List Int))=>[(0,.sl 2 (u13 2) 0 a.2.length),(27,int a.1)]) (λ_ a=>[.kp 2 (a.2.map fI)]) n ((0:Int),a1) (pw λy1_1 y1_2=>.bB 28 (decide (y1_1<(x7.1.length:Int))) λx12=>.ifs [28] x12 (.ix 29 bY.av x7.1 y1_1 λx13=>.al 3<|.dr [(1,[3]),(2,[3]),(4,[3]),(5,[3]),(6,[2]),(7,[2]),(8,[3]),(9,[3]),(14,[2])] [(15,[])] [2,3] [15] [0,1,2,3,4,5,6,7,8,9,10,11,12,13,14,15,16] (.bo (ix y1_2 x13.uK) λx15=>.gv 38<|.gv 39<|.cl 42 (o8 x15 x13.aQ) pO pW λx16=>.gv 45<|.bl (y1_2.set (Int.toNat x13.uK) x16.1:List Int) λx17=>.ge 1007015 0<|.bB 47 (decide (x16.2≠0)) λx18=>.az [47] x18 (.bI 49 (bM (y1_1+1)) λx19=>.brk ((x19:Int),x17)))) (.esc (.ret y1_2)))) (λy2_1=>.ret y2_1)))) (λy3_1=>.kB 14 false<|.as (y3_1.length=a1.length) inferInstance<|.gv 18<|.ret y3_1)) (λy4_2=>.ret ((y4_2:List Int),0)))
def U4 (n:Nat) (a1:List Int) (a2:List bY):Option ((List Int)×Int):=(aI8 n a1 a2).run
theorem aNM {n a1 a2}:PZ (U4 n a1 a2) 184 [aG 1 fI a1,aG 2 bY.av a2] (λr=>.aS [aG 1 fI r.1,int r.2]):=by
 refine wm Tryz.func184 ?_
 intro v3
 refine .mk ?_
 refine .mk λx4=>?_
 refine .mk ?_
 refine .mk ?_ ?_
 refine .mk λp5=>?_
 refine .mk _ ⟨λ_=>aN rfl rfl (.cons rfl .nil) CV (pN (GZ.pc (id:=2) (l:=a1) rfl p5) (.cons (.refl _) .nil)),λ_ _ _=>trivial⟩ ?_
 rintro _ _ ⟨v6,rfl,rfl⟩
 refine .mk ?_ ?_
 refine .mk λx7 e7=>?_
 refine .mk ?_ ?_
 refine .mk λx8=>?_
 refine .mk .mk ?_
 refine .mk ?_
 refine .mk λx9=>?_
 refine .mk ?_ ?_
 refine .mk λx10 e10=>?_
 refine .mk λx11=>?_
 exact .mk
 exact .mk
 intro _ _
 refine .mk ?_
 refine .mk ?_
 refine .mk ?_ ?_
 refine .mk ?_
 rintro ⟨y1_1,y1_2⟩ _
 refine .mk λx12=>?_
 refine .mk ?_ ?_
 refine .mk λx13 e13=>?_
 intro v14
 refine .mk ?_
 refine .mk λx15 e15=>?_
 refine .mk _ (λH hH _=>lY rfl Tryz.underlying23 bW rfl rfl ((hH _ (by decide)).trans rfl) rfl rfl (Eq.symm rfl) (List.length_map _) e15) ?_
 refine .mk _ (λH hH _=>eT rfl bW rfl (.pt ((hH _ (by decide)).trans rfl) rfl (kK e15)) rfl) ?_
 refine .mk λx16 e16=>?_
 refine .mk _ (λH hH _=>lY rfl Tryz.underlying23 bW rfl rfl ((hH _ (by decide)).trans rfl) rfl rfl (Eq.symm rfl) (List.length_map _) e15) ?_
 refine .mk λx17 e17=>?_
 have fx17:=oU e15 e17;have lx17:=nX e17 (rfl:y1_2.length=y1_2.length)
 refine .mk _ ⟨λ_=>bZ.fA (gM (ob':=(⟨3,1,true,true,_,x17.map fI⟩:bA)) (dZ rfl bW rfl rfl rfl rfl rfl (kK e15) rfl rfl rfl) (qO (sH e17))) (λ_ h=>h) (λ_ _=>trivial),by rintro _ _ ⟨rfl,rfl⟩;exact trivial⟩ ?_
 rintro _ _ ⟨rfl,rfl⟩
 refine .mk λx18=>?_
 refine .mk ?_
 refine .mk λx19=>?_
 exact .mk ⟨⟨⟨_,rfl,(sF (Eq.symm lx17))⟩,⟨_,rfl,(.refl _)⟩,⟨_,rfl,(.refl _)⟩,⟨_,rfl,(.refl _)⟩,⟨_,rfl,(.refl _)⟩,trivial⟩,⟨⟨_,rfl,(.refl _)⟩,⟨_,rfl,(.refl _)⟩,trivial⟩⟩
 exact .mk
 intro _ _
 exact .mk
 intro _ _
 refine .mk trivial ?_
 refine .mk ?_
 refine .mk λp20=>?_
 refine .mk _ (aT (bF rfl rfl)) ?_
 exact .mk (QO (Eq.symm p20)) ⟨rfl,rfl,trivial⟩
 intro _ _
 refine .mk trivial ?_
 exact .mk (bO.aS (.cons (gJ rfl rfl rfl rfl rfl (Eq.symm rfl)) (.cons (.refl _) .nil)))
def aMJ (n:Nat) (a1:bD) (a2:Int) (a3:List bY):WB (bD×Int) :=
 .al 1<|.al 2<|.jn 0 [1,2,3,6,7] [1,2] [] (λ_ (a:Bool)=>[(20,aB a)]) (λ_ _=>[]) (.bB 13 (decide (a2<0)) λx6=>.ifs [13] x6 (.ret true) (.ln 18 bC.av a1.dX<|.bB 19 (decide (a2>=(a1.dX.length:Int))) λx7=>.ret x7)) (λy0_1=>.az [20] y0_1 (.cl 24 (MW n a3) US PY λx8=>.bB 28 (decide (x8.2≠0)) λx9=>.az [28] x9 (.oC 35 bC.av gE bC.gU a1.dX a2 λx10=>.cl 39 (U4 n x10.jJ x8.1) aKS aNM λx11=>.bB 43 (decide (x11.2≠0)) λx12=>.az [43] x12 (.al 3<|.inl 49 LC Tryz.func185 [1,2] [4] (λu3 (a:Unit)=>.pt 4 (u3 4) (Int.toNat a2) 0) (λu3 _=>[.kp 3 [[int a1.dR.iD,int a1.dR.kV,aG 1 fI a1.dR.dH,aG 1 (fL 1 fI) a1.dR.Methods,aG 1 (fL 1 fI) a1.dR.jO,.sl 4 (u3 4) 0 a1.dX.length,aG 8 iJ.av a1.iO,aG 9 mG.av a1.jH,aG 6 mO.av a1.jQ,int a1.Done]],.nw 4 47 8 (a1.dX.map bC.av)]) (.as (a1.dX.length<=68719476736) inferInstance<|.ge 11 4<|.bo (ix a1.dX a2) λx16=>.gv 21<|.ret ()) (λ_=>.bo (ix a1.dX a2) λx17=>.gv 51<|.gv 52<|.bl (a1.dX.set (Int.toNat a2) ((⟨x17.l5,x17.Closed,x17.iF,x11.1,x17.gZ,x17.gW,x17.Down,x17.iX⟩:bC):bC):List bC) λx18=>.ge 1010005 0<|.ret (((⟨a1.dR,x18,a1.iO,a1.jH,a1.jQ,a1.Done⟩:bD):bD),0))))))
def XH (n:Nat) (a1:bD) (a2:Int) (a3:List bY):Option (bD×Int):=(aMJ n a1 a2 a3).run
theorem aIQ {n a1 a2 a3}:PZ (XH n a1 a2 a3) 152 [.agg (bD.av a1),int a2,aG 2 bY.av a3] (λr=>.aS [.agg (bD.av r.1),int r.2]):=by
 refine wm Tryz.func152 ?_
 intro v4
 intro v5
 refine .mk ?_ ?_
 refine .mk λx6=>?_
 refine .mk .mk ?_
 refine .mk ?_
 refine .mk λx7=>?_
 exact .mk
 intro _ _
 refine .mk ?_
 refine .mk λx8 e8=>?_
 refine .mk λx9=>?_
 refine .mk ?_
 refine .mk λx10 e10=>?_
 refine .mk λx11 e11=>?_
 refine .mk λx12=>?_
 refine .mk ?_
 intro v13
 refine .mk ?_ ?_
 refine .mk λp14=>?_
 refine .mk _ ⟨λ_=>aN rfl rfl (.cons rfl .nil) F7 (pN (C7.pc (id:=4) (l:=a1.dX) rfl p14) (.cons (.refl _) .nil)),λ_ _ _=>trivial⟩ ?_
 rintro _ _ ⟨v15,rfl,rfl⟩
 refine .mk λx16 e16=>?_
 refine .mk _ (aT (lY rfl Tryz.underlying30 E8 rfl rfl rfl rfl rfl (Eq.symm rfl) (List.length_map _) e16)) ?_
 exact .mk
 intro _ _
 refine .mk trivial ?_
 refine .mk λx17 e17=>?_
 refine .mk _ (aT (fU rfl rfl (.pt rfl rfl (nQ e17 (bC.gU _))))) ?_
 refine .mk _ (aT (fT rfl aE8 rfl (.pt rfl rfl (nQ e17 (bC.gU _))) (.pt _ _ _ _ _))) ?_
 refine .mk λx18 e18=>?_
 have fx18:=oU e17 e18;have lx18:=nX e18 (rfl:a1.dX.length=a1.dX.length)
 refine .mk _ ⟨λ_=>bZ.fA (gM (ob':=(⟨47,8,true,true,_,x18.map bC.av⟩:bA)) (dZ rfl vD rfl rfl rfl rfl rfl (nQ e17 (bC.gU _)) rfl rfl rfl) (qO (aJB e18 (bC.gU _)))) (λ_ h=>h) (λ_ _=>trivial),λ_ _ _=>trivial⟩ ?_
 rintro _ _ ⟨rfl,rfl⟩
 exact .mk (bO.aS (.cons (bO.agg (.cons (.refl _) (.cons (.refl _) (.cons (.refl _) (.cons (.refl _) (.cons (.refl _) (.cons (gJ rfl rfl rfl rfl rfl (Eq.symm lx18)) (.cons (.refl _) (.cons (.refl _) (.cons (.refl _) (.cons (.refl _) .nil))))))))))) (.cons (.refl _) .nil)))
end
end Go.Pv
