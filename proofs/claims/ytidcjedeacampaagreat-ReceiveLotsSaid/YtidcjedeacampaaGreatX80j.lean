import Derived.Test.YtidcjedeacampaaGreatX80i
set_option linter.unusedVariables false
set_option linter.unusedSimpArgs false
namespace Go.Pv
open Go.Proofs
set_option maxRecDepth 100000
set_option maxHeartbeats 4000000
noncomputable section
def O5 (n:Nat) (a1:aB) (a2:Int) (a3:Int) (a4:Int) (a5:aF):WT Tryz.prog (.b (aB×Int×Int×Int)) :=
 .al 1<|.al 2<|.al 3<|.cl 24 (E4 a1 a2 a3 a4) YD YE λx9=>.bB 26 (decide (x9<0)) λx10=>.ifs [26] x10 (.ret ((a1:aB),0,0,4)) (.dr [(0,[1]),(1,[1]),(2,[1]),(9,[1]),(10,[1]),(11,[1]),(18,[1]),(19,[1]),(27,[2])] [(34,[])] [1,2] [33,34] [0,1,2,3,4,5,6,7,8,9,10,11,12,13,14,15,16,17,18,19,20,21,22,23,24,25,26,27,28,29,30,31,32,33,34,35,36] (.ix 33 (fL 1 fI) a1.bF.Methods a2 λx11=>.ix 36 fI x11 a3 λx12=>.ix 42 (fL 1 fI) a1.bF.gX a2 λx13=>.ix 45 fI x13 a3 λx14=>.jC 50 aP.av gE aP.fB a1.bA a2 λx15=>.ix 54 aS.av x15.bR x9 λx16=>.cl 57 (D5 n x12 x14 x16 a5) aNM aHW λx17=>.al 4<|.bB 62 (decide (x17.2.2≠0)) λx19=>.ifs [62] x19 (.ret ((a1:aB),0,0,x17.2.2)) (.al 5<|.inl 70 aF3 Tryz.func66 [1,2,3,4] [7,8] (λ_ (a:Int×Bool×(List Int)×(List cB)×(List Int)×(List Int)×(List aP)×(List aS))=>.bD []) (λu4 a=>[.kp 5 [[int a1.bF.gG,int a1.bF.gZ,aH 1 fI a1.bF.bW,aH 1 (fL 1 fI) a1.bF.Methods,aH 1 (fL 1 fI) a1.bF.gX,.sl 7 (u4 7) 0 a1.bA.length,aH 8 dX.av a1.bX,aH 9 fA.av a1.dS,aH 6 fP.av a1.dH,int a1.Done]],.nw 7 60 8 ((a1.bA.map aP.av).set (Int.toNat a2) [int a.1,aZ a.2.1,.sl 8 (u4 8) 0 a.2.2.2.2.2.2.2.length,aH 1 fI a.2.2.1,aH 11 cB.av a.2.2.2.1,aH 1 fI a.2.2.2.2.1,aH 1 fI a.2.2.2.2.2.1,aH 8 aP.av a.2.2.2.2.2.2.1]),.nw 8 99 4 (a.2.2.2.2.2.2.2.map aS.av)]) (.al 6<|.inl 11 RO Tryz.func71 [1,2,3,4,6] [7] (λu6 (a:Unit)=>.pt 7 (u6 7) (Int.toNat a2) 0) (λu6 _=>[.kp 5 [[int a1.bF.gG,int a1.bF.gZ,aH 1 fI a1.bF.bW,aH 1 (fL 1 fI) a1.bF.Methods,aH 1 (fL 1 fI) a1.bF.gX,.sl 7 (u6 7) 0 a1.bA.length,aH 8 dX.av a1.bX,aH 9 fA.av a1.dS,aH 6 fP.av a1.dH,int a1.Done]],.nw 7 60 8 (a1.bA.map aP.av)]) (.as (a1.bA.length<=68719476736) inferInstance<|.ge 11 7<|.bo (ix a1.bA a2) λx24=>.gv 21<|.ret ()) (λ_=>.bo (ix a1.bA a2) λx25=>.gv 14<|.gv 15<|.gv 16<|.as (x25.bR.length<=68719476736) inferInstance<|.ge 17 8<|.gv 18<|.gv 19<|.ge 1002008 0<|.dr [(1,[7]),(2,[7]),(3,[7]),(5,[6]),(6,[8])] [(7,[])] [6,7,8] [7] [0,1,2,3,4,5,6,7] (.gv 21<|.gv 22<|.gv 23<|.bo (ix x25.bR x9) λx28=>.gv 26<|.bl (x25.bR.set (Int.toNat x9) x17.1:List aS) λx29=>.ge 1003007 0<|.ret ((x25.fQ:Int),(x25.Closed:Bool),(x25.dI:List Int),(x25.dJ:List cB),(x25.gJ:List Int),(x25.Down:List Int),(x25.fZ:List aP),x29)))) (pw λy1_2 q0=>(pw λy1_3 q1=>(pw λy1_5 q2=>(pw λy1_6 q3=>(pw λy1_7 q4=>(pw λy1_8 q5=>(pw λy1_9 y1_10=>.bo (ix a1.bA a2) λx30=>.kZ 76 (IF n (⟨a1.bF,(a1.bA.set (Int.toNat a2) (⟨y1_2,y1_3,y1_10,y1_5,y1_6,y1_7,y1_8,y1_9⟩:aP)),a1.bX,a1.dS,a1.dH,a1.Done⟩:aB) a2 a3) aHU aTO (λ_=>rfl) λx31=>.al 9<|.jn 0 [5,9,10,11,12,13,17] [1,2,3,5,7,8] [] (λ_ (a:Bool)=>[(88,aZ a)]) (λ_ _=>[]) (.bB 80 (!x31.2) λx33=>.ifs [80] x33 (.ret true) (.kZ 86 (JL n (⟨a1.bF,(a1.bA.set (Int.toNat a2) (⟨y1_2,y1_3,y1_10,y1_5,y1_6,y1_7,y1_8,y1_9⟩:aP)),a1.bX,a1.dS,a1.dH,a1.Done⟩:aB) a2 a3) aR3 aN1 (λ_=>rfl) λx34=>.bB 87 (!x34) λx35=>.ret x35)) (λy2_1=>.ifs [88] y2_1 (.ret ((a1:aB),0,0,2)) (.dr [(0,[5]),(1,[5]),(2,[2]),(3,[2])] [(7,[2])] [2,5] [7] [0,1,2,3,4,5,6,7,8,9,10] (.bI 95 (bE (a5.Value-x17.2.1)) λx36=>.ret (((⟨a1.bF,(a1.bA.set (Int.toNat a2) (⟨y1_2,y1_3,y1_10,y1_5,y1_6,y1_7,y1_8,y1_9⟩:aP)),a1.bX,a1.dS,a1.dH,a1.Done⟩:aB):aB),x36,x17.2.1,0))))) q5) q4) q3) q2) q1) q0))))
def yO (n:Nat) (a1:aB) (a2:Int) (a3:Int) (a4:Int) (a5:aF):Option (aB×Int×Int×Int):=(O5 n a1 a2 a3 a4 a5).run
theorem aFR {n:Nat} {a1:aB} {a2:Int} {a3:Int} {a4:Int} {a5:aF} {r:aB×Int×Int×Int} (h0:yO n a1 a2 a3 a4 a5=some r):PP Tryz.prog 33 [.agg (aB.av a1),int a2,int a3,int a4,.agg (aF.av a5)] (λy=>y=.bD [.agg (aB.av r.1),int r.2.1,int r.2.2.1,int r.2.2.2]):=by
 refine bY mixed aA (λ(r:aB×Int×Int×Int)=>.bD [.agg (aB.av r.1),int r.2.1,int r.2.2.1,int r.2.2.2]) h0 Tryz.func33 (λr=>.bD (JB ((λ(a:aB)=>PV.agg (aB.dR a)) (r.1)) (bQ (r.2.1)) (bQ (r.2.2.1)) (bQ (r.2.2.2)))) 100000 ?_
 intro v6
 intro v7
 intro v8
 refine .mk λx9 e9=>?_
 refine .mk λx10=>?_
 refine .mk .mk ?_
 refine .mk ?_
 refine .mk λx11 e11=>?_
 refine .mk λx12 e12=>?_
 refine .mk λx13 e13=>?_
 refine .mk λx14 e14=>?_
 refine .mk λx15 e15=>?_
 refine .mk λx16 e16=>?_
 refine .mk λx17 e17=>?_
 intro v18
 refine .mk λx19=>?_
 refine .mk .mk ?_
 intro v20
 refine .mk ?_ ?_
 intro v21
 refine .mk ?_ ?_
 refine .mk λp22=>?_
 refine .mk _ ⟨λ_=>nC rfl rfl (.cons rfl .nil) SA (qB (Q6 (id:=7) (l:=a1.bA) rfl p22) (.cons (.refl _) .nil)),λ_ _ _=>trivial⟩ ?_
 rintro _ _ ⟨v23,rfl,rfl⟩
 refine .mk λx24 e24=>?_
 refine .mk _ (fK (iT rfl Tryz.underlying27 mQ rfl rfl rfl rfl rfl (Eq.symm rfl) (List.length_map _) e24)) ?_
 exact .mk
 intro _ _
 refine .mk trivial ?_
 refine .mk λx25 e25=>?_
 refine .mk _ (fK (mI rfl rfl (.pt rfl rfl (iM e25 (aP.fB _))))) ?_
 refine .mk _ (fK (iC rfl uQ rfl (.pt rfl rfl (iM e25 (aP.fB _))) (.pt _ _ _ _ _))) ?_
 refine .mk _ (fK (gQ rfl uN rfl (.pt rfl rfl (iM e25 (aP.fB _))) rfl)) ?_
 refine .mk λp26=>?_
 refine .mk _ ⟨λ_=>nC rfl rfl (.cons rfl .nil) aGK (qB (aRT (id:=8) (l:=x25.bR) rfl p26) (.cons (.refl _) .nil)),λ_ _ _=>trivial⟩ ?_
 rintro _ _ ⟨v27,rfl,rfl⟩
 refine .mk _ (fK (mI rfl rfl (.pt rfl rfl (iM e25 (aP.fB _))))) ?_
 refine .mk _ (fK (iC rfl uQ rfl (.pt rfl rfl (iM e25 (aP.fB _))) (.pt _ _ _ _ _))) ?_
 refine .mk _ ⟨λ_=>eG.iA (iP (ob':=(⟨60,8,true,true,_,(a1.bA.map aP.av).set (Int.toNat a2) [int x25.fQ,aZ x25.Closed,.sl 8 v27 0 x25.bR.length,aH 1 fI x25.dI,aH 11 cB.av x25.dJ,aH 1 fI x25.gJ,aH 1 fI x25.Down,aH 8 aP.av x25.fZ]⟩:cO)) (iL rfl uN rfl rfl rfl rfl rfl (iM e25 (aP.fB _)) rfl rfl rfl) (jZ rfl)) (λ_ h=>h) (λ_ _=>trivial),λ_ _ _=>trivial⟩ ?_
 rintro _ _ ⟨rfl,rfl⟩
 refine .mk ?_
 refine .mk _ (λH hH _=>mI rfl rfl (.pt ((hH _ (by decide)).trans rfl) rfl (iG e25))) ?_
 refine .mk _ (λH hH _=>iC rfl uQ rfl (.pt ((hH _ (by decide)).trans rfl) rfl (iG e25)) (.pt _ _ _ _ _)) ?_
 refine .mk _ (λH hH _=>gQ rfl uN rfl (.pt ((hH _ (by decide)).trans rfl) rfl (iG e25)) rfl) ?_
 refine .mk λx28 e28=>?_
 refine .mk _ (λH hH _=>iT rfl Tryz.underlying57 gL rfl rfl ((hH _ (by decide)).trans rfl) rfl rfl (Eq.symm rfl) (List.length_map _) e28) ?_
 refine .mk λx29 e29=>?_
 have fx29:=mX e28 e29;have lx29:=l6 e29 (rfl:x25.bR.length=x25.bR.length)
 refine .mk _ ⟨λ_=>eG.iA (iP (ob':=(⟨99,4,true,true,_,x29.map aS.av⟩:cO)) (iL rfl gL rfl rfl rfl rfl rfl (iN e28) rfl rfl rfl) (jZ (oI e29))) (λ_ h=>h) (λ_ _=>trivial),by rintro _ _ ⟨rfl,rfl⟩;exact trivial⟩ ?_
 rintro _ _ ⟨rfl,rfl⟩
 exact .mk rfl ⟨rfl,(by first | rfl | exact lx29 ▸ rfl),rfl,rfl,rfl,rfl,rfl,trivial⟩
 intro _ _
 refine .mk trivial ?_
 refine .mk λx30 e30=>?_
 refine .mk (λx31 e31=>?_) rfl (by rintro _ rfl;exact (.cons (dG.agg (.cons (.refl _) (.cons (.refl _) (.cons (.refl _) (.cons (.refl _) (.cons (.refl _) (.cons (wX rfl rfl rfl rfl rfl (Eq.symm rfl) e30 (uO (.cons (.refl _) (.cons (.refl _) (.cons (gY rfl rfl rfl rfl rfl (Eq.symm rfl)) (.cons (.refl _) (.cons (.refl _) (.cons (.refl _) (.cons (.refl _) (.cons (.refl _) .nil)))))))) (aP.fB _))) (.cons (.refl _) (.cons (.refl _) (.cons (.refl _) (.cons (.refl _) .nil))))))))))) (.cons (.refl _) (.cons (.refl _) .nil))))
 intro v32
 refine .mk ?_ ?_
 refine .mk λx33=>?_
 refine .mk .mk ?_
 refine .mk (λx34 e34=>?_) rfl (by rintro _ rfl;exact (.cons (dG.agg (.cons (.refl _) (.cons (.refl _) (.cons (.refl _) (.cons (.refl _) (.cons (.refl _) (.cons (wX rfl rfl rfl rfl rfl (Eq.symm rfl) e30 (uO (.cons (.refl _) (.cons (.refl _) (.cons (gY rfl rfl rfl rfl rfl (Eq.symm rfl)) (.cons (.refl _) (.cons (.refl _) (.cons (.refl _) (.cons (.refl _) (.cons (.refl _) .nil)))))))) (aP.fB _))) (.cons (.refl _) (.cons (.refl _) (.cons (.refl _) (.cons (.refl _) .nil))))))))))) (.cons (.refl _) (.cons (.refl _) .nil))))
 refine .mk λx35=>?_
 exact .mk
 intro _ _
 refine .mk .mk ?_
 refine .mk ?_
 refine .mk λx36=>?_
 exact .mk (dG.bD (.cons (dG.agg (.cons (.refl _) (.cons (.refl _) (.cons (.refl _) (.cons (.refl _) (.cons (.refl _) (.cons (wX rfl rfl rfl rfl rfl (Eq.symm rfl) e30 (uO (.cons (.refl _) (.cons (.refl _) (.cons (gY rfl rfl rfl rfl rfl (Eq.symm rfl)) (.cons (.refl _) (.cons (.refl _) (.cons (.refl _) (.cons (.refl _) (.cons (.refl _) .nil)))))))) (aP.fB _))) (.cons (.refl _) (.cons (.refl _) (.cons (.refl _) (.cons (.refl _) .nil))))))))))) (.cons (.refl _) (.cons (.refl _) (.cons (.refl _) .nil)))))
def aAH (a1:Int):WT Tryz.prog (.b (Bool)) :=
 .jn 1 [] [] [] (λ_ (a:Bool)=>[(2,aZ a)]) (λ_ _=>[]) (.bB 4 (decide (a1>=0)) λx2=>.ifs [4] x2 (.bB 7 (decide (a1<17)) λx3=>.ret x3) (.ret false)) (λy0_1=>.ret ((y0_1:Bool)))
def GR (a1:Int):Option (Bool):=(aAH a1).run
theorem VC {a1 r} (h0:GR a1=some r):PP Tryz.prog 115 [int a1] (λy=>y=aZ r) :=
 bY mixed aA (λr:Bool=>aZ r) h0 Tryz.func115 (λr=>gT r) 100000 au
def YK (a1:Int):WT Tryz.prog (.b (Bool)) :=
 .jn 1 [] [] [] (λ_ (a:Bool)=>[(2,aZ a)]) (λ_ _=>[]) (.bB 4 (decide (a1>=(-288230376151711744))) λx2=>.ifs [4] x2 (.bB 7 (decide (a1<=288230376151711744)) λx3=>.ret x3) (.ret false)) (λy0_1=>.ret ((y0_1:Bool)))
def EK (a1:Int):Option (Bool):=(YK a1).run
theorem WR {a1 r} (h0:EK a1=some r):PP Tryz.prog 116 [int a1] (λy=>y=aZ r) :=
 bY mixed aA (λr:Bool=>aZ r) h0 Tryz.func116 (λr=>gT r) 100000 au
def aB8 (a1:aN):WT Tryz.prog (.b (Bool)) :=
 .al 1<|.jn 0 [] [] [] (λ_ (a:Bool)=>[(2,aZ a)]) (λ_ _=>[]) (.cl 5 (GR a1.dL) UR VC λx3=>.bB 6 (!x3) λx4=>.ifs [6] x4 (.ret true) (.cl 10 (EK a1.bM) aDD WR λx5=>.bB 11 (!x5) λx6=>.ret x6)) (λy0_1=>.ret ((y0_1:Bool)))
def K6 (a1:aN):Option (Bool):=(aB8 a1).run
theorem aRB {a1 r} (h0:K6 a1=some r):PP Tryz.prog 114 [.agg (aN.av a1)] (λy=>y=aZ r) :=
 bY mixed aA (λr:Bool=>aZ r) h0 Tryz.func114 (λr=>gT r) 100000 au
def aP7 (a1:aN):WT Tryz.prog (.b (Int)) :=
 .al 1<|.ret ((a1.dL:Int))
def S9 (a1:aN):Option (Int):=(aP7 a1).run
theorem Z7 {a1 r} (h0:S9 a1=some r):PP Tryz.prog 119 [.agg (aN.av a1)] (λy=>y=int r) :=
 bY mixed aA (λr:Int=>int r) h0 Tryz.func119 (λr=>bQ r) 100000 au
def aB0 (a1:Int):WT Tryz.prog (.b (Bool)) :=
 .bB 5 (decide (a1≠a1)) λx2=>.ret ((x2:Bool))
def FB (a1:Int):Option (Bool):=(aB0 a1).run
theorem WL {a1 r} (h0:FB a1=some r):PP Tryz.prog 181 [int a1] (λy=>y=aZ r) :=
 bY mixed aA (λr:Bool=>aZ r) h0 Tryz.func181 (λr=>gT r) 100000 au
def aCO (a1:Int) (a2:Int):WT Tryz.prog (.b (Int)) :=
 .cl 8 (FB a1) aEQ WL λx3=>.cl 10 (FB a2) aEQ WL λx4=>.ifs [5,8] x3 (.ifs [10] x4 (.ret ((0:Int))) (.ret (((-1):Int)))) (.ifs [10] x4 (.ret ((1:Int))) (.bB 16 (decide (a1<a2)) λx5=>.ifs [16] x5 (.ret (((-1):Int))) (.bB 19 (decide (a1>a2)) λx6=>.ifs [19] x6 (.ret ((1:Int))) (.ret ((0:Int))))))
def JZ (a1:Int) (a2:Int):Option (Int):=(aCO a1 a2).run
theorem aTN {a1 a2 r} (h0:JZ a1 a2=some r):PP Tryz.prog 160 [int a1,int a2] (λy=>y=int r) :=
 bY mixed aA (λr:Int=>int r) h0 Tryz.func160 (λr=>bQ r) 100000 au
def aKV (a1:aN):WT Tryz.prog (.b (Bool)) :=
 .al 1<|.bB 5 (decide (a1.bM=0)) λx3=>.ret ((x3:Bool))
def RJ (a1:aN):Option (Bool):=(aKV a1).run
theorem aB9 {a1 r} (h0:RJ a1=some r):PP Tryz.prog 121 [.agg (aN.av a1)] (λy=>y=aZ r) :=
 bY mixed aA (λr:Bool=>aZ r) h0 Tryz.func121 (λr=>gT r) 100000 au
def aCX (n:Nat) (a1:List aN):WT Tryz.prog (.b ((List aN)×Int)) :=
 .inl 12 V2 Tryz.func113 [] [] (λ_ (a:Bool)=>aZ a) (λ_ _=>[]) (.inl 7 RI Tryz.func157 [] [] (λ_ (a:Int)=>int a) (λ_ _=>[]) (.ln 7 aN.av a1<|.fH 0 [4] [] [] (λ_ (a:Unit)=>[]) (λ_ _=>[]) (.lp [0,1,4,7] [] [] (λ_ (a:Int)=>[(8,int a)]) (λ_ _=>[]) n 0 (λy0_1=>.bB 9 (decide (y0_1<(a1.length:Int))) λx2=>.ifs [9] x2 (.ix 14 aN.av a1 y0_1 λx3=>.cl 16 (K6 x3) aPO aRB λx4=>.ifs [16] x4 (.esc (.esc (.ret y0_1))) (.bI 18 (bE (y0_1+1)) λx5=>.brk x5)) (.esc (.brk ())))) (λ_=>.ret (-1))) (λy2_1=>.bB 8 (decide (y2_1>=0)) λx6=>.ret x6)) (λy3_1=>.ifs [12] y3_1 (.ret (([]:List aN),1)) (.as (a1.length<=68719476736) inferInstance<|.ge 14 1<|.inl 16 aQS Tryz.func118 [] [] (λ_ (a:(List aN))=>.bD []) (λ_ a=>[.kp 1 (a.map aN.av)]) (.al 2<|.inl 6 aM1 Tryz.func158 [2] [] (λ_ (a:(List aN))=>.bD []) (λ_ a=>[.kp 1 (a.map aN.av)]) (.inl 8 aJT Tryz.func180 [2] [] (λ_ (a:(List aN))=>.bD []) (λ_ a=>[.kp 1 (a.map aN.av)]) (.jn 2 [0,1,2,6,7] [1,2] [] (λ_ (a:Unit)=>[]) (λ_ _=>[]) (.lp [0,1,2,6,7,8] [1,2] [] (λ_ (a:Unit)=>[]) (λ_ _=>[]) n () (λ_=>.bB 13 (decide (20<=(a1.length:Int))) λx10=>.az [13] x10 (.esc (.ret ())))) (λ_=>.inl 27 aHX Tryz.func184 [2] [] (λ_ (a:(List aN))=>.bD []) (λ_ a=>[.kp 1 (a.map aN.av)]) (.kI 11 1<|.jn 0 [] [2] [] (λ_ (a:(List aN))=>[]) (λ_ a=>[.kp 1 (a.map aN.av)]) (.lp [1,2,3] [2] [] (λu107 (a:Int×(List aN))=>[(0,.sl 1 (u107 1) 0 a.2.length),(8,int a.1)]) (λ_ a=>[.kp 1 (a.2.map aN.av)]) n ((1:Int),a1) (pw λy6_1 y6_2=>.bB 14 (decide (y6_1<(a1.length:Int))) λx11=>.ifs [14] x11 (.jn 1 [1,2,3,8] [2] [] (λu113 (a:(List aN))=>[(0,.sl 1 (u113 1) 0 a.length)]) (λ_ a=>[.kp 1 (a.map aN.av)]) (.jn 2 [1,2,3,8] [2] [] (λu118 (a:(List aN))=>[(0,.sl 1 (u118 1) 0 a.length)]) (λ_ a=>[.kp 1 (a.map aN.av)]) (.lp [1,2,3,8] [2] [] (λu121 (a:Int×(List aN))=>[(0,.sl 1 (u121 1) 0 a.2.length),(9,int a.1)]) (λ_ a=>[.kp 1 (a.2.map aN.av)]) n ((y6_1:Int),y6_2) (pw λy7_1 y7_2=>.jn 0 [0,1,2,3,8,9] [1,2] [] (λ_ (a:Bool)=>[(34,aZ a)]) (λ_ _=>[]) (.dr [(7,[1]),(8,[1]),(12,[1]),(13,[1])] [(14,[])] [1] [14] [0,1,2,3,4,5,6,7,8,9,10,11,12,13,14,15,16] (.bB 20 (decide (y7_1>0)) λx12=>.ifs [20] x12 (.bo (ix y7_2 y7_1) λx13=>.gv 25<|.gv 26<|.bI 29 (bE (y7_1-1)) λx14=>.bo (ix y7_2 x14) λx15=>.gv 30<|.gv 31<|.inl 32 aUY Tryz.func159 [1,2] [] (λ_ (a:Int)=>int a) (λ_ _=>[]) (.al 3<|.al 4<|.dr [(0,[2]),(1,[3]),(3,[2]),(4,[4])] [] [2,3,4] [] [0,1,2,3,4,5,6,7] (.cl 8 (S9 x13) V8 Z7 λx18=>.cl 11 (S9 x15) V8 Z7 λx19=>.cl 12 (JZ x18 x19) aT0 aTN λx20=>.ret x20)) (λy8_1=>.bB 33 (decide (y8_1<0)) λx21=>.ret x21)) (.ret false))) (λy9_1=>.ifs [34] y9_1 (.dr [(8,[1]),(9,[1]),(12,[1]),(13,[1]),(14,[1]),(16,[1])] [(15,[]),(17,[])] [1] [15,17] [0,1,2,3,4,5,6,7,8,9,10,11,12,13,14,15,16,17] (.bI 41 (bE (y7_1-1)) λx22=>.bI 44 (bE (y7_1-1)) λx23=>.bo (ix y7_2 x23) λx24=>.gv 45<|.gv 46<|.bo (ix y7_2 y7_1) λx25=>.gv 49<|.gv 50<|.gv 51<|.bl (y7_2.set (Int.toNat y7_1) x24:List aN) λx26=>.ge 1006015 0<|.bo (ix x26 x22) λx27=>.gv 52<|.bl (x26.set (Int.toNat x22) x25:List aN) λx28=>.ge 1006017 0<|.bI 36 (bE (y7_1-1)) λx29=>.brk ((x29:Int),x28))) (.esc (.ret y7_2))))) (λy10_1=>.ret y10_1)) (λy11_1=>.bI 16 (bE (y6_1+1)) λx30=>.brk ((x30:Int),y11_1))) (.esc (.ret y6_2)))) (λy12_1=>.ret y12_1)) (λy13_1=>.as (y13_1.length=a1.length) inferInstance<|.jn 0 [] [1,2] [] (λ_ (a:Unit)=>[]) (λ_ _=>[]) (.lp [0,1,2,6] [1,2] [] (λ_ (a:Unit)=>[]) (λ_ _=>[]) n () (λ_=>.bB 30 (decide (20<(a1.length:Int))) λx32=>.az [30] x32 (.esc (.ret ())))) (λ_=>.ret y13_1)))) (λy16_1=>.ret y16_1)) (λy17_1=>.ret y17_1)) (λy18_1=>.as (y18_1.length=a1.length) inferInstance<|.gv 17<|.fH 0 [2,3] [] [7] (λu137 (a:(List aN))=>[(5,.sl 7 (u137 7) 0 a.length)]) (λ_ a=>[.nw 7 72 2 (a.map aN.av)]) (.no 5 7 72 2<|.lp [2,3,17,18] [1] [7] (λu142 (a:Int×(List aN))=>[(5,.sl 7 (u142 7) 0 a.2.length),(19,int a.1)]) (λ_ a=>[.nw 7 72 2 (a.2.map aN.av)]) n ((0:Int),(([]:List aN):List aN)) (pw λy19_2 y19_3=>.bB 20 (decide (y19_2<(a1.length:Int))) λx35=>.ifs [20] x35 (.fH 1 [2,3,17,18,19] [1] [7] (λu144 (a:(List aN))=>[(5,.sl 7 (u144 7) 0 a.length)]) (λ_ a=>[.nw 7 72 2 (a.map aN.av)]) (.bo (ix y18_1 y19_2) λx36=>.gv 21<|.gv 22<|.al 5<|.bI 25 (bE ((y19_3.length:Int)-1)) λx38=>.jn 0 [2,3,5,7,8,17,18,19] [1,5,7] [] (λ_ (a:Bool)=>[(37,aZ a)]) (λ_ _=>[]) (.dr [(5,[7]),(6,[7]),(7,[7]),(8,[5]),(9,[5])] [] [5,7] [] [0,1,2,3,4,5,6,7,8,9,10,11] (.bB 27 (decide (x38>=0)) λx39=>.ifs [27] x39 (.bo (ix y19_3 x38) λx40=>.gv 31<|.gv 32<|.gv 33<|.bB 36 (decide (x40.dL=x36.dL)) λx41=>.ret x41) (.ret false))) (λy20_1=>.ifs [37] y20_1 (.dr [(2,[7]),(3,[7]),(4,[7]),(5,[5]),(6,[5])] [] [5,7] [] [0,1,2,3,4,5,6,7,8,9,10,11,12] (.bo (ix y19_3 x38) λx42=>.gv 41<|.gv 42<|.gv 43<|.cl 46 (oH x42.bM x36.bM) pV pQ λx43=>.bB 50 (decide (x43.2≠0)) λx44=>.ifs [50] x44 (.esc (.esc (.esc (.ret (([]:List aN),x43.2))))) (.gv 55<|.gv 56<|.bl (y19_3.set (Int.toNat x38) ((⟨x42.dL,x43.1⟩:aN):aN):List aN) λx45=>.ge 1014005 0<|.brk x45))) (.to 59 (aH 2 aN.av ([x36]:List aN))<|.bl (y19_3++([x36]:List aN):List aN) λx46=>.as (x46.length<=68719476736) inferInstance<|.ge 60 0<|.brk x46))) (λy21_2=>.bI 61 (bE (y19_2+1)) λx49=>.brk ((x49:Int),y21_2))) (.esc (.brk y19_3)))) (λy22_2=>.inl 63 aKH Tryz.func120 [] [] (λu157 (a:Nat×Nat×(List aN))=>.sl 7 (u157 7) a.1 a.2.1) (λ_ a=>[.kp 7 (a.2.2.map aN.av)]) (.inl 10 RI Tryz.func157 [7] [] (λ_ (a:Int)=>int a) (λ_ _=>[]) (.fH 2 [4] [7] [] (λ_ (a:Unit)=>[]) (λ_ _=>[]) (.lp [0,1,4,7] [7] [] (λ_ (a:Int)=>[(8,int a)]) (λ_ _=>[]) n 0 (λy23_1=>.bB 9 (decide (y23_1<(y22_2.length:Int))) λx50=>.ifs [9] x50 (.bo (ix y22_2 y23_1) λx51=>.gv 14<|.gv 15<|.cl 16 (RJ x51) aAY aB9 λx52=>.ifs [16] x52 (.esc (.esc (.ret y23_1))) (.bI 18 (bE (y23_1+1)) λx53=>.brk x53)) (.esc (.brk ())))) (λ_=>.ret (-1))) (λy25_1=>.bB 12 (decide (y25_1=(-1))) λx54=>.ifs [12] x54 (.ret ((0:Nat),(y22_2.length:Nat),y22_2)) (.bI 15 (bE (y25_1+1)) λx55=>.jn 0 [4] [] [] (λu166 (a:Int×(List aN))=>[(0,.sl 7 (u166 7) 0 a.2.length),(5,int a.1)]) (λ_ a=>[.kp 7 (a.2.map aN.av)]) (.lp [1,4] [] [] (λu169 (a:Int×Int×(List aN))=>[(0,.sl 7 (u169 7) 0 a.2.2.length),(5,int a.1),(6,int a.2.1)]) (λ_ a=>[.kp 7 (a.2.2.map aN.av)]) n ((y25_1:Int),x55,y22_2) (pw λy26_1 q0=>(pw λy26_2 y26_3=>.bB 19 (decide (y26_2<(y26_3.length:Int))) λx56=>.ifs [19] x56 (.jn 1 [1,4,6] [] [] (λu170 (a:Int×(List aN))=>[(0,.sl 7 (u170 7) 0 a.2.length),(5,int a.1)]) (λ_ a=>[.kp 7 (a.2.map aN.av)]) (.bo (ix y26_3 y26_2) λx57=>.gv 24<|.gv 25<|.al 8<|.cl 28 (RJ x57) aAY aB9 λx59=>.bB 29 (!x59) λx60=>.ifs [29] x60 (.bo (ix y26_3 y26_1) λx61=>.gv 33<|.bl (y26_3.set (Int.toNat y26_1) x57:List aN) λx62=>.ge 1009004 0<|.bI 35 (bE (y26_1+1)) λx63=>.ret ((x63:Int),x62)) (.ret ((y26_1:Int),y26_3))) (pw λy27_1 y27_2=>.bI 21 (bE (y26_2+1)) λx64=>.brk ((y27_1:Int),x64,y27_2))) (.esc (.ret ((y26_1:Int),y26_3)))) q0)) (pw λy28_1 y28_2=>.as ((0:Int)<=y28_1/\y28_1<(y28_2.length:Int)) inferInstance<|.gv 38<|.bl (y28_2.take (0+y28_1.toNat):List aN) λx66=>.ge 1011003 0<|.as ((0:Int)<=y28_1/\y28_1<=(y28_2.length:Int)) inferInstance<|.gv 41<|.ret (((0+0):Nat),((y28_1.toNat-0):Nat),x66))))) (pw λy29_1 q0=>(pw λy29_2 y29_3=>.as (y29_1+y29_2<=y29_3.length) inferInstance<|.ret (((((y29_3).drop y29_1).take y29_2):List aN),0)) q0)))))
def xV (n:Nat) (a1:List aN):Option ((List aN)×Int):=(aCX n a1).run
theorem aB3 {n:Nat} {a1:List aN} {r:(List aN)×Int} (h0:xV n a1=some r):PP Tryz.prog 69 [aH 2 aN.av a1] (λy=>y=.bD [aH 2 aN.av r.1,int r.2]):=by
 refine bY mixed aA (λ(r:(List aN)×Int)=>.bD [aH 2 aN.av r.1,int r.2]) h0 Tryz.func69 (λr=>.bD (gK ((jD aN.dR) (r.1)) (bQ (r.2)))) 100000 ?_
 refine .mk ?_ ?_
 refine .mk ?_ ?_
 refine .mk ?_
 refine .mk ?_ ?_
 refine .mk ?_
 intro _ _
 refine .mk λx2=>?_
 refine .mk ?_ ?_
 refine .mk λx3 e3=>?_
 refine .mk λx4 e4=>?_
 refine .mk .mk ?_
 refine .mk λx5=>?_
 exact .mk
 exact .mk
 intro _ _
 exact .mk
 intro _ _
 refine .mk trivial ?_
 refine .mk λx6=>?_
 exact .mk
 intro _ _
 refine .mk trivial ?_
 refine .mk ?_ ?_
 exact .mk (dG.bD (.cons (.nil _) (.cons (.refl _) .nil)))
 refine .mk λp7=>?_
 refine .mk _ ⟨λ_=>nC rfl rfl (.cons rfl .nil) aFT (qB (aRN (id:=1) (l:=a1) rfl p7) (.cons (.refl _) .nil)),λ_ _ _=>trivial⟩ ?_
 rintro _ _ ⟨v8,rfl,rfl⟩
 refine .mk ?_ ?_
 intro v9
 refine .mk ?_ ?_
 refine .mk ?_ ?_
 refine .mk ?_ ?_
 refine .mk ?_
 intro _ _
 refine .mk λx10=>?_
 refine .mk ?_
 exact .mk
 intro _ _
 refine .mk ?_ ?_
 refine .mk ?_
 refine .mk ?_ ?_
 refine .mk ?_
 intro _ _
 refine .mk λx11=>?_
 refine .mk ?_ ?_
 refine .mk ?_ ?_
 refine .mk ?_ ?_
 refine .mk ?_
 rintro ⟨y7_1,y7_2⟩ _
 refine .mk ?_ ?_
 refine .mk ?_
 refine .mk λx12=>?_
 refine .mk ?_ ?_
 refine .mk λx13 e13=>?_
 refine .mk _ (λH hH _=>iT rfl Tryz.underlying73 kR rfl rfl ((hH _ (by decide)).trans rfl) rfl rfl (Eq.symm rfl) (List.length_map _) e13) ?_
 refine .mk _ (λH hH _=>gQ rfl kR rfl (.pt ((hH _ (by decide)).trans rfl) rfl (iN e13)) rfl) ?_
 refine .mk λx14=>?_
 refine .mk λx15 e15=>?_
 refine .mk _ (λH hH _=>iT rfl Tryz.underlying73 kR rfl rfl ((hH _ (by decide)).trans rfl) rfl rfl (Eq.symm rfl) (List.length_map _) e15) ?_
 refine .mk _ (λH hH _=>gQ rfl kR rfl (.pt ((hH _ (by decide)).trans rfl) rfl (iN e15)) rfl) ?_
 refine .mk ?_ ?_
 intro v16
 intro v17
 refine .mk ?_
 refine .mk λx18 e18=>?_
 refine .mk λx19 e19=>?_
 refine .mk λx20 e20=>?_
 exact .mk
 intro _ _
 refine .mk trivial ?_
 refine .mk λx21=>?_
 exact .mk
 exact .mk
 intro _ _
 refine .mk ?_ ?_
 refine .mk ?_
 refine .mk λx22=>?_
 refine .mk λx23=>?_
 refine .mk λx24 e24=>?_
 refine .mk _ (λH hH _=>iT rfl Tryz.underlying73 kR rfl rfl ((hH _ (by decide)).trans rfl) rfl rfl (Eq.symm rfl) (List.length_map _) e24) ?_
 refine .mk _ (λH hH _=>gQ rfl kR rfl (.pt ((hH _ (by decide)).trans rfl) rfl (iN e24)) rfl) ?_
 refine .mk λx25 e25=>?_
 refine .mk _ (λH hH _=>iT rfl Tryz.underlying73 kR rfl rfl ((hH _ (by decide)).trans rfl) rfl rfl (Eq.symm rfl) (List.length_map _) e25) ?_
 refine .mk _ (λH hH _=>gQ rfl kR rfl (.pt ((hH _ (by decide)).trans rfl) rfl (iN e25)) rfl) ?_
 refine .mk _ (λH hH _=>iT rfl Tryz.underlying73 kR rfl rfl ((hH _ (by decide)).trans rfl) rfl rfl (Eq.symm rfl) (List.length_map _) e25) ?_
 refine .mk λx26 e26=>?_
 have fx26:=mX e25 e26;have lx26:=l6 e26 (rfl:y7_2.length=y7_2.length)
 refine .mk _ ⟨λ_=>eG.iA (iP (ob':=(⟨72,2,true,true,_,x26.map aN.av⟩:cO)) (iL rfl kR rfl rfl rfl rfl rfl (iN e25) rfl rfl rfl) (jZ (oI e26))) (λ_ h=>h) (λ_ _=>trivial),by rintro _ _ ⟨rfl,rfl⟩;exact trivial⟩ ?_
 rintro _ _ ⟨rfl,rfl⟩
 refine .mk λx27 e27=>?_
 refine .mk _ (λH hH _=>iT rfl Tryz.underlying73 kR rfl rfl ((hH _ (by decide)).trans rfl) rfl rfl (Eq.symm lx26) (List.length_map _) e27) ?_
 refine .mk λx28 e28=>?_
 have fx28:=mX e27 e28;have lx28:=l6 e28 lx26
 refine .mk _ ⟨λ_=>eG.iA (iP (ob':=(⟨72,2,true,true,_,x28.map aN.av⟩:cO)) (iL rfl kR rfl rfl rfl rfl rfl (iN e27) rfl rfl rfl) (jZ (oI e28))) (λ_ h=>h) (λ_ _=>trivial),by rintro _ _ ⟨rfl,rfl⟩;exact trivial⟩ ?_
 rintro _ _ ⟨rfl,rfl⟩
 refine .mk λx29=>?_
 exact .mk ⟨⟨⟨_,rfl,(rA (Eq.symm lx28))⟩,⟨_,rfl,(.refl _)⟩,⟨_,rfl,(.refl _)⟩,⟨_,rfl,(.refl _)⟩,⟨_,rfl,(.refl _)⟩,⟨_,rfl,(.refl _)⟩,trivial⟩,⟨⟨_,rfl,(.refl _)⟩,⟨_,rfl,(.refl _)⟩,trivial⟩⟩
 exact .mk
 intro _ _
 exact .mk
 intro _ _
 refine .mk λx30=>?_
 exact .mk
 exact .mk
 intro _ _
 exact .mk
 intro _ _
 refine .mk trivial ?_
 refine .mk λp31=>?_
 refine .mk ?_ ?_
 refine .mk ?_
 intro _ _
 refine .mk λx32=>?_
 refine .mk ?_
 exact .mk
 intro _ _
 exact .mk
 intro _ _
 refine .mk trivial ?_
 exact .mk
 intro _ _
 refine .mk trivial ?_
 exact .mk
 intro _ _
 refine .mk trivial ?_
 refine .mk λp33=>?_
 refine .mk _ (fK (iE rfl rfl)) ?_
 refine .mk ?_ ?_
 intro v34
 refine .mk ?_
 rintro ⟨y19_2,y19_3⟩ _
 refine .mk λx35=>?_
 refine .mk ?_ ?_
 refine .mk ?_ ?_
 refine .mk λx36 e36=>?_
 refine .mk _ (fK (iT rfl Tryz.underlying73 kR rfl rfl rfl rfl rfl (Eq.symm p33) (List.length_map _) e36)) ?_
 refine .mk _ (fK (gQ rfl kR rfl (.pt rfl rfl (iN e36)) rfl)) ?_
 intro v37
 refine .mk λx38=>?_
 refine .mk ?_ ?_
 refine .mk ?_
 refine .mk λx39=>?_
 refine .mk ?_ ?_
 refine .mk λx40 e40=>?_
 refine .mk _ (λH hH _=>iT rfl Tryz.underlying73 kR rfl rfl ((hH _ (by decide)).trans rfl) rfl rfl (Eq.symm rfl) (List.length_map _) e40) ?_
 refine .mk _ (λH hH _=>iC rfl NU rfl (.pt ((hH _ (by decide)).trans rfl) rfl (iN e40)) (.pt _ _ _ _ _)) ?_
 refine .mk _ (λH hH _=>gQ rfl dM rfl (.pt ((hH _ (by decide)).trans rfl) rfl (iN e40)) rfl) ?_
 refine .mk λx41=>?_
 exact .mk
 exact .mk
 intro _ _
 refine .mk ?_ ?_
 refine .mk ?_
 refine .mk λx42 e42=>?_
 refine .mk _ (λH hH _=>iT rfl Tryz.underlying73 kR rfl rfl ((hH _ (by decide)).trans rfl) rfl rfl (Eq.symm rfl) (List.length_map _) e42) ?_
 refine .mk _ (λH hH _=>iC rfl N6 rfl (.pt ((hH _ (by decide)).trans rfl) rfl (iN e42)) (.pt _ _ _ _ _)) ?_
 refine .mk _ (λH hH _=>gQ rfl dM rfl (.pt ((hH _ (by decide)).trans rfl) rfl (iN e42)) rfl) ?_
 refine .mk λx43 e43=>?_
 refine .mk λx44=>?_
 refine .mk ?_ ?_
 exact .mk (dG.bD (.cons (.nil _) (.cons (.refl _) .nil)))
 refine .mk _ (fK (iT rfl Tryz.underlying73 kR rfl rfl rfl rfl rfl (Eq.symm rfl) (List.length_map _) e42)) ?_
 refine .mk _ (fK (iC rfl N6 rfl (.pt rfl rfl (iN e42)) (.pt _ _ _ _ _))) ?_
 refine .mk λx45 e45=>?_
 have fx45:=mX e42 e45;have lx45:=l6 e45 (rfl:y19_3.length=y19_3.length)
 refine .mk _ ⟨λ_=>eG.iA (iP (ob':=(⟨72,2,true,true,_,x45.map aN.av⟩:cO)) (iL rfl dM rfl rfl rfl rfl rfl (iN e42) rfl rfl rfl) (jZ (oI e45))) (λ_ h=>h) (λ_ _=>trivial),λ_ _ _=>trivial⟩ ?_
 rintro _ _ ⟨rfl,rfl⟩
 exact .mk ⟨⟨⟨_,rfl,(rA (Eq.symm lx45))⟩,⟨_,rfl,(.refl _)⟩,⟨_,rfl,(.refl _)⟩,⟨_,rfl,(.refl _)⟩,⟨_,rfl,(.refl _)⟩,⟨_,rfl,(.refl _)⟩,trivial⟩,⟨⟨_,rfl,(.refl _)⟩,⟨_,rfl,(.refl _)⟩,trivial⟩⟩
 refine .mk (fK (fT (y:=aH 2 aN.av ([x36]:List aN)) (jP (ps:=[(0,_)]) (rows:=[[int x36.dL,int x36.bM]]) rfl Tryz.underlying73 vQ (.cons rfl .nil) (by kernel_rfl) rfl rfl rfl) rfl)) ?_
 refine .mk λx46 e46=>?_
 refine .mk λp47=>?_
 refine .mk _ ⟨λ_=>lV (g:=aN.av) (l:=y19_3) (m:=([x36]:List aN)) .any rfl Tryz.underlying73 vQ TG rfl rfl rfl rfl rfl rfl rfl rfl rfl rfl (Eq.symm rfl) (.refl _) (λ_=>rfl) e46 p47,λ_ _ _=>trivial⟩ ?_
 rintro _ _ ⟨v48,-,rfl,rfl⟩
 exact .mk
 intro _ _
 refine .mk λx49=>?_
 exact .mk
 exact .mk
 intro _ _
 refine .mk ?_ ?_
 refine .mk ?_ ?_
 refine .mk ?_ ?_
 refine .mk ?_
 intro _ _
 refine .mk λx50=>?_
 refine .mk ?_ ?_
 refine .mk λx51 e51=>?_
 refine .mk _ (fK (iT rfl Tryz.underlying73 kR rfl rfl rfl rfl rfl (Eq.symm rfl) (List.length_map _) e51)) ?_
 refine .mk _ (fK (gQ rfl kR rfl (.pt rfl rfl (iN e51)) rfl)) ?_
 refine .mk λx52 e52=>?_
 refine .mk .mk ?_
 refine .mk λx53=>?_
 exact .mk
 exact .mk
 intro _ _
 exact .mk
 intro _ _
 refine .mk trivial ?_
 refine .mk λx54=>?_
 refine .mk .mk ?_
 refine .mk λx55=>?_
 refine .mk ?_ ?_
 refine .mk ?_
 rintro ⟨y26_1,y26_2,y26_3⟩ _
 refine .mk λx56=>?_
 refine .mk ?_ ?_
 refine .mk ?_ ?_
 refine .mk λx57 e57=>?_
 refine .mk _ (fK (iT rfl Tryz.underlying73 kR rfl rfl rfl rfl rfl (Eq.symm rfl) (List.length_map _) e57)) ?_
 refine .mk _ (fK (gQ rfl kR rfl (.pt rfl rfl (iN e57)) rfl)) ?_
 intro v58
 refine .mk λx59 e59=>?_
 refine .mk λx60=>?_
 refine .mk ?_ ?_
 refine .mk λx61 e61=>?_
 refine .mk _ (fK (iT rfl Tryz.underlying73 kR rfl rfl rfl rfl rfl (Eq.symm rfl) (List.length_map _) e61)) ?_
 refine .mk λx62 e62=>?_
 have fx62:=mX e61 e62;have lx62:=l6 e62 (rfl:y26_3.length=y26_3.length)
 refine .mk _ ⟨λ_=>eG.iA (iP (ob':=(⟨72,2,true,true,_,x62.map aN.av⟩:cO)) (iL rfl kR rfl rfl rfl rfl rfl (iN e61) rfl rfl rfl) (jZ (oI e62))) (λ_ h=>h) (λ_ _=>trivial),λ_ _ _=>trivial⟩ ?_
 rintro _ _ ⟨rfl,rfl⟩
 refine .mk λx63=>?_
 exact .mk ⟨⟨⟨_,rfl,(rA (Eq.symm lx62))⟩,⟨_,rfl,(.refl _)⟩,⟨_,rfl,(.refl _)⟩,⟨_,rfl,(.refl _)⟩,⟨_,rfl,(.refl _)⟩,trivial⟩,⟨⟨_,rfl,(.refl _)⟩,trivial⟩⟩
 exact .mk
 intro _ _
 refine .mk λx64=>?_
 exact .mk
 exact .mk
 rintro ⟨y28_1,y28_2⟩ _
 refine .mk λp65=>?_
 refine .mk _ (fK (X8 (len:=y28_2.length) (i:=y28_1.toNat) (j:=y28_2.length) rfl Tryz.underlying73 kR rfl rfl rfl rfl (.yes rfl (by first | omega | (dsimp only;omega) | (dsimp only at *;omega))) .no (by first | omega | (dsimp only;omega) | (dsimp only at *;omega)) (Nat.le_refl _) (.inl (by first | omega | (dsimp only;omega) | (dsimp only at *;omega))))) ?_
 refine .mk λx66 e66=>?_
 refine .mk _ ⟨λ_=>eG.iA (iP (ob':=(⟨72,2,true,true,_,x66.map aN.av⟩:cO)) (aSW rfl Tryz.underlying73 vQ rfl rfl rfl rfl rfl rfl e66) rfl) (λ_ h=>h) (λ_ _=>trivial),λ_ _ _=>trivial⟩ ?_
 rintro _ _ ⟨rfl,rfl⟩
 refine .mk λp67=>?_
 refine .mk _ (fK (X8 (len:=y28_2.length) (i:=0) (j:=y28_1.toNat) rfl Tryz.underlying73 kR rfl rfl rfl rfl .no (.yes rfl (by first | omega | (dsimp only;omega) | (dsimp only at *;omega))) (Nat.zero_le _) (by first | omega | (dsimp only;omega) | (dsimp only at *;omega)) (.inr rfl))) ?_
 exact .mk
 rintro ⟨y29_1,y29_2,y29_3⟩ _
 refine .mk trivial ?_
 refine .mk λp68=>?_
 exact .mk (dG.bD (.cons (aU4 (l:=y29_3) rfl rfl rfl rfl (kJ.refl _) (by first | omega | (simp only [List.length_set];omega)) rfl) (.cons (.refl _) .nil)))
def XA (n:Nat) (a1:List aN):WT Tryz.prog (.b (Int×Int)) :=
 .ln 8 aN.av a1<|.jn 0 [2,3] [] [3] (λu2 (a:(List Int))=>[(4,.sl 3 (u2 3) 0 a.length)]) (λ_ a=>[.nw 3 3 1 (a.map fI)]) (.no 4 3 3 1<|.lp [2,3,7,8] [] [3] (λu3 (a:Int×(List Int))=>[(4,.sl 3 (u3 3) 0 a.2.length),(9,int a.1)]) (λ_ a=>[.nw 3 3 1 (a.2.map fI)]) n ((0:Int),(([]:List Int):List Int)) (pw λy0_2 y0_3=>.bB 10 (decide (y0_2<(a1.length:Int))) λx3=>.ifs [10] x3 (.ix 11 aN.av a1 y0_2 λx4=>.al 1<|.to 16 (aH 1 fI ([x4.bM]:List Int))<|.bl (y0_3++([x4.bM]:List Int):List Int) λx6=>.as (x6.length<=68719476736) inferInstance<|.ge 17 0<|.bI 18 (bE (y0_2+1)) λx9=>.brk ((x9:Int),x6)) (.esc (.ret y0_3)))) (λy1_2=>.kZ 20 (qP n y1_2) wF wG (λ_=>rfl) λx10=>.ret ((x10.1:Int),x10.2))
def HZ (n:Nat) (a1:List aN):Option (Int×Int):=(XA n a1).run
theorem aKB {n a1 r} (h0:HZ n a1=some r):PP Tryz.prog 163 [aH 2 aN.av a1] (λy=>y=.bD [int r.1,int r.2]) :=
 bY mixed aA (λr:Int×Int=>.bD [int r.1,int r.2]) h0 Tryz.func163 (λr=>.bD (gK (bQ (r.1)) (bQ (r.2)))) 100000 au
def aEM (a1:aN):WT Tryz.prog (.b (Bool)) :=
 .al 1<|.jn 0 [] [] [] (λ_ (a:Bool)=>[(2,aZ a)]) (λ_ _=>[]) (.cl 5 (GR a1.dL) UR VC λx3=>.bB 6 (!x3) λx4=>.ifs [6] x4 (.ret true) (.bB 10 (decide (a1.bM=0)) λx5=>.ifs [10] x5 (.ret true) (.cl 15 (EK a1.bM) aDD WR λx6=>.bB 16 (!x6) λx7=>.ret x7))) (λy0_1=>.ret ((y0_1:Bool)))
def H8 (a1:aN):Option (Bool):=(aEM a1).run
theorem aQG {a1 r} (h0:H8 a1=some r):PP Tryz.prog 162 [.agg (aN.av a1)] (λy=>y=aZ r) :=
 bY mixed aA (λr:Bool=>aZ r) h0 Tryz.func162 (λr=>gT r) 100000 au
def VF (n:Nat) (a1:List aN):WT Tryz.prog (.b (Bool)) :=
 .jn 1 [0,2] [] [] (λ_ (a:Bool)=>[(13,aZ a)]) (λ_ _=>[]) (.ln 7 aN.av a1<|.bB 8 (decide ((a1.length:Int)<1)) λx2=>.ifs [8] x2 (.ret true) (.ln 11 aN.av a1<|.bB 12 (decide ((a1.length:Int)>12)) λx3=>.ret x3)) (λy0_1=>.ifs [13] y0_1 (.ret ((false:Bool))) (.cl 16 (HZ n a1) aMT aKB λx4=>.jn 0 [] [] [] (λ_ (a:Bool)=>[(2,aZ a)]) (λ_ _=>[]) (.inl 21 V2 Tryz.func113 [] [] (λ_ (a:Bool)=>aZ a) (λ_ _=>[]) (.inl 7 RI Tryz.func157 [] [] (λ_ (a:Int)=>int a) (λ_ _=>[]) (.ln 7 aN.av a1<|.fH 0 [4] [] [] (λ_ (a:Unit)=>[]) (λ_ _=>[]) (.lp [0,1,4,7] [] [] (λ_ (a:Int)=>[(8,int a)]) (λ_ _=>[]) n 0 (λy1_1=>.bB 9 (decide (y1_1<(a1.length:Int))) λx5=>.ifs [9] x5 (.ix 14 aN.av a1 y1_1 λx6=>.cl 16 (H8 x6) aNI aQG λx7=>.ifs [16] x7 (.esc (.esc (.ret y1_1))) (.bI 18 (bE (y1_1+1)) λx8=>.brk x8)) (.esc (.brk ())))) (λ_=>.ret (-1))) (λy3_1=>.bB 8 (decide (y3_1>=0)) λx9=>.ret x9)) (λy4_1=>.bB 22 (!y4_1) λx10=>.ifs [22] x10 (.bB 25 (decide (x4.1=0)) λx11=>.ifs [25] x11 (.bB 29 (decide (x4.2=0)) λx12=>.ret x12) (.ret false)) (.ret false))) (λy5_1=>.ret ((y5_1:Bool)))))
def M5 (n:Nat) (a1:List aN):Option (Bool):=(VF n a1).run
theorem aGZ {n a1 r} (h0:M5 n a1=some r):PP Tryz.prog 124 [aH 2 aN.av a1] (λy=>y=aZ r) :=
 bY mixed aA (λr:Bool=>aZ r) h0 Tryz.func124 (λr=>gT r) 100000 au
def yZ (x9:(List aN)×Int):Nat->Int->(List Int)->Option (((List Int))⊕((Int×(List Int))))
  | 0,_,_=>none
  | n+1,y1_1,y1_2 =>
    bnd (decide (y1_1<(x9.1.length:Int))) λx16 =>
    cond x16 ((ix x9.1 y1_1).bind λx17 =>
    (ix y1_2 x17.dL).bind λx19 =>
    (oH x19 x17.bM).bind λx20 =>
    bnd (y1_2.set (Int.toNat x17.dL) (x20.1:Int)) λx21 =>
    bnd (decide (x20.2≠0)) λx22 =>
    cond x22 (esc (some ((x20.2:Int),(x21:List Int)))) (bnd (bE (y1_1+1)) λx23 =>
    yZ x9 n (x23:Int) (x21:List Int))) (brk (y1_2:List Int))
def FC (n:Nat) (a1:List Int) (a2:List aN):Option ((List Int)×Int) :=
bnd (decide ((a1.length:Int)≠17)) λx4 =>
cond x4 (some (([]:List Int),(1:Int))) ((show Option (((List Int))⊕(Int)) from
gV (a1.length<=68719476736)<|
(show Option ((Int×(List Int))) from
(xV n a2).bind λx9 =>
(show Option (Bool) from
bnd (decide (x9.2≠0)) λx11 =>
cond x11 (some (true:Bool)) (bnd (decide ((x9.1.length:Int)>0)) λx12 =>
cond x12 ((M5 n x9.1).bind λx13 =>
bnd (!x13) λx14 =>
some (x14:Bool)) (some (false:Bool)))).bind <| λy0_1 =>
cond y0_1 (some ((10:Int),(a1:List Int))) ((show Option (((List Int))⊕((Int×(List Int)))) from
yZ x9 n (0:Int) (a1:List Int)).bind <| sel <| λy2_1 =>
some ((0:Int),(y2_1:List Int)))).bind <| p2 λ(y4_1:Int) (y4_2:List Int) =>
bnd (decide (y4_1≠0)) λx25 =>
cond x25 (gV (a1.length<=68719476736)<|
some (.inr (y4_1:Int))) (gV (y4_2.length=a1.length)<|
some (.inl (y4_2:List Int)))).bind <| qG (λy7_2 =>
some ((y7_2:List Int),(0:Int))) <| λy8_2 =>
some ((a1:List Int),(y8_2:Int)))
theorem aFO {n:Nat} {a1:List Int} {a2:List aN} {r:(List Int)×Int} (h0:FC n a1 a2=some r):PP Tryz.prog 70 [aH 1 fI a1,aH 2 aN.av a2] (λy=>y=.bD [aH 1 fI r.1,int r.2]):=by
  unfold FC at h0
  refine oN (R0:=λy H=>Cv (lH H) y (.bD [aH 1 fI r.1,int r.2])) ?_ (λy H hc=>⟨_,rfl,.bD (gK ((jD pN) (r.1)) (bQ (r.2))),hc⟩)
  refine lN (c:=_) Tryz.func70 rfl rfl ?_;intro Q hret hnorm
  refine tc aA 2 (.mk ?_)
  refine sB 1 λv3=>?_
  refine tr aA 7 (.mk ?_)
  refine sY (kX rfl Tryz.underlying22 rfl (mF _)) ?_
  refine nb aA h0 λx4 h0=>?_
  refine tr aA 1 (.mk ?_)
  cases x4
  replace h0:=cf h0
  refine tc aA 6 (.mk ?_)
  obtain ⟨j5,h1,h0⟩:=fE h0
  refine oJ (Out:=λy H'=>(∃ (a:(List Int)) (k:Nat),(.inl a)=j5/\Cv H' y (.bD [.sl 2 k 0 a.length,int 0])/\H'=hk [(1,⟨73,1,true,true,v3,[[aH 2 aN.av a2]]⟩),(2,⟨3,1,true,true,k,a.map fI⟩)])\/(∃ (a:Int) (k:Nat),(.inr a)=j5/\Cv H' y (.bD [.sl 4 k 0 a1.length,int a])/\H'=hk [(1,⟨73,1,true,true,v3,[[aH 2 aN.av a2]]⟩),(4,⟨3,1,true,true,k,a1.map fI⟩)])) rfl rfl rfl (nC rfl rfl (.cons rfl (.cons rfl .nil)) aSJ ?_) ?_
  refine lN (c:=_) Tryz.func122 rfl rfl ?_;intro Q hret hnorm
  refine tc aA 8 (.mk ?_)
  obtain ⟨p6,h1⟩:=iR h1
  refine oJ rfl rfl rfl (nC rfl rfl (.cons rfl .nil) UB (qB (aDI (id:=2) (l:=a1) rfl p6) (.cons (.refl _) .nil))) ?_;rintro _ _ ⟨v7,rfl,rfl⟩
  refine tr aA 7 (.mk ?_)
  obtain ⟨j8,h2,h1⟩:=fE h1
  refine oJ (Out:=λy H'=>(∃ (a:Int×(List Int)) (k:Unit),a=j8/\y=int a.1/\H'=hk [(1,⟨73,1,true,true,v3,[[aH 2 aN.av a2]]⟩),(2,⟨3,1,true,true,v7,a.2.map fI⟩)])) rfl rfl rfl (nC rfl rfl (.cons rfl .nil) aGP ?_) ?_
  refine lN (c:=_) Tryz.func123 rfl rfl ?_;intro Q hret hnorm
  refine tc aA 7 (.mk ?_)
  obtain ⟨x9,e9,h2⟩:=fE h2
  refine sC YM (aB3 e9) ?_
  refine tr aA 8 (.mk ?_)
  refine jn h2 [0,3,4] [1,2] (λ(a:Bool) (k:Unit)=>[(24,aZ a)]) (λa k=>[]) ⟨λj10 h3=>?_,?_⟩
  refine tc aA 2 (.mk ?_)
  refine nb aA h3 λx11 h3=>?_
  refine tr aA 1 (.mk ?_)
  cases x11
  replace h3:=cf h3
  refine tr aA 1 (.mk ?_)
  refine sY (kX rfl Tryz.underlying73 rfl (mF _)) ?_
  refine nb aA h3 λx12 h3=>?_
  refine tr aA 1 (.mk ?_)
  cases x12
  replace h3:=cf h3
  refine tr aA 6 (.mk ?_)
  exact lf h3 () dP
  replace h3:=ct h3
  refine tr aA 1 (.mk ?_)
  obtain ⟨x13,e13,h3⟩:=fE h3
  refine sC aE9 (aGZ e13) ?_
  refine nb aA h3 λx14 h3=>?_
  refine tr aA 3 (.mk ?_)
  exact lf h3 () dP
  replace h3:=ct h3
  refine tr aA 10 (.mk ?_)
  exact lf h3 () dP
  rintro y0_1 _ h2
  cases y0_1
  replace h2:=cf h2
  refine tc aA 6 (.mk ?_)
  refine sY (kX rfl Tryz.underlying73 rfl (mF _)) ?_
  refine tr aA 2 (.mk ?_)
  refine fH h2 [3] [1] (λ(a:(List Int)) (k:Unit)=>[]) (λa k=>[(2,⟨3,1,true,true,v7,a.map fI⟩)]) ⟨λj15 h3 h2=>?_,?_⟩
  refine tc aA 1 (.mk ?_)
  refine lp (λn (a:Int×(List Int))=>yZ x9 n a.1 a.2) ((0:Int),(a1:List Int)) () h3 [3,25,26] [1] (λ(a:Int×(List Int)) (k:Unit)=>[(0,.sl 2 v7 0 a.2.length),(27,int a.1)]) (λa k=>[(2,⟨3,1,true,true,v7,a.2.map fI⟩)]) (λ_=>rfl) ⟨dP,?_⟩
  rintro n ⟨y1_1,y1_2⟩ _ hm h3
  replace h3:yZ x9 (n+1) y1_1 y1_2=some _:=h3
  rw [yZ] at h3
  refine tc aA 2 (.mk ?_)
  refine nb aA h3 λx16 h3=>?_
  refine tr aA 2 (.mk ?_)
  cases x16
  replace h3:=cf h3
  refine tc aA 2 (.mk ?_)
  exact oW h3 () dP
  replace h3:=ct h3
  refine tc aA 6 (.mk ?_)
  obtain ⟨x17,e17,h3⟩:=fE h3
  refine sY (mM rfl Tryz.underlying73 kR rfl rfl e17) ?_
  refine tr aA 1 (.mk ?_)
  refine sA 3 z72 λv18=>?_
  refine sS ⟨72,2,true,true,v18,[[int x17.dL,int x17.bM]]⟩ kR ?_
  refine tr aA 2 (.mk ?_)
  refine pR [0,0,2,0,0,16,56,120,0,256,1016,2040,4088,4088,8191,24575,65535] (rl [(1,[3]),(2,[3]),(4,[3]),(5,[3]),(6,[2]),(7,[2]),(8,[3]),(9,[3]),(14,[2])] []) (rl [(15,[])] [2,3]) (rl [(15,false)] true) [0,1,2,3,4,5,6,7,8,9,10,11,12,13,14,15,16] mixed (by kernel_rfl) ?_;intro K hK
  refine eM ?_
  refine eF NU ?_
  refine eL dM ?_
  refine eM ?_
  refine eF NU ?_
  refine eL dM ?_
  obtain ⟨x19,e19,h3⟩:=fE h3
  refine eT rfl rfl rfl rfl (λH hH=>iT rfl Tryz.underlying22 dM rfl rfl ((hH _ (by decide)).trans rfl) rfl rfl (Eq.symm rfl) (List.length_map _) e19) ?_
  refine eL dM (hr:=iN e19) ?_
  refine eF N6 ?_
  refine eL dM ?_
  obtain ⟨x20,e20,h3⟩:=fE h3
  refine eP (λH hH=>oC rfl rfl (.cons rfl (.cons rfl .nil)) pV (dG.refl _) (pQ e20)) ?_
  refine eM ?_
  iterate 2 refine eX ?_
  refine eT rfl rfl rfl rfl (λH hH=>iT rfl Tryz.underlying22 dM rfl rfl ((hH _ (by decide)).trans rfl) rfl rfl (Eq.symm rfl) (List.length_map _) e19) ?_
  obtain ⟨x21,e21,h3⟩:=iI h3
  have fx21:=mX e19 e21;have lx21:=l6 e21 (rfl:y1_2.length=y1_2.length)
  refine uD rfl rfl rfl rfl (eG.iA (iP (ob':=(⟨3,1,true,true,v7,x21.map fI⟩:cO)) (iL rfl dM rfl rfl rfl rfl rfl (iN e19) rfl rfl rfl) (jZ (oI e21))) (λ_ h=>h) (λ_ _=>trivial)) (by rintro _ _ ⟨rfl,rfl⟩;exact trivial) ?_;rintro _ _ ⟨rfl,rfl⟩
  refine eA ?_
  refine oK (hK _ ?_)
  refine tc aA 3 (.mk ?_)
  refine nb aA h3 λx22 h3=>?_
  refine tr aA 1 (.mk ?_)
  cases x22
  replace h3:=cf h3
  refine tc aA 4 (.mk ?_)
  refine ni aA h3 λx23 h3=>?_
  refine tr aA 2 (.mk ?_)
  exact bk (x23,x21) () h3 (D8 ⟨⟨_,rfl,(rA (Eq.symm lx21))⟩,⟨_,rfl,(.refl _)⟩,⟨_,rfl,(.refl _)⟩,⟨_,rfl,(.refl _)⟩,⟨_,rfl,(.refl _)⟩,trivial⟩ ⟨⟨_,rfl,(.refl _)⟩,⟨_,rfl,(.refl _)⟩,trivial⟩)
  replace h3:=ct h3
  refine tc aA 6 (.mk ?_)
  obtain ⟨c24,hX,hj⟩:=oG h3;subst hj;replace h2:=hX.trans (nZ h2)
  obtain rfl:=fV h2
  refine o7 (hret _ _ (hk [(1,⟨73,1,true,true,v3,[[aH 2 aN.av a2]]⟩),(2,⟨3,1,true,true,v7,x21.map fI⟩)]) (.tmp rfl .nil) (HK.le ⟨rfl,rfl,trivial⟩) ?_)
  exact ⟨(x20.2,x21),(),rfl,rfl,rfl⟩
  rintro y2_1 _ h2
  refine tc aA 4 (.mk ?_)
  obtain rfl:=fV h2
  refine o7 (hret _ _ (hk [(1,⟨73,1,true,true,v3,[[aH 2 aN.av a2]]⟩),(2,⟨3,1,true,true,v7,y2_1.map fI⟩)]) (.tmp rfl .nil) (HK.le ⟨rfl,rfl,trivial⟩) ?_)
  exact ⟨(0,y2_1),(),rfl,rfl,rfl⟩
  replace h2:=ct h2
  refine tc aA 5 (.mk ?_)
  obtain rfl:=fV h2
  refine o7 (hret _ _ (hk [(1,⟨73,1,true,true,v3,[[aH 2 aN.av a2]]⟩),(2,⟨3,1,true,true,v7,a1.map fI⟩)]) (.tmp rfl .nil) (HK.le ⟨rfl,rfl,trivial⟩) ?_)
  exact ⟨(10,a1),(),rfl,rfl,rfl⟩
  rintro y _ ⟨⟨y4_1,y4_2⟩,_,rfl,hc,rfl⟩
  replace h1:=mZ h1
  subst hc
  refine tr aA 5 (.mk ?_)
  refine nb aA h1 λx25 h1=>?_
  refine tr aA 1 (.mk ?_)
  cases x25
  replace h1:=cf h1
  refine tc aA 4 (.mk ?_)
  obtain ⟨p26,h1⟩:=iR h1
  refine sY (iE rfl rfl) ?_
  refine tr aA 3 (.mk ?_)
  obtain rfl:=fV h1
  refine o7 (hret _ _ (hk [(1,⟨73,1,true,true,v3,[[aH 2 aN.av a2]]⟩),(2,⟨3,1,true,true,v7,y4_2.map fI⟩)]) (.tmp rfl (.tmp rfl .nil)) (HK.le ⟨rfl,rfl,trivial⟩) ?_)
  exact (.inl ⟨y4_2,v7,rfl,(dG.bD (.cons (rA (Eq.symm p26)) (.cons (.refl _) .nil))),rfl⟩)
  replace h1:=ct h1
  refine tc aA 4 (.mk ?_)
  obtain ⟨p27,h1⟩:=iR h1
  refine oJ rfl rfl rfl (nC rfl rfl (.cons rfl .nil) UB (qB (aDI (id:=4) (l:=a1) rfl p27) (.cons (.refl _) .nil))) ?_;rintro _ _ ⟨v28,rfl,rfl⟩
  refine tr aA 4 (.mk ?_)
  obtain rfl:=fV h1
  refine o7 (hret _ _ (hk [(1,⟨73,1,true,true,v3,[[aH 2 aN.av a2]]⟩),(4,⟨3,1,true,true,v28,a1.map fI⟩)]) (.tmp rfl (.tmp rfl .nil)) (HK.le ⟨rfl,rfl,trivial⟩) ?_)
  exact (.inr ⟨y4_1,v28,rfl,(.refl _),rfl⟩)
  rintro y _ (⟨y7_2,w7_1,rfl,hc,rfl⟩ | ⟨y8_2,w8_1,rfl,hc,rfl⟩)
  replace h0:=F4 h0
  refine WW 11 (.bD [.sl 2 w7_1 0 y7_2.length,int 0]) rfl hc ?_
  refine tr aA 5 (.mk ?_)
  obtain rfl:=fV h0
  refine wR hret (rT (rT .nil)) ?_
  exact dG.bD (.cons (gY rfl rfl rfl rfl rfl (Eq.symm rfl)) (.cons (.refl _) .nil))
  replace h0:=uF h0
  refine WW 11 (.bD [.sl 4 w8_1 0 a1.length,int y8_2]) rfl hc ?_
  refine tr aA 5 (.mk ?_)
  obtain rfl:=fV h0
  refine wR hret (rT (rT .nil)) ?_
  exact dG.bD (.cons (gY rfl rfl rfl rfl rfl (Eq.symm rfl)) (.cons (.refl _) .nil))
  replace h0:=ct h0
  refine tc aA 6 (.mk ?_)
  obtain rfl:=fV h0
  refine wR hret (rT (rT .nil)) ?_
  exact dG.bD (.cons (.nil _) (.cons (.refl _) .nil))
end
end Go.Pv
