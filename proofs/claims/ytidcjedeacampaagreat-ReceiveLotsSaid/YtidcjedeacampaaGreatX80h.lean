import Derived.Test.YtidcjedeacampaaGreatX80g
set_option linter.unusedVariables false
set_option linter.unusedSimpArgs false
namespace Go.Pv
open Go.Proofs
set_option maxRecDepth 100000
set_option maxHeartbeats 4000000
noncomputable section
def aCU (a1:aB) (a2:bJ):WT Tryz.prog (.b (aB×Int)) :=
 .al 1<|.al 2<|.al 3<|.bB 10 (decide (a2.Kind≠10)) λx6=>.ifs [10] x6 (.ret ((a1:aB),1)) (.cl 17 (pK a1 a2.E a2.Item) vN vB λx7=>.bB 19 (decide (x7≠0)) λx8=>.ifs [19] x8 (.ret ((a1:aB),x7)) (.inl 25 zH Tryz.func60 [1,2,3] [6,7,8,9,10,11] (λu2 (a:Int×Bool×(List aP)×(List aS)×(List Int)×(List cB)×(List Int)×(List Int))=>.agg [int a1.bF.gG,int a1.bF.gZ,aH 1 fI a1.bF.bW,aH 1 (fL 1 fI) a1.bF.Methods,aH 1 (fL 1 fI) a1.bF.gX,.sl 6 (u2 6) 0 a1.bA.length,aH 8 dX.av a1.bX,aH 9 fA.av a1.dS,aH 6 fP.av a1.dH,int a1.Done]) (λu2 a=>[.nw 6 60 8 ((a1.bA.map aP.av).set (Int.toNat a2.E) [int a.1,aZ a.2.1,.sl 7 (u2 7) 0 a.2.2.2.1.length,.sl 8 (u2 8) 0 a.2.2.2.2.1.length,.sl 9 (u2 9) 0 a.2.2.2.2.2.1.length,.sl 10 (u2 10) 0 a.2.2.2.2.2.2.1.length,.sl 11 (u2 11) 0 a.2.2.2.2.2.2.2.length,aH 8 aP.av a.2.2.1]),.nw 7 99 4 (a.2.2.2.1.map aS.av),.nw 8 3 1 (a.2.2.2.2.1.map fI),.nw 9 76 11 (a.2.2.2.2.2.1.map cB.av),.nw 10 3 1 (a.2.2.2.2.2.2.1.map fI),.nw 11 3 1 (a.2.2.2.2.2.2.2.map fI)]) (.al 4<|.al 5<|.as (a1.bA.length<=68719476736) inferInstance<|.ge 8 6<|.bo (ix a1.bA a2.E) λx13=>.gv 13<|.dr [(4,[6]),(5,[6]),(6,[6]),(9,[6]),(10,[6]),(11,[6]),(14,[6]),(15,[6]),(16,[6]),(18,[6]),(19,[6]),(21,[6]),(22,[6]),(24,[6]),(25,[6])] [(17,[]),(20,[]),(23,[]),(26,[])] [6] [7,12,17,20,23,26] [0,1,2,3,4,5,6,8,9,10,11,13,14,15,16,7,12,17,18,19,20,21,22,23,24,25,26] (.gv 18<|.gv 19<|.gv 20<|.gv 23<|.gv 24<|.gv 25<|.gv 28<|.gv 29<|.gv 30<|.as (x13.bR.length<=68719476736) inferInstance<|.ge 21 7<|.as (x13.dI.length<=68719476736) inferInstance<|.ge 26 8<|.as (x13.dJ.length<=68719476736) inferInstance<|.ge 31 9<|.gv 32<|.gv 33<|.ge 1003020 0<|.gv 34<|.gv 35<|.ge 1003023 0<|.gv 36<|.gv 37<|.ge 1003026 0<|.dr [(3,[6]),(4,[6]),(5,[6]),(8,[6]),(9,[6]),(10,[6]),(12,[6]),(13,[6]),(15,[6]),(16,[6])] [(11,[]),(14,[]),(17,[])] [6] [6,11,14,17] [0,1,2,3,4,5,7,8,9,10,6,11,12,13,14,15,16,17] (.gv 41<|.gv 42<|.gv 43<|.gv 46<|.gv 47<|.gv 48<|.as (x13.gJ.length<=68719476736) inferInstance<|.ge 44 10<|.as (x13.Down.length<=68719476736) inferInstance<|.ge 49 11<|.gv 50<|.gv 51<|.ge 1004014 0<|.gv 52<|.gv 53<|.ge 1004017 0<|.ret ((x13.fQ:Int),(x13.Closed:Bool),(x13.fZ:List aP),(x13.bR:List aS),(x13.dI:List Int),(x13.dJ:List cB),(x13.gJ:List Int),(x13.Down:List Int))))) (pw λy0_2 q0=>(pw λy0_3 q1=>(pw λy0_9 q2=>(pw λy0_10 q3=>(pw λy0_11 q4=>(pw λy0_12 q5=>(pw λy0_13 y0_14=>.bo (ix a1.bA a2.E) λx24=>.al 12<|.dr [(0,[12]),(1,[12]),(2,[2]),(3,[2]),(4,[6]),(5,[6]),(6,[6]),(7,[2]),(8,[2]),(9,[2]),(10,[2]),(11,[10])] [(12,[])] [2,6,10,12] [12] [0,1,2,3,4,5,6,7,8,9,10,11,12] (.gv 30<|.gv 31<|.gv 32<|.bo (ix y0_13 a2.Item) λx26=>.gv 37<|.bl (y0_13.set (Int.toNat a2.Item) (a2.bM:Int):List Int) λx27=>.ge 1007012 0<|.ret (((⟨a1.bF,(a1.bA.set (Int.toNat a2.E) (⟨y0_2,y0_3,y0_10,y0_11,y0_12,x27,y0_14,y0_9⟩:aP)),a1.bX,a1.dS,a1.dH,a1.Done⟩:aB):aB),0))) q5) q4) q3) q2) q1) q0)))
def LP (a1:aB) (a2:bJ):Option (aB×Int):=(aCU a1 a2).run
theorem aR9 {a1 a2 r} (h0:LP a1 a2=some r):PP Tryz.prog 105 [.agg (aB.av a1),.agg (bJ.av a2)] (λy=>y=.bD [.agg (aB.av r.1),int r.2]) :=
 bY mixed aA (λr:aB×Int=>.bD [.agg (aB.av r.1),int r.2]) h0 Tryz.func105 (λr=>.bD (gK ((λ(a:aB)=>PV.agg (aB.dR a)) (r.1)) (bQ (r.2)))) 100000 au
def TR (n:Nat) (a1:aB) (a2:bJ):WT Tryz.prog (.b (aB×Int)) :=
 .al 1<|.al 2<|.al 3<|.bB 9 (decide (a2.Kind=1)) λx6=>.ifs [9] x6 (.cl 12 (qM n a1 a2) aEH aA4 λx7=>.ret ((x7.1:aB),x7.2)) (.bB 16 (decide (a2.Kind=4)) λx8=>.jn 0 [2,3,4,5,7] [1,2,3] [] (λ_ (a:Bool)=>[(15,aZ a)]) (λ_ _=>[]) (.ifs [15,16] x8 (.ret true) (.bB 17 (decide (a2.Kind=5)) λx9=>.ret x9)) (λy0_1=>.ifs [15] y0_1 (.cl 20 (LA n a1 a2) aU3 aS7 λx10=>.ret ((x10.1:aB),x10.2)) (.bB 24 (decide (a2.Kind=6)) λx11=>.jn 0 [2,3,4,5,7] [1,2,3] [] (λ_ (a:Bool)=>[(23,aZ a)]) (λ_ _=>[]) (.ifs [23,24] x11 (.ret true) (.bB 25 (decide (a2.Kind=7)) λx12=>.ifs [25] x12 (.ret true) (.bB 26 (decide (a2.Kind=8)) λx13=>.ifs [26] x13 (.ret true) (.bB 27 (decide (a2.Kind=9)) λx14=>.ret x14)))) (λy1_1=>.ifs [23] y1_1 (.cl 30 (NB n a1 a2) aRY aLT λx15=>.ret ((x15.1:aB),x15.2)) (.bB 34 (decide (a2.Kind=2)) λx16=>.jn 0 [2,3,4,5,7] [1,2,3] [] (λ_ (a:Bool)=>[(33,aZ a)]) (λ_ _=>[]) (.ifs [33,34] x16 (.ret true) (.bB 35 (decide (a2.Kind=3)) λx17=>.ret x17)) (λy2_1=>.ifs [33] y2_1 (.cl 38 (JG n a1 a2) aIO aQZ λx18=>.ret ((x18.1:aB),x18.2)) (.bB 42 (decide (a2.Kind=11)) λx19=>.ifs [42] x19 (.cl 45 (M9 n a1 a2) aPD aOP λx20=>.ret ((x20.1:aB),x20.2)) (.bB 49 (decide (a2.Kind=12)) λx21=>.jn 0 [2,3,4,5,7] [1,2,3] [] (λ_ (a:Bool)=>[(48,aZ a)]) (λ_ _=>[]) (.ifs [48,49] x21 (.ret true) (.bB 50 (decide (a2.Kind=13)) λx22=>.ret x22)) (λy3_1=>.ifs [48] y3_1 (.cl 53 (K7 n a1 a2) aN8 aK2 λx23=>.ret ((x23.1:aB),x23.2)) (.bB 57 (decide (a2.Kind=10)) λx24=>.ifs [57] x24 (.cl 60 (LP a1 a2) aFZ aR9 λx25=>.ret ((x25.1:aB),x25.2)) (.ret ((a1:aB),1))))))))))))
def I9 (n:Nat) (a1:aB) (a2:bJ):Option (aB×Int):=(TR n a1 a2).run
theorem aQK {n a1 a2 r} (h0:I9 n a1 a2=some r):PP Tryz.prog 62 [.agg (aB.av a1),.agg (bJ.av a2)] (λy=>y=.bD [.agg (aB.av r.1),int r.2]) :=
 bY mixed aA (λr:aB×Int=>.bD [.agg (aB.av r.1),int r.2]) h0 Tryz.func62 (λr=>.bD (gK ((λ(a:aB)=>PV.agg (aB.dR a)) (r.1)) (bQ (r.2)))) 100000 au
def XN (n:Nat) (a1:aB) (a2:bJ):WT Tryz.prog (.b (aB×Int)) :=
 .al 1<|.al 2<|.al 3<|.cl 9 (xH n a2) RL PG λx6=>.bB 10 (!x6) λx7=>.ifs [10] x7 (.ret ((a1:aB),1)) (.cl 15 (I9 n a1 a2) aKZ aQK λx8=>.al 4<|.bB 19 (decide (x8.2≠0)) λx10=>.ifs [19] x10 (.ret ((a1:aB),x8.2)) (.bI 24 (bE (x8.1.Done+1)) λx11=>.bl (if 288230376151711744<x11 then 288230376151711744 else x11:Int) λx12=>.gv 25<|.ret (((⟨x8.1.bF,x8.1.bA,x8.1.bX,x8.1.dS,x8.1.dH,x12⟩:aB):aB),0)))
def JQ (n:Nat) (a1:aB) (a2:bJ):Option (aB×Int):=(XN n a1 a2).run
theorem aM5 {n a1 a2 r} (h0:JQ n a1 a2=some r):PP Tryz.prog 28 [.agg (aB.av a1),.agg (bJ.av a2)] (λy=>y=.bD [.agg (aB.av r.1),int r.2]) :=
 bY mixed aA (λr:aB×Int=>.bD [.agg (aB.av r.1),int r.2]) h0 Tryz.func28 (λr=>.bD (gK ((λ(a:aB)=>PV.agg (aB.dR a)) (r.1)) (bQ (r.2)))) 100000 au
def Y7 (n:Nat) (a1:aB) (a2:bJ):WT Tryz.prog (.b (aB×Int)) :=
 .al 1<|.al 2<|.al 3<|.cl 9 (xH n a2) RL PG λx6=>.bB 10 (!x6) λx7=>.ifs [10] x7 (.ret ((a1:aB),1)) (.al 4<|.fH 1 [2,4,5,6] [1,3] [] (λ_ (a:Int×aB)=>[(7,int a.1)]) (λ_ a=>[.kp 4 [(aB.av a.2)]]) (.bB 21 (decide (a2.Kind=14)) λx9=>.ifs [21] x9 (.cl 26 (JK n a1 a2.E) aI0 aLQ λx10=>.brk ((x10.2:Int),x10.1)) (.bB 30 (decide (a2.Kind=15)) λx11=>.ifs [30] x11 (.cl 35 (MP n a1 a2.E) aPJ aLA λx12=>.brk ((x12.2:Int),x12.1)) (.bB 39 (decide (a2.Kind=16)) λx13=>.ifs [39] x13 (.cl 44 (L6 n a1 a2.E) aHQ aOZ λx14=>.brk ((x14.2:Int),x14.1)) (.cl 17 (JQ n a1 a2) aTC aM5 λx15=>.esc (.ret ((x15.1:aB),x15.2)))))) (pw λy0_1 y0_2=>.bB 48 (decide (y0_1≠0)) λx16=>.ifs [48] x16 (.ret ((a1:aB),y0_1)) (.bI 53 (bE (y0_2.Done+1)) λx17=>.ret (((⟨y0_2.bF,y0_2.bA,y0_2.bX,y0_2.dS,y0_2.dH,x17⟩:aB):aB),0))))
def K5 (n:Nat) (a1:aB) (a2:bJ):Option (aB×Int):=(Y7 n a1 a2).run
theorem aO2 {n a1 a2 r} (h0:K5 n a1 a2=some r):PP Tryz.prog 12 [.agg (aB.av a1),.agg (bJ.av a2)] (λy=>y=.bD [.agg (aB.av r.1),int r.2]) :=
 bY mixed aA (λr:aB×Int=>.bD [.agg (aB.av r.1),int r.2]) h0 Tryz.func12 (λr=>.bD (gK ((λ(a:aB)=>PV.agg (aB.dR a)) (r.1)) (bQ (r.2)))) 100000 au
def aAI (n:Nat) (a1:fM) (a2:List Int):WT Tryz.prog (.b (aB)) :=
 .al 1<|.al 2<|.cl 11 (BK n a1) WC aBB λx5=>.al 3<|.cl 16 (J4 n a1 a2) aOI aU5 λx7=>.jn 1 [4,5] [2] [] (λ_ (a:aB)=>[]) (λ_ a=>[.kp 3 [(aB.av a)]]) (.lp [4,5,7] [2] [] (λ_ (a:Int×aB)=>[(8,int a.1)]) (λ_ a=>[.kp 3 [(aB.av a.2)]]) n ((0:Int),x5.1) (pw λy0_1 y0_2=>.ln 19 bJ.av x7<|.bB 20 (decide (y0_1<(x7.length:Int))) λx8=>.ifs [20] x8 (.dr [(0,[3])] [(9,[])] [3] [9] [0,1,2,3,4,5,6,7,8,9] (.ix 27 bJ.av x7 y0_1 λx9=>.cl 29 (K5 n y0_2 x9) aHN aO2 λx10=>.bI 22 (bE (y0_1+1)) λx11=>.brk ((x11:Int),x10.1))) (.esc (.ret y0_2)))) (λy1_1=>.ret ((y1_1:aB)))
def JP (n:Nat) (a1:fM) (a2:List Int):Option (aB):=(aAI n a1 a2).run
theorem aSO {n a1 a2 r} (h0:JP n a1 a2=some r):PP Tryz.prog 6 [.agg (fM.av a1),aH 1 fI a2] (λy=>y=.agg (aB.av r)) :=
 bY mixed aA (λr:aB=>.agg (aB.av r)) h0 Tryz.func6 (λr=>(λ(a:aB)=>PV.agg (aB.dR a)) r) 100000 au
def U6 (a1:bJ) (a2:Int):WT Tryz.prog (.b (bJ)) :=
 .al 1<|.al 2<|.cl 8 (zI a2 1073741824) IA MX λx5=>.gv 9<|.bI 11 (bE (x5.tdiv 16)) λx6=>.bI 12 (x6.tmod 12) λx7=>.bo (ix ([0,(-1),1,2,5,40,1073741824,1125899906842624,1125899906842625,(-9223372036854775808),9223372036854775807,3]:List Int) x7) λx8=>.gv 13<|.bI 15 (x5.tmod 16) λx9=>.bB 17 (decide (x9=0)) λx10=>.ifs [17] x10 (.ret (((⟨x8,a1.E,a1.Item,a1.Loc,a1.To,a1.aT,a1.bM,a1.Ref,a1.fG⟩:bJ):bJ))) (.bB 21 (decide (x9=1)) λx11=>.ifs [21] x11 (.ret (((⟨a1.Kind,x8,a1.Item,a1.Loc,a1.To,a1.aT,a1.bM,a1.Ref,a1.fG⟩:bJ):bJ))) (.bB 25 (decide (x9=2)) λx12=>.ifs [25] x12 (.ret (((⟨a1.Kind,a1.E,x8,a1.Loc,a1.To,a1.aT,a1.bM,a1.Ref,a1.fG⟩:bJ):bJ))) (.bB 29 (decide (x9=3)) λx13=>.ifs [29] x13 (.ret (((⟨a1.Kind,a1.E,a1.Item,x8,a1.To,a1.aT,a1.bM,a1.Ref,a1.fG⟩:bJ):bJ))) (.bB 33 (decide (x9=4)) λx14=>.ifs [33] x14 (.ret (((⟨a1.Kind,a1.E,a1.Item,a1.Loc,x8,a1.aT,a1.bM,a1.Ref,a1.fG⟩:bJ):bJ))) (.bB 37 (decide (x9=5)) λx15=>.ifs [37] x15 (.ret (((⟨a1.Kind,a1.E,a1.Item,a1.Loc,a1.To,x8,a1.bM,a1.Ref,a1.fG⟩:bJ):bJ))) (.bB 41 (decide (x9=6)) λx16=>.ifs [41] x16 (.ret (((⟨a1.Kind,a1.E,a1.Item,a1.Loc,a1.To,a1.aT,x8,a1.Ref,a1.fG⟩:bJ):bJ))) (.bB 45 (decide (x9=7)) λx17=>.ifs [45] x17 (.ret (((⟨a1.Kind,a1.E,a1.Item,a1.Loc,a1.To,a1.aT,a1.bM,x8,a1.fG⟩:bJ):bJ))) (.bB 49 (decide (x9=8)) λx18=>.ifs [49] x18 (.as (a1.fG.length<=68719476736) inferInstance<|.ge 52 3<|.to 54 (aH 1 fI ([x8]:List Int))<|.bl (a1.fG++([x8]:List Int):List Int) λx21=>.as (x21.length<=68719476736) inferInstance<|.ge 55 0<|.ret (((⟨a1.Kind,a1.E,a1.Item,a1.Loc,a1.To,a1.aT,a1.bM,a1.Ref,x21⟩:bJ):bJ))) (.ret ((a1:bJ)))))))))))
def JO (a1:bJ) (a2:Int):Option (bJ):=(U6 a1 a2).run
theorem aIX {a1:bJ} {a2:Int} {r:bJ} (h0:JO a1 a2=some r):PP Tryz.prog 17 [.agg (bJ.av a1),int a2] (λy=>y=.agg (bJ.av r)):=by
 refine bY mixed aA (λ(r:bJ)=>.agg (bJ.av r)) h0 Tryz.func17 (λr=>(λ(a:bJ)=>PV.agg (bJ.dR a)) r) 100000 ?_
 intro v3
 intro v4
 refine .mk λx5 e5=>?_
 refine .mk _ (fK (GX (cs:=[int 0,int (-1),int 1,int 2,int 5,int 40,int 1073741824,int 1125899906842624,int 1125899906842625,int (-9223372036854775808),int 9223372036854775807,int 3]) (ps:=[(0,_),(1,_),(2,_),(3,_),(4,_),(5,_),(6,_),(7,_),(8,_),(9,_),(10,_),(11,_)]) rfl Tryz.underlying82 dM z82 rfl (.cons rfl (.cons rfl (.cons rfl (.cons rfl (.cons rfl (.cons rfl (.cons rfl (.cons rfl (.cons rfl (.cons rfl (.cons rfl (.cons rfl .nil)))))))))))) (by kernel_rfl))) ?_
 refine .mk λx6=>?_
 refine .mk λx7=>?_
 refine .mk λx8 e8=>?_
 refine .mk _ (fK (XH (g:=fI) (l:=([0,(-1),1,2,5,40,1073741824,1125899906842624,1125899906842625,(-9223372036854775808),9223372036854775807,3]:List Int)) (v:=x8) (w:=int x8) rfl Tryz.underlying82 dM rfl rfl rfl e8 (λ_=>rfl) hw1)) ?_
 refine .mk λx9=>?_
 refine .mk λx10=>?_
 refine .mk .mk ?_
 refine .mk λx11=>?_
 refine .mk .mk ?_
 refine .mk λx12=>?_
 refine .mk .mk ?_
 refine .mk λx13=>?_
 refine .mk .mk ?_
 refine .mk λx14=>?_
 refine .mk .mk ?_
 refine .mk λx15=>?_
 refine .mk .mk ?_
 refine .mk λx16=>?_
 refine .mk .mk ?_
 refine .mk λx17=>?_
 refine .mk .mk ?_
 refine .mk λx18=>?_
 refine .mk ?_ ?_
 refine .mk λp19=>?_
 refine .mk _ ⟨λ_=>nU (g:=fI) (m:=a1.fG) 3 rfl Tryz.underlying22 kC nK rfl rfl rfl rfl (.refl _) (λ_=>rfl) p19,λ_ _ _=>trivial⟩ ?_
 rintro _ _ ⟨v20,rfl,rfl⟩
 refine .mk (fK (fT (y:=aH 1 fI ([x8]:List Int)) (jP (ps:=[(0,_)]) (rows:=[[int x8]]) rfl Tryz.underlying22 kC (.cons rfl .nil) (by kernel_rfl) rfl rfl rfl) rfl)) ?_
 refine .mk λx21 e21=>?_
 refine .mk λp22=>?_
 refine .mk _ ⟨λ_=>lV (g:=fI) (l:=a1.fG) (m:=([x8]:List Int)) .any rfl Tryz.underlying22 kC nK rfl rfl rfl rfl rfl rfl rfl rfl rfl rfl (Eq.symm rfl) (.refl _) (λ_=>rfl) e21 p22,λ_ _ _=>trivial⟩ ?_
 rintro _ _ ⟨v23,-,rfl,rfl⟩
 exact .mk (dG.agg (.cons (.refl _) (.cons (.refl _) (.cons (.refl _) (.cons (.refl _) (.cons (.refl _) (.cons (.refl _) (.cons (.refl _) (.cons (.refl _) (.cons (gY rfl rfl rfl rfl rfl (Eq.symm rfl)) .nil))))))))))
 exact .mk
def aBN (n:Nat) (a1:fM) (a2:Int) (a3:Int):WT Tryz.prog (.b (bJ)) :=
 .al 1<|.al 2<|.gv 12<|.al 3<|.cl 14 (zI a2 1099511627776) IA MX λx7=>.cl 17 (CG a1 x7) NR QD λx8=>.al 4<|.fH 1 [6,9] [2] [] (λ_ (a:bJ)=>[]) (λ_ a=>[.kp 4 [(bJ.av a)]]) (.lp [2,3,6,7,8,9] [1,2,3] [] (λ_ (a:Int×bJ)=>[(10,int a.1)]) (λ_ a=>[.kp 4 [(bJ.av a.2)]]) n ((0:Int),x8) (pw λy0_1 y0_2=>.bB 19 (decide (y0_1<64)) λx10=>.ifs [19] x10 (.fH 1 [2,3,6,7,8,9,10] [1,2,3] [] (λ_ (a:bJ)=>[]) (λ_ a=>[.kp 4 [(bJ.av a)]]) (.fH 2 [2,3,6,7,8,9,10] [1,2,3,4] [] (λ_ (a:Unit)=>[]) (λ_ _=>[]) (.lp [2,3,6,7,8,9,10] [1,2,3,4] [] (λ_ (a:Int)=>[(11,int a)]) (λ_ _=>[]) n 0 (λy1_1=>.bB 23 (decide (y1_1<1)) λx11=>.ifs [23] x11 (.jn 2 [2,3,6,7,8,9,10,11] [1,2,3,4] [] (λ_ (a:Bool)=>[(46,aZ a)]) (λ_ _=>[]) (.dr [(0,[4]),(1,[4]),(3,[3]),(4,[3]),(11,[3]),(12,[3]),(16,[3]),(17,[3])] [] [3,4] [] [0,1,2,3,4,5,6,7,8,9,10,11,12,13,14,15,16,17,18,19,20] (.as ((0:Int)<=y1_1/\y1_1<1) inferInstance<|.bo (ix ([1]:List Int) y1_1) λx13=>.gv 29<|.gv 30<|.bB 31 (decide (y0_2.Kind=x13)) λx14=>.ifs [31] x14 (.bB 34 (decide (y0_1>31)) λx15=>.ifs [34] x15 (.ret true) (.as ((0:Int)<=y1_1/\y1_1<1) inferInstance<|.gv 37<|.gv 38<|.bI 40 (bE (x7.tdiv 32)) λx17=>.bI 41 (x17.tmod 1) λx18=>.as ((0:Int)<=x18/\x18<1) inferInstance<|.bo (ix ([1]:List Int) x18) λx20=>.gv 42<|.gv 43<|.bB 44 (decide (x13=x20)) λx21=>.ret x21)) (.ret false))) (λy2_1=>.ifs [46] y2_1 (.cl 49 (JO y0_2 a3) aRX aIX λx22=>.esc (.esc (.esc (.esc (.esc (.ret ((x22:bJ)))))))) (.bI 25 (bE (y1_1+1)) λx23=>.brk x23))) (.esc (.brk ())))) (λ_=>.bI 52 (bE (x7.tdiv 32)) λx24=>.bI 53 (bE (x24*32)) λx25=>.bI 56 (bE (x7+y0_1)) λx26=>.bI 57 (bE (x26+1)) λx27=>.bI 58 (x27.tmod 32) λx28=>.bI 59 (bE (x25+x28)) λx29=>.cl 60 (CG a1 x29) NR QD λx30=>.brk x30)) (λy4_1=>.bI 21 (bE (y0_1+1)) λx31=>.brk ((x31:Int),y4_1))) (.esc (.brk y0_2)))) (λy5_1=>.ret ((y5_1:bJ)))
def J9 (n:Nat) (a1:fM) (a2:Int) (a3:Int):Option (bJ):=(aBN n a1 a2 a3).run
theorem aH5 {n:Nat} {a1:fM} {a2:Int} {a3:Int} {r:bJ} (h0:J9 n a1 a2 a3=some r):PP Tryz.prog 7 [.agg (fM.av a1),int a2,int a3] (λy=>y=.agg (bJ.av r)):=by
 refine bY mixed aA (λ(r:bJ)=>.agg (bJ.av r)) h0 Tryz.func7 (λr=>(λ(a:bJ)=>PV.agg (bJ.dR a)) r) 100000 ?_
 intro v4
 intro v5
 refine .mk _ (fK (GX (cs:=[int 1]) (ps:=[(0,_)]) rfl Tryz.underlying50 dM z50 rfl (.cons rfl .nil) (by kernel_rfl))) ?_
 intro v6
 refine .mk λx7 e7=>?_
 refine .mk λx8 e8=>?_
 intro v9
 refine .mk ?_ ?_
 refine .mk ?_
 intro _ _
 refine .mk λx10=>?_
 refine .mk ?_ ?_
 refine .mk ?_ ?_
 refine .mk ?_ ?_
 refine .mk ?_
 intro _ _
 refine .mk λx11=>?_
 refine .mk ?_ ?_
 refine .mk ?_ ?_
 refine .mk ?_
 refine .mk λwN=>?_
 refine .mk λx13 e13=>?_
 refine .mk _ (λH hH _=>xB rfl Tryz.underlying50 dM rfl rfl ((hH _ (by decide)).trans rfl) rfl rfl wN) ?_
 refine .mk _ (λH hH _=>AI rfl dM rfl ((hH _ (by decide)).trans rfl) rfl rfl e13) ?_
 refine .mk λx14=>?_
 refine .mk ?_ ?_
 refine .mk λx15=>?_
 refine .mk .mk ?_
 refine .mk λp16=>?_
 refine .mk _ (λH hH _=>xB rfl Tryz.underlying50 dM rfl rfl ((hH _ (by decide)).trans rfl) rfl rfl p16) ?_
 refine .mk _ (λH hH _=>AI rfl dM rfl ((hH _ (by decide)).trans rfl) rfl rfl e13) ?_
 refine .mk λx17=>?_
 refine .mk λx18=>?_
 refine .mk λp19=>?_
 refine .mk λx20 e20=>?_
 refine .mk _ (λH hH _=>xB rfl Tryz.underlying50 dM rfl rfl ((hH _ (by decide)).trans rfl) rfl rfl p19) ?_
 refine .mk _ (λH hH _=>AI rfl dM rfl ((hH _ (by decide)).trans rfl) rfl rfl e20) ?_
 refine .mk λx21=>?_
 exact .mk
 exact .mk
 intro _ _
 refine .mk ?_ ?_
 refine .mk λx22 e22=>?_
 exact .mk
 refine .mk λx23=>?_
 exact .mk
 exact .mk
 intro _ _
 refine .mk λx24=>?_
 refine .mk λx25=>?_
 refine .mk λx26=>?_
 refine .mk λx27=>?_
 refine .mk λx28=>?_
 refine .mk λx29=>?_
 refine .mk λx30 e30=>?_
 exact .mk
 intro _ _
 refine .mk λx31=>?_
 exact .mk
 exact .mk
 intro _ _
 exact .mk
def aJA (n:Nat) :WT Tryz.prog (.b (aB)) :=
 .al 1<|.to 5 (aH 1 fI ([1,2,3,0]:List Int))<|.al 2<|.jn 1 [0,1] [1] [5,6] (λ_ (a:(List (List Int))×(List (List Int)))=>[]) (λu2 a=>[.kp 2 [[int 2,int 3,aH 1 fI ([1,2,3,0]:List Int),.sl 5 (u2 5) 0 a.1.length,.sl 6 (u2 6) 0 a.2.length]],.nw 5 22 1 (a.1.map (fL 1 fI)),.nw 6 22 1 (a.2.map (fL 1 fI))]) (.nc 2 0 3 5 22 1<|.nc 2 0 4 6 22 1<|.lp [0,1] [1] [5,6] (λ_ (a:Int×(List (List Int))×(List (List Int)))=>[(2,int a.1)]) (λu3 a=>[.kp 2 [[int 2,int 3,aH 1 fI ([1,2,3,0]:List Int),.sl 5 (u3 5) 0 a.2.1.length,.sl 6 (u3 6) 0 a.2.2.length]],.nw 5 22 1 (a.2.1.map (fL 1 fI)),.nw 6 22 1 (a.2.2.map (fL 1 fI))]) n ((0:Int),(([]:List (List Int)):List (List Int)),(([]:List (List Int)):List (List Int))) (pw λy0_1 q0=>(pw λy0_4 y0_5=>.bB 8 (decide (y0_1<2)) λx5=>.ifs [8] x5 (.dr [(0,[2]),(1,[2]),(5,[2]),(6,[2]),(10,[2]),(12,[2])] [(11,[]),(13,[])] [2] [4,9,11,13] [0,1,2,3,5,6,7,8,4,10,9,11,12,13] (.to 13 (aH 1 fI ([1,2,3,4]:List Int))<|.to 14 (aH 1 (fL 1 fI) ([([1,2,3,4]:List Int)]:List (List Int)))<|.to 18 (aH 1 fI ([10,10,10,10]:List Int))<|.to 19 (aH 1 (fL 1 fI) ([([10,10,10,10]:List Int)]:List (List Int)))<|.bl (y0_4++([([1,2,3,4]:List Int)]:List (List Int)):List (List Int)) λx6=>.as (x6.length<=68719476736) inferInstance<|.ge 15 0<|.bl (y0_5++([([10,10,10,10]:List Int)]:List (List Int)):List (List Int)) λx9=>.as (x9.length<=68719476736) inferInstance<|.ge 20 0<|.bI 10 (bE (y0_1+1)) λx12=>.brk ((x12:Int),(x6:List (List Int)),(x9:List (List Int))))) (.esc (.ret ((y0_4:List (List Int)),(y0_5:List (List Int)))))) q0)) (pw λy1_3 y1_4=>.kS 5<|.kS 6<|.cl 25 (BK n (⟨2,3,([1,2,3,0]:List Int),y1_3,y1_4⟩:fM)) WC aBB λx13=>.al 7<|.ret ((x13.1:aB)))
def OQ (n:Nat) :Option (aB):=(aJA n ).run
theorem V7 {n r} (h0:OQ n =some r):PP Tryz.prog 21 [] (λy=>y=.agg (aB.av r)) :=
 bY mixed aA (λr:aB=>.agg (aB.av r)) h0 Tryz.func21 (λr=>(λ(a:aB)=>PV.agg (aB.dR a)) r) 100000 au
def TO (a1:aB) (a2:Int) (a3:Int):WT Tryz.prog (.b (Bool)) :=
 .al 1<|.jn 0 [1,3,6] [1] [] (λ_ (a:Bool)=>[(29,aZ a)]) (λ_ _=>[]) (.bB 10 (decide (a2<0)) λx5=>.ifs [10] x5 (.ret true) (.ln 15 aP.av a1.bA<|.bB 16 (decide (a2>=(a1.bA.length:Int))) λx6=>.ifs [16] x6 (.ret true) (.bB 20 (decide (a3<0)) λx7=>.ifs [20] x7 (.ret true) (.ln 27 fI a1.bF.bW<|.bB 28 (decide (a3>=(a1.bF.bW.length:Int))) λx8=>.ret x8)))) (λy0_1=>.ifs [29] y0_1 (.ret ((false:Bool))) (.dr [(0,[1]),(1,[1]),(5,[1]),(6,[1]),(7,[1])] [] [1] [9,10] [0,1,2,3,4,5,6,7,8,9,10,11] (.jC 33 aP.av gE aP.fB a1.bA a2 λx9=>.ln 38 fI a1.bF.bW<|.al 2<|.jn 0 [] [] [] (λ_ (a:Bool)=>[(6,aZ a)]) (λ_ _=>[]) (.ln 41 aS.av x9.bR<|.bI 43 (bE ((a1.bF.bW.length:Int)*2)) λx11=>.bB 44 (decide ((x9.bR.length:Int)>=x11)) λx12=>.ifs [44] x12 (.ln 48 cB.av x9.dJ<|.bB 50 (decide ((x9.dJ.length:Int)>=(a1.bF.bW.length:Int))) λx13=>.ifs [50] x13 (.ln 57 (fL 1 fI) a1.bF.Methods<|.bB 58 (decide (a2<(a1.bF.Methods.length:Int))) λx14=>.ifs [58] x14 (.ln 65 (fL 1 fI) a1.bF.gX<|.bB 66 (decide (a2<(a1.bF.gX.length:Int))) λx15=>.ifs [66] x15 (.ix 73 (fL 1 fI) a1.bF.Methods a2 λx16=>.ln 75 fI x16<|.bB 77 (decide ((x16.length:Int)>=(a1.bF.bW.length:Int))) λx17=>.ifs [77] x17 (.ix 84 (fL 1 fI) a1.bF.gX a2 λx18=>.ln 86 fI x18<|.bB 88 (decide ((x18.length:Int)>=(a1.bF.bW.length:Int))) λx19=>.ret x19) (.ret false)) (.ret false)) (.ret false)) (.ret false)) (.ret false)) (λy1_1=>.ret ((y1_1:Bool))))))
def AO (a1:aB) (a2:Int) (a3:Int):Option (Bool):=(TO a1 a2 a3).run
theorem QO {a1 a2 a3 r} (h0:AO a1 a2 a3=some r):PP Tryz.prog 63 [.agg (aB.av a1),int a2,int a3] (λy=>y=aZ r) :=
 bY mixed aA (λr:Bool=>aZ r) h0 Tryz.func63 (λr=>gT r) 100000 au
def aBI (a1:aB) (a2:Int) (a3:Int):WT Tryz.prog (.b (Int)) :=
 .al 1<|.cl 11 (AO a1 a2 a3) NL QO λx5=>.bB 12 (!x5) λx6=>.ifs [12] x6 (.ret ((4:Int))) (.jC 17 aP.av gE aP.fB a1.bA a2 λx7=>.wt 13 <|.ifs [13] x7.Closed (.ret ((7:Int))) (.ret ((0:Int))))
def NF (a1:aB) (a2:Int) (a3:Int):Option (Int):=(aBI a1 a2 a3).run
theorem aLS {a1 a2 a3 r} (h0:NF a1 a2 a3=some r):PP Tryz.prog 30 [.agg (aB.av a1),int a2,int a3] (λy=>y=int r) :=
 bY mixed aA (λr:Int=>int r) h0 Tryz.func30 (λr=>bQ r) 100000 au
def aCB (a1:Int) (a2:Int) (a3:Int):WT Tryz.prog (.b (Bool)) :=
 .jn 1 [] [] [] (λ_ (a:Bool)=>[(6,aZ a)]) (λ_ _=>[]) (.bB 9 (decide (a1>=a2)) λx4=>.ifs [9] x4 (.bB 13 (decide (a1<=a3)) λx5=>.ret x5) (.ret false)) (λy0_1=>.ret ((y0_1:Bool)))
def JS (a1:Int) (a2:Int) (a3:Int):Option (Bool):=(aCB a1 a2 a3).run
theorem aTW {a1 a2 a3 r} (h0:JS a1 a2 a3=some r):PP Tryz.prog 106 [int a1,int a2,int a3] (λy=>y=aZ r) :=
 bY mixed aA (λr:Bool=>aZ r) h0 Tryz.func106 (λr=>gT r) 100000 au
def VU (a1:aB) (a2:Int) (a3:Int) (a4:Int):WT Tryz.prog (.b (Int)) :=
 .al 1<|.jn 0 [2,3,8] [] [] (λ_ (a:Bool)=>[(18,aZ a)]) (λ_ _=>[]) (.cl 12 (AO a1 a2 a3) NL QO λx6=>.bB 13 (!x6) λx7=>.ifs [13] x7 (.ret true) (.cl 16 (JS a4 0 1) aSS aTW λx8=>.bB 17 (!x8) λx9=>.ret x9)) (λy0_1=>.ifs [18] y0_1 (.ret (((-1):Int))) (.bI 20 (bE (a3*2)) λx10=>.bI 22 (bE (x10+a4)) λx11=>.ret ((x11:Int))))
def E4 (a1:aB) (a2:Int) (a3:Int) (a4:Int):Option (Int):=(VU a1 a2 a3 a4).run
theorem YE {a1 a2 a3 a4 r} (h0:E4 a1 a2 a3 a4=some r):PP Tryz.prog 64 [.agg (aB.av a1),int a2,int a3,int a4] (λy=>y=int r) :=
 bY mixed aA (λr:Int=>int r) h0 Tryz.func64 (λr=>bQ r) 100000 au
def aRE (a1:aS) (a2:List aF):WT Tryz.prog (.b (aS)) :=
 .al 1<|.al 2<|.ret (((⟨a2,a1.bC⟩:aS):aS))
def GB (a1:aS) (a2:List aF):Option (aS):=(aRE a1 a2).run
theorem PM {a1 a2 r} (h0:GB a1 a2=some r):PP Tryz.prog 155 [.agg (aS.av a1),aH 3 aF.av a2] (λy=>y=.agg (aS.av r)) :=
 bY mixed aA (λr:aS=>.agg (aS.av r)) h0 Tryz.func155 (λr=>(λ(a:aS)=>PV.agg (aS.dR a)) r) 100000 au
def XD (a1:aS):WT Tryz.prog (.b (aS)) :=
 .al 1<|.al 2<|.dr [(0,[1]),(1,[1]),(2,[1])] [(4,[]),(5,[])] [1] [3,4,5] [0,1,2,3,4,5] (.as (a1.aI.length<=68719476736) inferInstance<|.ge 6 3<|.inl 7 I6 Tryz.func155 [1,2,3] [] (λu2 (a:Unit)=>.agg [.sl 3 (u2 3) 0 a1.aI.length,int a1.bC.a0,int a1.bC.a1,int a1.bC.a2]) (λ_ _=>[]) (.al 4<|.al 5<|.ret ()) (λ_=>.ret ((a1:aS))))
def yC (a1:aS):Option (aS):=(XD a1).run
theorem D9 {a1:aS} {r:aS} (h0:yC a1=some r):PP Tryz.prog 108 [.agg (aS.av a1)] (λy=>y=.agg (aS.av r)):=by
 refine bY mixed aA (λ(r:aS)=>.agg (aS.av r)) h0 Tryz.func108 (λr=>(λ(a:aS)=>PV.agg (aS.dR a)) r) 100000 ?_
 intro v2
 intro v3
 refine .mk ?_
 refine .mk λp4=>?_
 refine .mk _ ⟨λ_=>nC rfl rfl (.cons rfl .nil) E7 (qB (GD (id:=3) (l:=a1.aI) rfl p4) (.cons (.refl _) .nil)),by rintro _ _ ⟨v5,rfl,rfl⟩;exact ⟨rfl,trivial⟩⟩ ?_
 rintro _ _ ⟨v5,rfl,rfl⟩
 refine .mk ?_ ?_
 intro v6
 intro v7
 exact .mk
 intro _ _
 refine .mk trivial ?_
 exact .mk (dG.agg (.cons (gY rfl rfl rfl rfl rfl (Eq.symm rfl)) (.cons (.refl _) (.cons (.refl _) (.cons (.refl _) .nil)))))
def VK (a1:Int):WT Tryz.prog (.b (Bool)) :=
 .jn 1 [] [] [] (λ_ (a:Bool)=>[(2,aZ a)]) (λ_ _=>[]) (.bB 4 (decide (a1>=0)) λx2=>.ifs [4] x2 (.bB 7 (decide (a1<=1073741824)) λx3=>.ret x3) (.ret false)) (λy0_1=>.ret ((y0_1:Bool)))
def M7 (a1:Int):Option (Bool):=(VK a1).run
theorem aMZ {a1 r} (h0:M7 a1=some r):PP Tryz.prog 233 [int a1] (λy=>y=aZ r) :=
 bY mixed aA (λr:Bool=>aZ r) h0 Tryz.func233 (λr=>gT r) 100000 au
def E6 (a1:Int) (a2:Int):Option (Int×Int) :=
bnd (wu64 a1) λx3 =>
bnd (wu64 a2) λx4 =>
bnd (x3.tmod 4294967296) λx5 =>
bnd (x4.tmod 4294967296) λx6 =>
bnd (wu64 (x5*x6)) λx7 =>
bnd (wu64 (x3.tdiv 4294967296)) λx8 =>
bnd (x4.tmod 4294967296) λx9 =>
bnd (wu64 (x8*x9)) λx10 =>
bnd (x3.tmod 4294967296) λx11 =>
bnd (wu64 (x4.tdiv 4294967296)) λx12 =>
bnd (wu64 (x11*x12)) λx13 =>
bnd (wu64 (x3.tdiv 4294967296)) λx14 =>
bnd (wu64 (x4.tdiv 4294967296)) λx15 =>
bnd (wu64 (x14*x15)) λx16 =>
bnd (wu64 (x7.tdiv 4294967296)) λx18 =>
bnd (x10.tmod 4294967296) λx19 =>
bnd (wu64 (x18+x19)) λx20 =>
bnd (x13.tmod 4294967296) λx21 =>
bnd (wu64 (x20+x21)) λx22 =>
bnd (wu64 (x10.tdiv 4294967296)) λx23 =>
bnd (wu64 (x16+x23)) λx24 =>
bnd (wu64 (x13.tdiv 4294967296)) λx25 =>
bnd (wu64 (x24+x25)) λx26 =>
bnd (wu64 (x22.tdiv 4294967296)) λx27 =>
bnd (wu64 (x26+x27)) λx28 =>
bnd (wu64 (x3*x4)) λx29 =>
some ((x28:Int),(x29:Int))
theorem aRL {a1:Int} {a2:Int} {r:Int×Int} (h0:E6 a1 a2=some r):PP Tryz.prog 222 [int a1,int a2] (λy=>y=.bD [.sc (.int .u64 r.1),.sc (.int .u64 r.2)]):=by
  unfold E6 at h0
  refine oN (R0:=λy H=>Cv (lH H) y (.bD [.sc (.int .u64 r.1),.sc (.int .u64 r.2)])) ?_ (λy H hc=>⟨_,rfl,.bD (gK ((B6 .u64) (r.1)) ((B6 .u64) (r.2))),hc⟩)
  refine lN (c:=_) Tryz.func222 rfl rfl ?_;intro Q hret hnorm
  refine tc aA 8 (.mk ?_)
  refine ni aA h0 λx3 h0=>?_
  refine tr aA 1 (.mk ?_)
  refine ni aA h0 λx4 h0=>?_
  refine tr aA 6 (.mk ?_)
  refine ni aA h0 λx5 h0=>?_
  refine tr aA 1 (.mk ?_)
  refine ni aA h0 λx6 h0=>?_
  refine ni aA h0 λx7 h0=>?_
  refine tr aA 1 (.mk ?_)
  refine ni aA h0 λx8 h0=>?_
  refine tr aA 1 (.mk ?_)
  refine ni aA h0 λx9 h0=>?_
  refine ni aA h0 λx10 h0=>?_
  refine tr aA 1 (.mk ?_)
  refine ni aA h0 λx11 h0=>?_
  refine tr aA 1 (.mk ?_)
  refine ni aA h0 λx12 h0=>?_
  refine ni aA h0 λx13 h0=>?_
  refine tr aA 1 (.mk ?_)
  refine ni aA h0 λx14 h0=>?_
  refine tr aA 1 (.mk ?_)
  refine ni aA h0 λx15 h0=>?_
  refine ni aA h0 λx16 h0=>?_
  refine sY (GX (cs:=[.sc (.int .u64 x7),.sc (.int .u64 x10),.sc (.int .u64 x13),.sc (.int .u64 x16)]) (ps:=[(0,_),(1,_),(2,_),(3,_)]) rfl Tryz.underlying250 zZ aDN rfl (.cons rfl (.cons rfl (.cons rfl (.cons rfl .nil)))) (by kernel_rfl)) ?_
  refine sA 1 aDN λv17=>?_
  refine sS ⟨250,4,true,true,v17,[[.sc (.int .u64 x7),.sc (.int .u64 x10),.sc (.int .u64 x13),.sc (.int .u64 x16)]]⟩ aU8 ?_
  refine tr aA 3 (.mk ?_)
  refine sY (fT (y:=.pt 1 v17 0 0) (iJ rfl Tryz.underlying250 zZ rfl rfl rfl rfl rfl (by decide)) rfl) ?_
  refine tr aA 1 (.mk ?_)
  refine ni aA h0 λx18 h0=>?_
  refine sY (fT (y:=.pt 1 v17 0 1) (iJ rfl Tryz.underlying250 zZ rfl rfl rfl rfl rfl (by decide)) rfl) ?_
  refine tr aA 1 (.mk ?_)
  refine ni aA h0 λx19 h0=>?_
  refine ni aA h0 λx20 h0=>?_
  refine sY (fT (y:=.pt 1 v17 0 2) (iJ rfl Tryz.underlying250 zZ rfl rfl rfl rfl rfl (by decide)) rfl) ?_
  refine tr aA 1 (.mk ?_)
  refine ni aA h0 λx21 h0=>?_
  refine ni aA h0 λx22 h0=>?_
  refine tr aA 4 (.mk ?_)
  refine sY (fT (y:=.pt 1 v17 0 3) (iJ rfl Tryz.underlying250 zZ rfl rfl rfl rfl rfl (by decide)) rfl) ?_
  refine tr aA 1 (.mk ?_)
  refine sY (fT (y:=.pt 1 v17 0 1) (iJ rfl Tryz.underlying250 zZ rfl rfl rfl rfl rfl (by decide)) rfl) ?_
  refine tr aA 1 (.mk ?_)
  refine ni aA h0 λx23 h0=>?_
  refine ni aA h0 λx24 h0=>?_
  refine sY (fT (y:=.pt 1 v17 0 2) (iJ rfl Tryz.underlying250 zZ rfl rfl rfl rfl rfl (by decide)) rfl) ?_
  refine tr aA 1 (.mk ?_)
  refine ni aA h0 λx25 h0=>?_
  refine ni aA h0 λx26 h0=>?_
  refine tr aA 1 (.mk ?_)
  refine ni aA h0 λx27 h0=>?_
  refine ni aA h0 λx28 h0=>?_
  refine tr aA 2 (.mk ?_)
  refine ni aA h0 λx29 h0=>?_
  refine tr aA 3 (.mk ?_)
  obtain rfl:=fV h0
  refine wR hret (rT (rT .nil)) ?_
  exact .refl _
def qY (a1:Int):Option (Int) :=
bnd (decide (a1>=4294967296)) λx2 =>
(show Option (Int×Int) from
cond x2 (bnd (a1.fdiv (2 ^ (min (32:Int).toNat IntKind.u64.bits))) λx4 =>
some ((x4:Int),(32:Int))) (some ((a1:Int),(0:Int)))).bind <| p2 λ(y0_1:Int) (y0_2:Int) =>
bnd (decide (y0_1>=65536)) λx5 =>
(show Option (Int×Int) from
cond x5 (bnd (y0_1.fdiv (2 ^ (min (16:Int).toNat IntKind.u64.bits))) λx7 =>
bnd (bE (y0_2+16)) λx8 =>
some ((x7:Int),(x8:Int))) (some ((y0_1:Int),(y0_2:Int)))).bind <| p2 λ(y1_1:Int) (y1_2:Int) =>
bnd (decide (y1_1>=256)) λx9 =>
(show Option (Int×Int) from
cond x9 (bnd (y1_1.fdiv (2 ^ (min (8:Int).toNat IntKind.u64.bits))) λx11 =>
bnd (bE (y1_2+8)) λx12 =>
some ((x11:Int),(x12:Int))) (some ((y1_1:Int),(y1_2:Int)))).bind <| p2 λ(y2_1:Int) (y2_2:Int) =>
bnd (MY y2_1) λx13 =>
(ix ([0,1,2,2,3,3,3,3,4,4,4,4,4,4,4,4,5,5,5,5,5,5,5,5,5,5,5,5,5,5,5,5,6,6,6,6,6,6,6,6,6,6,6,6,6,6,6,6,6,6,6,6,6,6,6,6,6,6,6,6,6,6,6,6,7,7,7,7,7,7,7,7,7,7,7,7,7,7,7,7,7,7,7,7,7,7,7,7,7,7,7,7,7,7,7,7,7,7,7,7,7,7,7,7,7,7,7,7,7,7,7,7,7,7,7,7,7,7,7,7,7,7,7,7,7,7,7,7,8,8,8,8,8,8,8,8,8,8,8,8,8,8,8,8,8,8,8,8,8,8,8,8,8,8,8,8,8,8,8,8,8,8,8,8,8,8,8,8,8,8,8,8,8,8,8,8,8,8,8,8,8,8,8,8,8,8,8,8,8,8,8,8,8,8,8,8,8,8,8,8,8,8,8,8,8,8,8,8,8,8,8,8,8,8,8,8,8,8,8,8,8,8,8,8,8,8,8,8,8,8,8,8,8,8,8,8,8,8,8,8,8,8,8,8,8,8,8,8,8,8,8,8,8,8,8,8]:List UInt8) x13).bind λx14 =>
bnd (bE (x14.toNat:Int)) λx15 =>
bnd (bE (y2_2+x15)) λx16 =>
some ((x16:Int))
theorem aS6 {a1:Int} {r:Int} (h0:qY a1=some r):PP Tryz.prog 225 [.sc (.int .u64 a1)] (λy=>y=int r):=by
  unfold qY at h0
  refine oN (R0:=λy H=>Cv (lH H) y (int r)) ?_ (λy H hc=>⟨_,rfl,bQ r,hc⟩)
  refine lN (c:=_) Tryz.func225 rfl rfl ?_;intro Q hret hnorm
  refine tc aA 8 (.mk ?_)
  refine nb aA h0 λx2 h0=>?_
  refine tr aA 1 (.mk ?_)
  refine jn h0 [] [] (λ(a:Int×Int) (k:Unit)=>[(0,.sc (.int .u64 a.1)),(2,int a.2)]) (λa k=>[]) ⟨λj3 h1=>?_,?_⟩
  cases x2
  replace h1:=cf h1
  refine tc aA 2 (.mk ?_)
  exact lf h1 () dP
  replace h1:=ct h1
  refine tc aA 4 (.mk ?_)
  refine ni aA h1 λx4 h1=>?_
  refine tr aA 5 (.mk ?_)
  exact lf h1 () dP
  rintro ⟨y0_1,y0_2⟩ _ h0
  replace h0:=mZ h0
  refine tc aA 4 (.mk ?_)
  refine nb aA h0 λx5 h0=>?_
  refine tr aA 1 (.mk ?_)
  refine jn h0 [] [] (λ(a:Int×Int) (k:Unit)=>[(0,.sc (.int .u64 a.1)),(2,int a.2)]) (λa k=>[]) ⟨λj6 h1=>?_,?_⟩
  cases x5
  replace h1:=cf h1
  refine tc aA 2 (.mk ?_)
  exact lf h1 () dP
  replace h1:=ct h1
  refine tc aA 4 (.mk ?_)
  refine ni aA h1 λx7 h1=>?_
  refine tr aA 4 (.mk ?_)
  refine ni aA h1 λx8 h1=>?_
  refine tr aA 2 (.mk ?_)
  exact lf h1 () dP
  rintro ⟨y1_1,y1_2⟩ _ h0
  replace h0:=mZ h0
  refine tc aA 4 (.mk ?_)
  refine nb aA h0 λx9 h0=>?_
  refine tr aA 1 (.mk ?_)
  refine jn h0 [] [] (λ(a:Int×Int) (k:Unit)=>[(0,.sc (.int .u64 a.1)),(2,int a.2)]) (λa k=>[]) ⟨λj10 h1=>?_,?_⟩
  cases x9
  replace h1:=cf h1
  refine tc aA 2 (.mk ?_)
  exact lf h1 () dP
  replace h1:=ct h1
  refine tc aA 4 (.mk ?_)
  refine ni aA h1 λx11 h1=>?_
  refine tr aA 4 (.mk ?_)
  refine ni aA h1 λx12 h1=>?_
  refine tr aA 2 (.mk ?_)
  exact lf h1 () dP
  rintro ⟨y2_1,y2_2⟩ _ h0
  replace h0:=mZ h0
  refine tc aA 4 (.mk ?_)
  refine ni aA h0 λx13 h0=>?_
  obtain ⟨x14,e14,h0⟩:=fE h0
  refine sY (SH rfl Tryz.underlying9 rfl rfl (qT e14).1 (qT e14).2) ?_
  refine ni aA h0 λx15 h0=>?_
  refine ni aA h0 λx16 h0=>?_
  refine tr aA 2 (.mk ?_)
  obtain rfl:=fV h0
  refine wR hret (rT .nil) ?_
  exact .refl _
def D4 (a1:Int):Option (Int) :=
(qY a1).bind λx2 =>
bnd (bE (64-x2)) λx3 =>
some ((x3:Int))
theorem aT7 {a1:Int} {r:Int} (h0:D4 a1=some r):PP Tryz.prog 224 [.sc (.int .u64 a1)] (λy=>y=int r):=by
  unfold D4 at h0
  refine oN (R0:=λy H=>Cv (lH H) y (int r)) ?_ (λy H hc=>⟨_,rfl,bQ r,hc⟩)
  refine lN (c:=_) Tryz.func224 rfl rfl ?_;intro Q hret hnorm
  refine tc aA 7 (.mk ?_)
  obtain ⟨x2,e2,h0⟩:=fE h0
  refine sC aKP (aS6 e2) ?_
  refine ni aA h0 λx3 h0=>?_
  refine tr aA 2 (.mk ?_)
  obtain rfl:=fV h0
  refine wR hret (rT .nil) ?_
  exact .refl _
def yE (x11:Int) (x12:Int) (x21:Int):Nat->Int->Int->Option (Int)
  | 0,_,_=>none
  | n+1,y0_1,y0_2 =>
    (show Option (Bool) from
    bnd (decide (y0_1>=4294967296)) λx29 =>
    cond x29 (some (true:Bool)) (bnd (wu64 (y0_1*x12)) λx30 =>
    bnd (wu64 (4294967296*y0_2)) λx31 =>
    bnd (wu64 (x31+x21)) λx32 =>
    bnd (decide (x30>x32)) λx33 =>
    some (x33:Bool))).bind <| λy1_1 =>
    cond y1_1 (bnd (wu64 (y0_1-1)) λx34 =>
    bnd (wu64 (y0_2+x11)) λx35 =>
    bnd (decide (x35>=4294967296)) λx36 =>
    cond x36 (some (x34:Int)) (yE x11 x12 x21 n (x34:Int) (x35:Int))) (some (y0_1:Int))
def yP (x11:Int) (x12:Int) (x22:Int):Nat->Int->Int->Option (Int)
  | 0,_,_=>none
  | n+1,y3_1,y3_2 =>
    (show Option (Bool) from
    bnd (decide (y3_2>=4294967296)) λx47 =>
    cond x47 (some (true:Bool)) (bnd (wu64 (y3_2*x12)) λx48 =>
    bnd (wu64 (4294967296*y3_1)) λx49 =>
    bnd (wu64 (x49+x22)) λx50 =>
    bnd (decide (x48>x50)) λx51 =>
    some (x51:Bool))).bind <| λy4_1 =>
    cond y4_1 (bnd (wu64 (y3_2-1)) λx52 =>
    bnd (wu64 (y3_1+x11)) λx53 =>
    bnd (decide (x53>=4294967296)) λx54 =>
    cond x54 (some (x52:Int)) (yP x11 x12 x22 n (x53:Int) (x52:Int))) (some (y3_2:Int))
def zB (n:Nat) (a1:Int) (a2:Int) (a3:Int):Option (Int×Int) :=
bnd (decide (a3=0)) λx4 =>
cond x4 (none) (bnd (decide (a3<=a1)) λx5 =>
cond x5 (none) (bnd (decide (a1=0)) λx6 =>
cond x6 (gV (a3≠0)<|
bnd (wu64 (a2.tdiv a3)) λx64 =>
gV (a3≠0)<|
bnd (a2.tmod a3) λx66 =>
some ((x64:Int),(x66:Int))) ((D4 a3).bind λx7 =>
bnd (wu64 x7) λx8 =>
gV ((0:Int)<=x8)<|
bnd (wu64 (a3*(2 ^ (min x8.toNat IntKind.u64.bits)))) λx10 =>
bnd (x10.fdiv (2 ^ (min (32:Int).toNat IntKind.u64.bits))) λx11 =>
bnd (wu64 ((BitVec.ofInt IntKind.u64.bits x10 &&& BitVec.ofInt IntKind.u64.bits 4294967295).toNat:Int)) λx12 =>
gV ((0:Int)<=x8)<|
bnd (wu64 (a1*(2 ^ (min x8.toNat IntKind.u64.bits)))) λx14 =>
bnd (wu64 (64-x8)) λx15 =>
gV ((0:Int)<=x15)<|
bnd (a2.fdiv (2 ^ (min x15.toNat IntKind.u64.bits))) λx17 =>
bnd (wu64 ((BitVec.ofInt IntKind.u64.bits x14 ||| BitVec.ofInt IntKind.u64.bits x17).toNat:Int)) λx18 =>
gV ((0:Int)<=x8)<|
bnd (wu64 (a2*(2 ^ (min x8.toNat IntKind.u64.bits)))) λx20 =>
bnd (x20.fdiv (2 ^ (min (32:Int).toNat IntKind.u64.bits))) λx21 =>
bnd (wu64 ((BitVec.ofInt IntKind.u64.bits x20 &&& BitVec.ofInt IntKind.u64.bits 4294967295).toNat:Int)) λx22 =>
gV (x11≠0)<|
bnd (wu64 (x18.tdiv x11)) λx24 =>
bnd (wu64 (x24*x11)) λx25 =>
bnd (wu64 (x18-x25)) λx26 =>
(show Option (Int) from
yE x11 x12 x21 n (x24:Int) (x26:Int)).bind <| λy2_1 =>
bnd (wu64 (x18*4294967296)) λx37 =>
bnd (wu64 (x37+x21)) λx38 =>
bnd (wu64 (y2_1*x10)) λx39 =>
bnd (wu64 (x38-x39)) λx40 =>
gV (x11≠0)<|
bnd (wu64 (x40.tdiv x11)) λx42 =>
bnd (wu64 (x42*x11)) λx43 =>
bnd (wu64 (x40-x43)) λx44 =>
(show Option (Int) from
yP x11 x12 x22 n (x44:Int) (x42:Int)).bind <| λy5_1 =>
bnd (wu64 (y2_1*4294967296)) λx55 =>
bnd (wu64 (x55+y5_1)) λx56 =>
bnd (wu64 (x40*4294967296)) λx57 =>
bnd (wu64 (x57+x22)) λx58 =>
bnd (wu64 (y5_1*x10)) λx59 =>
bnd (wu64 (x58-x59)) λx60 =>
gV ((0:Int)<=x8)<|
bnd (x60.fdiv (2 ^ (min x8.toNat IntKind.u64.bits))) λx62 =>
some ((x56:Int),(x62:Int)))))
theorem aS0 {n:Nat} {a1:Int} {a2:Int} {a3:Int} {r:Int×Int} (h0:zB n a1 a2 a3=some r):PP Tryz.prog 223 [.sc (.int .u64 a1),.sc (.int .u64 a2),.sc (.int .u64 a3)] (λy=>y=.bD [.sc (.int .u64 r.1),.sc (.int .u64 r.2)]):=by
  unfold zB at h0
  refine oN (R0:=λy H=>Cv (lH H) y (.bD [.sc (.int .u64 r.1),.sc (.int .u64 r.2)])) ?_ (λy H hc=>⟨_,rfl,.bD (gK ((B6 .u64) (r.1)) ((B6 .u64) (r.2))),hc⟩)
  refine lN (c:=_) Tryz.func223 rfl rfl ?_;intro Q hret hnorm
  refine tc aA 9 (.mk ?_)
  refine nb aA h0 λx4 h0=>?_
  refine tr aA 1 (.mk ?_)
  cases x4
  replace h0:=cf h0
  refine tc aA 7 (.mk ?_)
  refine nb aA h0 λx5 h0=>?_
  refine tr aA 1 (.mk ?_)
  cases x5
  replace h0:=cf h0
  refine tc aA 6 (.mk ?_)
  refine nb aA h0 λx6 h0=>?_
  refine tr aA 1 (.mk ?_)
  cases x6
  replace h0:=cf h0
  refine tc aA 5 (.mk ?_)
  obtain ⟨x7,e7,h0⟩:=fE h0
  refine sC aNG (aT7 e7) ?_
  refine ni aA h0 λx8 h0=>?_
  refine tr aA 6 (.mk ?_)
  obtain ⟨p9,h0⟩:=iR h0
  obtain ⟨x10,e10,h0⟩:=iI h0
  refine sY (DI rfl rfl rfl p9 e10) ?_
  refine tr aA 5 (.mk ?_)
  refine ni aA h0 λx11 h0=>?_
  refine tr aA 5 (.mk ?_)
  obtain ⟨x12,e12,h0⟩:=iI h0
  refine sY (KB rfl rfl rfl e12) ?_
  refine tr aA 6 (.mk ?_)
  obtain ⟨AA,h0⟩:=iR h0
  obtain ⟨x14,e14,h0⟩:=iI h0
  refine sY (DI rfl rfl rfl AA e14) ?_
  refine tr aA 2 (.mk ?_)
  refine ni aA h0 λx15 h0=>?_
  obtain ⟨p16,h0⟩:=iR h0
  obtain ⟨x17,e17,h0⟩:=iI h0
  refine sY (ER rfl rfl rfl p16 e17) ?_
  obtain ⟨x18,e18,h0⟩:=iI h0
  refine sY (Q5 rfl rfl rfl e18) ?_
  refine tr aA 6 (.mk ?_)
  obtain ⟨p19,h0⟩:=iR h0
  obtain ⟨x20,e20,h0⟩:=iI h0
  refine sY (DI rfl rfl rfl p19 e20) ?_
  refine tr aA 5 (.mk ?_)
  refine ni aA h0 λx21 h0=>?_
  refine tr aA 5 (.mk ?_)
  obtain ⟨x22,e22,h0⟩:=iI h0
  refine sY (KB rfl rfl rfl e22) ?_
  refine tr aA 6 (.mk ?_)
  obtain ⟨p23,h0⟩:=iR h0
  obtain ⟨x24,e24,h0⟩:=iI h0
  refine sY (AL rfl rfl rfl p23 e24) ?_
  refine tr aA 7 (.mk ?_)
  refine ni aA h0 λx25 h0=>?_
  refine ni aA h0 λx26 h0=>?_
  refine tr aA 3 (.mk ?_)
  refine jn h0 [2,6,7,8,9,10,11,13,14] [] (λ(a:Int) (k:Unit)=>[(15,.sc (.int .u64 a))]) (λa k=>[]) ⟨λj27 h1=>?_,?_⟩
  refine tc aA 1 (.mk ?_)
  refine lp (λn (a:Int×Int)=>yE x11 x12 x21 n a.1 a.2) ((x24:Int),(x26:Int)) () h1 [2,6,7,8,9,10,11,13,14] [] (λ(a:Int×Int) (k:Unit)=>[(15,.sc (.int .u64 a.1)),(16,.sc (.int .u64 a.2))]) (λa k=>[]) (λ_=>rfl) ⟨dP,?_⟩
  rintro n ⟨y0_1,y0_2⟩ _ hm h1
  replace h1:yE x11 x12 x21 (n+1) y0_1 y0_2=some _:=h1
  rw [yE] at h1
  refine tc aA 2 (.mk ?_)
  refine jn h1 [2,6,7,8,9,10,11,13,14,15,16] [] (λ(a:Bool) (k:Unit)=>[(78,aZ a)]) (λa k=>[]) ⟨λj28 h2=>?_,?_⟩
  refine tc aA 2 (.mk ?_)
  refine nb aA h2 λx29 h2=>?_
  refine tr aA 1 (.mk ?_)
  cases x29
  replace h2:=cf h2
  refine tr aA 2 (.mk ?_)
  refine ni aA h2 λx30 h2=>?_
  refine tr aA 1 (.mk ?_)
  refine ni aA h2 λx31 h2=>?_
  refine tr aA 1 (.mk ?_)
  refine ni aA h2 λx32 h2=>?_
  refine nb aA h2 λx33 h2=>?_
  refine tr aA 2 (.mk ?_)
  exact lf h2 () dP
  replace h2:=ct h2
  refine tr aA 10 (.mk ?_)
  exact lf h2 () dP
  rintro y1_1 _ h1
  cases y1_1
  replace h1:=cf h1
  refine tc aA 2 (.mk ?_)
  exact lf h1 () dP
  replace h1:=ct h1
  refine tc aA 6 (.mk ?_)
  refine ni aA h1 λx34 h1=>?_
  refine tr aA 6 (.mk ?_)
  refine ni aA h1 λx35 h1=>?_
  refine tr aA 5 (.mk ?_)
  refine nb aA h1 λx36 h1=>?_
  refine tr aA 1 (.mk ?_)
  cases x36
  replace h1:=cf h1
  refine tc aA 3 (.mk ?_)
  exact bk (x34,x35) () h1 dP
  replace h1:=ct h1
  refine tc aA 2 (.mk ?_)
  exact lf h1 () dP
  rintro y2_1 _ h0
  refine tc aA 3 (.mk ?_)
  refine ni aA h0 λx37 h0=>?_
  refine tr aA 1 (.mk ?_)
  refine ni aA h0 λx38 h0=>?_
  refine tr aA 2 (.mk ?_)
  refine ni aA h0 λx39 h0=>?_
  refine ni aA h0 λx40 h0=>?_
  refine tr aA 6 (.mk ?_)
  obtain ⟨p41,h0⟩:=iR h0
  obtain ⟨x42,e42,h0⟩:=iI h0
  refine sY (AL rfl rfl rfl p41 e42) ?_
  refine tr aA 7 (.mk ?_)
  refine ni aA h0 λx43 h0=>?_
  refine ni aA h0 λx44 h0=>?_
  refine tr aA 3 (.mk ?_)
  refine jn h0 [2,6,7,8,14,15,17] [] (λ(a:Int) (k:Unit)=>[(18,.sc (.int .u64 a))]) (λa k=>[]) ⟨λj45 h1=>?_,?_⟩
  refine tc aA 1 (.mk ?_)
  refine lp (λn (a:Int×Int)=>yP x11 x12 x22 n a.1 a.2) ((x44:Int),(x42:Int)) () h1 [2,6,7,8,9,10,14,15,17] [] (λ(a:Int×Int) (k:Unit)=>[(16,.sc (.int .u64 a.1)),(18,.sc (.int .u64 a.2))]) (λa k=>[]) (λ_=>rfl) ⟨dP,?_⟩
  rintro n ⟨y3_1,y3_2⟩ _ hm h1
  replace h1:yP x11 x12 x22 (n+1) y3_1 y3_2=some _:=h1
  rw [yP] at h1
  refine tc aA 2 (.mk ?_)
  refine jn h1 [2,6,7,8,9,10,14,15,16,17,18] [] (λ(a:Bool) (k:Unit)=>[(113,aZ a)]) (λa k=>[]) ⟨λj46 h2=>?_,?_⟩
  refine tc aA 2 (.mk ?_)
  refine nb aA h2 λx47 h2=>?_
  refine tr aA 1 (.mk ?_)
  cases x47
  replace h2:=cf h2
  refine tr aA 2 (.mk ?_)
  refine ni aA h2 λx48 h2=>?_
  refine tr aA 1 (.mk ?_)
  refine ni aA h2 λx49 h2=>?_
  refine tr aA 1 (.mk ?_)
  refine ni aA h2 λx50 h2=>?_
  refine nb aA h2 λx51 h2=>?_
  refine tr aA 2 (.mk ?_)
  exact lf h2 () dP
  replace h2:=ct h2
  refine tr aA 10 (.mk ?_)
  exact lf h2 () dP
  rintro y4_1 _ h1
  cases y4_1
  replace h1:=cf h1
  refine tc aA 2 (.mk ?_)
  exact lf h1 () dP
  replace h1:=ct h1
  refine tc aA 6 (.mk ?_)
  refine ni aA h1 λx52 h1=>?_
  refine tr aA 6 (.mk ?_)
  refine ni aA h1 λx53 h1=>?_
  refine tr aA 5 (.mk ?_)
  refine nb aA h1 λx54 h1=>?_
  refine tr aA 1 (.mk ?_)
  cases x54
  replace h1:=cf h1
  refine tc aA 3 (.mk ?_)
  exact bk (x53,x52) () h1 dP
  replace h1:=ct h1
  refine tc aA 2 (.mk ?_)
  exact lf h1 () dP
  rintro y5_1 _ h0
  refine tc aA 3 (.mk ?_)
  refine ni aA h0 λx55 h0=>?_
  refine tr aA 1 (.mk ?_)
  refine ni aA h0 λx56 h0=>?_
  refine tr aA 1 (.mk ?_)
  refine ni aA h0 λx57 h0=>?_
  refine tr aA 1 (.mk ?_)
  refine ni aA h0 λx58 h0=>?_
  refine tr aA 2 (.mk ?_)
  refine ni aA h0 λx59 h0=>?_
  refine ni aA h0 λx60 h0=>?_
  refine tr aA 1 (.mk ?_)
  obtain ⟨p61,h0⟩:=iR h0
  obtain ⟨x62,e62,h0⟩:=iI h0
  refine sY (ER rfl rfl rfl p61 e62) ?_
  refine tr aA 3 (.mk ?_)
  obtain rfl:=fV h0
  refine wR hret (rT (rT .nil)) ?_
  exact .refl _
  replace h0:=ct h0
  refine tc aA 2 (.mk ?_)
  refine pR [0,0,3,0,0,24,7,127] (λi=>[]) (λi=>[]) (λi=>true) [0,1,2,3,4,5,6,7] mixed (by kernel_rfl) ?_;intro K hK
  iterate 2 refine eM ?_
  obtain ⟨p63,h0⟩:=iR h0
  obtain ⟨x64,e64,h0⟩:=iI h0
  refine eP (λH hH=>AL rfl rfl rfl p63 e64) ?_
  iterate 2 refine eM ?_
  obtain ⟨p65,h0⟩:=iR h0
  obtain ⟨x66,e66,h0⟩:=iI h0
  refine eP (λH hH=>xQ rfl rfl rfl p65 e66) ?_
  iterate 2 refine eA ?_
  refine oK (hK _ ?_)
  obtain rfl:=fV h0
  refine wR hret (rT (rT .nil)) ?_
  exact .refl _
  replace h0:=ct h0
  refine tc aA 1 (.mk ?_)
  cases h0
  replace h0:=ct h0
  refine tc aA 1 (.mk ?_)
  cases h0
def BA (n:Nat) (a1:Int) (a2:Int) (a3:Int):Option (Int×Int×Int) :=
(show Option (Bool) from
bnd (decide (a1<0)) λx5 =>
cond x5 (some (true:Bool)) (bnd (decide (a2<0)) λx6 =>
cond x6 (some (true:Bool)) (bnd (decide (a3<1)) λx7 =>
some (x7:Bool)))).bind <| λy0_1 =>
cond y0_1 (some ((0:Int),(0:Int),(1:Int))) ((E6 a1 a2).bind λx8 =>
bnd (wu64 a3) λx9 =>
bnd (decide (x8.1>=x9)) λx10 =>
cond x10 (some ((0:Int),(0:Int),(2:Int))) (bnd (wu64 a3) λx11 =>
(zB n x8.1 x8.2 x11).bind λx12 =>
bnd (decide (x12.1>288230376151711744)) λx13 =>
cond x13 (some ((0:Int),(0:Int),(2:Int))) (bnd (bE x12.1) λx14 =>
bnd (bE x12.2) λx15 =>
some ((x14:Int),(x15:Int),(0:Int)))))
theorem aHA {n:Nat} {a1:Int} {a2:Int} {a3:Int} {r:Int×Int×Int} (h0:BA n a1 a2 a3=some r):PP Tryz.prog 221 [int a1,int a2,int a3] (λy=>y=.bD [int r.1,int r.2.1,int r.2.2]):=by
  unfold BA at h0
  refine oN (R0:=λy H=>Cv (lH H) y (.bD [int r.1,int r.2.1,int r.2.2])) ?_ (λy H hc=>⟨_,rfl,.bD (qN (bQ (r.1)) (bQ (r.2.1)) (bQ (r.2.2))),hc⟩)
  refine lN (c:=_) Tryz.func221 rfl rfl ?_;intro Q hret hnorm
  refine tc aA 8 (.mk ?_)
  refine jn h0 [0,1,2,6,7,8] [] (λ(a:Bool) (k:Unit)=>[(22,aZ a)]) (λa k=>[]) ⟨λj4 h1=>?_,?_⟩
  refine tc aA 2 (.mk ?_)
  refine nb aA h1 λx5 h1=>?_
  refine tr aA 1 (.mk ?_)
  cases x5
  replace h1:=cf h1
  refine tr aA 1 (.mk ?_)
  refine nb aA h1 λx6 h1=>?_
  refine tr aA 2 (.mk ?_)
  cases x6
  replace h1:=cf h1
  refine tr aA 1 (.mk ?_)
  refine nb aA h1 λx7 h1=>?_
  refine tr aA 2 (.mk ?_)
  exact lf h1 () dP
  replace h1:=ct h1
  refine tr aA 4 (.mk ?_)
  exact lf h1 () dP
  replace h1:=ct h1
  refine tr aA 8 (.mk ?_)
  exact lf h1 () dP
  rintro y0_1 _ h0
  cases y0_1
  replace h0:=cf h0
  refine tc aA 6 (.mk ?_)
  obtain ⟨x8,e8,h0⟩:=fE h0
  refine sC aLD (aRL e8) ?_
  refine tr aA 11 (.mk ?_)
  refine ni aA h0 λx9 h0=>?_
  refine nb aA h0 λx10 h0=>?_
  refine tr aA 1 (.mk ?_)
  cases x10
  replace h0:=cf h0
  refine tc aA 7 (.mk ?_)
  refine ni aA h0 λx11 h0=>?_
  obtain ⟨x12,e12,h0⟩:=fE h0
  refine sC aKY (aS0 e12) ?_
  refine tr aA 10 (.mk ?_)
  refine nb aA h0 λx13 h0=>?_
  refine tr aA 1 (.mk ?_)
  cases x13
  replace h0:=cf h0
  refine tc aA 5 (.mk ?_)
  refine ni aA h0 λx14 h0=>?_
  refine tr aA 1 (.mk ?_)
  refine ni aA h0 λx15 h0=>?_
  refine tr aA 4 (.mk ?_)
  obtain rfl:=fV h0
  refine wR hret (rT (rT (rT .nil))) ?_
  exact .refl _
  replace h0:=ct h0
  refine tc aA 7 (.mk ?_)
  obtain rfl:=fV h0
  refine wR hret (rT (rT (rT .nil))) ?_
  exact .refl _
  replace h0:=ct h0
  refine tc aA 7 (.mk ?_)
  obtain rfl:=fV h0
  refine wR hret (rT (rT (rT .nil))) ?_
  exact .refl _
  replace h0:=ct h0
  refine tc aA 7 (.mk ?_)
  obtain rfl:=fV h0
  refine wR hret (rT (rT (rT .nil))) ?_
  exact .refl _
end
end Go.Pv
