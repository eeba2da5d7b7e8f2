import Derived.Test.YtcnbfkppbaenbaaGreatX80d
set_option linter.unusedVariables false
set_option linter.unusedSimpArgs false
namespace Go.Pv
open Go.Proofs
set_option maxRecDepth 100000
set_option maxHeartbeats 4000000
noncomputable section
def WM (n:Nat) (a1:aA) (a2:Int):WT Tryz.prog (.b (aA×Int)) :=
 .al 1<|.al 2<|.jn 1 [1,2,4,5] [1,2] [] (λ_ (a:Bool)=>[(8,aT a)]) (λ_ _=>[]) (.bB 10 (decide (a2<0)) λx5=>.ifs [10] x5 (.ret true) (.ln 15 aQ.av a1.bD<|.bB 16 (decide (a2>=(a1.bD.length:Int))) λx6=>.ret x6)) (λy0_1=>.ifs [8] y0_1 (.ret ((a1:aA),4)) (.iF 23 aQ.av gE aQ.fF a1.bD a2 λx7=>.bB 26 (!x7.Closed) λx8=>.ifs [26] x8 (.ret ((a1:aA),8)) (.as (a1.bD.length<=68719476736) inferInstance<|.ge 30 3<|.dr [(0,[1]),(1,[1]),(3,[1]),(4,[1]),(6,[3]),(7,[3]),(8,[3]),(11,[3])] [(12,[])] [1,3] [12] [0,1,2,3,4,5,6,7,8,9,10,11,12] (.bo (ix a1.bD a2) λx11=>.gv 38<|.gv 39<|.gv 40<|.iF 41 aQ.av gE aQ.fF x11.fV 0 λx12=>.gv 43<|.bl (a1.bD.set (Int.toNat a2) x12:List aQ) λx13=>.ge 1006012 0<|.as (a1.eF.length<=68719476736) inferInstance<|.ge 46 4<|.jn 1 [2,4,5] [2,3] [] (λ_ (a:(List eZ))=>[]) (λu10 a=>[.kp 1 [[int a1.bH.gG,int a1.bH.gQ,aP 1 fI a1.bH.bZ,aP 1 (fL 1 fI) a1.bH.Methods,aP 1 (fL 1 fI) a1.bH.gL,.sl 3 (u10 3) 0 a1.bD.length,aP 8 dG.av a1.bY,.sl 4 (u10 4) 0 a.length,aP 6 fT.av a1.dL,int a1.Done]],.kp 4 (a.map eZ.av)]) (.lp [1,2,4,5] [2,3] [] (λ_ (a:Int×(List eZ))=>[(6,int a.1)]) (λu13 a=>[.kp 1 [[int a1.bH.gG,int a1.bH.gQ,aP 1 fI a1.bH.bZ,aP 1 (fL 1 fI) a1.bH.Methods,aP 1 (fL 1 fI) a1.bH.gL,.sl 3 (u13 3) 0 a1.bD.length,aP 8 dG.av a1.bY,.sl 4 (u13 4) 0 a.2.length,aP 6 fT.av a1.dL,int a1.Done]],.kp 4 (a.2.map eZ.av)]) n ((0:Int),(a1.eF:List eZ)) (pw λy1_1 y1_2=>.bB 52 (decide (y1_1<(y1_2.length:Int))) λx16=>.ifs [52] x16 (.jn 1 [1,2,4,5,6] [2,3] [] (λ_ (a:(List eZ))=>[]) (λu15 a=>[.kp 1 [[int a1.bH.gG,int a1.bH.gQ,aP 1 fI a1.bH.bZ,aP 1 (fL 1 fI) a1.bH.Methods,aP 1 (fL 1 fI) a1.bH.gL,.sl 3 (u15 3) 0 a1.bD.length,aP 8 dG.av a1.bY,.sl 4 (u15 4) 0 a.length,aP 6 fT.av a1.dL,int a1.Done]],.kp 4 (a.map eZ.av)]) (.bo (ix y1_2 y1_1) λx17=>.gv 58<|.gv 59<|.al 5<|.jn 0 [1,2,4,5,6] [1,2,3,4] [] (λ_ (a:Bool)=>[(78,aT a)]) (λ_ _=>[]) (.dr [(0,[5]),(1,[5]),(3,[5]),(4,[5]),(9,[5]),(10,[5]),(11,[1]),(12,[1]),(14,[3]),(15,[3]),(16,[3])] [] [1,3,5] [] [0,1,2,3,4,5,6,7,8,9,10,11,12,13,14,15,16,17,18] (.bB 62 (x17.pG) λx19=>.ifs [62] x19 (.bB 66 (decide (x17.eY=a2)) λx20=>.ifs [66] x20 (.gv 74<|.gv 75<|.gv 76<|.bB 77 (decide (x17.nG=((x12:aQ).fU))) λx21=>.ret x21) (.ret false)) (.ret false))) (λy2_1=>.ifs [78] y2_1 (.dr [(0,[1]),(1,[1]),(3,[1]),(4,[1]),(6,[4]),(7,[4]),(9,[4]),(10,[4])] [(8,[1]),(11,[])] [1,4] [8,11] [0,1,2,3,4,5,6,7,8,9,10,11] (.gv 85<|.gv 86<|.bl (y1_2.set (Int.toNat y1_1) ((⟨x17.eY,x17.Item,x17.Loc,x17.aG,x17.gP,0,x17.bO,x17.nG,x17.pG⟩:eZ):eZ):List eZ) λx22=>.ge 1013008 0<|.gv 87<|.gv 88<|.bl (x22.set (Int.toNat y1_1) ((⟨x17.eY,x17.Item,x17.Loc,x17.aG,x17.gP,0,0,x17.nG,x17.pG⟩:eZ):eZ):List eZ) λx23=>.ge 1013011 0<|.ret x23)) (.ret y1_2))) (λy3_1=>.bI 54 (bA (y1_1+1)) λx24=>.brk ((x24:Int),y3_1))) (.esc (.ret y1_2)))) (λy4_1=>.ret (((⟨a1.bH,x13,a1.bY,y4_1,a1.dL,a1.Done⟩:aA):aA),0))))))
def K8 (n:Nat) (a1:aA) (a2:Int):Option (aA×Int):=(WM n a1 a2).run
theorem aPF {n:Nat} {a1:aA} {a2:Int} {r:aA×Int} (h0:K8 n a1 a2=some r):PP Tryz.prog 45 [.agg (aA.av a1),int a2] (λy=>y=.bC [.agg (aA.av r.1),int r.2]):=by
 refine bU mixed bR (λ(r:aA×Int)=>.bC [.agg (aA.av r.1),int r.2]) h0 Tryz.func45 (λr=>.bC (gD ((λ(a:aA)=>PV.agg (aA.dH a)) (r.1)) (bT (r.2)))) 100000 ?_
 intro v3
 intro v4
 refine .mk ?_ ?_
 refine .mk λx5=>?_
 refine .mk .mk ?_
 refine .mk ?_
 refine .mk λx6=>?_
 exact .mk
 intro _ _
 refine .mk .mk ?_
 refine .mk λx7 e7=>?_
 refine .mk λx8=>?_
 refine .mk .mk ?_
 refine .mk λp9=>?_
 refine .mk _ ⟨λ_=>pQ (g:=aQ.av) (m:=a1.bD) 3 rfl Tryz.underlying27 yE G6 rfl rfl rfl rfl (.refl _) aQ.one p9,λ_ _ _=>trivial⟩ ?_
 rintro _ _ ⟨v10,rfl,rfl⟩
 refine .mk ?_
 refine .mk λx11 e11=>?_
 refine .mk _ (λH hH _=>iL rfl Tryz.underlying27 qY rfl rfl ((hH _ (by decide)).trans rfl) rfl rfl (Eq.symm rfl) (List.length_map _) e11) ?_
 refine .mk _ (λH hH _=>gN rfl aGD rfl (.pt ((hH _ (by decide)).trans rfl) rfl (jL e11 (aQ.fF _))) (.pt _ _ _ _ _)) ?_
 refine .mk _ (λH hH _=>iK rfl RN rfl (.pt ((hH _ (by decide)).trans rfl) rfl (jL e11 (aQ.fF _))) rfl) ?_
 refine .mk λx12 e12=>?_
 refine .mk _ (λH hH _=>iL rfl Tryz.underlying27 qY rfl rfl ((hH _ (by decide)).trans rfl) rfl rfl (Eq.symm rfl) (List.length_map _) e11) ?_
 refine .mk λx13 e13=>?_
 have fx13:=j6 e11 e13;have lx13:=jX e13 (rfl:a1.bD.length=a1.bD.length)
 refine .mk _ ⟨λ_=>eO.gK (iQ (ob':=(⟨60,8,true,true,_,x13.map aQ.av⟩:cB)) (iG rfl qY rfl rfl rfl rfl rfl (jL e11 (aQ.fF _)) rfl rfl rfl) (jJ (VW e13 (aQ.fF _)))) (λ_ h=>h) (λ_ _=>trivial),by rintro _ _ ⟨rfl,rfl⟩;exact trivial⟩ ?_
 rintro _ _ ⟨rfl,rfl⟩
 refine .mk λp14=>?_
 refine .mk _ ⟨λ_=>pQ (g:=eZ.av) (m:=a1.eF) 4 rfl Tryz.underlying29 aW3 aQX rfl rfl rfl rfl (.refl _) (λ_=>rfl) p14,λ_ _ _=>trivial⟩ ?_
 rintro _ _ ⟨v15,rfl,rfl⟩
 refine .mk ?_ ?_
 refine .mk ?_
 rintro ⟨y1_1,y1_2⟩ _
 refine .mk λx16=>?_
 refine .mk ?_ ?_
 refine .mk ?_ ?_
 refine .mk λx17 e17=>?_
 refine .mk _ (eH (iL rfl Tryz.underlying29 ML rfl rfl rfl rfl rfl (Eq.symm rfl) (List.length_map _) e17)) ?_
 refine .mk _ (eH (iK rfl ML rfl (.pt rfl rfl (fM e17)) rfl)) ?_
 intro v18
 refine .mk ?_ ?_
 refine .mk ?_
 refine .mk λx19=>?_
 refine .mk ?_ ?_
 refine .mk λx20=>?_
 refine .mk ?_ ?_
 refine .mk _ (λH hH _=>iL rfl Tryz.underlying27 qY rfl rfl ((hH _ (by decide)).trans rfl) rfl rfl (Eq.symm lx13) (List.length_map _) fx13) ?_
 refine .mk _ (λH hH _=>gN rfl aTJ rfl (.pt ((hH _ (by decide)).trans rfl) rfl (jL fx13 (aQ.fF _))) (.pt _ _ _ _ _)) ?_
 refine .mk _ (λH hH _=>iK rfl fO rfl (.pt ((hH _ (by decide)).trans rfl) rfl (jL fx13 (aQ.fF _))) rfl) ?_
 refine .mk λx21=>?_
 exact .mk
 exact .mk
 exact .mk
 intro _ _
 refine .mk ?_ ?_
 refine .mk ?_
 refine .mk _ (λH hH _=>iL rfl Tryz.underlying29 ML rfl rfl ((hH _ (by decide)).trans rfl) rfl rfl (Eq.symm rfl) (List.length_map _) e17) ?_
 refine .mk _ (λH hH _=>gN rfl aOY rfl (.pt ((hH _ (by decide)).trans rfl) rfl (fM e17)) (.pt _ _ _ _ _)) ?_
 refine .mk λx22 e22=>?_
 have fx22:=j6 e17 e22;have lx22:=jX e22 (rfl:y1_2.length=y1_2.length)
 refine .mk _ ⟨λ_=>eO.gK (iQ (ob':=(⟨78,9,true,true,_,x22.map eZ.av⟩:cB)) (iG rfl fO rfl rfl rfl rfl rfl (fM e17) rfl rfl rfl) (jJ (kL e22))) (λ_ h=>h) (λ_ _=>trivial),by rintro _ _ ⟨rfl,rfl⟩;exact ⟨rfl,trivial⟩⟩ ?_
 rintro _ _ ⟨rfl,rfl⟩
 refine .mk _ (λH hH _=>iL rfl Tryz.underlying29 ML rfl rfl ((hH _ (by decide)).trans rfl) rfl rfl (Eq.symm lx22) (List.length_map _) fx22) ?_
 refine .mk _ (λH hH _=>gN rfl aVL rfl (.pt ((hH _ (by decide)).trans rfl) rfl (fM fx22)) (.pt _ _ _ _ _)) ?_
 refine .mk λx23 e23=>?_
 have fx23:=j6 fx22 e23;have lx23:=jX e23 lx22
 refine .mk _ ⟨λ_=>eO.gK (iQ (ob':=(⟨78,9,true,true,_,x23.map eZ.av⟩:cB)) (iG rfl fO rfl rfl rfl rfl rfl (fM fx22) rfl rfl rfl) (jJ (kL e23))) (λ_ h=>h) (λ_ _=>trivial),by rintro _ _ ⟨rfl,rfl⟩;exact trivial⟩ ?_
 rintro _ _ ⟨rfl,rfl⟩
 exact .mk ⟨⟨⟨_,rfl,(.refl _)⟩,⟨_,rfl,(.refl _)⟩,⟨_,rfl,(.refl _)⟩,⟨_,rfl,(.refl _)⟩,⟨_,rfl,(.refl _)⟩,trivial⟩,⟨⟨_,rfl,⟨rfl,(.cons (.cons (.refl _) (.cons (.refl _) (.cons (.refl _) (.cons (.refl _) (.cons (.refl _) (.cons (.refl _) (.cons (.refl _) (.cons (qJ (Eq.symm lx23)) (.cons (.refl _) (.cons (.refl _) .nil)))))))))) .nil)⟩⟩,⟨_,rfl,(.refl _)⟩,⟨_,rfl,(.refl _)⟩,⟨_,rfl,(.refl _)⟩,trivial⟩⟩
 exact .mk
 intro _ _
 refine .mk λx24=>?_
 exact .mk
 exact .mk
 intro _ _
 exact .mk (dX.bC (.cons (dX.agg (.cons (.refl _) (.cons (.refl _) (.cons (.refl _) (.cons (.refl _) (.cons (.refl _) (.cons (gJ rfl rfl rfl rfl rfl (Eq.symm lx13)) (.cons (.refl _) (.cons (gJ rfl rfl rfl rfl rfl (Eq.symm rfl)) (.cons (.refl _) (.cons (.refl _) .nil))))))))))) (.cons (.refl _) .nil)))
def XK (n:Nat) (a1:aA) (a2:Int):WT Tryz.prog (.b (aA×Int)) :=
 .al 1<|.al 2<|.jn 1 [1,2,4,5] [1,2] [] (λ_ (a:Bool)=>[(9,aT a)]) (λ_ _=>[]) (.bB 11 (decide (a2<0)) λx5=>.ifs [11] x5 (.ret true) (.ln 16 aQ.av a1.bD<|.bB 17 (decide (a2>=(a1.bD.length:Int))) λx6=>.ret x6)) (λy0_1=>.ifs [9] y0_1 (.ret ((a1:aA),4)) (.iF 24 aQ.av gE aQ.fF a1.bD a2 λx7=>.bB 27 (!x7.Closed) λx8=>.ifs [27] x8 (.ret ((a1:aA),8)) (.dr [(0,[1]),(1,[1]),(6,[1]),(7,[1]),(8,[1])] [] [1] [] [0,1,2,3,4,5,6,7,8,9,10] (.iF 33 aQ.av gE aQ.fF a1.bD a2 λx9=>.bB 39 (decide (x9.fU>=a1.bH.gQ)) λx10=>.ifs [39] x10 (.ret ((a1:aA),11)) (.inl 43 xY Tryz.func88 [1,2] [5,6,7,8,9,10] (λu4 (a:Int×Bool×(List aQ)×(List aH)×(List Int)×(List cO)×(List Int)×(List Int))=>.agg [int a1.bH.gG,int a1.bH.gQ,aP 1 fI a1.bH.bZ,aP 1 (fL 1 fI) a1.bH.Methods,aP 1 (fL 1 fI) a1.bH.gL,.sl 5 (u4 5) 0 a1.bD.length,aP 8 dG.av a1.bY,aP 9 eZ.av a1.eF,aP 6 fT.av a1.dL,int a1.Done]) (λu4 a=>[.nw 5 60 8 ((a1.bD.map aQ.av).set (Int.toNat a2) [int a.1,aT a.2.1,.sl 6 (u4 6) 0 a.2.2.2.1.length,.sl 7 (u4 7) 0 a.2.2.2.2.1.length,.sl 8 (u4 8) 0 a.2.2.2.2.2.1.length,.sl 9 (u4 9) 0 a.2.2.2.2.2.2.1.length,.sl 10 (u4 10) 0 a.2.2.2.2.2.2.2.length,aP 8 aQ.av a.2.2.1]),.nw 6 124 4 (a.2.2.2.1.map aH.av),.nw 7 3 1 (a.2.2.2.2.1.map fI),.nw 8 102 11 (a.2.2.2.2.2.1.map cO.av),.nw 9 3 1 (a.2.2.2.2.2.2.1.map fI),.nw 10 3 1 (a.2.2.2.2.2.2.2.map fI)]) (.al 3<|.al 4<|.as (a1.bD.length<=68719476736) inferInstance<|.ge 8 5<|.bo (ix a1.bD a2) λx15=>.gv 13<|.dr [(4,[5]),(5,[5]),(6,[5]),(9,[5]),(10,[5]),(11,[5]),(14,[5]),(15,[5]),(16,[5]),(18,[5]),(19,[5]),(21,[5]),(22,[5]),(24,[5]),(25,[5])] [(17,[]),(20,[]),(23,[]),(26,[])] [5] [7,12,17,20,23,26] [0,1,2,3,4,5,6,8,9,10,11,13,14,15,16,7,12,17,18,19,20,21,22,23,24,25,26] (.gv 18<|.gv 19<|.gv 20<|.gv 23<|.gv 24<|.gv 25<|.gv 28<|.gv 29<|.gv 30<|.as (x15.bX.length<=68719476736) inferInstance<|.ge 21 6<|.as (x15.dR.length<=68719476736) inferInstance<|.ge 26 7<|.as (x15.dQ.length<=68719476736) inferInstance<|.ge 31 8<|.gv 32<|.gv 33<|.ge 1003020 0<|.gv 34<|.gv 35<|.ge 1003023 0<|.gv 36<|.gv 37<|.ge 1003026 0<|.dr [(3,[5]),(4,[5]),(5,[5]),(8,[5]),(9,[5]),(10,[5]),(12,[5]),(13,[5]),(15,[5]),(16,[5])] [(11,[]),(14,[]),(17,[])] [5] [6,11,14,17] [0,1,2,3,4,5,7,8,9,10,6,11,12,13,14,15,16,17] (.gv 41<|.gv 42<|.gv 43<|.gv 46<|.gv 47<|.gv 48<|.as (x15.gI.length<=68719476736) inferInstance<|.ge 44 9<|.as (x15.Down.length<=68719476736) inferInstance<|.ge 49 10<|.gv 50<|.gv 51<|.ge 1004014 0<|.gv 52<|.gv 53<|.ge 1004017 0<|.ret ((x15.fU:Int),(x15.Closed:Bool),(x15.fV:List aQ),(x15.bX:List aH),(x15.dR:List Int),(x15.dQ:List cO),(x15.gI:List Int),(x15.Down:List Int))))) (pw λy1_2 q0=>(pw λy1_3 q1=>(pw λy1_9 q2=>(pw λy1_10 q3=>(pw λy1_11 q4=>(pw λy1_12 q5=>(pw λy1_13 y1_14=>.bo (ix a1.bD a2) λx26=>.al 11<|.gv 47<|.gv 52<|.gv 53<|.gv 54<|.bI 55 (bA (y1_2+1)) λx28=>.gv 56<|.gv 57<|.ge 1009010 0<|.gv 58<|.gv 59<|.ge 1009013 0<|.gv 60<|.gv 61<|.ge 1009016 0<|.jn 1 [4,5,6] [2,6,7,9,10,11] [] (λ_ (a:(List cO))=>[]) (λu6 a=>[.kp 5 ((a1.bD.map aQ.av).set (Int.toNat a2) [int x28,aT false,.sl 6 (u6 6) 0 y1_10.length,.sl 7 (u6 7) 0 y1_11.length,.sl 8 (u6 8) 0 a.length,.sl 9 (u6 9) 0 y1_13.length,.sl 10 (u6 10) 0 y1_14.length,.sc (.slice none 0 0)]),.kp 8 (a.map cO.av)]) (.lp [1,2,4,5,6,7] [1,2,6,7,9,10,11] [] (λ_ (a:Int×(List cO))=>[(8,int a.1)]) (λu7 a=>[.kp 5 ((a1.bD.map aQ.av).set (Int.toNat a2) [int x28,aT false,.sl 6 (u7 6) 0 y1_10.length,.sl 7 (u7 7) 0 y1_11.length,.sl 8 (u7 8) 0 a.2.length,.sl 9 (u7 9) 0 y1_13.length,.sl 10 (u7 10) 0 y1_14.length,.sc (.slice none 0 0)]),.kp 8 (a.2.map cO.av)]) n ((0:Int),y1_12) (pw λy2_1 y2_2=>.gv 64<|.gv 65<|.gv 66<|.bB 68 (decide (y2_1<(y2_2.length:Int))) λx29=>.ifs [68] x29 (.dr [(1,[5]),(2,[5]),(3,[5]),(5,[1]),(11,[8])] [(12,[])] [1,5,8] [12] [0,1,2,3,4,5,6,7,8,9,10,11,12] (.gv 72<|.gv 73<|.gv 74<|.cl 79 (wF n a1 a2 y2_1) KM LG λx30=>.bo (ix y2_2 y2_1) λx31=>.gv 82<|.bl (y2_2.set (Int.toNat y2_1) ((⟨x30.Value,0,0,0,0,0,0,0,0,0,0⟩:cO):cO):List cO) λx32=>.ge 1013012 0<|.bI 70 (bA (y2_1+1)) λx33=>.brk ((x33:Int),x32))) (.esc (.ret y2_2)))) (λy3_1=>.ret (((⟨a1.bH,(a1.bD.set (Int.toNat a2) (⟨x28,false,y1_10,y1_11,y3_1,y1_13,y1_14,[]⟩:aQ)),a1.bY,a1.eF,a1.dL,a1.Done⟩:aA):aA),0))) q5) q4) q3) q2) q1) q0))))))
def KW (n:Nat) (a1:aA) (a2:Int):Option (aA×Int):=(XK n a1 a2).run
theorem aKG {n a1 a2 r} (h0:KW n a1 a2=some r):PP Tryz.prog 46 [.agg (aA.av a1),int a2] (λy=>y=.bC [.agg (aA.av r.1),int r.2]) :=
 bU mixed bR (λr:aA×Int=>.bC [.agg (aA.av r.1),int r.2]) h0 Tryz.func46 (λr=>.bC (gD ((λ(a:aA)=>PV.agg (aA.dH a)) (r.1)) (bT (r.2)))) 100000 au
def PN (a1:aA) (a2:Int) (a3:Int):WT Tryz.prog (.b (Int)) :=
 .al 1<|.cl 11 (vH a1 a2 a3) CO CP λx5=>.bB 12 (!x5) λx6=>.ifs [12] x6 (.ret ((4:Int))) (.iF 17 aQ.av gE aQ.fF a1.bD a2 λx7=>.wt 13 <|.ifs [13] x7.Closed (.ret ((7:Int))) (.ret ((0:Int))))
def oC (a1:aA) (a2:Int) (a3:Int):Option (Int):=(PN a1 a2 a3).run
theorem sJ {a1 a2 a3 r} (h0:oC a1 a2 a3=some r):PP Tryz.prog 72 [.agg (aA.av a1),int a2,int a3] (λy=>y=int r) :=
 bU mixed bR (λr:Int=>int r) h0 Tryz.func72 (λr=>bT r) 100000 au
def aE0 (n:Nat) (a1:List aB):WT Tryz.prog (.b (Int×Int)) :=
 .fD 3 [2,3] [] [] (λ_ (a:Int)=>[(4,int a)]) (λ_ _=>[]) (.lp [0,2,3] [] [] (λ_ (a:Int×Int)=>[(4,int a.1),(5,int a.2)]) (λ_ _=>[]) n ((0:Int),0) (pw λy0_1 y0_2=>.ln 10 aB.av a1<|.bB 11 (decide (y0_2<(a1.length:Int))) λx2=>.ifs [11] x2 (.dr [] [] [] [] [0,1,2,3,4,5,6,7,8,9,10,11,12,13,14,15,16,17,18] (.ix 18 aB.av a1 y0_2 λx3=>.ix 23 aB.av a1 y0_2 λx4=>.bI 26 (bA (0-x4.bO)) λx5=>.bl (if x5>x3.bO then x5 else x3.bO:Int) λx6=>.gv 27<|.cl 28 (rX y0_1 x6) vD wV λx7=>.jn 0 [0,2,3,4,5,6] [] [] (λ_ (a:Bool)=>[(40,aT a)]) (λ_ _=>[]) (.bB 32 (decide (x7.2≠0)) λx8=>.ifs [32] x8 (.ret true) (.ix 36 aB.av a1 y0_2 λx9=>.bB 39 (decide (x9.bO<(-288230376151711744))) λx10=>.ret x10)) (λy1_1=>.ifs [40] y1_1 (.esc (.esc (.ret ((0:Int),2)))) (.bI 13 (bA (y0_2+1)) λx11=>.brk ((x7.1:Int),x11))))) (.esc (.brk y0_1)))) (λy2_1=>.ret ((y2_1:Int),0))
def E4 (n:Nat) (a1:List aB):Option (Int×Int):=(aE0 n a1).run
theorem UB {n a1 r} (h0:E4 n a1=some r):PP Tryz.prog 184 [aP 3 aB.av a1] (λy=>y=.bC [int r.1,int r.2]) :=
 bU mixed bR (λr:Int×Int=>.bC [int r.1,int r.2]) h0 Tryz.func184 (λr=>.bC (gD (bT (r.1)) (bT (r.2)))) 100000 au
def aCE (n:Nat) (a1:List aB):WT Tryz.prog (.b (Bool)) :=
 .fD 2 [0,2] [] [] (λ_ (a:Unit)=>[]) (λ_ _=>[]) (.lp [0,2] [] [] (λ_ (a:Int)=>[(3,int a)]) (λ_ _=>[]) n 0 (λy0_1=>.ln 11 aB.av a1<|.bB 12 (decide (y0_1<(a1.length:Int))) λx2=>.ifs [12] x2 (.ix 17 aB.av a1 y0_1 λx3=>.al 1<|.jn 0 [0,2,3] [] [] (λ_ (a:Bool)=>[(42,aT a)]) (λ_ _=>[]) (.bB 21 (decide (x3.aG<1)) λx5=>.ifs [21] x5 (.ret true) (.bB 25 (decide (x3.aG>288230376151711744)) λx6=>.ifs [25] x6 (.ret true) (.bB 30 (decide (x3.Value<0)) λx7=>.ifs [30] x7 (.ret true) (.bB 35 (decide (x3.Value>288230376151711744)) λx8=>.ifs [35] x8 (.ret true) (.cl 40 (nU x3.bO) qV rF λx9=>.bB 41 (!x9) λx10=>.ret x10))))) (λy1_1=>.ifs [42] y1_1 (.esc (.esc (.ret ((false:Bool))))) (.bI 14 (bA (y0_1+1)) λx11=>.brk x11))) (.esc (.brk ())))) (λ_=>.cl 45 (rP n a1) yJ yP λx12=>.al 2<|.cl 50 (E4 n a1) aBD UB λx14=>.jn 0 [] [] [] (λ_ (a:Bool)=>[(2,aT a)]) (λ_ _=>[]) (.ln 54 aB.av a1<|.bB 55 (decide ((a1.length:Int)<=30)) λx15=>.ifs [55] x15 (.bB 58 (decide (x12.2=0)) λx16=>.ifs [58] x16 (.bB 62 (decide (x14.2=0)) λx17=>.ret x17) (.ret false)) (.ret false)) (λy3_1=>.ret ((y3_1:Bool))))
def yG (n:Nat) (a1:List aB):Option (Bool):=(aCE n a1).run
theorem GN {n a1 r} (h0:yG n a1=some r):PP Tryz.prog 238 [aP 3 aB.av a1] (λy=>y=aT r) :=
 bU mixed bR (λr:Bool=>aT r) h0 Tryz.func238 (λr=>gF r) 100000 au
def QE (n:Nat) (a1:List aB) (a2:aB):WT Tryz.prog (.b ((List aB)×Int)) :=
 .al 1<|.dr [(2,[1])] [(4,[])] [1] [1,4] [0,2,3,1,4,5] (.to 10 (aP 3 aB.av ([a2]:List aB))<|.as (a1.length<=68719476736) inferInstance<|.ge 8 2<|.bl (a1++([a2]:List aB):List aB) λx6=>.as (x6.length<=68719476736) inferInstance<|.ge 11 0<|.jn 1 [0,4,5,6] [2] [] (λ_ (a:Bool)=>[(12,aT a)]) (λ_ _=>[]) (.bB 15 (decide (a2.aG<1)) λx9=>.ifs [15] x9 (.ret true) (.bB 19 (decide (a2.Value<0)) λx10=>.ret x10)) (λy0_1=>.ifs [12] y0_1 (.ret ((a1:List aB),1)) (.ln 24 aB.av a1<|.bB 25 (decide ((a1.length:Int)>=30)) λx11=>.ifs [25] x11 (.ret ((a1:List aB),6)) (.kS 29 (yG n x6) JC GN (λ_=>rfl) λx12=>.bB 30 (!x12) λx13=>.ifs [30] x13 (.ret ((a1:List aB),2)) (.ret ((x6:List aB),0))))))
def yY (n:Nat) (a1:List aB) (a2:aB):Option ((List aB)×Int):=(QE n a1 a2).run
theorem aV1 {n a1 a2 r} (h0:yY n a1 a2=some r):PP Tryz.prog 227 [aP 3 aB.av a1,.agg (aB.av a2)] (λy=>y=.bC [aP 3 aB.av r.1,int r.2]) :=
 bU mixed bR (λr:(List aB)×Int=>.bC [aP 3 aB.av r.1,int r.2]) h0 Tryz.func227 (λr=>.bC (gD ((iJ aB.dH) (r.1)) (bT (r.2)))) 100000 au
def N7 (n:Nat) (a1:List aB) (a2:aB):WT Tryz.prog (.b ((List aB)×Int)) :=
 .al 1<|.jn 0 [0,3,4,5] [1] [] (λ_ (a:Bool)=>[(16,aT a)]) (λ_ _=>[]) (.bB 11 (decide (a2.aG<1)) λx4=>.ifs [11] x4 (.ret true) (.bB 15 (decide (a2.Value<0)) λx5=>.ret x5)) (λy0_1=>.ifs [16] y0_1 (.ret ((a1:List aB),1)) (.dr [(2,[1])] [(4,[])] [1] [1,4] [0,2,3,1,4,5] (.to 21 (aP 3 aB.av ([a2]:List aB))<|.as (a1.length<=68719476736) inferInstance<|.ge 19 2<|.bl (a1++([a2]:List aB):List aB) λx8=>.as (x8.length<=68719476736) inferInstance<|.ge 22 0<|.kS 24 (yG n x8) JC GN (λ_=>rfl) λx11=>.bB 25 (!x11) λx12=>.ifs [25] x12 (.ret ((a1:List aB),2)) (.kS 29 (rP n x8) yJ yP (λ_=>rfl) λx13=>.al 3<|.to 33 (aP 3 aB.av ([x13.1]:List aB))<|.ret ((([x13.1]:List aB):List aB),0)))))
def vB (n:Nat) (a1:List aB) (a2:aB):Option ((List aB)×Int):=(N7 n a1 a2).run
theorem SQ {n a1 a2 r} (h0:vB n a1 a2=some r):PP Tryz.prog 228 [aP 3 aB.av a1,.agg (aB.av a2)] (λy=>y=.bC [aP 3 aB.av r.1,int r.2]) :=
 bU mixed bR (λr:(List aB)×Int=>.bC [aP 3 aB.av r.1,int r.2]) h0 Tryz.func228 (λr=>.bC (gD ((iJ aB.dH) (r.1)) (bT (r.2)))) 100000 au
def WY (n:Nat) (a1:aH) (a2:aB):WT Tryz.prog (.b (aH×Int)) :=
 .al 1<|.al 2<|.al 3<|.cl 12 (vB n a1.aW a2) OR SQ λx6=>.bB 16 (decide (x6.2≠0)) λx7=>.ifs [16] x7 (.ret ((a1:aH),x6.2)) (.ret (((⟨x6.1,a1.bN⟩:aH):aH),0))
def KQ (n:Nat) (a1:aH) (a2:aB):Option (aH×Int):=(WY n a1 a2).run
theorem aN8 {n a1 a2 r} (h0:KQ n a1 a2=some r):PP Tryz.prog 229 [.agg (aH.av a1),.agg (aB.av a2)] (λy=>y=.bC [.agg (aH.av r.1),int r.2]) :=
 bU mixed bR (λr:aH×Int=>.bC [.agg (aH.av r.1),int r.2]) h0 Tryz.func229 (λr=>.bC (gD ((λ(a:aH)=>PV.agg (aH.dH a)) (r.1)) (bT (r.2)))) 100000 au
def VD (n:Nat) (a1:Int) (a2:Int):WT Tryz.prog (.b (Int×Bool)) :=
 .cl 12 (pU n a1 a2 1) vP vS λx3=>.bB 18 (decide (x3.2.2=0)) λx4=>.ret ((x3.1:Int),x4)
def y8 (n:Nat) (a1:Int) (a2:Int):Option (Int×Bool):=(VD n a1 a2).run
theorem SC {n a1 a2 r} (h0:y8 n a1 a2=some r):PP Tryz.prog 223 [int a1,int a2] (λy=>y=.bC [int r.1,aT r.2]) :=
 bU mixed bR (λr:Int×Bool=>.bC [int r.1,aT r.2]) h0 Tryz.func223 (λr=>.bC (gD (bT (r.1)) (gF (r.2)))) 100000 au
def aAB (n:Nat) (a1:List aB) (a2:aB) (a3:Int):WT Tryz.prog (.b ((List aB)×Int×Int)) :=
 .al 1<|.jn 0 [0,2,4,6,7,8] [1] [] (λ_ (a:Bool)=>[(28,aT a)]) (λ_ _=>[]) (.bB 14 (decide (a3<0)) λx5=>.ifs [14] x5 (.ret true) (.bB 17 (decide (a3>1073741824)) λx6=>.ifs [17] x6 (.ret true) (.bB 22 (decide (a2.aG<1)) λx7=>.ifs [22] x7 (.ret true) (.bB 27 (decide (a2.Value<0)) λx8=>.ret x8)))) (λy0_1=>.ifs [28] y0_1 (.ret ((a1:List aB),0,1)) (.cl 34 (y8 n a2.aG a3) O3 SC λx9=>.jn 0 [0,4,6,7,8,9] [1] [] (λ_ (a:Bool)=>[(43,aT a)]) (λ_ _=>[]) (.bB 38 (!x9.2) λx10=>.ifs [38] x10 (.ret true) (.bB 42 (decide (a2.Value>288230376151711744)) λx11=>.ret x11)) (λy1_1=>.ifs [43] y1_1 (.ret ((a1:List aB),0,2)) (.cl 53 (vB n a1 (⟨a2.aG,x9.1,a2.bO⟩:aB)) OR SQ λx12=>.bB 57 (decide (x12.2≠0)) λx13=>.ifs [57] x13 (.ret ((a1:List aB),0,x12.2)) (.dr [(1,[1]),(2,[1])] [] [1] [] [0,1,2,3,4,5,6,7] (.bI 64 (bA (a2.Value-x9.1)) λx14=>.ret ((x12.1:List aB),x14,0)))))))
def L9 (n:Nat) (a1:List aB) (a2:aB) (a3:Int):Option ((List aB)×Int×Int):=(aAB n a1 a2 a3).run
theorem aKL {n a1 a2 a3 r} (h0:L9 n a1 a2 a3=some r):PP Tryz.prog 230 [aP 3 aB.av a1,.agg (aB.av a2),int a3] (λy=>y=.bC [aP 3 aB.av r.1,int r.2.1,int r.2.2]) :=
 bU mixed bR (λr:(List aB)×Int×Int=>.bC [aP 3 aB.av r.1,int r.2.1,int r.2.2]) h0 Tryz.func230 (λr=>.bC (nM ((iJ aB.dH) (r.1)) (bT (r.2.1)) (bT (r.2.2)))) 100000 au
def aDA (n:Nat) (a1:Int) (a2:Int) (a3:aH) (a4:aB):WT Tryz.prog (.b (aH×Int×Int)) :=
 .al 1<|.al 2<|.al 3<|.al 4<|.jn 2 [6,8,9,10,11] [1,3] [] (λ_ (a:Int×Int×aH)=>[(12,int a.1),(13,int a.2.1)]) (λ_ a=>[.kp 4 [[aP 3 aB.av a.2.2.aW,int a.2.2.bN.a0,int a.2.2.bN.a1,int a.2.2.bN.a2]]]) (.bB 17 (decide (a1=1)) λx9=>.ifs [17] x9 (.cl 22 (yY n a3.aW a4) aJJ aV1 λx10=>.ret ((0:Int),x10.2,((⟨x10.1,a3.bN⟩:aH):aH))) (.bB 27 (decide (a1=2)) λx11=>.ifs [27] x11 (.cl 32 (vB n a3.aW a4) OR SQ λx12=>.ret ((0:Int),x12.2,((⟨x12.1,a3.bN⟩:aH):aH))) (.bB 37 (decide (a1=3)) λx13=>.ifs [37] x13 (.cl 41 (KQ n a3 a4) aIB aN8 λx14=>.ret ((0:Int),x14.2,x14.1)) (.bB 45 (decide (a1=4)) λx15=>.ifs [45] x15 (.cl 51 (L9 n a3.aW a4 a2) aRE aKL λx16=>.ret ((x16.2.1:Int),x16.2.2,((⟨x16.1,a3.bN⟩:aH):aH))) (.ret ((0:Int),12,a3)))))) (pw λy0_1 q0=>(pw λy0_2 y0_3=>.bB 57 (decide (y0_2≠0)) λx17=>.ifs [57] x17 (.ret ((a3:aH),0,y0_2)) (.ret ((y0_3:aH),y0_1,0))) q0)
def HY (n:Nat) (a1:Int) (a2:Int) (a3:aH) (a4:aB):Option (aH×Int×Int):=(aDA n a1 a2 a3 a4).run
theorem aSW {n a1 a2 a3 a4 r} (h0:HY n a1 a2 a3 a4=some r):PP Tryz.prog 183 [int a1,int a2,.agg (aH.av a3),.agg (aB.av a4)] (λy=>y=.bC [.agg (aH.av r.1),int r.2.1,int r.2.2]) :=
 bU mixed bR (λr:aH×Int×Int=>.bC [.agg (aH.av r.1),int r.2.1,int r.2.2]) h0 Tryz.func183 (λr=>.bC (nM ((λ(a:aH)=>PV.agg (aH.dH a)) (r.1)) (bT (r.2.1)) (bT (r.2.2)))) 100000 au
def aAF (n:Nat) (a1:aA) (a2:Int) (a3:Int) (a4:Int) (a5:aB):WT Tryz.prog (.b (aA×Int×Int×Int)) :=
 .al 1<|.al 2<|.al 3<|.jn 0 [1,2,3,5,9,10,11,12,13] [1,2,3] [] (λ_ (a:Bool)=>[(29,aT a)]) (λ_ _=>[]) (.cl 23 (vH a1 a2 a3) CO CP λx9=>.bB 24 (!x9) λx10=>.ifs [24] x10 (.ret true) (.cl 27 (jO a4 1) kE kG λx11=>.bB 28 (!x11) λx12=>.ret x12)) (λy0_1=>.ifs [29] y0_1 (.ret ((a1:aA),0,0,4)) (.dr [(0,[1]),(1,[1]),(2,[1]),(9,[1]),(10,[1]),(11,[1]),(18,[1]),(23,[2])] [(30,[])] [1,2] [29,30] [0,1,2,3,4,5,6,7,8,9,10,11,12,13,14,15,16,17,18,19,20,21,22,23,24,25,26,27,28,29,30,31,32] (.ix 36 (fL 1 fI) a1.bH.Methods a2 λx13=>.ix 39 fI x13 a3 λx14=>.ix 45 (fL 1 fI) a1.bH.gL a2 λx15=>.ix 48 fI x15 a3 λx16=>.cl 54 (pP a1 a2 a3 a4) uO uY λx17=>.cl 56 (HY n x14 x16 x17 a5) aLQ aSW λx18=>.al 4<|.bB 61 (decide (x18.2.2≠0)) λx20=>.ifs [61] x20 (.ret ((a1:aA),0,0,x18.2.2)) (.cl 69 (uE a1 a2 a3 a4 x18.1) BF BE λx21=>.al 5<|.cl 74 (A8 n x21 a2 a3) aEB TT λx23=>.bB 78 (decide (x23.2≠0)) λx24=>.ifs [78] x24 (.ret ((a1:aA),0,0,2)) (.jn 3 [5,9,10,11,12,13,15,17] [1,2,3,5] [7] (λu3 (a:(List aB))=>[(18,.sl 7 (u3 7) 0 a.length)]) (λ_ a=>[.nw 7 75 3 (a.map aB.av)]) (.no 18 7 75 3<|.lp [1,2,5,9,10,11,12,13,15,17] [1,2,3,5] [7] (λu4 (a:Int×(List aB))=>[(18,.sl 7 (u4 7) 0 a.2.length),(19,int a.1)]) (λ_ a=>[.nw 7 75 3 (a.2.map aB.av)]) n ((0:Int),(([]:List aB):List aB)) (pw λy1_2 y1_3=>.bB 81 (decide (y1_2<2)) λx26=>.ifs [81] x26 (.cl 89 (pP x21 a2 a3 y1_2) uO uY λx27=>.bl (y1_3++x27.aW:List aB) λx28=>.as (x28.length<=68719476736) inferInstance<|.ge 91 0<|.bI 83 (bA (y1_2+1)) λx31=>.brk ((x31:Int),x28)) (.esc (.ret y1_3)))) (λy2_2=>.kS 94 (E4 n y2_2) aBD UB (λ_=>rfl) λx32=>.bB 98 (decide (x32.2≠0)) λx33=>.ifs [98] x33 (.ret ((a1:aA),0,0,2)) (.dr [(0,[5]),(1,[2]),(2,[2])] [(6,[2])] [2,5] [6] [0,1,2,3,4,5,6,7,8,9] (.bI 104 (bA (a5.Value-x18.2.1)) λx34=>.ret ((x21:aA),x34,x18.2.1,0)))))))))
def wN (n:Nat) (a1:aA) (a2:Int) (a3:Int) (a4:Int) (a5:aB):Option (aA×Int×Int×Int):=(aAF n a1 a2 a3 a4 a5).run
theorem DT {n a1 a2 a3 a4 a5 r} (h0:wN n a1 a2 a3 a4 a5=some r):PP Tryz.prog 125 [.agg (aA.av a1),int a2,int a3,int a4,.agg (aB.av a5)] (λy=>y=.bC [.agg (aA.av r.1),int r.2.1,int r.2.2.1,int r.2.2.2]) :=
 bU mixed bR (λr:aA×Int×Int×Int=>.bC [.agg (aA.av r.1),int r.2.1,int r.2.2.1,int r.2.2.2]) h0 Tryz.func125 (λr=>.bC (FI ((λ(a:aA)=>PV.agg (aA.dH a)) (r.1)) (bT (r.2.1)) (bT (r.2.2.1)) (bT (r.2.2.2)))) 100000 au
def aCW (n:Nat) (a1:aA) (a2:bK):WT Tryz.prog (.b (aA×Int)) :=
 .al 1<|.al 2<|.al 3<|.bB 13 (decide (a2.Kind≠1)) λx6=>.ifs [13] x6 (.ret ((a1:aA),1)) (.cl 20 (oC a1 a2.E a2.Item) sM sJ λx7=>.bB 22 (decide (x7≠0)) λx8=>.ifs [22] x8 (.ret ((a1:aA),x7)) (.ln 27 dG.av a1.bY<|.bB 28 (decide ((a1.bY.length:Int)>=40)) λx9=>.ifs [28] x9 (.ret ((a1:aA),6)) (.cl 43 (wN n a1 a2.E a2.Item a2.Loc (⟨a2.aG,a2.bM,0⟩:aB)) FB DT λx10=>.al 4<|.bB 49 (decide (x10.2.2.2≠0)) λx12=>.ifs [49] x12 (.ret ((a1:aA),x10.2.2.2)) (.bI 62 (bA (0-a2.bM)) λx13=>.to 64 (aP 2 aN.av ([(⟨0,x10.2.1⟩:aN),(⟨6,x10.2.2.1⟩:aN),(⟨1,x13⟩:aN)]:List aN))<|.cl 65 (kV n x10.1 a2.E ([(⟨0,x10.2.1⟩:aN),(⟨6,x10.2.2.1⟩:aN),(⟨1,x13⟩:aN)]:List aN)) o5 pF λx14=>.bB 69 (decide (x14.2≠0)) λx15=>.ifs [69] x15 (.ret ((a1:aA),x14.2)) (.cl 80 (nE n x14.1 a2.E a2.Item (⟨0,x10.2.1,0,0,0,0,0,0,0,0,0⟩:cO)) uW tL λx16=>.bB 84 (decide (x16.2≠0)) λx17=>.ifs [84] x17 (.ret ((a1:aA),x16.2)) (.dr [(0,[4]),(1,[4]),(3,[2]),(4,[2]),(5,[2]),(6,[2]),(7,[2]),(8,[2]),(9,[2]),(10,[2]),(11,[2]),(12,[2]),(13,[2]),(14,[2]),(15,[2]),(16,[2]),(20,[4])] [(2,[2]),(19,[]),(21,[])] [2,4] [2,19,21] [0,1,3,4,5,6,7,8,9,10,11,12,13,14,15,16,17,18,2,19,20,21] (.to 105 (aP 8 dG.av ([(⟨a2.E,a2.Item,a2.Loc,a2.aG,a2.bM,a2.aG,a2.bM,0⟩:dG)]:List dG))<|.as (x16.1.bY.length<=68719476736) inferInstance<|.ge 89 5<|.bl (x16.1.bY++([(⟨a2.E,a2.Item,a2.Loc,a2.aG,a2.bM,a2.aG,a2.bM,0⟩:dG)]:List dG):List dG) λx20=>.as (x20.length<=68719476736) inferInstance<|.ge 106 0<|.ret (((⟨x16.1.bH,x16.1.bD,x20,x16.1.eF,x16.1.dL,x16.1.Done⟩:aA):aA),0))))))))
def ET (n:Nat) (a1:aA) (a2:bK):Option (aA×Int):=(aCW n a1 a2).run
theorem aF0 {n a1 a2 r} (h0:ET n a1 a2=some r):PP Tryz.prog 69 [.agg (aA.av a1),.agg (bK.av a2)] (λy=>y=.bC [.agg (aA.av r.1),int r.2]) :=
 bU mixed bR (λr:aA×Int=>.bC [.agg (aA.av r.1),int r.2]) h0 Tryz.func69 (λr=>.bC (gD ((λ(a:aA)=>PV.agg (aA.dH a)) (r.1)) (bT (r.2)))) 100000 au
def YQ (n:Nat) (a1:aH):WT Tryz.prog (.b (Int)) :=
 .al 1<|.cl 8 (rP n a1.aW) yJ yP λx3=>.al 2<|.gv 14<|.bI 16 (bA (x3.1.aG-a1.bN.a0)) λx5=>.gv 18<|.bI 20 (bA (x5-a1.bN.a1)) λx6=>.gv 22<|.bI 24 (bA (x6-a1.bN.a2)) λx7=>.ret ((x7:Int))
def wJ (n:Nat) (a1:aH):Option (Int):=(YQ n a1).run
theorem OC {n a1 r} (h0:wJ n a1=some r):PP Tryz.prog 222 [.agg (aH.av a1)] (λy=>y=int r) :=
 bU mixed bR (λr:Int=>int r) h0 Tryz.func222 (λr=>bT r) 100000 au
def NV (n:Nat) (a1:aH) (a2:Int) (a3:Int):WT Tryz.prog (.b (aH×Int)) :=
 .al 1<|.al 2<|.jn 1 [1,2,3,6,7] [1,2] [] (λ_ (a:Bool)=>[(8,aT a)]) (λ_ _=>[]) (.bB 10 (decide (a2<0)) λx6=>.ifs [10] x6 (.ret true) (.bB 13 (decide (a2>=3)) λx7=>.ifs [13] x7 (.ret true) (.bB 17 (decide (a3<1)) λx8=>.ret x8))) (λy0_1=>.ifs [8] y0_1 (.ret ((a1:aH),1)) (.cl 23 (wJ n a1) N8 OC λx9=>.bB 24 (decide (a3>x9)) λx10=>.ifs [24] x10 (.ret ((a1:aH),5)) (.sp [1] a2 0 (.gv 29<|.bI 32 (bA (a1.bN.a0+a3)) λx13=>.gv 34<|.ret (((⟨a1.aW,(⟨x13,a1.bN.a1,a1.bN.a2⟩:kU)⟩:aH):aH),0)) (.sp [1] a2 1 (.gv 29<|.bI 32 (bA (a1.bN.a1+a3)) λx12=>.gv 34<|.ret (((⟨a1.aW,(⟨a1.bN.a0,x12,a1.bN.a2⟩:kU)⟩:aH):aH),0)) (.sa [1] a2 2 (.gv 29<|.bI 32 (bA (a1.bN.a2+a3)) λx11=>.gv 34<|.ret (((⟨a1.aW,(⟨a1.bN.a0,a1.bN.a1,x11⟩:kU)⟩:aH):aH),0)))))))
def AM (n:Nat) (a1:aH) (a2:Int) (a3:Int):Option (aH×Int):=(NV n a1 a2 a3).run
theorem aLU {n a1 a2 a3 r} (h0:AM n a1 a2 a3=some r):PP Tryz.prog 234 [.agg (aH.av a1),int a2,int a3] (λy=>y=.bC [.agg (aH.av r.1),int r.2]) :=
 bU mixed bR (λr:aH×Int=>.bC [.agg (aH.av r.1),int r.2]) h0 Tryz.func234 (λr=>.bC (gD ((λ(a:aH)=>PV.agg (aH.dH a)) (r.1)) (bT (r.2)))) 100000 au
def OK (n:Nat) (a1:aH) (a2:Int):WT Tryz.prog (.b (aH×aB×Int)) :=
 .al 1<|.al 2<|.al 3<|.bB 12 (decide (a2<1)) λx6=>.ifs [12] x6 (.ret ((a1:aH),((⟨0,0,0⟩:aB):aB),1)) (.cl 18 (wJ n a1) N8 OC λx7=>.bB 19 (decide (a2>x7)) λx8=>.ifs [19] x8 (.ret ((a1:aH),((⟨0,0,0⟩:aB):aB),5)) (.cl 26 (pO n a1.aW a2) zM zP λx9=>.al 4<|.dr [(0,[1]),(1,[4])] [(3,[4]),(4,[])] [1,4] [3,4] [0,1,2,3,4,5] (.ret (((⟨x9.1,a1.bN⟩:aH):aH),x9.2.1,x9.2.2))))
def AF (n:Nat) (a1:aH) (a2:Int):Option (aH×aB×Int):=(OK n a1 a2).run
theorem aXW {n a1 a2 r} (h0:AF n a1 a2=some r):PP Tryz.prog 235 [.agg (aH.av a1),int a2] (λy=>y=.bC [.agg (aH.av r.1),.agg (aB.av r.2.1),int r.2.2]) :=
 bU mixed bR (λr:aH×aB×Int=>.bC [.agg (aH.av r.1),.agg (aB.av r.2.1),int r.2.2]) h0 Tryz.func235 (λr=>.bC (nM ((λ(a:aH)=>PV.agg (aH.dH a)) (r.1)) ((λ(a:aB)=>PV.agg (aB.dH a)) (r.2.1)) (bT (r.2.2)))) 100000 au
def TG (n:Nat) (a1:List aB) (a2:Int) (a3:Int):WT Tryz.prog (.b ((List aB)×aB×Int)) :=
 .al 1<|.jn 0 [0,1,2,6,7,8] [1] [] (λ_ (a:Bool)=>[(21,aT a)]) (λ_ _=>[]) (.bB 17 (decide (a3<0)) λx5=>.ifs [17] x5 (.ret true) (.bB 20 (decide (a3>1073741824)) λx6=>.ret x6)) (λy0_1=>.ifs [21] y0_1 (.ret ((a1:List aB),((⟨0,0,0⟩:aB):aB),1)) (.cl 27 (pO n a1 a2) zM zP λx7=>.al 2<|.jn 0 [0,1,2,6,7,8,9,10,11] [1,2] [] (λ_ (a:Bool)=>[(37,aT a)]) (λ_ _=>[]) (.bB 32 (decide (x7.2.2≠0)) λx9=>.ifs [32] x9 (.ret true) (.ln 35 aB.av x7.1<|.bB 36 (decide ((x7.1.length:Int)=0)) λx10=>.ret x10)) (λy1_1=>.ifs [37] y1_1 (.dr [(1,[2])] [(4,[])] [2] [4] [0,1,2,3,4,5] (.ret ((x7.1:List aB),x7.2.1,x7.2.2))) (.cl 43 (rP n a1) yJ yP λx11=>.al 3<|.cl 49 (y8 n a2 a3) O3 SC λx13=>.jn 0 [1,6,7,8,10,12,14] [1,2,3] [] (λ_ (a:Bool)=>[(59,aT a)]) (λ_ _=>[]) (.bB 53 (!x13.2) λx14=>.ifs [53] x14 (.ret true) (.bB 58 (decide (x13.1>x11.1.Value)) λx15=>.ret x15)) (λy2_1=>.jn 0 [1,6,7,8,10,12] [1,2,3] [] (λ_ (a:Int)=>[(14,int a)]) (λ_ _=>[]) (.ifs [59] y2_1 (.ret (x11.1.Value:Int)) (.ret x13.1)) (λy3_1=>.dr [(0,[3]),(1,[3]),(4,[3]),(5,[3]),(8,[3]),(9,[3]),(10,[2]),(11,[2]),(15,[2])] [(17,[])] [2,3] [17] [0,1,2,3,4,5,6,7,8,9,10,11,12,13,14,15,16,17,18] (.bI 67 (bA (x11.1.aG-a2)) λx16=>.bI 71 (bA (x11.1.Value-y3_1)) λx17=>.bI 76 (bA (x11.1.bO-x7.2.1.bO)) λx18=>.to 78 (aP 3 aB.av ([(⟨x16,x17,x18⟩:aB)]:List aB))<|.ret ((([(⟨x16,x17,x18⟩:aB)]:List aB):List aB),((⟨x7.2.1.aG,y3_1,x7.2.1.bO⟩:aB):aB),0))))))))
def BO (n:Nat) (a1:List aB) (a2:Int) (a3:Int):Option ((List aB)×aB×Int):=(TG n a1 a2 a3).run
theorem aO7 {n a1 a2 a3 r} (h0:BO n a1 a2 a3=some r):PP Tryz.prog 236 [aP 3 aB.av a1,int a2,int a3] (λy=>y=.bC [aP 3 aB.av r.1,.agg (aB.av r.2.1),int r.2.2]) :=
 bU mixed bR (λr:(List aB)×aB×Int=>.bC [aP 3 aB.av r.1,.agg (aB.av r.2.1),int r.2.2]) h0 Tryz.func236 (λr=>.bC (nM ((iJ aB.dH) (r.1)) ((λ(a:aB)=>PV.agg (aB.dH a)) (r.2.1)) (bT (r.2.2)))) 100000 au
def RB (n:Nat) (a1:Int) (a2:Int) (a3:aH) (a4:Int) (a5:Int):WT Tryz.prog (.b (aH×aB×Bool×Int)) :=
 .al 1<|.al 2<|.al 3<|.al 4<|.al 5<|.jn 1 [0,1,3,4,7,10,11,12,13,14,15,16] [1,2,3,4,5] [] (λ_ (a:Bool)=>[(31,aT a)]) (λ_ _=>[]) (.bB 19 (decide (a1>=1)) λx11=>.ifs [19] x11 (.bB 22 (decide (a1<=4)) λx12=>.ifs [22] x12 (.bB 26 (decide (a4<0)) λx13=>.ifs [26] x13 (.ret true) (.bB 29 (decide (a4>3)) λx14=>.ret x14)) (.ret false)) (.ret false)) (λy0_1=>.ifs [31] y0_1 (.dr [(0,[1]),(1,[5])] [(2,[5]),(3,[])] [1,5] [2,3] [0,1,2,3,4,5] (.ret ((a3:aH),((⟨0,0,0⟩:aB):aB),false,1))) (.fD 2 [7,10,11,12,13,14,15] [1,2,3] [] (λ_ (a:Int×aH×aB)=>[(16,int a.1)]) (λ_ a=>[.kp 4 [[aP 3 aB.av a.2.1.aW,int a.2.1.bN.a0,int a.2.1.bN.a1,int a.2.1.bN.a2]],.kp 5 [[int a.2.2.aG,int a.2.2.Value,int a.2.2.bO]]]) (.bB 36 (decide (a1=1)) λx15=>.ifs [36] x15 (.cl 41 (xN n a3.aW a5) aF9 aBS λx16=>.brk ((x16.2.2:Int),((⟨x16.1,a3.bN⟩:aH):aH),x16.2.1)) (.bB 47 (decide (a1=2)) λx17=>.ifs [47] x17 (.cl 52 (pO n a3.aW a5) zM zP λx18=>.brk ((x18.2.2:Int),((⟨x18.1,a3.bN⟩:aH):aH),x18.2.1)) (.bB 58 (decide (a1=3)) λx19=>.ifs [58] x19 (.bB 60 (decide (a4≠3)) λx20=>.ifs [60] x20 (.cl 65 (AM n a3 a4 a5) aOF aLU λx21=>.dr [(0,[4]),(1,[5])] [(5,[5]),(6,[])] [4,5] [5,6] [0,1,2,3,4,5,6,7,8] (.bB 71 (decide (x21.2=0)) λx22=>.esc (.ret ((x21.1:aH),((⟨0,0,0⟩:aB):aB),x22,x21.2)))) (.cl 76 (AF n a3 a5) aIE aXW λx23=>.brk ((x23.2.2:Int),x23.1,x23.2.1))) (.bB 81 (decide (a1=4)) λx24=>.ifs [81] x24 (.cl 87 (BO n a3.aW a5 a2) aHK aO7 λx25=>.brk ((x25.2.2:Int),((⟨x25.1,a3.bN⟩:aH):aH),x25.2.1)) (.brk ((12:Int),a3,((⟨0,0,0⟩:aB):aB))))))) (pw λy1_1 q0=>(pw λy1_2 y1_3=>.bB 93 (decide (y1_1≠0)) λx26=>.ifs [93] x26 (.ret ((a3:aH),((⟨0,0,0⟩:aB):aB),false,y1_1)) (.dr [(0,[4]),(1,[5])] [(2,[5]),(3,[])] [4,5] [2,3] [0,1,2,3,4,5] (.ret ((y1_2:aH),y1_3,false,0)))) q0)))
def zJ (n:Nat) (a1:Int) (a2:Int) (a3:aH) (a4:Int) (a5:Int):Option (aH×aB×Bool×Int):=(RB n a1 a2 a3 a4 a5).run
theorem aW6 {n a1 a2 a3 a4 a5 r} (h0:zJ n a1 a2 a3 a4 a5=some r):PP Tryz.prog 189 [int a1,int a2,.agg (aH.av a3),int a4,int a5] (λy=>y=.bC [.agg (aH.av r.1),.agg (aB.av r.2.1),aT r.2.2.1,int r.2.2.2]) :=
 bU mixed bR (λr:aH×aB×Bool×Int=>.bC [.agg (aH.av r.1),.agg (aB.av r.2.1),aT r.2.2.1,int r.2.2.2]) h0 Tryz.func189 (λr=>.bC (FI ((λ(a:aH)=>PV.agg (aH.dH a)) (r.1)) ((λ(a:aB)=>PV.agg (aB.dH a)) (r.2.1)) (gF (r.2.2.1)) (bT (r.2.2.2)))) 100000 au
def IR (n:Nat) (a1:aA) (a2:Int) (a3:Int) (a4:Int) (a5:Int) (a6:Int):WT Tryz.prog (.b (aA×aB×Bool×Int)) :=
 .al 1<|.al 2<|.al 3<|.jn 0 [1,2,3,4,5,6,12,13,14,15] [1,2,3] [] (λ_ (a:Bool)=>[(29,aT a)]) (λ_ _=>[]) (.cl 23 (vH a1 a2 a3) CO CP λx10=>.bB 24 (!x10) λx11=>.ifs [24] x11 (.ret true) (.cl 27 (jO a4 1) kE kG λx12=>.bB 28 (!x12) λx13=>.ret x13)) (λy0_1=>.ifs [29] y0_1 (.ret ((a1:aA),((⟨0,0,0⟩:aB):aB),false,4)) (.dg [(0,[1]),(1,[1]),(2,[1]),(9,[1]),(10,[1]),(11,[1]),(18,[1]),(33,[4]),(34,[5])] [(31,4),(32,5),(33,4),(34,5)] (.ix 37 (fL 1 fI) a1.bH.Methods a2 λx14=>.ix 40 fI x14 a3 λx15=>.ix 46 (fL 1 fI) a1.bH.gL a2 λx16=>.ix 49 fI x16 a3 λx17=>.cl 55 (pP a1 a2 a3 a4) uO uY λx18=>.cl 58 (zJ n x15 x17 x18 a5 a6) aGY aW6 λx19=>.al 4<|.al 5<|.bB 18 (x19.2.2.1) λx22=>.bB 64 (decide (x19.2.2.2≠0)) λx23=>.ifs [64] x23 (.ret ((a1:aA),((⟨0,0,0⟩:aB):aB),false,x19.2.2.2)) (.dr [(0,[1]),(4,[4]),(6,[5])] [(8,[5]),(9,[])] [1,4,5] [8,9] [0,1,2,3,4,5,6,7,8,9,10,11] (.cl 73 (uE a1 a2 a3 a4 x19.1) BF BE λx24=>.ret ((x24:aA),x19.2.1,x22,0))))))
def oM (n:Nat) (a1:aA) (a2:Int) (a3:Int) (a4:Int) (a5:Int) (a6:Int):Option (aA×aB×Bool×Int):=(IR n a1 a2 a3 a4 a5 a6).run
theorem AY {n a1 a2 a3 a4 a5 a6 r} (h0:oM n a1 a2 a3 a4 a5 a6=some r):PP Tryz.prog 131 [.agg (aA.av a1),int a2,int a3,int a4,int a5,int a6] (λy=>y=.bC [.agg (aA.av r.1),.agg (aB.av r.2.1),aT r.2.2.1,int r.2.2.2]) :=
 bU mixed bR (λr:aA×aB×Bool×Int=>.bC [.agg (aA.av r.1),.agg (aB.av r.2.1),aT r.2.2.1,int r.2.2.2]) h0 Tryz.func131 (λr=>.bC (FI ((λ(a:aA)=>PV.agg (aA.dH a)) (r.1)) ((λ(a:aB)=>PV.agg (aB.dH a)) (r.2.1)) (gF (r.2.2.1)) (bT (r.2.2.2)))) 100000 au
def aD6 (n:Nat) (a1:aA) (a2:bK):WT Tryz.prog (.b (aA×Int)) :=
 .al 1<|.al 2<|.al 3<|.cl 16 (oC a1 a2.E a2.Item) sM sJ λx6=>.bB 18 (decide (x6≠0)) λx7=>.ifs [18] x7 (.ret ((a1:aA),x6)) (.ln 23 eZ.av a1.eF<|.bB 24 (decide ((a1.eF.length:Int)>=40)) λx8=>.ifs [24] x8 (.ret ((a1:aA),6)) (.cl 36 (oM n a1 a2.E a2.Item a2.Loc 0 a2.aG) zS AY λx9=>.al 4<|.al 5<|.bB 42 (decide (x9.2.2.2≠0)) λx12=>.ifs [42] x12 (.ret ((a1:aA),x9.2.2.2)) (.bI 54 (bA (0-a2.bM)) λx13=>.bI 61 (bA (0-x9.2.1.Value)) λx14=>.to 63 (aP 2 aN.av ([(⟨3,a2.bM⟩:aN),(⟨4,x13⟩:aN),(⟨5,x9.2.1.Value⟩:aN),(⟨0,x14⟩:aN)]:List aN))<|.cl 64 (kV n x9.1 a2.E ([(⟨3,a2.bM⟩:aN),(⟨4,x13⟩:aN),(⟨5,x9.2.1.Value⟩:aN),(⟨0,x14⟩:aN)]:List aN)) o5 pF λx15=>.bB 68 (decide (x15.2≠0)) λx16=>.ifs [68] x16 (.ret ((a1:aA),x15.2)) (.cl 80 (nE n x15.1 a2.E a2.Item (⟨0,0,0,0,0,x9.2.1.Value,0,0,0,0,0⟩:cO)) uW tL λx17=>.bB 84 (decide (x17.2≠0)) λx18=>.ifs [84] x18 (.ret ((a1:aA),x17.2)) (.dr [(0,[4]),(1,[4]),(3,[2]),(4,[2]),(5,[2]),(6,[2]),(7,[2]),(8,[2]),(9,[2]),(10,[2]),(11,[5]),(12,[5]),(13,[5]),(14,[5]),(15,[1]),(16,[1]),(17,[2]),(18,[2]),(26,[4])] [(2,[1,2,5]),(25,[]),(27,[])] [1,2,4,5] [2,25,27] [0,1,3,4,5,6,7,8,9,10,11,12,13,14,15,16,17,18,19,20,21,22,23,24,2,25,26,27] (.iF 106 aQ.av gE aQ.fF a1.bD a2.E λx19=>.bB 109 (x9.2.2.1) λx20=>.to 111 (aP 9 eZ.av ([(⟨a2.E,a2.Item,a2.Loc,a2.aG,0,x9.2.1.Value,x9.2.1.bO,x19.fU,x20⟩:eZ)]:List eZ))<|.as (x17.1.eF.length<=68719476736) inferInstance<|.ge 89 6<|.bl (x17.1.eF++([(⟨a2.E,a2.Item,a2.Loc,a2.aG,0,x9.2.1.Value,x9.2.1.bO,x19.fU,x20⟩:eZ)]:List eZ):List eZ) λx23=>.as (x23.length<=68719476736) inferInstance<|.ge 112 0<|.ret (((⟨x17.1.bH,x17.1.bD,x17.1.bY,x23,x17.1.dL,x17.1.Done⟩:aA):aA),0)))))))
def IL (n:Nat) (a1:aA) (a2:bK):Option (aA×Int):=(aD6 n a1 a2).run
theorem aJ1 {n a1 a2 r} (h0:IL n a1 a2=some r):PP Tryz.prog 106 [.agg (aA.av a1),.agg (bK.av a2)] (λy=>y=.bC [.agg (aA.av r.1),int r.2]) :=
 bU mixed bR (λr:aA×Int=>.bC [.agg (aA.av r.1),int r.2]) h0 Tryz.func106 (λr=>.bC (gD ((λ(a:aA)=>PV.agg (aA.dH a)) (r.1)) (bT (r.2)))) 100000 au
def aD4 (a1:aH) (a2:Int) (a3:Int):WT Tryz.prog (.b (aH×Int)) :=
 .al 1<|.al 2<|.fD 0 [2,3,6,7] [1,2] [] (λ_ (a:Int)=>[(1,int a)]) (λ_ _=>[]) (.jn 1 [1,2,3,6,7] [1,2] [] (λ_ (a:Bool)=>[(8,aT a)]) (λ_ _=>[]) (.bB 10 (decide (a2<0)) λx6=>.ifs [10] x6 (.ret true) (.bB 13 (decide (a2>=3)) λx7=>.ifs [13] x7 (.ret true) (.bB 17 (decide (a3<1)) λx8=>.ret x8))) (λy0_1=>.ifs [8] y0_1 (.esc (.ret ((a1:aH),1))) (.sp [1] a2 0 (.gv 24<|.bB 26 (decide (a3>a1.bN.a0)) λx11=>.ifs [26] x11 (.esc (.ret ((a1:aH),5))) (.brk 0)) (.sp [1] a2 1 (.gv 24<|.bB 26 (decide (a3>a1.bN.a1)) λx10=>.ifs [26] x10 (.esc (.ret ((a1:aH),5))) (.brk 1)) (.sa [1] a2 2 (.gv 24<|.bB 26 (decide (a3>a1.bN.a2)) λx9=>.ifs [26] x9 (.esc (.ret ((a1:aH),5))) (.brk 2))))))) (λy1_1=>.sp [1] y1_1 0 (.gv 31<|.bI 34 (bA (a1.bN.a0-a3)) λx14=>.gv 36<|.ret (((⟨a1.aW,(⟨x14,a1.bN.a1,a1.bN.a2⟩:kU)⟩:aH):aH),0)) (.sp [1] y1_1 1 (.gv 31<|.bI 34 (bA (a1.bN.a1-a3)) λx13=>.gv 36<|.ret (((⟨a1.aW,(⟨a1.bN.a0,x13,a1.bN.a2⟩:kU)⟩:aH):aH),0)) (.sa [1] y1_1 2 (.gv 31<|.bI 34 (bA (a1.bN.a2-a3)) λx12=>.gv 36<|.ret (((⟨a1.aW,(⟨a1.bN.a0,a1.bN.a1,x12⟩:kU)⟩:aH):aH),0)))))
def C9 (a1:aH) (a2:Int) (a3:Int):Option (aH×Int):=(aD4 a1 a2 a3).run
theorem aQB {a1 a2 a3 r} (h0:C9 a1 a2 a3=some r):PP Tryz.prog 167 [.agg (aH.av a1),int a2,int a3] (λy=>y=.bC [.agg (aH.av r.1),int r.2]) :=
 bU mixed bR (λr:aH×Int=>.bC [.agg (aH.av r.1),int r.2]) h0 Tryz.func167 (λr=>.bC (gD ((λ(a:aH)=>PV.agg (aH.dH a)) (r.1)) (bT (r.2)))) 100000 au
def aDZ (a1:aA) (a2:Int) (a3:eZ):WT Tryz.prog (.b (aA)) :=
 .al 1<|.al 2<|.al 3<|.as (a1.eF.length<=68719476736) inferInstance<|.ge 10 4<|.bo (ix a1.eF a2) λx9=>.gv 14<|.bl (a1.eF.set (Int.toNat a2) a3:List eZ) λx10=>.ge 1002004 0<|.ret (((⟨a1.bH,a1.bD,a1.bY,x10,a1.dL,a1.Done⟩:aA):aA))
def CK (a1:aA) (a2:Int) (a3:eZ):Option (aA):=(aDZ a1 a2 a3).run
theorem XO {a1 a2 a3 r} (h0:CK a1 a2 a3=some r):PP Tryz.prog 168 [.agg (aA.av a1),int a2,.agg (eZ.av a3)] (λy=>y=.agg (aA.av r)) :=
 bU mixed bR (λr:aA=>.agg (aA.av r)) h0 Tryz.func168 (λr=>(λ(a:aA)=>PV.agg (aA.dH a)) r) 100000 au
end
end Go.Pv
