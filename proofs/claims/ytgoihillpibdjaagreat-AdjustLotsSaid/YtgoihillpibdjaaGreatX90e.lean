import Derived.Test.YtgoihillpibdjaaGreatX90d
set_option linter.unusedVariables false
set_option linter.unusedSimpArgs false
namespace Go.Pv
open Go.Proofs
set_option maxRecDepth 100000
set_option maxHeartbeats 4000000
noncomputable section
def aHB (n:Nat) (a1:aA) (a2:Int):WB (aA×Int) :=
 .al 1<|.al 2<|.jn 1 [1,2,4,5] [1,2] [] (λ_ (a:Bool)=>[(8,bD a)]) (λ_ _=>[]) (.bB 10 (decide (a2<0)) λx5=>.ifs [10] x5 (.ret true) (.ln 15 aP.av a1.bC<|.bB 16 (decide (a2>=(a1.bC.length:Int))) λx6=>.ret x6)) (λy0_1=>.ifs [8] y0_1 (.ret ((a1:aA),4)) (.iG 23 aP.av gE aP.eP a1.bC a2 λx7=>.bB 26 (!x7.Closed) λx8=>.ifs [26] x8 (.ret ((a1:aA),8)) (.as (a1.bC.length<=68719476736) inferInstance<|.ge 30 3<|.dr [(0,[1]),(1,[1]),(3,[1]),(4,[1]),(6,[3]),(7,[3]),(8,[3]),(11,[3])] [(12,[])] [1,3] [12] [0,1,2,3,4,5,6,7,8,9,10,11,12] (.bo (ix a1.bC a2) λx11=>.gv 38<|.gv 39<|.gv 40<|.iG 41 aP.av gE aP.eP x11.fP 0 λx12=>.gv 43<|.bl (a1.bC.set (Int.toNat a2) x12:List aP) λx13=>.ge 1006012 0<|.as (a1.dY.length<=68719476736) inferInstance<|.ge 46 4<|.jn 1 [2,4,5] [2,3] [] (λ_ (a:(List eH))=>[]) (λu10 a=>[.kp 1 [[int a1.bJ.gD,int a1.bJ.gP,aN 1 fI a1.bJ.cB,aN 1 (fL 1 fI) a1.bJ.Methods,aN 1 (fL 1 fI) a1.bJ.gB,.sl 3 (u10 3) 0 a1.bC.length,aN 8 eU.av a1.cZ,.sl 4 (u10 4) 0 a.length,aN 6 fU.av a1.dJ,int a1.Done]],.kp 4 (a.map eH.av)]) (.lp [1,2,4,5] [2,3] [] (λ_ (a:Int×(List eH))=>[(6,int a.1)]) (λu13 a=>[.kp 1 [[int a1.bJ.gD,int a1.bJ.gP,aN 1 fI a1.bJ.cB,aN 1 (fL 1 fI) a1.bJ.Methods,aN 1 (fL 1 fI) a1.bJ.gB,.sl 3 (u13 3) 0 a1.bC.length,aN 8 eU.av a1.cZ,.sl 4 (u13 4) 0 a.2.length,aN 6 fU.av a1.dJ,int a1.Done]],.kp 4 (a.2.map eH.av)]) n ((0:Int),(a1.dY:List eH)) (pw λy1_1 y1_2=>.bB 52 (decide (y1_1<(y1_2.length:Int))) λx16=>.ifs [52] x16 (.jn 1 [1,2,4,5,6] [2,3] [] (λ_ (a:(List eH))=>[]) (λu15 a=>[.kp 1 [[int a1.bJ.gD,int a1.bJ.gP,aN 1 fI a1.bJ.cB,aN 1 (fL 1 fI) a1.bJ.Methods,aN 1 (fL 1 fI) a1.bJ.gB,.sl 3 (u15 3) 0 a1.bC.length,aN 8 eU.av a1.cZ,.sl 4 (u15 4) 0 a.length,aN 6 fU.av a1.dJ,int a1.Done]],.kp 4 (a.map eH.av)]) (.bo (ix y1_2 y1_1) λx17=>.gv 58<|.gv 59<|.al 5<|.jn 0 [1,2,4,5,6] [1,2,3,4] [] (λ_ (a:Bool)=>[(78,bD a)]) (λ_ _=>[]) (.dr [(0,[5]),(1,[5]),(3,[5]),(4,[5]),(9,[5]),(10,[5]),(11,[1]),(12,[1]),(14,[3]),(15,[3]),(16,[3])] [] [1,3,5] [] [0,1,2,3,4,5,6,7,8,9,10,11,12,13,14,15,16,17,18] (.bB 62 (x17.pM) λx19=>.ifs [62] x19 (.bB 66 (decide (x17.fT=a2)) λx20=>.ifs [66] x20 (.gv 74<|.gv 75<|.gv 76<|.bB 77 (decide (x17.nP=((x12:aP).fO))) λx21=>.ret x21) (.ret false)) (.ret false))) (λy2_1=>.ifs [78] y2_1 (.dr [(0,[1]),(1,[1]),(3,[1]),(4,[1]),(6,[4]),(7,[4]),(9,[4]),(10,[4])] [(8,[1]),(11,[])] [1,4] [8,11] [0,1,2,3,4,5,6,7,8,9,10,11] (.gv 85<|.gv 86<|.bl (y1_2.set (Int.toNat y1_1) ((⟨x17.fT,x17.Item,x17.Loc,x17.aI,x17.iP,0,x17.bN,x17.nP,x17.pM⟩:eH):eH):List eH) λx22=>.ge 1013008 0<|.gv 87<|.gv 88<|.bl (x22.set (Int.toNat y1_1) ((⟨x17.fT,x17.Item,x17.Loc,x17.aI,x17.iP,0,0,x17.nP,x17.pM⟩:eH):eH):List eH) λx23=>.ge 1013011 0<|.ret x23)) (.ret y1_2))) (λy3_1=>.bI 54 (aW (y1_1+1)) λx24=>.brk ((x24:Int),y3_1))) (.esc (.ret y1_2)))) (λy4_1=>.ret (((⟨a1.bJ,x13,a1.cZ,y4_1,a1.dJ,a1.Done⟩:aA):aA),0))))))
def NZ (n:Nat) (a1:aA) (a2:Int):Option (aA×Int):=(aHB n a1 a2).run
theorem aLY {n a1 a2}:PZ (NZ n a1 a2) 26 [.agg (aA.av a1),int a2] (λr=>.bT [.agg (aA.av r.1),int r.2]):=by
 refine wm Tryz.func26 ?_
 intro v3
 intro v4
 refine .mk ?_ ?_
 refine .mk λx5=>?_
 refine .mk .mk ?_
 refine .mk ?_
 refine .mk λx6=>?_
 exact .mk
 intro _ _
 refine .mk .mk ?_
 refine .mk λx7 e7=>?_
 refine .mk λx8=>?_
 refine .mk .mk ?_
 refine .mk λp9=>?_
 refine .mk _ ⟨λ_=>tK (g:=aP.av) (m:=a1.bC) 3 rfl Tryz.underlying27 CJ IE rfl rfl rfl rfl (.refl _) aP.one p9,λ_ _ _=>trivial⟩ ?_
 rintro _ _ ⟨v10,rfl,rfl⟩
 refine .mk ?_
 refine .mk λx11 e11=>?_
 refine .mk _ (λH hH _=>iJ rfl Tryz.underlying27 nY rfl rfl ((hH _ (by decide)).trans rfl) rfl rfl (Eq.symm rfl) (List.length_map _) e11) ?_
 refine .mk _ (λH hH _=>gT rfl YH rfl (.pt ((hH _ (by decide)).trans rfl) rfl (iE e11 (aP.eP _))) (.pt _ _ _ _ _)) ?_
 refine .mk _ (λH hH _=>iB rfl U5 rfl (.pt ((hH _ (by decide)).trans rfl) rfl (iE e11 (aP.eP _))) rfl) ?_
 refine .mk λx12 e12=>?_
 refine .mk _ (λH hH _=>iJ rfl Tryz.underlying27 nY rfl rfl ((hH _ (by decide)).trans rfl) rfl rfl (Eq.symm rfl) (List.length_map _) e11) ?_
 refine .mk λx13 e13=>?_
 have fx13:=jW e11 e13;have lx13:=jU e13 (rfl:a1.bC.length=a1.bC.length)
 refine .mk _ ⟨λ_=>eG.gV (iR (ob':=(⟨60,8,true,true,_,x13.map aP.av⟩:bZ)) (iH rfl nY rfl rfl rfl rfl rfl (iE e11 (aP.eP _)) rfl rfl rfl) (jJ (aGT e13 (aP.eP _)))) (λ_ h=>h) (λ_ _=>trivial),by rintro _ _ ⟨rfl,rfl⟩;exact trivial⟩ ?_
 rintro _ _ ⟨rfl,rfl⟩
 refine .mk λp14=>?_
 refine .mk _ ⟨λ_=>tK (g:=eH.av) (m:=a1.dY) 4 rfl Tryz.underlying29 aQD aXT rfl rfl rfl rfl (.refl _) (λ_=>rfl) p14,λ_ _ _=>trivial⟩ ?_
 rintro _ _ ⟨v15,rfl,rfl⟩
 refine .mk ?_ ?_
 refine .mk ?_
 rintro ⟨y1_1,y1_2⟩ _
 refine .mk λx16=>?_
 refine .mk ?_ ?_
 refine .mk ?_ ?_
 refine .mk λx17 e17=>?_
 refine .mk _ (fD (iJ rfl Tryz.underlying29 KZ rfl rfl rfl rfl rfl (Eq.symm rfl) (List.length_map _) e17)) ?_
 refine .mk _ (fD (iB rfl KZ rfl (.pt rfl rfl (fV e17)) rfl)) ?_
 intro v18
 refine .mk ?_ ?_
 refine .mk ?_
 refine .mk λx19=>?_
 refine .mk ?_ ?_
 refine .mk λx20=>?_
 refine .mk ?_ ?_
 refine .mk _ (λH hH _=>iJ rfl Tryz.underlying27 nY rfl rfl ((hH _ (by decide)).trans rfl) rfl rfl (Eq.symm lx13) (List.length_map _) fx13) ?_
 refine .mk _ (λH hH _=>gT rfl aUW rfl (.pt ((hH _ (by decide)).trans rfl) rfl (iE fx13 (aP.eP _))) (.pt _ _ _ _ _)) ?_
 refine .mk _ (λH hH _=>iB rfl gI rfl (.pt ((hH _ (by decide)).trans rfl) rfl (iE fx13 (aP.eP _))) rfl) ?_
 refine .mk λx21=>?_
 exact .mk
 exact .mk
 exact .mk
 intro _ _
 refine .mk ?_ ?_
 refine .mk ?_
 refine .mk _ (λH hH _=>iJ rfl Tryz.underlying29 KZ rfl rfl ((hH _ (by decide)).trans rfl) rfl rfl (Eq.symm rfl) (List.length_map _) e17) ?_
 refine .mk _ (λH hH _=>gT rfl aOB rfl (.pt ((hH _ (by decide)).trans rfl) rfl (fV e17)) (.pt _ _ _ _ _)) ?_
 refine .mk λx22 e22=>?_
 have fx22:=jW e17 e22;have lx22:=jU e22 (rfl:y1_2.length=y1_2.length)
 refine .mk _ ⟨λ_=>eG.gV (iR (ob':=(⟨83,9,true,true,_,x22.map eH.av⟩:bZ)) (iH rfl gI rfl rfl rfl rfl rfl (fV e17) rfl rfl rfl) (jJ (kU e22))) (λ_ h=>h) (λ_ _=>trivial),by rintro _ _ ⟨rfl,rfl⟩;exact ⟨rfl,trivial⟩⟩ ?_
 rintro _ _ ⟨rfl,rfl⟩
 refine .mk _ (λH hH _=>iJ rfl Tryz.underlying29 KZ rfl rfl ((hH _ (by decide)).trans rfl) rfl rfl (Eq.symm lx22) (List.length_map _) fx22) ?_
 refine .mk _ (λH hH _=>gT rfl aTL rfl (.pt ((hH _ (by decide)).trans rfl) rfl (fV fx22)) (.pt _ _ _ _ _)) ?_
 refine .mk λx23 e23=>?_
 have fx23:=jW fx22 e23;have lx23:=jU e23 lx22
 refine .mk _ ⟨λ_=>eG.gV (iR (ob':=(⟨83,9,true,true,_,x23.map eH.av⟩:bZ)) (iH rfl gI rfl rfl rfl rfl rfl (fV fx22) rfl rfl rfl) (jJ (kU e23))) (λ_ h=>h) (λ_ _=>trivial),by rintro _ _ ⟨rfl,rfl⟩;exact trivial⟩ ?_
 rintro _ _ ⟨rfl,rfl⟩
 exact .mk ⟨⟨⟨_,rfl,(.refl _)⟩,⟨_,rfl,(.refl _)⟩,⟨_,rfl,(.refl _)⟩,⟨_,rfl,(.refl _)⟩,⟨_,rfl,(.refl _)⟩,trivial⟩,⟨⟨_,rfl,⟨rfl,(.cons (.cons (.refl _) (.cons (.refl _) (.cons (.refl _) (.cons (.refl _) (.cons (.refl _) (.cons (.refl _) (.cons (.refl _) (.cons (sM (Eq.symm lx23)) (.cons (.refl _) (.cons (.refl _) .nil)))))))))) .nil)⟩⟩,⟨_,rfl,(.refl _)⟩,⟨_,rfl,(.refl _)⟩,⟨_,rfl,(.refl _)⟩,trivial⟩⟩
 exact .mk
 intro _ _
 refine .mk λx24=>?_
 exact .mk
 exact .mk
 intro _ _
 exact .mk (dX.bT (.cons (dX.agg (.cons (.refl _) (.cons (.refl _) (.cons (.refl _) (.cons (.refl _) (.cons (.refl _) (.cons (gQ rfl rfl rfl rfl rfl (Eq.symm lx13)) (.cons (.refl _) (.cons (gQ rfl rfl rfl rfl rfl (Eq.symm rfl)) (.cons (.refl _) (.cons (.refl _) .nil))))))))))) (.cons (.refl _) .nil)))
def aI0 (n:Nat) (a1:aA) (a2:Int):WB (aA×Int) :=
 .al 1<|.al 2<|.jn 1 [1,2,4,5] [1,2] [] (λ_ (a:Bool)=>[(9,bD a)]) (λ_ _=>[]) (.bB 11 (decide (a2<0)) λx5=>.ifs [11] x5 (.ret true) (.ln 16 aP.av a1.bC<|.bB 17 (decide (a2>=(a1.bC.length:Int))) λx6=>.ret x6)) (λy0_1=>.ifs [9] y0_1 (.ret ((a1:aA),4)) (.iG 24 aP.av gE aP.eP a1.bC a2 λx7=>.bB 27 (!x7.Closed) λx8=>.ifs [27] x8 (.ret ((a1:aA),8)) (.dr [(0,[1]),(1,[1]),(6,[1]),(7,[1]),(8,[1])] [] [1] [] [0,1,2,3,4,5,6,7,8,9,10] (.iG 33 aP.av gE aP.eP a1.bC a2 λx9=>.bB 39 (decide (x9.fO>=a1.bJ.gP)) λx10=>.ifs [39] x10 (.ret ((a1:aA),11)) (.inl 43 zK Tryz.func55 [1,2] [5,6,7,8,9,10] (λu4 (a:Int×Bool×(List aP)×(List aQ)×(List Int)×(List cK)×(List Int)×(List Int))=>.agg [int a1.bJ.gD,int a1.bJ.gP,aN 1 fI a1.bJ.cB,aN 1 (fL 1 fI) a1.bJ.Methods,aN 1 (fL 1 fI) a1.bJ.gB,.sl 5 (u4 5) 0 a1.bC.length,aN 8 eU.av a1.cZ,aN 9 eH.av a1.dY,aN 6 fU.av a1.dJ,int a1.Done]) (λu4 a=>[.nw 5 60 8 ((a1.bC.map aP.av).set (Int.toNat a2) [int a.1,bD a.2.1,.sl 6 (u4 6) 0 a.2.2.2.1.length,.sl 7 (u4 7) 0 a.2.2.2.2.1.length,.sl 8 (u4 8) 0 a.2.2.2.2.2.1.length,.sl 9 (u4 9) 0 a.2.2.2.2.2.2.1.length,.sl 10 (u4 10) 0 a.2.2.2.2.2.2.2.length,aN 8 aP.av a.2.2.1]),.nw 6 107 4 (a.2.2.2.1.map aQ.av),.nw 7 3 1 (a.2.2.2.2.1.map fI),.nw 8 89 11 (a.2.2.2.2.2.1.map cK.av),.nw 9 3 1 (a.2.2.2.2.2.2.1.map fI),.nw 10 3 1 (a.2.2.2.2.2.2.2.map fI)]) (.al 3<|.al 4<|.as (a1.bC.length<=68719476736) inferInstance<|.ge 8 5<|.bo (ix a1.bC a2) λx15=>.gv 13<|.dr [(4,[5]),(5,[5]),(6,[5]),(9,[5]),(10,[5]),(11,[5]),(14,[5]),(15,[5]),(16,[5]),(18,[5]),(19,[5]),(21,[5]),(22,[5]),(24,[5]),(25,[5])] [(17,[]),(20,[]),(23,[]),(26,[])] [5] [7,12,17,20,23,26] [0,1,2,3,4,5,6,8,9,10,11,13,14,15,16,7,12,17,18,19,20,21,22,23,24,25,26] (.gv 18<|.gv 19<|.gv 20<|.gv 23<|.gv 24<|.gv 25<|.gv 28<|.gv 29<|.gv 30<|.as (x15.bS.length<=68719476736) inferInstance<|.ge 21 6<|.as (x15.dK.length<=68719476736) inferInstance<|.ge 26 7<|.as (x15.dH.length<=68719476736) inferInstance<|.ge 31 8<|.gv 32<|.gv 33<|.ge 1003020 0<|.gv 34<|.gv 35<|.ge 1003023 0<|.gv 36<|.gv 37<|.ge 1003026 0<|.dr [(3,[5]),(4,[5]),(5,[5]),(8,[5]),(9,[5]),(10,[5]),(12,[5]),(13,[5]),(15,[5]),(16,[5])] [(11,[]),(14,[]),(17,[])] [5] [6,11,14,17] [0,1,2,3,4,5,7,8,9,10,6,11,12,13,14,15,16,17] (.gv 41<|.gv 42<|.gv 43<|.gv 46<|.gv 47<|.gv 48<|.as (x15.fZ.length<=68719476736) inferInstance<|.ge 44 9<|.as (x15.Down.length<=68719476736) inferInstance<|.ge 49 10<|.gv 50<|.gv 51<|.ge 1004014 0<|.gv 52<|.gv 53<|.ge 1004017 0<|.ret ((x15.fO:Int),(x15.Closed:Bool),(x15.fP:List aP),(x15.bS:List aQ),(x15.dK:List Int),(x15.dH:List cK),(x15.fZ:List Int),(x15.Down:List Int))))) (pw λy1_2 q0=>(pw λy1_3 q1=>(pw λy1_9 q2=>(pw λy1_10 q3=>(pw λy1_11 q4=>(pw λy1_12 q5=>(pw λy1_13 y1_14=>.bo (ix a1.bC a2) λx26=>.al 11<|.gv 47<|.gv 52<|.gv 53<|.gv 54<|.bI 55 (aW (y1_2+1)) λx28=>.gv 56<|.gv 57<|.ge 1009010 0<|.gv 58<|.gv 59<|.ge 1009013 0<|.gv 60<|.gv 61<|.ge 1009016 0<|.jn 1 [4,5,6] [2,6,7,9,10,11] [] (λ_ (a:(List cK))=>[]) (λu6 a=>[.kp 5 ((a1.bC.map aP.av).set (Int.toNat a2) [int x28,bD false,.sl 6 (u6 6) 0 y1_10.length,.sl 7 (u6 7) 0 y1_11.length,.sl 8 (u6 8) 0 a.length,.sl 9 (u6 9) 0 y1_13.length,.sl 10 (u6 10) 0 y1_14.length,.sc (.slice none 0 0)]),.kp 8 (a.map cK.av)]) (.lp [1,2,4,5,6,7] [1,2,6,7,9,10,11] [] (λ_ (a:Int×(List cK))=>[(8,int a.1)]) (λu7 a=>[.kp 5 ((a1.bC.map aP.av).set (Int.toNat a2) [int x28,bD false,.sl 6 (u7 6) 0 y1_10.length,.sl 7 (u7 7) 0 y1_11.length,.sl 8 (u7 8) 0 a.2.length,.sl 9 (u7 9) 0 y1_13.length,.sl 10 (u7 10) 0 y1_14.length,.sc (.slice none 0 0)]),.kp 8 (a.2.map cK.av)]) n ((0:Int),y1_12) (pw λy2_1 y2_2=>.gv 64<|.gv 65<|.gv 66<|.bB 68 (decide (y2_1<(y2_2.length:Int))) λx29=>.ifs [68] x29 (.dr [(1,[5]),(2,[5]),(3,[5]),(5,[1]),(11,[8])] [(12,[])] [1,5,8] [12] [0,1,2,3,4,5,6,7,8,9,10,11,12] (.gv 72<|.gv 73<|.gv 74<|.cl 79 (xI n a1 a2 y2_1) N7 JB λx30=>.bo (ix y2_2 y2_1) λx31=>.gv 82<|.bl (y2_2.set (Int.toNat y2_1) ((⟨x30.Value,0,0,0,0,0,0,0,0,0,0⟩:cK):cK):List cK) λx32=>.ge 1013012 0<|.bI 70 (aW (y2_1+1)) λx33=>.brk ((x33:Int),x32))) (.esc (.ret y2_2)))) (λy3_1=>.ret (((⟨a1.bJ,(a1.bC.set (Int.toNat a2) (⟨x28,false,y1_10,y1_11,y3_1,y1_13,y1_14,[]⟩:aP)),a1.cZ,a1.dY,a1.dJ,a1.Done⟩:aA):aA),0))) q5) q4) q3) q2) q1) q0))))))
def I1 (n:Nat) (a1:aA) (a2:Int):Option (aA×Int):=(aI0 n a1 a2).run
theorem aMO {n a1 a2}:PZ (I1 n a1 a2) 27 [.agg (aA.av a1),int a2] (λr=>.bT [.agg (aA.av r.1),int r.2]):=wq Tryz.func27
def TT (a1:aA) (a2:Int) (a3:Int):WB (Int) :=
 .al 1<|.cl 11 (wN a1 a2 a3) FB FX λx5=>.bB 12 (!x5) λx6=>.ifs [12] x6 (.ret ((4:Int))) (.iG 17 aP.av gE aP.eP a1.bC a2 λx7=>.wt 13 <|.ifs [13] x7.Closed (.ret ((7:Int))) (.ret ((0:Int))))
def nD (a1:aA) (a2:Int) (a3:Int):Option (Int):=(TT a1 a2 a3).run
theorem tO {a1 a2 a3}:PZ (nD a1 a2 a3) 40 [.agg (aA.av a1),int a2,int a3] int:=wq Tryz.func40
def aAA (n:Nat) (a1:List aB):WB (Int×Int) :=
 .eZ 3 [2,3] [] [] (λ_ (a:Int)=>[(4,int a)]) (λ_ _=>[]) (.lp [0,2,3] [] [] (λ_ (a:Int×Int)=>[(4,int a.1),(5,int a.2)]) (λ_ _=>[]) n ((0:Int),0) (pw λy0_1 y0_2=>.ln 10 aB.av a1<|.bB 11 (decide (y0_2<(a1.length:Int))) λx2=>.ifs [11] x2 (.dr [] [] [] [] [0,1,2,3,4,5,6,7,8,9,10,11,12,13,14,15,16,17,18] (.ix 18 aB.av a1 y0_2 λx3=>.ix 23 aB.av a1 y0_2 λx4=>.bI 26 (aW (0-x4.bN)) λx5=>.bl (if x5>x3.bN then x5 else x3.bN:Int) λx6=>.gv 27<|.cl 28 (sK y0_1 x6) wI wU λx7=>.jn 0 [0,2,3,4,5,6] [] [] (λ_ (a:Bool)=>[(40,bD a)]) (λ_ _=>[]) (.bB 32 (decide (x7.2≠0)) λx8=>.ifs [32] x8 (.ret true) (.ix 36 aB.av a1 y0_2 λx9=>.bB 39 (decide (x9.bN<(-288230376151711744))) λx10=>.ret x10)) (λy1_1=>.ifs [40] y1_1 (.esc (.esc (.ret ((0:Int),2)))) (.bI 13 (aW (y0_2+1)) λx11=>.brk ((x7.1:Int),x11))))) (.esc (.brk y0_1)))) (λy2_1=>.ret ((y2_1:Int),0))
def D5 (n:Nat) (a1:List aB):Option (Int×Int):=(aAA n a1).run
theorem aE3 {n a1}:PZ (D5 n a1) 109 [aN 3 aB.av a1] (λr=>.bT [int r.1,int r.2]):=wq Tryz.func109
def aCN (n:Nat) (a1:List aB):WB (Bool) :=
 .eZ 2 [0,2] [] [] (λ_ (a:Unit)=>[]) (λ_ _=>[]) (.lp [0,2] [] [] (λ_ (a:Int)=>[(3,int a)]) (λ_ _=>[]) n 0 (λy0_1=>.ln 11 aB.av a1<|.bB 12 (decide (y0_1<(a1.length:Int))) λx2=>.ifs [12] x2 (.ix 17 aB.av a1 y0_1 λx3=>.al 1<|.jn 0 [0,2,3] [] [] (λ_ (a:Bool)=>[(42,bD a)]) (λ_ _=>[]) (.bB 21 (decide (x3.aI<1)) λx5=>.ifs [21] x5 (.ret true) (.bB 25 (decide (x3.aI>288230376151711744)) λx6=>.ifs [25] x6 (.ret true) (.bB 30 (decide (x3.Value<0)) λx7=>.ifs [30] x7 (.ret true) (.bB 35 (decide (x3.Value>288230376151711744)) λx8=>.ifs [35] x8 (.ret true) (.cl 40 (nU x3.bN) sF qO λx9=>.bB 41 (!x9) λx10=>.ret x10))))) (λy1_1=>.ifs [42] y1_1 (.esc (.esc (.ret ((false:Bool))))) (.bI 14 (aW (y0_1+1)) λx11=>.brk x11))) (.esc (.brk ())))) (λ_=>.cl 45 (rJ n a1) yL xX λx12=>.al 2<|.cl 50 (D5 n a1) ZK aE3 λx14=>.jn 0 [] [] [] (λ_ (a:Bool)=>[(2,bD a)]) (λ_ _=>[]) (.ln 54 aB.av a1<|.bB 55 (decide ((a1.length:Int)<=30)) λx15=>.ifs [55] x15 (.bB 58 (decide (x12.2=0)) λx16=>.ifs [58] x16 (.bB 62 (decide (x14.2=0)) λx17=>.ret x17) (.ret false)) (.ret false)) (λy3_1=>.ret ((y3_1:Bool))))
def zI (n:Nat) (a1:List aB):Option (Bool):=(aCN n a1).run
theorem L4 {n a1}:PZ (zI n a1) 161 [aN 3 aB.av a1] bD:=wq Tryz.func161
def UA (n:Nat) (a1:List aB) (a2:aB):WB ((List aB)×Int) :=
 .al 1<|.dr [(2,[1])] [(4,[])] [1] [1,4] [0,2,3,1,4,5] (.to 10 (aN 3 aB.av ([a2]:List aB))<|.as (a1.length<=68719476736) inferInstance<|.ge 8 2<|.bl (a1++([a2]:List aB):List aB) λx6=>.as (x6.length<=68719476736) inferInstance<|.ge 11 0<|.jn 1 [0,4,5,6] [2] [] (λ_ (a:Bool)=>[(12,bD a)]) (λ_ _=>[]) (.bB 15 (decide (a2.aI<1)) λx9=>.ifs [15] x9 (.ret true) (.bB 19 (decide (a2.Value<0)) λx10=>.ret x10)) (λy0_1=>.ifs [12] y0_1 (.ret ((a1:List aB),1)) (.ln 24 aB.av a1<|.bB 25 (decide ((a1.length:Int)>=30)) λx11=>.ifs [25] x11 (.ret ((a1:List aB),6)) (.jV 29 (zI n x6) JV L4 (λ_=>rfl) λx12=>.bB 30 (!x12) λx13=>.ifs [30] x13 (.ret ((a1:List aB),2)) (.ret ((x6:List aB),0))))))
def zS (n:Nat) (a1:List aB) (a2:aB):Option ((List aB)×Int):=(UA n a1 a2).run
theorem aVV {n a1 a2}:PZ (zS n a1 a2) 150 [aN 3 aB.av a1,.agg (aB.av a2)] (λr=>.bT [aN 3 aB.av r.1,int r.2]):=wq Tryz.func150
def OY (n:Nat) (a1:List aB) (a2:aB):WB ((List aB)×Int) :=
 .al 1<|.jn 0 [0,3,4,5] [1] [] (λ_ (a:Bool)=>[(16,bD a)]) (λ_ _=>[]) (.bB 11 (decide (a2.aI<1)) λx4=>.ifs [11] x4 (.ret true) (.bB 15 (decide (a2.Value<0)) λx5=>.ret x5)) (λy0_1=>.ifs [16] y0_1 (.ret ((a1:List aB),1)) (.dr [(2,[1])] [(4,[])] [1] [1,4] [0,2,3,1,4,5] (.to 21 (aN 3 aB.av ([a2]:List aB))<|.as (a1.length<=68719476736) inferInstance<|.ge 19 2<|.bl (a1++([a2]:List aB):List aB) λx8=>.as (x8.length<=68719476736) inferInstance<|.ge 22 0<|.jV 24 (zI n x8) JV L4 (λ_=>rfl) λx11=>.bB 25 (!x11) λx12=>.ifs [25] x12 (.ret ((a1:List aB),2)) (.jV 29 (rJ n x8) yL xX (λ_=>rfl) λx13=>.al 3<|.to 33 (aN 3 aB.av ([x13.1]:List aB))<|.ret ((([x13.1]:List aB):List aB),0)))))
def vX (n:Nat) (a1:List aB) (a2:aB):Option ((List aB)×Int):=(OY n a1 a2).run
theorem UF {n a1 a2}:PZ (vX n a1 a2) 151 [aN 3 aB.av a1,.agg (aB.av a2)] (λr=>.bT [aN 3 aB.av r.1,int r.2]):=wq Tryz.func151
def TN (n:Nat) (a1:aQ) (a2:aB):WB (aQ×Int) :=
 .al 1<|.al 2<|.al 3<|.cl 12 (vX n a1.aG a2) RS UF λx6=>.bB 16 (decide (x6.2≠0)) λx7=>.ifs [16] x7 (.ret ((a1:aQ),x6.2)) (.ret (((⟨x6.1,a1.bH⟩:aQ):aQ),0))
def zP (n:Nat) (a1:aQ) (a2:aB):Option (aQ×Int):=(TN n a1 a2).run
theorem aS7 {n a1 a2}:PZ (zP n a1 a2) 152 [.agg (aQ.av a1),.agg (aB.av a2)] (λr=>.bT [.agg (aQ.av r.1),int r.2]):=wq Tryz.func152
def aJC (n:Nat) (a1:Int) (a2:Int):WB (Int×Bool) :=
 .cl 12 (nM n a1 a2 1) xG wC λx3=>.bB 18 (decide (x3.2.2=0)) λx4=>.ret ((x3.1:Int),x4)
def B6 (n:Nat) (a1:Int) (a2:Int):Option (Int×Bool):=(aJC n a1 a2).run
theorem PD {n a1 a2}:PZ (B6 n a1 a2) 119 [int a1,int a2] (λr=>.bT [int r.1,bD r.2]):=wq Tryz.func119
def PM (n:Nat) (a1:List aB) (a2:aB) (a3:Int):WB ((List aB)×Int×Int) :=
 .al 1<|.jn 0 [0,2,4,6,7,8] [1] [] (λ_ (a:Bool)=>[(28,bD a)]) (λ_ _=>[]) (.bB 14 (decide (a3<0)) λx5=>.ifs [14] x5 (.ret true) (.bB 17 (decide (a3>1073741824)) λx6=>.ifs [17] x6 (.ret true) (.bB 22 (decide (a2.aI<1)) λx7=>.ifs [22] x7 (.ret true) (.bB 27 (decide (a2.Value<0)) λx8=>.ret x8)))) (λy0_1=>.ifs [28] y0_1 (.ret ((a1:List aB),0,1)) (.cl 34 (B6 n a2.aI a3) SN PD λx9=>.jn 0 [0,4,6,7,8,9] [1] [] (λ_ (a:Bool)=>[(43,bD a)]) (λ_ _=>[]) (.bB 38 (!x9.2) λx10=>.ifs [38] x10 (.ret true) (.bB 42 (decide (a2.Value>288230376151711744)) λx11=>.ret x11)) (λy1_1=>.ifs [43] y1_1 (.ret ((a1:List aB),0,2)) (.cl 53 (vX n a1 (⟨a2.aI,x9.1,a2.bN⟩:aB)) RS UF λx12=>.bB 57 (decide (x12.2≠0)) λx13=>.ifs [57] x13 (.ret ((a1:List aB),0,x12.2)) (.dr [(1,[1]),(2,[1])] [] [1] [] [0,1,2,3,4,5,6,7] (.bI 64 (aW (a2.Value-x9.1)) λx14=>.ret ((x12.1:List aB),x14,0)))))))
def AU (n:Nat) (a1:List aB) (a2:aB) (a3:Int):Option ((List aB)×Int×Int):=(PM n a1 a2 a3).run
theorem aR8 {n a1 a2 a3}:PZ (AU n a1 a2 a3) 153 [aN 3 aB.av a1,.agg (aB.av a2),int a3] (λr=>.bT [aN 3 aB.av r.1,int r.2.1,int r.2.2]):=wq Tryz.func153
def UR (n:Nat) (a1:Int) (a2:Int) (a3:aQ) (a4:aB):WB (aQ×Int×Int) :=
 .al 1<|.al 2<|.al 3<|.al 4<|.jn 2 [6,8,9,10,11] [1,3] [] (λ_ (a:Int×Int×aQ)=>[(12,int a.1),(13,int a.2.1)]) (λ_ a=>[.kp 4 [[aN 3 aB.av a.2.2.aG,int a.2.2.bH.a0,int a.2.2.bH.a1,int a.2.2.bH.a2]]]) (.bB 17 (decide (a1=1)) λx9=>.ifs [17] x9 (.cl 22 (zS n a3.aG a4) aVH aVV λx10=>.ret ((0:Int),x10.2,((⟨x10.1,a3.bH⟩:aQ):aQ))) (.bB 27 (decide (a1=2)) λx11=>.ifs [27] x11 (.cl 32 (vX n a3.aG a4) RS UF λx12=>.ret ((0:Int),x12.2,((⟨x12.1,a3.bH⟩:aQ):aQ))) (.bB 37 (decide (a1=3)) λx13=>.ifs [37] x13 (.cl 41 (zP n a3 a4) aWW aS7 λx14=>.ret ((0:Int),x14.2,x14.1)) (.bB 45 (decide (a1=4)) λx15=>.ifs [45] x15 (.cl 51 (AU n a3.aG a4 a2) aS9 aR8 λx16=>.ret ((x16.2.1:Int),x16.2.2,((⟨x16.1,a3.bH⟩:aQ):aQ))) (.ret ((0:Int),12,a3)))))) (pw λy0_1 q0=>(pw λy0_2 y0_3=>.bB 57 (decide (y0_2≠0)) λx17=>.ifs [57] x17 (.ret ((a3:aQ),0,y0_2)) (.ret ((y0_3:aQ),y0_1,0))) q0)
def A9 (n:Nat) (a1:Int) (a2:Int) (a3:aQ) (a4:aB):Option (aQ×Int×Int):=(UR n a1 a2 a3 a4).run
theorem aPQ {n a1 a2 a3 a4}:PZ (A9 n a1 a2 a3 a4) 108 [int a1,int a2,.agg (aQ.av a3),.agg (aB.av a4)] (λr=>.bT [.agg (aQ.av r.1),int r.2.1,int r.2.2]):=wq Tryz.func108
def K3 (n:Nat) (a1:aA) (a2:Int) (a3:Int) (a4:Int) (a5:aB):WB (aA×Int×Int×Int) :=
 .al 1<|.al 2<|.al 3<|.jn 0 [1,2,3,5,9,10,11,12,13] [1,2,3] [] (λ_ (a:Bool)=>[(29,bD a)]) (λ_ _=>[]) (.cl 23 (wN a1 a2 a3) FB FX λx9=>.bB 24 (!x9) λx10=>.ifs [24] x10 (.ret true) (.cl 27 (jQ a4 1) j6 j5 λx11=>.bB 28 (!x11) λx12=>.ret x12)) (λy0_1=>.ifs [29] y0_1 (.ret ((a1:aA),0,0,4)) (.dr [(0,[1]),(1,[1]),(2,[1]),(9,[1]),(10,[1]),(11,[1]),(18,[1]),(23,[2])] [(30,[])] [1,2] [29,30] [0,1,2,3,4,5,6,7,8,9,10,11,12,13,14,15,16,17,18,19,20,21,22,23,24,25,26,27,28,29,30,31,32] (.ix 36 (fL 1 fI) a1.bJ.Methods a2 λx13=>.ix 39 fI x13 a3 λx14=>.ix 45 (fL 1 fI) a1.bJ.gB a2 λx15=>.ix 48 fI x15 a3 λx16=>.cl 54 (o7 a1 a2 a3 a4) uQ vH λx17=>.cl 56 (A9 n x14 x16 x17 a5) aZ2 aPQ λx18=>.al 4<|.bB 61 (decide (x18.2.2≠0)) λx20=>.ifs [61] x20 (.ret ((a1:aA),0,0,x18.2.2)) (.cl 69 (uG a1 a2 a3 a4 x18.1) CY DF λx21=>.al 5<|.cl 74 (CG n x21 a2 a3) aA2 WL λx23=>.bB 78 (decide (x23.2≠0)) λx24=>.ifs [78] x24 (.ret ((a1:aA),0,0,2)) (.jn 3 [5,9,10,11,12,13,15,17] [1,2,3,5] [7] (λu3 (a:(List aB))=>[(18,.sl 7 (u3 7) 0 a.length)]) (λ_ a=>[.nw 7 86 3 (a.map aB.av)]) (.no 18 7 86 3<|.lp [1,2,5,9,10,11,12,13,15,17] [1,2,3,5] [7] (λu4 (a:Int×(List aB))=>[(18,.sl 7 (u4 7) 0 a.2.length),(19,int a.1)]) (λ_ a=>[.nw 7 86 3 (a.2.map aB.av)]) n ((0:Int),(([]:List aB):List aB)) (pw λy1_2 y1_3=>.bB 81 (decide (y1_2<2)) λx26=>.ifs [81] x26 (.cl 89 (o7 x21 a2 a3 y1_2) uQ vH λx27=>.bl (y1_3++x27.aG:List aB) λx28=>.as (x28.length<=68719476736) inferInstance<|.ge 91 0<|.bI 83 (aW (y1_2+1)) λx31=>.brk ((x31:Int),x28)) (.esc (.ret y1_3)))) (λy2_2=>.jV 94 (D5 n y2_2) ZK aE3 (λ_=>rfl) λx32=>.bB 98 (decide (x32.2≠0)) λx33=>.ifs [98] x33 (.ret ((a1:aA),0,0,2)) (.dr [(0,[5]),(1,[2]),(2,[2])] [(6,[2])] [2,5] [6] [0,1,2,3,4,5,6,7,8,9] (.bI 104 (aW (a5.Value-x18.2.1)) λx34=>.ret ((x21:aA),x34,x18.2.1,0)))))))))
def pQ (n:Nat) (a1:aA) (a2:Int) (a3:Int) (a4:Int) (a5:aB):Option (aA×Int×Int×Int):=(K3 n a1 a2 a3 a4 a5).run
theorem E4 {n a1 a2 a3 a4 a5}:PZ (pQ n a1 a2 a3 a4 a5) 64 [.agg (aA.av a1),int a2,int a3,int a4,.agg (aB.av a5)] (λr=>.bT [.agg (aA.av r.1),int r.2.1,int r.2.2.1,int r.2.2.2]):=wq Tryz.func64
def aB6 (n:Nat) (a1:aA) (a2:bM):WB (aA×Int) :=
 .al 1<|.al 2<|.al 3<|.bB 13 (decide (a2.Kind≠1)) λx6=>.ifs [13] x6 (.ret ((a1:aA),1)) (.cl 20 (nD a1 a2.E a2.Item) tN tO λx7=>.bB 22 (decide (x7≠0)) λx8=>.ifs [22] x8 (.ret ((a1:aA),x7)) (.ln 27 eU.av a1.cZ<|.bB 28 (decide ((a1.cZ.length:Int)>=40)) λx9=>.ifs [28] x9 (.ret ((a1:aA),6)) (.cl 43 (pQ n a1 a2.E a2.Item a2.Loc (⟨a2.aI,a2.bO,0⟩:aB)) FK E4 λx10=>.al 4<|.bB 49 (decide (x10.2.2.2≠0)) λx12=>.ifs [49] x12 (.ret ((a1:aA),x10.2.2.2)) (.bI 62 (aW (0-a2.bO)) λx13=>.to 64 (aN 2 aS.av ([(⟨0,x10.2.1⟩:aS),(⟨6,x10.2.2.1⟩:aS),(⟨1,x13⟩:aS)]:List aS))<|.cl 65 (kS n x10.1 a2.E ([(⟨0,x10.2.1⟩:aS),(⟨6,x10.2.2.1⟩:aS),(⟨1,x13⟩:aS)]:List aS)) pK pV λx14=>.bB 69 (decide (x14.2≠0)) λx15=>.ifs [69] x15 (.ret ((a1:aA),x14.2)) (.cl 80 (mW n x14.1 a2.E a2.Item (⟨0,x10.2.1,0,0,0,0,0,0,0,0,0⟩:cK)) vC uZ λx16=>.bB 84 (decide (x16.2≠0)) λx17=>.ifs [84] x17 (.ret ((a1:aA),x16.2)) (.dr [(0,[4]),(1,[4]),(3,[2]),(4,[2]),(5,[2]),(6,[2]),(7,[2]),(8,[2]),(9,[2]),(10,[2]),(11,[2]),(12,[2]),(13,[2]),(14,[2]),(15,[2]),(16,[2]),(20,[4])] [(2,[2]),(19,[]),(21,[])] [2,4] [2,19,21] [0,1,3,4,5,6,7,8,9,10,11,12,13,14,15,16,17,18,2,19,20,21] (.to 105 (aN 8 eU.av ([(⟨a2.E,a2.Item,a2.Loc,a2.aI,a2.bO,a2.aI,a2.bO,0⟩:eU)]:List eU))<|.as (x16.1.cZ.length<=68719476736) inferInstance<|.ge 89 5<|.bl (x16.1.cZ++([(⟨a2.E,a2.Item,a2.Loc,a2.aI,a2.bO,a2.aI,a2.bO,0⟩:eU)]:List eU):List eU) λx20=>.as (x20.length<=68719476736) inferInstance<|.ge 106 0<|.ret (((⟨x16.1.bJ,x16.1.bC,x20,x16.1.dY,x16.1.dJ,x16.1.Done⟩:aA):aA),0))))))))
def FM (n:Nat) (a1:aA) (a2:bM):Option (aA×Int):=(aB6 n a1 a2).run
theorem aEV {n a1 a2}:PZ (FM n a1 a2) 35 [.agg (aA.av a1),.agg (bM.av a2)] (λr=>.bT [.agg (aA.av r.1),int r.2]):=wq Tryz.func35
def aFB (n:Nat) (a1:aQ):WB (Int) :=
 .al 1<|.cl 8 (rJ n a1.aG) yL xX λx3=>.al 2<|.gv 14<|.bI 16 (aW (x3.1.aI-a1.bH.a0)) λx5=>.gv 18<|.bI 20 (aW (x5-a1.bH.a1)) λx6=>.gv 22<|.bI 24 (aW (x6-a1.bH.a2)) λx7=>.ret ((x7:Int))
def xJ (n:Nat) (a1:aQ):Option (Int):=(aFB n a1).run
theorem PX {n a1}:PZ (xJ n a1) 116 [.agg (aQ.av a1)] int:=wq Tryz.func116
def RO (n:Nat) (a1:aQ) (a2:Int) (a3:Int):WB (aQ×Int) :=
 .al 1<|.al 2<|.jn 1 [1,2,3,6,7] [1,2] [] (λ_ (a:Bool)=>[(8,bD a)]) (λ_ _=>[]) (.bB 10 (decide (a2<0)) λx6=>.ifs [10] x6 (.ret true) (.bB 13 (decide (a2>=3)) λx7=>.ifs [13] x7 (.ret true) (.bB 17 (decide (a3<1)) λx8=>.ret x8))) (λy0_1=>.ifs [8] y0_1 (.ret ((a1:aQ),1)) (.cl 23 (xJ n a1) RP PX λx9=>.bB 24 (decide (a3>x9)) λx10=>.ifs [24] x10 (.ret ((a1:aQ),5)) (.sp [1] a2 0 (.gv 29<|.bI 32 (aW (a1.bH.a0+a3)) λx13=>.gv 34<|.ret (((⟨a1.aG,(⟨x13,a1.bH.a1,a1.bH.a2⟩:kJ)⟩:aQ):aQ),0)) (.sp [1] a2 1 (.gv 29<|.bI 32 (aW (a1.bH.a1+a3)) λx12=>.gv 34<|.ret (((⟨a1.aG,(⟨a1.bH.a0,x12,a1.bH.a2⟩:kJ)⟩:aQ):aQ),0)) (.sa [1] a2 2 (.gv 29<|.bI 32 (aW (a1.bH.a2+a3)) λx11=>.gv 34<|.ret (((⟨a1.aG,(⟨a1.bH.a0,a1.bH.a1,x11⟩:kJ)⟩:aQ):aQ),0)))))))
def BO (n:Nat) (a1:aQ) (a2:Int) (a3:Int):Option (aQ×Int):=(RO n a1 a2 a3).run
theorem aTH {n a1 a2 a3}:PZ (BO n a1 a2 a3) 158 [.agg (aQ.av a1),int a2,int a3] (λr=>.bT [.agg (aQ.av r.1),int r.2]):=wq Tryz.func158
def VQ (n:Nat) (a1:aQ) (a2:Int):WB (aQ×aB×Int) :=
 .al 1<|.al 2<|.al 3<|.bB 12 (decide (a2<1)) λx6=>.ifs [12] x6 (.ret ((a1:aQ),((⟨0,0,0⟩:aB):aB),1)) (.cl 18 (xJ n a1) RP PX λx7=>.bB 19 (decide (a2>x7)) λx8=>.ifs [19] x8 (.ret ((a1:aQ),((⟨0,0,0⟩:aB):aB),5)) (.cl 26 (qE n a1.aG a2) AT AN λx9=>.al 4<|.dr [(0,[1]),(1,[4])] [(3,[4]),(4,[])] [1,4] [3,4] [0,1,2,3,4,5] (.ret (((⟨x9.1,a1.bH⟩:aQ):aQ),x9.2.1,x9.2.2))))
def C8 (n:Nat) (a1:aQ) (a2:Int):Option (aQ×aB×Int):=(VQ n a1 a2).run
theorem aOI {n a1 a2}:PZ (C8 n a1 a2) 159 [.agg (aQ.av a1),int a2] (λr=>.bT [.agg (aQ.av r.1),.agg (aB.av r.2.1),int r.2.2]):=wq Tryz.func159
def TB (n:Nat) (a1:List aB) (a2:Int) (a3:Int):WB ((List aB)×aB×Int) :=
 .al 1<|.jn 0 [0,1,2,6,7,8] [1] [] (λ_ (a:Bool)=>[(21,bD a)]) (λ_ _=>[]) (.bB 17 (decide (a3<0)) λx5=>.ifs [17] x5 (.ret true) (.bB 20 (decide (a3>1073741824)) λx6=>.ret x6)) (λy0_1=>.ifs [21] y0_1 (.ret ((a1:List aB),((⟨0,0,0⟩:aB):aB),1)) (.cl 27 (qE n a1 a2) AT AN λx7=>.al 2<|.jn 0 [0,1,2,6,7,8,9,10,11] [1,2] [] (λ_ (a:Bool)=>[(37,bD a)]) (λ_ _=>[]) (.bB 32 (decide (x7.2.2≠0)) λx9=>.ifs [32] x9 (.ret true) (.ln 35 aB.av x7.1<|.bB 36 (decide ((x7.1.length:Int)=0)) λx10=>.ret x10)) (λy1_1=>.ifs [37] y1_1 (.dr [(1,[2])] [(4,[])] [2] [4] [0,1,2,3,4,5] (.ret ((x7.1:List aB),x7.2.1,x7.2.2))) (.cl 43 (rJ n a1) yL xX λx11=>.al 3<|.cl 49 (B6 n a2 a3) SN PD λx13=>.jn 0 [1,6,7,8,10,12,14] [1,2,3] [] (λ_ (a:Bool)=>[(59,bD a)]) (λ_ _=>[]) (.bB 53 (!x13.2) λx14=>.ifs [53] x14 (.ret true) (.bB 58 (decide (x13.1>x11.1.Value)) λx15=>.ret x15)) (λy2_1=>.jn 0 [1,6,7,8,10,12] [1,2,3] [] (λ_ (a:Int)=>[(14,int a)]) (λ_ _=>[]) (.ifs [59] y2_1 (.ret (x11.1.Value:Int)) (.ret x13.1)) (λy3_1=>.dr [(0,[3]),(1,[3]),(4,[3]),(5,[3]),(8,[3]),(9,[3]),(10,[2]),(11,[2]),(15,[2])] [(17,[])] [2,3] [17] [0,1,2,3,4,5,6,7,8,9,10,11,12,13,14,15,16,17,18] (.bI 67 (aW (x11.1.aI-a2)) λx16=>.bI 71 (aW (x11.1.Value-y3_1)) λx17=>.bI 76 (aW (x11.1.bN-x7.2.1.bN)) λx18=>.to 78 (aN 3 aB.av ([(⟨x16,x17,x18⟩:aB)]:List aB))<|.ret ((([(⟨x16,x17,x18⟩:aB)]:List aB):List aB),((⟨x7.2.1.aI,y3_1,x7.2.1.bN⟩:aB):aB),0))))))))
def AY (n:Nat) (a1:List aB) (a2:Int) (a3:Int):Option ((List aB)×aB×Int):=(TB n a1 a2 a3).run
theorem aNN {n a1 a2 a3}:PZ (AY n a1 a2 a3) 160 [aN 3 aB.av a1,int a2,int a3] (λr=>.bT [aN 3 aB.av r.1,.agg (aB.av r.2.1),int r.2.2]):=wq Tryz.func160
def UN (n:Nat) (a1:Int) (a2:Int) (a3:aQ) (a4:Int) (a5:Int):WB (aQ×aB×Bool×Int) :=
 .al 1<|.al 2<|.al 3<|.al 4<|.al 5<|.jn 1 [0,1,3,4,7,10,11,12,13,14,15,16] [1,2,3,4,5] [] (λ_ (a:Bool)=>[(31,bD a)]) (λ_ _=>[]) (.bB 19 (decide (a1>=1)) λx11=>.ifs [19] x11 (.bB 22 (decide (a1<=4)) λx12=>.ifs [22] x12 (.bB 26 (decide (a4<0)) λx13=>.ifs [26] x13 (.ret true) (.bB 29 (decide (a4>3)) λx14=>.ret x14)) (.ret false)) (.ret false)) (λy0_1=>.ifs [31] y0_1 (.dr [(0,[1]),(1,[5])] [(2,[5]),(3,[])] [1,5] [2,3] [0,1,2,3,4,5] (.ret ((a3:aQ),((⟨0,0,0⟩:aB):aB),false,1))) (.eZ 2 [7,10,11,12,13,14,15] [1,2,3] [] (λ_ (a:Int×aQ×aB)=>[(16,int a.1)]) (λ_ a=>[.kp 4 [[aN 3 aB.av a.2.1.aG,int a.2.1.bH.a0,int a.2.1.bH.a1,int a.2.1.bH.a2]],.kp 5 [[int a.2.2.aI,int a.2.2.Value,int a.2.2.bN]]]) (.bB 36 (decide (a1=1)) λx15=>.ifs [36] x15 (.cl 41 (yU n a3.aG a5) aBP YI λx16=>.brk ((x16.2.2:Int),((⟨x16.1,a3.bH⟩:aQ):aQ),x16.2.1)) (.bB 47 (decide (a1=2)) λx17=>.ifs [47] x17 (.cl 52 (qE n a3.aG a5) AT AN λx18=>.brk ((x18.2.2:Int),((⟨x18.1,a3.bH⟩:aQ):aQ),x18.2.1)) (.bB 58 (decide (a1=3)) λx19=>.ifs [58] x19 (.bB 60 (decide (a4≠3)) λx20=>.ifs [60] x20 (.cl 65 (BO n a3 a4 a5) aLB aTH λx21=>.dr [(0,[4]),(1,[5])] [(5,[5]),(6,[])] [4,5] [5,6] [0,1,2,3,4,5,6,7,8] (.bB 71 (decide (x21.2=0)) λx22=>.esc (.ret ((x21.1:aQ),((⟨0,0,0⟩:aB):aB),x22,x21.2)))) (.cl 76 (C8 n a3 a5) aTG aOI λx23=>.brk ((x23.2.2:Int),x23.1,x23.2.1))) (.bB 81 (decide (a1=4)) λx24=>.ifs [81] x24 (.cl 87 (AY n a3.aG a5 a2) aVW aNN λx25=>.brk ((x25.2.2:Int),((⟨x25.1,a3.bH⟩:aQ):aQ),x25.2.1)) (.brk ((12:Int),a3,((⟨0,0,0⟩:aB):aB))))))) (pw λy1_1 q0=>(pw λy1_2 y1_3=>.bB 93 (decide (y1_1≠0)) λx26=>.ifs [93] x26 (.ret ((a3:aQ),((⟨0,0,0⟩:aB):aB),false,y1_1)) (.dr [(0,[4]),(1,[5])] [(2,[5]),(3,[])] [4,5] [2,3] [0,1,2,3,4,5] (.ret ((y1_2:aQ),y1_3,false,0)))) q0)))
def B9 (n:Nat) (a1:Int) (a2:Int) (a3:aQ) (a4:Int) (a5:Int):Option (aQ×aB×Bool×Int):=(UN n a1 a2 a3 a4 a5).run
theorem aMB {n a1 a2 a3 a4 a5}:PZ (B9 n a1 a2 a3 a4 a5) 115 [int a1,int a2,.agg (aQ.av a3),int a4,int a5] (λr=>.bT [.agg (aQ.av r.1),.agg (aB.av r.2.1),bD r.2.2.1,int r.2.2.2]):=wq Tryz.func115
def K8 (n:Nat) (a1:aA) (a2:Int) (a3:Int) (a4:Int) (a5:Int) (a6:Int):WB (aA×aB×Bool×Int) :=
 .al 1<|.al 2<|.al 3<|.jn 0 [1,2,3,4,5,6,12,13,14,15] [1,2,3] [] (λ_ (a:Bool)=>[(29,bD a)]) (λ_ _=>[]) (.cl 23 (wN a1 a2 a3) FB FX λx10=>.bB 24 (!x10) λx11=>.ifs [24] x11 (.ret true) (.cl 27 (jQ a4 1) j6 j5 λx12=>.bB 28 (!x12) λx13=>.ret x13)) (λy0_1=>.ifs [29] y0_1 (.ret ((a1:aA),((⟨0,0,0⟩:aB):aB),false,4)) (.dg [(0,[1]),(1,[1]),(2,[1]),(9,[1]),(10,[1]),(11,[1]),(18,[1]),(33,[4]),(34,[5])] [(31,4),(32,5),(33,4),(34,5)] (.ix 37 (fL 1 fI) a1.bJ.Methods a2 λx14=>.ix 40 fI x14 a3 λx15=>.ix 46 (fL 1 fI) a1.bJ.gB a2 λx16=>.ix 49 fI x16 a3 λx17=>.cl 55 (o7 a1 a2 a3 a4) uQ vH λx18=>.cl 58 (B9 n x15 x17 x18 a5 a6) aQU aMB λx19=>.al 4<|.al 5<|.bB 18 (x19.2.2.1) λx22=>.bB 64 (decide (x19.2.2.2≠0)) λx23=>.ifs [64] x23 (.ret ((a1:aA),((⟨0,0,0⟩:aB):aB),false,x19.2.2.2)) (.dr [(0,[1]),(4,[4]),(6,[5])] [(8,[5]),(9,[])] [1,4,5] [8,9] [0,1,2,3,4,5,6,7,8,9,10,11] (.cl 73 (uG a1 a2 a3 a4 x19.1) CY DF λx24=>.ret ((x24:aA),x19.2.1,x22,0))))))
def oL (n:Nat) (a1:aA) (a2:Int) (a3:Int) (a4:Int) (a5:Int) (a6:Int):Option (aA×aB×Bool×Int):=(K8 n a1 a2 a3 a4 a5 a6).run
theorem zR {n a1 a2 a3 a4 a5 a6}:PZ (oL n a1 a2 a3 a4 a5 a6) 71 [.agg (aA.av a1),int a2,int a3,int a4,int a5,int a6] (λr=>.bT [.agg (aA.av r.1),.agg (aB.av r.2.1),bD r.2.2.1,int r.2.2.2]):=wq Tryz.func71
def aER (n:Nat) (a1:aA) (a2:bM):WB (aA×Int) :=
 .al 1<|.al 2<|.al 3<|.cl 16 (nD a1 a2.E a2.Item) tN tO λx6=>.bB 18 (decide (x6≠0)) λx7=>.ifs [18] x7 (.ret ((a1:aA),x6)) (.ln 23 eH.av a1.dY<|.bB 24 (decide ((a1.dY.length:Int)>=40)) λx8=>.ifs [24] x8 (.ret ((a1:aA),6)) (.cl 36 (oL n a1 a2.E a2.Item a2.Loc 0 a2.aI) BA zR λx9=>.al 4<|.al 5<|.bB 42 (decide (x9.2.2.2≠0)) λx12=>.ifs [42] x12 (.ret ((a1:aA),x9.2.2.2)) (.bI 54 (aW (0-a2.bO)) λx13=>.bI 61 (aW (0-x9.2.1.Value)) λx14=>.to 63 (aN 2 aS.av ([(⟨3,a2.bO⟩:aS),(⟨4,x13⟩:aS),(⟨5,x9.2.1.Value⟩:aS),(⟨0,x14⟩:aS)]:List aS))<|.cl 64 (kS n x9.1 a2.E ([(⟨3,a2.bO⟩:aS),(⟨4,x13⟩:aS),(⟨5,x9.2.1.Value⟩:aS),(⟨0,x14⟩:aS)]:List aS)) pK pV λx15=>.bB 68 (decide (x15.2≠0)) λx16=>.ifs [68] x16 (.ret ((a1:aA),x15.2)) (.cl 80 (mW n x15.1 a2.E a2.Item (⟨0,0,0,0,0,x9.2.1.Value,0,0,0,0,0⟩:cK)) vC uZ λx17=>.bB 84 (decide (x17.2≠0)) λx18=>.ifs [84] x18 (.ret ((a1:aA),x17.2)) (.dr [(0,[4]),(1,[4]),(3,[2]),(4,[2]),(5,[2]),(6,[2]),(7,[2]),(8,[2]),(9,[2]),(10,[2]),(11,[5]),(12,[5]),(13,[5]),(14,[5]),(15,[1]),(16,[1]),(17,[2]),(18,[2]),(26,[4])] [(2,[1,2,5]),(25,[]),(27,[])] [1,2,4,5] [2,25,27] [0,1,3,4,5,6,7,8,9,10,11,12,13,14,15,16,17,18,19,20,21,22,23,24,2,25,26,27] (.iG 106 aP.av gE aP.eP a1.bC a2.E λx19=>.bB 109 (x9.2.2.1) λx20=>.to 111 (aN 9 eH.av ([(⟨a2.E,a2.Item,a2.Loc,a2.aI,0,x9.2.1.Value,x9.2.1.bN,x19.fO,x20⟩:eH)]:List eH))<|.as (x17.1.dY.length<=68719476736) inferInstance<|.ge 89 6<|.bl (x17.1.dY++([(⟨a2.E,a2.Item,a2.Loc,a2.aI,0,x9.2.1.Value,x9.2.1.bN,x19.fO,x20⟩:eH)]:List eH):List eH) λx23=>.as (x23.length<=68719476736) inferInstance<|.ge 112 0<|.ret (((⟨x17.1.bJ,x17.1.bC,x17.1.cZ,x23,x17.1.dJ,x17.1.Done⟩:aA):aA),0)))))))
def JL (n:Nat) (a1:aA) (a2:bM):Option (aA×Int):=(aER n a1 a2).run
theorem aVJ {n a1 a2}:PZ (JL n a1 a2) 126 [.agg (aA.av a1),.agg (bM.av a2)] (λr=>.bT [.agg (aA.av r.1),int r.2]):=wq Tryz.func126
def aB9 (a1:aQ) (a2:Int) (a3:Int):WB (aQ×Int) :=
 .al 1<|.al 2<|.eZ 0 [2,3,6,7] [1,2] [] (λ_ (a:Int)=>[(1,int a)]) (λ_ _=>[]) (.jn 1 [1,2,3,6,7] [1,2] [] (λ_ (a:Bool)=>[(8,bD a)]) (λ_ _=>[]) (.bB 10 (decide (a2<0)) λx6=>.ifs [10] x6 (.ret true) (.bB 13 (decide (a2>=3)) λx7=>.ifs [13] x7 (.ret true) (.bB 17 (decide (a3<1)) λx8=>.ret x8))) (λy0_1=>.ifs [8] y0_1 (.esc (.ret ((a1:aQ),1))) (.sp [1] a2 0 (.gv 24<|.bB 26 (decide (a3>a1.bH.a0)) λx11=>.ifs [26] x11 (.esc (.ret ((a1:aQ),5))) (.brk 0)) (.sp [1] a2 1 (.gv 24<|.bB 26 (decide (a3>a1.bH.a1)) λx10=>.ifs [26] x10 (.esc (.ret ((a1:aQ),5))) (.brk 1)) (.sa [1] a2 2 (.gv 24<|.bB 26 (decide (a3>a1.bH.a2)) λx9=>.ifs [26] x9 (.esc (.ret ((a1:aQ),5))) (.brk 2))))))) (λy1_1=>.sp [1] y1_1 0 (.gv 31<|.bI 34 (aW (a1.bH.a0-a3)) λx14=>.gv 36<|.ret (((⟨a1.aG,(⟨x14,a1.bH.a1,a1.bH.a2⟩:kJ)⟩:aQ):aQ),0)) (.sp [1] y1_1 1 (.gv 31<|.bI 34 (aW (a1.bH.a1-a3)) λx13=>.gv 36<|.ret (((⟨a1.aG,(⟨a1.bH.a0,x13,a1.bH.a2⟩:kJ)⟩:aQ):aQ),0)) (.sa [1] y1_1 2 (.gv 31<|.bI 34 (aW (a1.bH.a2-a3)) λx12=>.gv 36<|.ret (((⟨a1.aG,(⟨a1.bH.a0,a1.bH.a1,x12⟩:kJ)⟩:aQ):aQ),0)))))
def ED (a1:aQ) (a2:Int) (a3:Int):Option (aQ×Int):=(aB9 a1 a2 a3).run
theorem aKH {a1 a2 a3}:PZ (ED a1 a2 a3) 162 [.agg (aQ.av a1),int a2,int a3] (λr=>.bT [.agg (aQ.av r.1),int r.2]):=wq Tryz.func162
def XP (a1:aA) (a2:Int) (a3:eH):WB (aA) :=
 .al 1<|.al 2<|.al 3<|.as (a1.dY.length<=68719476736) inferInstance<|.ge 10 4<|.bo (ix a1.dY a2) λx9=>.gv 14<|.bl (a1.dY.set (Int.toNat a2) a3:List eH) λx10=>.ge 1002004 0<|.ret (((⟨a1.bJ,a1.bC,a1.cZ,x10,a1.dJ,a1.Done⟩:aA):aA))
def D3 (a1:aA) (a2:Int) (a3:eH):Option (aA):=(XP a1 a2 a3).run
theorem aHV {a1 a2 a3}:PZ (D3 a1 a2 a3) 163 [.agg (aA.av a1),int a2,.agg (eH.av a3)] (λr=>.agg (aA.av r)):=wq Tryz.func163
def aDY (n:Nat) (a1:aA) (a2:bM):WB (aA×Int) :=
 .al 1<|.al 2<|.al 3<|.jn 0 [2,3,4,5] [1,2,3] [] (λ_ (a:Bool)=>[(30,bD a)]) (λ_ _=>[]) (.bB 22 (decide (a2.Ref<0)) λx6=>.ifs [22] x6 (.ret true) (.ln 28 eH.av a1.dY<|.bB 29 (decide (a2.Ref>=(a1.dY.length:Int))) λx7=>.ret x7)) (λy0_1=>.ifs [30] y0_1 (.ret ((a1:aA),4)) (.ix 36 eH.av a1.dY a2.Ref λx8=>.al 4<|.cl 43 (nD a1 x8.fT x8.Item) tN tO λx10=>.bB 45 (decide (x10≠0)) λx11=>.ifs [45] x11 (.ret ((a1:aA),x10)) (.bI 52 (aW (x8.aI-x8.iP)) λx12=>.bB 56 (decide (a2.aI>x12)) λx13=>.ifs [56] x13 (.ret ((a1:aA),5)) (.bI 63 (aW (0-a2.bO)) λx14=>.ge 65 5<|.al 6<|.bI 71 (aW (x8.iP+a2.aI)) λx17=>.jn 0 [2,3,4,5,6,8,9,10] [1,2,3,4,5,6] [] (λ_ (a:Bool)=>[(86,bD a)]) (λ_ _=>[]) (.dr [(0,[4]),(1,[4]),(3,[4]),(4,[4]),(5,[1]),(6,[1]),(7,[4]),(8,[4])] [] [1,4] [] [0,1,2,3,4,5,6,7,8,9,10,11,12,13] (.bB 75 (x8.pM) λx18=>.ifs [75] x18 (.iG 82 aP.av gE aP.eP a1.bC x8.fT λx19=>.bB 85 (decide (x8.nP=x19.fO)) λx20=>.ret x20) (.ret false))) (λy1_1=>.ifs [86] y1_1 (.dr [(0,[1]),(1,[4]),(2,[4]),(3,[4]),(4,[4]),(5,[4]),(6,[4]),(8,[2]),(9,[2])] [(15,[])] [1,2,4] [14,15] [0,1,2,3,4,5,6,7,8,9,10,11,12,13,14,15,16] (.cl 95 (o7 a1 x8.fT x8.Item x8.Loc) uQ vH λx21=>.cl 98 (ED x21 0 a2.aI) aKR aKH λx22=>.al 7<|.bB 102 (decide (x22.2≠0)) λx24=>.ifs [102] x24 (.ret ((a1:aA),x22.2)) (.jS 5<|.dr [(0,[1]),(1,[4]),(2,[4]),(3,[4]),(4,[4]),(5,[4]),(6,[4]),(7,[7]),(9,[4]),(10,[4]),(12,[5])] [(17,[])] [1,4,5,7] [16,17] [0,1,2,3,4,5,6,7,8,9,10,11,12,13,14,15,16,17,18] (.cl 114 (uG a1 x8.fT x8.Item x8.Loc x22.1) CY DF λx25=>.cl 118 (kS n x25 x8.fT ([(⟨4,a2.bO⟩:aS),(⟨3,x14⟩:aS)]:List aS)) pK pV λx26=>.al 8<|.bB 122 (decide (x26.2≠0)) λx28=>.ifs [122] x28 (.ret ((a1:aA),x26.2)) (.cl 129 (D3 x26.1 a2.Ref (⟨x8.fT,x8.Item,x8.Loc,x8.aI,x17,x8.qH,x8.bN,x8.nP,x8.pM⟩:eH)) WW aHV λx29=>.ret ((x29:aA),0)))))) (.dr [(0,[4]),(1,[4]),(2,[2]),(3,[2]),(6,[4]),(7,[4]),(8,[2]),(9,[2])] [] [2,4] [] [0,1,2,3,4,5,6,7,8,9,10,11,12,13] (.cl 135 (pP n x8.qH a2.aI x12) tH tZ λx30=>.cl 141 (pP n x8.bN a2.aI x12) tH tZ λx31=>.cl 155 (pQ n a1 x8.fT x8.Item x8.Loc (⟨a2.aI,x30,x31⟩:aB)) FK E4 λx32=>.al 9<|.bB 161 (decide (x32.2.2.2≠0)) λx34=>.ifs [161] x34 (.ret ((a1:aA),x32.2.2.2)) (.dr [(0,[9]),(1,[4]),(2,[4])] [(13,[]),(17,[])] [4,9] [12,13,17] [0,1,2,3,4,5,6,7,8,9,10,11,12,13,14,15,16,17,18] (.bI 174 (aW (0-x30)) λx35=>.to 176 (aN 2 aS.av ([(⟨0,x32.2.1⟩:aS),(⟨6,x32.2.2.1⟩:aS),(⟨5,x35⟩:aS)]:List aS))<|.bl (([(⟨4,a2.bO⟩:aS),(⟨3,x14⟩:aS)]:List aS)++([(⟨0,x32.2.1⟩:aS),(⟨6,x32.2.2.1⟩:aS),(⟨5,x35⟩:aS)]:List aS):List aS) λx36=>.as (x36.length<=68719476736) inferInstance<|.ge 177 0<|.bo (kS n x32.1 x8.fT x36) λx39=>.ge 178 0<|.bB 182 (decide (x39.2≠0)) λx40=>.ifs [182] x40 (.ret ((a1:aA),x39.2)) (.cl 193 (mW n x39.1 x8.fT x8.Item (⟨0,0,0,0,x32.2.1,0,0,0,0,0,0⟩:cK)) vC uZ λx41=>.bB 197 (decide (x41.2≠0)) λx42=>.ifs [197] x42 (.ret ((a1:aA),x41.2)) (.dr [(0,[4]),(1,[4]),(4,[4]),(5,[4]),(8,[6]),(10,[6])] [(9,[4]),(11,[])] [4,6] [9,11] [0,1,2,3,4,5,6,7,8,9,10,11] (.bI 203 (aW (x8.qH-x30)) λx43=>.bI 207 (aW (x8.bN-x31)) λx44=>.cl 214 (D3 x41.1 a2.Ref (⟨x8.fT,x8.Item,x8.Loc,x8.aI,x17,x43,x44,x8.nP,x8.pM⟩:eH)) WW aHV λx45=>.ret ((x45:aA),0)))))))))))))
def NK (n:Nat) (a1:aA) (a2:bM):Option (aA×Int):=(aDY n a1 a2).run
theorem aK2 {n a1 a2}:PZ (NK n a1 a2) 127 [.agg (aA.av a1),.agg (bM.av a2)] (λr=>.bT [.agg (aA.av r.1),int r.2]):=by
 refine wm Tryz.func127 ?_
 intro v3
 intro v4
 intro v5
 refine .mk ?_ ?_
 refine .mk λx6=>?_
 refine .mk .mk ?_
 refine .mk ?_
 refine .mk λx7=>?_
 exact .mk
 intro _ _
 refine .mk .mk ?_
 refine .mk λx8 e8=>?_
 intro v9
 refine .mk λx10 e10=>?_
 refine .mk λx11=>?_
 refine .mk .mk ?_
 refine .mk λx12=>?_
 refine .mk λx13=>?_
 refine .mk .mk ?_
 refine .mk λx14=>?_
 refine .mk _ ⟨λ_=>aFE (ps:=[(0,_),(1,_)]) 5 [[int 4,int a2.bO],[int 3,int x14]] .any rfl Tryz.underlying96 xA (.cons rfl (.cons rfl .nil)) (by kernel_rfl) rfl rfl rfl,λ_ _ _=>trivial⟩ ?_
 rintro _ _ ⟨v15,-,rfl,rfl⟩
 intro v16
 refine .mk λx17=>?_
 refine .mk ?_ ?_
 refine .mk ?_
 refine .mk λx18=>?_
 refine .mk ?_ ?_
 refine .mk λx19 e19=>?_
 refine .mk λx20=>?_
 exact .mk
 exact .mk
 intro _ _
 refine .mk ?_ ?_
 refine .mk ?_
 refine .mk λx21 e21=>?_
 refine .mk λx22 e22=>?_
 intro v23
 refine .mk λx24=>?_
 refine .mk .mk ?_
 refine .mk ?_
 refine .mk λx25 e25=>?_
 refine .mk (λx26 e26=>?_) rfl (λH hH=>(.cons (.refl _) (.cons (.refl _) (.cons (gQ (ob:=(⟨95,2,false,true,v15,([(⟨4,a2.bO⟩:aS),(⟨3,x14⟩:aS)]:List aS).map aS.av⟩:bZ)) ((hH 5 (by decide)).trans rfl) rfl rfl rfl rfl (Eq.symm rfl)) .nil))))
 intro v27
 refine .mk λx28=>?_
 refine .mk .mk ?_
 refine .mk λx29 e29=>?_
 exact .mk
 refine .mk ?_
 refine .mk λx30 e30=>?_
 refine .mk λx31 e31=>?_
 refine .mk λx32 e32=>?_
 intro v33
 refine .mk λx34=>?_
 refine .mk .mk ?_
 refine .mk ?_
 refine .mk λx35=>?_
 refine .mk (λH hH _=>jY (y:=aN 2 aS.av ([(⟨0,x32.2.1⟩:aS),(⟨6,x32.2.2.1⟩:aS),(⟨5,x35⟩:aS)]:List aS)) (jM (ps:=[(0,_),(1,_),(2,_)]) (rows:=[[int 0,int x32.2.1],[int 6,int x32.2.2.1],[int 5,int x35]]) rfl Tryz.underlying96 xA (.cons rfl (.cons rfl (.cons rfl .nil))) (by kernel_rfl) rfl rfl rfl) rfl) ?_
 refine .mk λx36 e36=>?_
 refine .mk λp37=>?_
 refine .mk _ ⟨λ_=>oH (g:=aS.av) (l:=([(⟨4,a2.bO⟩:aS),(⟨3,x14⟩:aS)]:List aS)) (m:=([(⟨0,x32.2.1⟩:aS),(⟨6,x32.2.2.1⟩:aS),(⟨5,x35⟩:aS)]:List aS)) .any rfl Tryz.underlying96 xA TP rfl rfl rfl rfl rfl rfl rfl rfl rfl rfl (Eq.symm rfl) (.refl _) (λ_=>rfl) e36 p37,by rintro _ _ ⟨v38,-,rfl,rfl⟩;exact ⟨rfl,rfl,trivial⟩⟩ ?_
 rintro _ _ ⟨v38,-,rfl,rfl⟩
 refine .mk λx39 e39=>?_
 refine .mk _ ⟨λ_=>eG.jS 5 rfl (eG.gV (w9 rfl rfl (.cons rfl (.cons rfl (.cons rfl .nil))) pK (.cons (.refl _) (.cons (.refl _) (.cons (gQ rfl rfl rfl rfl rfl (Eq.symm rfl)) .nil))) (pV _ e39)) (λ_ h=>h) (λ_ h=>h.elim)),by rintro _ _ ⟨rfl,rfl⟩;exact trivial⟩ ?_
 rintro _ _ ⟨rfl,rfl⟩
 refine .mk λx40=>?_
 refine .mk .mk ?_
 refine .mk λx41 e41=>?_
 refine .mk λx42=>?_
 refine .mk .mk ?_
 refine .mk ?_
 refine .mk λx43=>?_
 refine .mk λx44=>?_
 refine .mk λx45 e45=>?_
 exact .mk
def YC (n:Nat) (a1:aA) (a2:bM):WB (aA×Int) :=
 .al 1<|.al 2<|.al 3<|.bB 9 (decide (a2.Kind=4)) λx6=>.ifs [9] x6 (.cl 12 (JL n a1 a2) aWA aVJ λx7=>.ret ((x7.1:aA),x7.2)) (.bB 16 (decide (a2.Kind=5)) λx8=>.ifs [16] x8 (.cl 19 (NK n a1 a2) aX3 aK2 λx9=>.ret ((x9.1:aA),x9.2)) (.ret ((a1:aA),1)))
def LU (n:Nat) (a1:aA) (a2:bM):Option (aA×Int):=(YC n a1 a2).run
theorem aSN {n a1 a2}:PZ (LU n a1 a2) 90 [.agg (aA.av a1),.agg (bM.av a2)] (λr=>.bT [.agg (aA.av r.1),int r.2]):=wq Tryz.func90
end
end Go.Pv
