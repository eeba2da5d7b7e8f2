import Derived.Test.YtidcjedeacampaaGreatX80d
set_option linter.unusedVariables false
set_option linter.unusedSimpArgs false
namespace Go.Pv
open Go.Proofs
set_option maxRecDepth 100000
set_option maxHeartbeats 4000000
noncomputable section
def aCI (n:Nat) (a1:aB) (a2:Int):WT Tryz.prog (.b (aB×Int)) :=
 .al 1<|.al 2<|.jn 0 [1,2,4,5] [1,2] [] (λ_ (a:Bool)=>[(22,aZ a)]) (λ_ _=>[]) (.bB 15 (decide (a2<0)) λx5=>.ifs [15] x5 (.ret true) (.ln 20 aP.av a1.bA<|.bB 21 (decide (a2>=(a1.bA.length:Int))) λx6=>.ret x6)) (λy0_1=>.ifs [22] y0_1 (.ret ((a1:aB),4)) (.inl 26 zH Tryz.func60 [1,2] [5,6,7,8,9,10] (λu3 (a:Int×Bool×(List aP)×(List aS)×(List Int)×(List cB)×(List Int)×(List Int))=>.agg [int a1.bF.gG,int a1.bF.gZ,aH 1 fI a1.bF.bW,aH 1 (fL 1 fI) a1.bF.Methods,aH 1 (fL 1 fI) a1.bF.gX,.sl 5 (u3 5) 0 a1.bA.length,aH 8 dX.av a1.bX,aH 9 fA.av a1.dS,aH 6 fP.av a1.dH,int a1.Done]) (λu3 a=>[.nw 5 60 8 ((a1.bA.map aP.av).set (Int.toNat a2) [int a.1,aZ a.2.1,.sl 6 (u3 6) 0 a.2.2.2.1.length,.sl 7 (u3 7) 0 a.2.2.2.2.1.length,.sl 8 (u3 8) 0 a.2.2.2.2.2.1.length,.sl 9 (u3 9) 0 a.2.2.2.2.2.2.1.length,.sl 10 (u3 10) 0 a.2.2.2.2.2.2.2.length,aH 8 aP.av a.2.2.1]),.nw 6 99 4 (a.2.2.2.1.map aS.av),.nw 7 3 1 (a.2.2.2.2.1.map fI),.nw 8 76 11 (a.2.2.2.2.2.1.map cB.av),.nw 9 3 1 (a.2.2.2.2.2.2.1.map fI),.nw 10 3 1 (a.2.2.2.2.2.2.2.map fI)]) (.al 3<|.al 4<|.as (a1.bA.length<=68719476736) inferInstance<|.ge 8 5<|.bo (ix a1.bA a2) λx11=>.gv 13<|.dr [(4,[5]),(5,[5]),(6,[5]),(9,[5]),(10,[5]),(11,[5]),(14,[5]),(15,[5]),(16,[5]),(18,[5]),(19,[5]),(21,[5]),(22,[5]),(24,[5]),(25,[5])] [(17,[]),(20,[]),(23,[]),(26,[])] [5] [7,12,17,20,23,26] [0,1,2,3,4,5,6,8,9,10,11,13,14,15,16,7,12,17,18,19,20,21,22,23,24,25,26] (.gv 18<|.gv 19<|.gv 20<|.gv 23<|.gv 24<|.gv 25<|.gv 28<|.gv 29<|.gv 30<|.as (x11.bR.length<=68719476736) inferInstance<|.ge 21 6<|.as (x11.dI.length<=68719476736) inferInstance<|.ge 26 7<|.as (x11.dJ.length<=68719476736) inferInstance<|.ge 31 8<|.gv 32<|.gv 33<|.ge 1003020 0<|.gv 34<|.gv 35<|.ge 1003023 0<|.gv 36<|.gv 37<|.ge 1003026 0<|.dr [(3,[5]),(4,[5]),(5,[5]),(8,[5]),(9,[5]),(10,[5]),(12,[5]),(13,[5]),(15,[5]),(16,[5])] [(11,[]),(14,[]),(17,[])] [5] [6,11,14,17] [0,1,2,3,4,5,7,8,9,10,6,11,12,13,14,15,16,17] (.gv 41<|.gv 42<|.gv 43<|.gv 46<|.gv 47<|.gv 48<|.as (x11.gJ.length<=68719476736) inferInstance<|.ge 44 9<|.as (x11.Down.length<=68719476736) inferInstance<|.ge 49 10<|.gv 50<|.gv 51<|.ge 1004014 0<|.gv 52<|.gv 53<|.ge 1004017 0<|.ret ((x11.fQ:Int),(x11.Closed:Bool),(x11.fZ:List aP),(x11.bR:List aS),(x11.dI:List Int),(x11.dJ:List cB),(x11.gJ:List Int),(x11.Down:List Int))))) (pw λy1_2 q0=>(pw λy1_3 q1=>(pw λy1_9 q2=>(pw λy1_10 q3=>(pw λy1_11 q4=>(pw λy1_12 q5=>(pw λy1_13 y1_14=>.bo (ix a1.bA a2) λx22=>.al 11<|.jn 2 [1,2,4,5,6] [1,2,6,7,8,9,11] [14] (λu9 (a:(List aN)×(List Int))=>[(7,.sl 14 (u9 14) 0 a.1.length)]) (λu9 a=>[.kp 5 ((a1.bA.map aP.av).set (Int.toNat a2) [int y1_2,aZ y1_3,.sl 6 (u9 6) 0 y1_10.length,.sl 7 (u9 7) 0 y1_11.length,.sl 8 (u9 8) 0 y1_12.length,.sl 9 (u9 9) 0 y1_13.length,.sl 10 (u9 10) 0 a.2.length,aH 8 aP.av y1_9]),.kp 10 (a.2.map fI),.nw 14 72 2 (a.1.map aN.av)]) (.no 7 14 72 2<|.lp [1,2,4,5,6] [1,2,6,7,8,9,11] [14] (λu13 (a:Int×(List aN)×(List Int))=>[(7,.sl 14 (u13 14) 0 a.2.1.length),(8,int a.1)]) (λu13 a=>[.kp 5 ((a1.bA.map aP.av).set (Int.toNat a2) [int y1_2,aZ y1_3,.sl 6 (u13 6) 0 y1_10.length,.sl 7 (u13 7) 0 y1_11.length,.sl 8 (u13 8) 0 y1_12.length,.sl 9 (u13 9) 0 y1_13.length,.sl 10 (u13 10) 0 a.2.2.length,aH 8 aP.av y1_9]),.kp 10 (a.2.2.map fI),.nw 14 72 2 (a.2.1.map aN.av)]) n ((0:Int),(([]:List aN):List aN),y1_14) (pw λy2_2 q0=>(pw λy2_3 y2_4=>.gv 31<|.gv 32<|.gv 33<|.bB 35 (decide (y2_2<(y1_13.length:Int))) λx25=>.ifs [35] x25 (.jn 1 [1,2,4,5,6,8] [1,2,6,7,8,9,11] [14] (λu14 (a:(List aN)×(List Int))=>[(7,.sl 14 (u14 14) 0 a.1.length)]) (λu14 a=>[.kp 5 ((a1.bA.map aP.av).set (Int.toNat a2) [int y1_2,aZ y1_3,.sl 6 (u14 6) 0 y1_10.length,.sl 7 (u14 7) 0 y1_11.length,.sl 8 (u14 8) 0 y1_12.length,.sl 9 (u14 9) 0 y1_13.length,.sl 10 (u14 10) 0 a.2.length,aH 8 aP.av y1_9]),.kp 10 (a.2.map fI),.nw 14 72 2 (a.1.map aN.av)]) (.gv 41<|.gv 42<|.gv 43<|.bo (ix y1_13 y2_2) λx26=>.gv 45<|.gv 46<|.bB 48 (decide (x26>=0)) λx27=>.ifs [48] x27 (.cl 52 (xN n a1 a2 y2_2) IL IV λx28=>.al 12<|.cl 58 (LM x28.Value x28.aT x26) aL5 aFA λx30=>.gv 63<|.gv 64<|.gv 65<|.bo (ix y2_4 y2_2) λx31=>.gv 67<|.gv 68<|.bI 69 (bE (x30-x31)) λx32=>.bI 74 (bE (0-x32)) λx33=>.to 76 (aH 2 aN.av ([(⟨10,x32⟩:aN),(⟨11,x33⟩:aN)]:List aN))<|.bl (y2_3++([(⟨10,x32⟩:aN),(⟨11,x33⟩:aN)]:List aN):List aN) λx34=>.as (x34.length<=68719476736) inferInstance<|.ge 77 0<|.gv 81<|.gv 82<|.gv 83<|.gv 86<|.bl (y2_4.set (Int.toNat y2_2) x30:List Int) λx37=>.ge 1014009 0<|.ret ((x34:List aN),x37)) (.ret ((y2_3:List aN),y2_4))) (pw λy3_2 y3_3=>.bI 37 (bE (y2_2+1)) λx38=>.brk ((x38:Int),y3_2,y3_3))) (.esc (.ret ((y2_3:List aN),y2_4)))) q0)) (pw λy4_2 y4_3=>.kS 5<|.kS 6<|.kS 7<|.kS 8<|.kS 9<|.kS 10<|.kS 14<|.cl 91 (lS n (⟨a1.bF,(a1.bA.set (Int.toNat a2) (⟨y1_2,y1_3,y1_10,y1_11,y1_12,y1_13,y4_3,y1_9⟩:aP)),a1.bX,a1.dS,a1.dH,a1.Done⟩:aB) a2 y4_2) qU qK λx39=>.bB 95 (decide (x39.2≠0)) λx40=>.ifs [95] x40 (.ret ((a1:aB),x39.2)) (.ret ((x39.1:aB),0)))) q5) q4) q3) q2) q1) q0)))
def IW (n:Nat) (a1:aB) (a2:Int):Option (aB×Int):=(aCI n a1 a2).run
theorem aQA {n a1 a2 r} (h0:IW n a1 a2=some r):PP Tryz.prog 59 [.agg (aB.av a1),int a2] (λy=>y=.bD [.agg (aB.av r.1),int r.2]) :=
 bY mixed aA (λr:aB×Int=>.bD [.agg (aB.av r.1),int r.2]) h0 Tryz.func59 (λr=>.bD (gK ((λ(a:aB)=>PV.agg (aB.dR a)) (r.1)) (bQ (r.2)))) 100000 au
def WY (n:Nat) (a1:aB) (a2:Int):WT Tryz.prog (.b (aB×Int)) :=
 .al 1<|.al 2<|.jn 1 [1,2,4,5] [1,2] [] (λ_ (a:Bool)=>[(12,aZ a)]) (λ_ _=>[]) (.bB 14 (decide (a2<0)) λx5=>.ifs [14] x5 (.ret true) (.ln 19 aP.av a1.bA<|.bB 20 (decide (a2>=(a1.bA.length:Int))) λx6=>.ret x6)) (λy0_1=>.ifs [12] y0_1 (.ret ((a1:aB),4)) (.jC 27 aP.av gE aP.fB a1.bA a2 λx7=>.wt 23 <|.ifs [23] x7.Closed (.ret ((a1:aB),7)) (.al 3<|.fH 1 [1,2,4,5,6] [1,2] [] (λ_ (a:aB)=>[]) (λ_ a=>[.kp 3 [(aB.av a)]]) (.lp [1,2,4,5,6] [1,2] [] (λ_ (a:Int×aB)=>[(7,int a.1)]) (λ_ a=>[.kp 3 [(aB.av a.2)]]) n ((0:Int),a1) (pw λy1_1 y1_2=>.ln 36 fI a1.bF.bW<|.bB 37 (decide (y1_1<(a1.bF.bW.length:Int))) λx9=>.ifs [37] x9 (.fH 1 [1,2,4,5,6,7] [1,2] [] (λ_ (a:aB)=>[]) (λ_ a=>[.kp 3 [(aB.av a)]]) (.fH 2 [1,2,4,5,6,7] [1,2] [] (λ_ (a:aB)=>[]) (λ_ a=>[.kp 3 [(aB.av a)]]) (.lp [1,2,4,5,6,7] [1,2] [] (λ_ (a:Int×aB)=>[(8,int a.1)]) (λ_ a=>[.kp 3 [(aB.av a.2)]]) n ((0:Int),y1_2) (pw λy2_1 y2_2=>.jn 0 [1,2,4,5,6,7,8] [1,2,3] [] (λ_ (a:Bool)=>[(53,aZ a)]) (λ_ _=>[]) (.bB 41 (decide (y2_1<2)) λx10=>.ifs [41] x10 (.ix 47 (fL 1 fI) a1.bF.Methods a2 λx11=>.ix 50 fI x11 y1_1 λx12=>.bB 52 (decide (x12=3)) λx13=>.ret x13) (.ret false)) (λy3_1=>.ifs [53] y3_1 (.cl 61 (KJ n y2_2 a2 y1_1 y2_1) aHB aMN λx14=>.al 4<|.bB 65 (decide (x14.2≠0)) λx16=>.ifs [65] x16 (.esc (.esc (.esc (.esc (.esc (.ret ((a1:aB),x14.2))))))) (.bI 55 (bE (y2_1+1)) λx17=>.brk ((x17:Int),x14.1))) (.esc (.brk y2_2))))) (λy4_1=>.brk y4_1)) (λy5_1=>.bI 39 (bE (y1_1+1)) λx18=>.brk ((x18:Int),y5_1))) (.esc (.brk y1_2)))) (λy6_1=>.cl 72 (IW n y6_1 a2) aMX aQA λx19=>.bB 76 (decide (x19.2≠0)) λx20=>.ifs [76] x20 (.ret ((a1:aB),x19.2)) (.inl 81 zH Tryz.func60 [1,2,3] [7,8,9,10,11,12] (λu75 (a:Int×Bool×(List aP)×(List aS)×(List Int)×(List cB)×(List Int)×(List Int))=>.agg [int x19.1.bF.gG,int x19.1.bF.gZ,aH 1 fI x19.1.bF.bW,aH 1 (fL 1 fI) x19.1.bF.Methods,aH 1 (fL 1 fI) x19.1.bF.gX,.sl 7 (u75 7) 0 x19.1.bA.length,aH 8 dX.av x19.1.bX,aH 9 fA.av x19.1.dS,aH 6 fP.av x19.1.dH,int x19.1.Done]) (λu75 a=>[.nw 7 60 8 ((x19.1.bA.map aP.av).set (Int.toNat a2) [int a.1,aZ a.2.1,.sl 8 (u75 8) 0 a.2.2.2.1.length,.sl 9 (u75 9) 0 a.2.2.2.2.1.length,.sl 10 (u75 10) 0 a.2.2.2.2.2.1.length,.sl 11 (u75 11) 0 a.2.2.2.2.2.2.1.length,.sl 12 (u75 12) 0 a.2.2.2.2.2.2.2.length,aH 8 aP.av a.2.2.1]),.nw 8 99 4 (a.2.2.2.1.map aS.av),.nw 9 3 1 (a.2.2.2.2.1.map fI),.nw 10 76 11 (a.2.2.2.2.2.1.map cB.av),.nw 11 3 1 (a.2.2.2.2.2.2.1.map fI),.nw 12 3 1 (a.2.2.2.2.2.2.2.map fI)]) (.al 5<|.al 6<|.as (x19.1.bA.length<=68719476736) inferInstance<|.ge 8 7<|.bo (ix x19.1.bA a2) λx25=>.gv 13<|.dr [(4,[7]),(5,[7]),(6,[7]),(9,[7]),(10,[7]),(11,[7]),(14,[7]),(15,[7]),(16,[7]),(18,[7]),(19,[7]),(21,[7]),(22,[7]),(24,[7]),(25,[7])] [(17,[]),(20,[]),(23,[]),(26,[])] [7] [7,12,17,20,23,26] [0,1,2,3,4,5,6,8,9,10,11,13,14,15,16,7,12,17,18,19,20,21,22,23,24,25,26] (.gv 18<|.gv 19<|.gv 20<|.gv 23<|.gv 24<|.gv 25<|.gv 28<|.gv 29<|.gv 30<|.as (x25.bR.length<=68719476736) inferInstance<|.ge 21 8<|.as (x25.dI.length<=68719476736) inferInstance<|.ge 26 9<|.as (x25.dJ.length<=68719476736) inferInstance<|.ge 31 10<|.gv 32<|.gv 33<|.ge 1003020 0<|.gv 34<|.gv 35<|.ge 1003023 0<|.gv 36<|.gv 37<|.ge 1003026 0<|.dr [(3,[7]),(4,[7]),(5,[7]),(8,[7]),(9,[7]),(10,[7]),(12,[7]),(13,[7]),(15,[7]),(16,[7])] [(11,[]),(14,[]),(17,[])] [7] [6,11,14,17] [0,1,2,3,4,5,7,8,9,10,6,11,12,13,14,15,16,17] (.gv 41<|.gv 42<|.gv 43<|.gv 46<|.gv 47<|.gv 48<|.as (x25.gJ.length<=68719476736) inferInstance<|.ge 44 11<|.as (x25.Down.length<=68719476736) inferInstance<|.ge 49 12<|.gv 50<|.gv 51<|.ge 1004014 0<|.gv 52<|.gv 53<|.ge 1004017 0<|.ret ((x25.fQ:Int),(x25.Closed:Bool),(x25.fZ:List aP),(x25.bR:List aS),(x25.dI:List Int),(x25.dJ:List cB),(x25.gJ:List Int),(x25.Down:List Int))))) (pw λy7_2 q0=>(pw λy7_3 q1=>(pw λy7_9 q2=>(pw λy7_10 q3=>(pw λy7_11 q4=>(pw λy7_12 q5=>(pw λy7_13 y7_14=>.bo (ix x19.1.bA a2) λx36=>.dr [(0,[3]),(1,[3]),(3,[3]),(4,[3]),(6,[1]),(7,[1]),(12,[7]),(13,[7]),(15,[7]),(16,[7])] [(14,[3]),(17,[])] [1,3,7] [14,17] [0,1,2,3,4,5,6,7,8,9,10,11,12,13,14,15,16,17] (.jC 91 aP.av gE aP.fB a1.bA a2 λx37=>.to 93 (aH 8 aP.av ([x37]:List aP))<|.gv 94<|.gv 95<|.ge 1020014 0<|.gv 96<|.gv 97<|.ge 1020017 0<|.ret (((⟨x19.1.bF,(x19.1.bA.set (Int.toNat a2) (⟨y7_2,true,y7_10,y7_11,y7_12,y7_13,y7_14,([x37]:List aP)⟩:aP)),x19.1.bX,x19.1.dS,x19.1.dH,x19.1.Done⟩:aB):aB),0))) q5) q4) q3) q2) q1) q0))))))
def JK (n:Nat) (a1:aB) (a2:Int):Option (aB×Int):=(WY n a1 a2).run
theorem aLQ {n:Nat} {a1:aB} {a2:Int} {r:aB×Int} (h0:JK n a1 a2=some r):PP Tryz.prog 25 [.agg (aB.av a1),int a2] (λy=>y=.bD [.agg (aB.av r.1),int r.2]):=by
 refine bY mixed aA (λ(r:aB×Int)=>.bD [.agg (aB.av r.1),int r.2]) h0 Tryz.func25 (λr=>.bD (gK ((λ(a:aB)=>PV.agg (aB.dR a)) (r.1)) (bQ (r.2)))) 100000 ?_
 intro v3
 intro v4
 refine .mk ?_ ?_
 refine .mk λx5=>?_
 refine .mk .mk ?_
 refine .mk ?_
 refine .mk λx6=>?_
 exact .mk
 intro _ _
 refine .mk .mk ?_
 refine .mk λx7 e7=>?_
 refine .mk .mk ?_
 intro v8
 refine .mk ?_ ?_
 refine .mk ?_
 intro _ _
 refine .mk ?_
 refine .mk λx9=>?_
 refine .mk ?_ ?_
 refine .mk ?_ ?_
 refine .mk ?_ ?_
 refine .mk ?_
 intro _ _
 refine .mk ?_ ?_
 refine .mk λx10=>?_
 refine .mk ?_ ?_
 refine .mk λx11 e11=>?_
 refine .mk λx12 e12=>?_
 refine .mk λx13=>?_
 exact .mk
 exact .mk
 intro _ _
 refine .mk ?_ ?_
 refine .mk λx14 e14=>?_
 intro v15
 refine .mk λx16=>?_
 refine .mk .mk ?_
 refine .mk λx17=>?_
 exact .mk
 exact .mk
 intro _ _
 exact .mk
 intro _ _
 refine .mk λx18=>?_
 exact .mk
 exact .mk
 intro _ _
 refine .mk λx19 e19=>?_
 refine .mk λx20=>?_
 refine .mk .mk ?_
 refine .mk ?_ ?_
 intro v21
 intro v22
 refine .mk λp23=>?_
 refine .mk _ ⟨λ_=>nU (g:=aP.av) (m:=x19.1.bA) 7 rfl Tryz.underlying27 yH EH rfl rfl rfl rfl (.refl _) aP.one p23,λ_ _ _=>trivial⟩ ?_
 rintro _ _ ⟨v24,rfl,rfl⟩
 refine .mk λx25 e25=>?_
 refine .mk _ (fK (iT rfl Tryz.underlying27 mQ rfl rfl rfl rfl rfl (Eq.symm rfl) (List.length_map _) e25)) ?_
 refine .mk ?_
 refine .mk _ (λH hH _=>mI rfl rfl (.pt ((hH _ (by decide)).trans rfl) rfl (iM e25 (aP.fB _)))) ?_
 refine .mk _ (λH hH _=>iC rfl uQ rfl (.pt ((hH _ (by decide)).trans rfl) rfl (iM e25 (aP.fB _))) (.pt _ _ _ _ _)) ?_
 refine .mk _ (λH hH _=>gQ rfl uN rfl (.pt ((hH _ (by decide)).trans rfl) rfl (iM e25 (aP.fB _))) rfl) ?_
 refine .mk _ (λH hH _=>mI rfl rfl (.pt ((hH _ (by decide)).trans rfl) rfl (iM e25 (aP.fB _)))) ?_
 refine .mk _ (λH hH _=>iC rfl FY rfl (.pt ((hH _ (by decide)).trans rfl) rfl (iM e25 (aP.fB _))) (.pt _ _ _ _ _)) ?_
 refine .mk _ (λH hH _=>gQ rfl lT rfl (.pt ((hH _ (by decide)).trans rfl) rfl (iM e25 (aP.fB _))) rfl) ?_
 refine .mk _ (λH hH _=>mI rfl rfl (.pt ((hH _ (by decide)).trans rfl) rfl (iM e25 (aP.fB _)))) ?_
 refine .mk _ (λH hH _=>iC rfl tC rfl (.pt ((hH _ (by decide)).trans rfl) rfl (iM e25 (aP.fB _))) (.pt _ _ _ _ _)) ?_
 refine .mk _ (λH hH _=>gQ rfl sG rfl (.pt ((hH _ (by decide)).trans rfl) rfl (iM e25 (aP.fB _))) rfl) ?_
 refine .mk λp26=>?_
 refine .mk _ ⟨λ_=>nU (g:=aS.av) (m:=x25.bR) 8 rfl Tryz.underlying57 EN ID rfl rfl rfl rfl (.refl _) (λ_=>rfl) p26,by rintro _ _ ⟨v27,rfl,rfl⟩;exact ⟨rfl,trivial⟩⟩ ?_
 rintro _ _ ⟨v27,rfl,rfl⟩
 refine .mk λp28=>?_
 refine .mk _ ⟨λ_=>nU (g:=fI) (m:=x25.dI) 9 rfl Tryz.underlying22 kC nK rfl rfl rfl rfl (.refl _) (λ_=>rfl) p28,by rintro _ _ ⟨v29,rfl,rfl⟩;exact ⟨rfl,trivial⟩⟩ ?_
 rintro _ _ ⟨v29,rfl,rfl⟩
 refine .mk λp30=>?_
 refine .mk _ ⟨λ_=>nU (g:=cB.av) (m:=x25.dJ) 10 rfl Tryz.underlying58 D7 NH rfl rfl rfl rfl (.refl _) (λ_=>rfl) p30,by rintro _ _ ⟨v31,rfl,rfl⟩;exact trivial⟩ ?_
 rintro _ _ ⟨v31,rfl,rfl⟩
 refine .mk _ (λH hH _=>mI rfl rfl (.pt ((hH _ (by decide)).trans rfl) rfl (iM e25 (aP.fB _)))) ?_
 refine .mk _ (λH hH _=>iC rfl uQ rfl (.pt ((hH _ (by decide)).trans rfl) rfl (iM e25 (aP.fB _))) (.pt _ _ _ _ _)) ?_
 refine .mk _ ⟨λ_=>eG.iA (iP (ob':=(⟨60,8,true,true,_,(x19.1.bA.map aP.av).set (Int.toNat a2) [int x25.fQ,aZ x25.Closed,.sl 8 v27 0 x25.bR.length,aH 1 fI x25.dI,aH 11 cB.av x25.dJ,aH 1 fI x25.gJ,aH 1 fI x25.Down,aH 8 aP.av x25.fZ]⟩:cO)) (iL rfl uN rfl rfl rfl rfl rfl (iM e25 (aP.fB _)) rfl rfl rfl) (jZ rfl)) (λ_ h=>h) (λ_ _=>trivial),by rintro _ _ ⟨rfl,rfl⟩;exact trivial⟩ ?_
 rintro _ _ ⟨rfl,rfl⟩
 refine .mk _ (λH hH _=>mI rfl rfl (.pt ((hH _ (by decide)).trans rfl) rfl (iG e25))) ?_
 refine .mk _ (λH hH _=>iC rfl FY rfl (.pt ((hH _ (by decide)).trans rfl) rfl (iG e25)) (.pt _ _ _ _ _)) ?_
 refine .mk _ ⟨λ_=>eG.iA (iP (ob':=(⟨60,8,true,true,_,(x19.1.bA.map aP.av).set (Int.toNat a2) [int x25.fQ,aZ x25.Closed,.sl 8 v27 0 x25.bR.length,.sl 9 v29 0 x25.dI.length,aH 11 cB.av x25.dJ,aH 1 fI x25.gJ,aH 1 fI x25.Down,aH 8 aP.av x25.fZ]⟩:cO)) (iL rfl lT rfl rfl rfl rfl rfl (iG e25) rfl rfl rfl) (jZ sQ)) (λ_ h=>h) (λ_ _=>trivial),by rintro _ _ ⟨rfl,rfl⟩;exact trivial⟩ ?_
 rintro _ _ ⟨rfl,rfl⟩
 refine .mk _ (λH hH _=>mI rfl rfl (.pt ((hH _ (by decide)).trans rfl) rfl (iG e25))) ?_
 refine .mk _ (λH hH _=>iC rfl tC rfl (.pt ((hH _ (by decide)).trans rfl) rfl (iG e25)) (.pt _ _ _ _ _)) ?_
 refine .mk _ ⟨λ_=>eG.iA (iP (ob':=(⟨60,8,true,true,_,(x19.1.bA.map aP.av).set (Int.toNat a2) [int x25.fQ,aZ x25.Closed,.sl 8 v27 0 x25.bR.length,.sl 9 v29 0 x25.dI.length,.sl 10 v31 0 x25.dJ.length,aH 1 fI x25.gJ,aH 1 fI x25.Down,aH 8 aP.av x25.fZ]⟩:cO)) (iL rfl sG rfl rfl rfl rfl rfl (iG e25) rfl rfl rfl) (jZ sQ)) (λ_ h=>h) (λ_ _=>trivial),by rintro _ _ ⟨rfl,rfl⟩;exact trivial⟩ ?_
 rintro _ _ ⟨rfl,rfl⟩
 refine .mk ?_
 refine .mk _ (λH hH _=>mI rfl rfl (.pt ((hH _ (by decide)).trans rfl) rfl (iG e25))) ?_
 refine .mk _ (λH hH _=>iC rfl I4 rfl (.pt ((hH _ (by decide)).trans rfl) rfl (iG e25)) (.pt _ _ _ _ _)) ?_
 refine .mk _ (λH hH _=>gQ rfl lT rfl (.pt ((hH _ (by decide)).trans rfl) rfl (iG e25)) rfl) ?_
 refine .mk _ (λH hH _=>mI rfl rfl (.pt ((hH _ (by decide)).trans rfl) rfl (iG e25))) ?_
 refine .mk _ (λH hH _=>iC rfl IG rfl (.pt ((hH _ (by decide)).trans rfl) rfl (iG e25)) (.pt _ _ _ _ _)) ?_
 refine .mk _ (λH hH _=>gQ rfl lT rfl (.pt ((hH _ (by decide)).trans rfl) rfl (iG e25)) rfl) ?_
 refine .mk λp32=>?_
 refine .mk _ ⟨λ_=>nU (g:=fI) (m:=x25.gJ) 11 rfl Tryz.underlying22 kC nK rfl rfl rfl rfl (.refl _) (λ_=>rfl) p32,by rintro _ _ ⟨v33,rfl,rfl⟩;exact ⟨rfl,trivial⟩⟩ ?_
 rintro _ _ ⟨v33,rfl,rfl⟩
 refine .mk λp34=>?_
 refine .mk _ ⟨λ_=>nU (g:=fI) (m:=x25.Down) 12 rfl Tryz.underlying22 kC nK rfl rfl rfl rfl (.refl _) (λ_=>rfl) p34,by rintro _ _ ⟨v35,rfl,rfl⟩;exact trivial⟩ ?_
 rintro _ _ ⟨v35,rfl,rfl⟩
 refine .mk _ (λH hH _=>mI rfl rfl (.pt ((hH _ (by decide)).trans rfl) rfl (iG e25))) ?_
 refine .mk _ (λH hH _=>iC rfl I4 rfl (.pt ((hH _ (by decide)).trans rfl) rfl (iG e25)) (.pt _ _ _ _ _)) ?_
 refine .mk _ ⟨λ_=>eG.iA (iP (ob':=(⟨60,8,true,true,_,(x19.1.bA.map aP.av).set (Int.toNat a2) [int x25.fQ,aZ x25.Closed,.sl 8 v27 0 x25.bR.length,.sl 9 v29 0 x25.dI.length,.sl 10 v31 0 x25.dJ.length,.sl 11 v33 0 x25.gJ.length,aH 1 fI x25.Down,aH 8 aP.av x25.fZ]⟩:cO)) (iL rfl lT rfl rfl rfl rfl rfl (iG e25) rfl rfl rfl) (jZ sQ)) (λ_ h=>h) (λ_ _=>trivial),by rintro _ _ ⟨rfl,rfl⟩;exact trivial⟩ ?_
 rintro _ _ ⟨rfl,rfl⟩
 refine .mk _ (λH hH _=>mI rfl rfl (.pt ((hH _ (by decide)).trans rfl) rfl (iG e25))) ?_
 refine .mk _ (λH hH _=>iC rfl IG rfl (.pt ((hH _ (by decide)).trans rfl) rfl (iG e25)) (.pt _ _ _ _ _)) ?_
 refine .mk _ ⟨λ_=>eG.iA (iP (ob':=(⟨60,8,true,true,_,(x19.1.bA.map aP.av).set (Int.toNat a2) [int x25.fQ,aZ x25.Closed,.sl 8 v27 0 x25.bR.length,.sl 9 v29 0 x25.dI.length,.sl 10 v31 0 x25.dJ.length,.sl 11 v33 0 x25.gJ.length,.sl 12 v35 0 x25.Down.length,aH 8 aP.av x25.fZ]⟩:cO)) (iL rfl lT rfl rfl rfl rfl rfl (iG e25) rfl rfl rfl) (jZ sQ)) (λ_ h=>h) (λ_ _=>trivial),by rintro _ _ ⟨rfl,rfl⟩;exact trivial⟩ ?_
 rintro _ _ ⟨rfl,rfl⟩
 exact .mk
 rintro ⟨y7_2,y7_3,y7_9,y7_10,y7_11,y7_12,y7_13,y7_14⟩ u75
 refine .mk trivial ?_
 refine .mk λx36 e36=>?_
 refine .mk ?_
 refine .mk λx37 e37=>?_
 refine .mk (λH hH _=>fT (y:=aH 8 aP.av ([x37]:List aP)) (jP (ps:=[(0,_)]) (rows:=[[int x37.fQ,aZ x37.Closed,aH 4 aS.av x37.bR,aH 1 fI x37.dI,aH 11 cB.av x37.dJ,aH 1 fI x37.gJ,aH 1 fI x37.Down,aH 8 aP.av x37.fZ]]) rfl Tryz.underlying27 yH (.cons rfl .nil) (by kernel_rfl) rfl rfl rfl) (congrArg (AV.list 8) (by simp only [List.map_cons,List.map_nil,aP.fB]))) ?_
 refine .mk _ (λH hH _=>iT rfl Tryz.underlying27 mQ rfl rfl ((hH _ (by decide)).trans rfl) rfl rfl (Eq.symm rfl) FM e36) ?_
 refine .mk _ (λH hH _=>iC rfl A7 rfl (.pt ((hH _ (by decide)).trans rfl) rfl (iG e36)) (.pt _ _ _ _ _)) ?_
 refine .mk _ ⟨λ_=>eG.iA (iP (ob':=(⟨60,8,true,true,_,(x19.1.bA.map aP.av).set (Int.toNat a2) [int y7_2,aZ y7_3,.sl 8 (u75 8) 0 y7_10.length,.sl 9 (u75 9) 0 y7_11.length,.sl 10 (u75 10) 0 y7_12.length,.sl 11 (u75 11) 0 y7_13.length,.sl 12 (u75 12) 0 y7_14.length,aH 8 aP.av ([x37]:List aP)]⟩:cO)) (iL rfl vK rfl rfl rfl rfl rfl (iG e36) rfl rfl rfl) (jZ sQ)) (λ_ h=>h) (λ_ _=>trivial),by rintro _ _ ⟨rfl,rfl⟩;exact ⟨rfl,trivial⟩⟩ ?_
 rintro _ _ ⟨rfl,rfl⟩
 refine .mk _ (λH hH _=>iT rfl Tryz.underlying27 mQ rfl rfl ((hH _ (by decide)).trans rfl) rfl rfl (Eq.symm rfl) FM e36) ?_
 refine .mk _ (λH hH _=>iC rfl aAA rfl (.pt ((hH _ (by decide)).trans rfl) rfl (iG e36)) (.pt _ _ _ _ _)) ?_
 refine .mk _ ⟨λ_=>eG.iA (iP (ob':=(⟨60,8,true,true,_,(x19.1.bA.map aP.av).set (Int.toNat a2) [int y7_2,aZ true,.sl 8 (u75 8) 0 y7_10.length,.sl 9 (u75 9) 0 y7_11.length,.sl 10 (u75 10) 0 y7_12.length,.sl 11 (u75 11) 0 y7_13.length,.sl 12 (u75 12) 0 y7_14.length,aH 8 aP.av ([x37]:List aP)]⟩:cO)) (iL rfl O8 rfl rfl rfl rfl rfl (iG e36) rfl rfl rfl) (jZ sQ)) (λ_ h=>h) (λ_ _=>trivial),by rintro _ _ ⟨rfl,rfl⟩;exact trivial⟩ ?_
 rintro _ _ ⟨rfl,rfl⟩
 exact .mk (dG.bD (.cons (dG.agg (.cons (.refl _) (.cons (.refl _) (.cons (.refl _) (.cons (.refl _) (.cons (.refl _) (.cons (wX rfl rfl rfl rfl rfl (Eq.symm rfl) e36 (uO (.cons (.refl _) (.cons (.refl _) (.cons (gY rfl rfl rfl rfl rfl (Eq.symm rfl)) (.cons (gY rfl rfl rfl rfl rfl (Eq.symm rfl)) (.cons (gY rfl rfl rfl rfl rfl (Eq.symm rfl)) (.cons (gY rfl rfl rfl rfl rfl (Eq.symm rfl)) (.cons (gY rfl rfl rfl rfl rfl (Eq.symm rfl)) (.cons (.refl _) .nil)))))))) (aP.fB _))) (.cons (.refl _) (.cons (.refl _) (.cons (.refl _) (.cons (.refl _) .nil))))))))))) (.cons (.refl _) .nil)))
def aA5 (n:Nat) (a1:aB) (a2:Int):WT Tryz.prog (.b (aB×Int)) :=
 .al 1<|.al 2<|.jn 1 [1,2,4,5] [1,2] [] (λ_ (a:Bool)=>[(8,aZ a)]) (λ_ _=>[]) (.bB 10 (decide (a2<0)) λx5=>.ifs [10] x5 (.ret true) (.ln 15 aP.av a1.bA<|.bB 16 (decide (a2>=(a1.bA.length:Int))) λx6=>.ret x6)) (λy0_1=>.ifs [8] y0_1 (.ret ((a1:aB),4)) (.jC 23 aP.av gE aP.fB a1.bA a2 λx7=>.bB 26 (!x7.Closed) λx8=>.ifs [26] x8 (.ret ((a1:aB),8)) (.as (a1.bA.length<=68719476736) inferInstance<|.ge 30 3<|.dr [(0,[1]),(1,[1]),(3,[1]),(4,[1]),(6,[3]),(7,[3]),(8,[3]),(11,[3])] [(12,[])] [1,3] [12] [0,1,2,3,4,5,6,7,8,9,10,11,12] (.bo (ix a1.bA a2) λx11=>.gv 38<|.gv 39<|.gv 40<|.jC 41 aP.av gE aP.fB x11.fZ 0 λx12=>.gv 43<|.bl (a1.bA.set (Int.toNat a2) x12:List aP) λx13=>.ge 1006012 0<|.as (a1.dS.length<=68719476736) inferInstance<|.ge 46 4<|.jn 1 [2,4,5] [2,3] [] (λ_ (a:(List fA))=>[]) (λu10 a=>[.kp 1 [[int a1.bF.gG,int a1.bF.gZ,aH 1 fI a1.bF.bW,aH 1 (fL 1 fI) a1.bF.Methods,aH 1 (fL 1 fI) a1.bF.gX,.sl 3 (u10 3) 0 a1.bA.length,aH 8 dX.av a1.bX,.sl 4 (u10 4) 0 a.length,aH 6 fP.av a1.dH,int a1.Done]],.kp 4 (a.map fA.av)]) (.lp [1,2,4,5] [2,3] [] (λ_ (a:Int×(List fA))=>[(6,int a.1)]) (λu13 a=>[.kp 1 [[int a1.bF.gG,int a1.bF.gZ,aH 1 fI a1.bF.bW,aH 1 (fL 1 fI) a1.bF.Methods,aH 1 (fL 1 fI) a1.bF.gX,.sl 3 (u13 3) 0 a1.bA.length,aH 8 dX.av a1.bX,.sl 4 (u13 4) 0 a.2.length,aH 6 fP.av a1.dH,int a1.Done]],.kp 4 (a.2.map fA.av)]) n ((0:Int),(a1.dS:List fA)) (pw λy1_1 y1_2=>.bB 52 (decide (y1_1<(y1_2.length:Int))) λx16=>.ifs [52] x16 (.jn 1 [1,2,4,5,6] [2,3] [] (λ_ (a:(List fA))=>[]) (λu15 a=>[.kp 1 [[int a1.bF.gG,int a1.bF.gZ,aH 1 fI a1.bF.bW,aH 1 (fL 1 fI) a1.bF.Methods,aH 1 (fL 1 fI) a1.bF.gX,.sl 3 (u15 3) 0 a1.bA.length,aH 8 dX.av a1.bX,.sl 4 (u15 4) 0 a.length,aH 6 fP.av a1.dH,int a1.Done]],.kp 4 (a.map fA.av)]) (.bo (ix y1_2 y1_1) λx17=>.gv 58<|.gv 59<|.al 5<|.jn 0 [1,2,4,5,6] [1,2,3,4] [] (λ_ (a:Bool)=>[(78,aZ a)]) (λ_ _=>[]) (.dr [(0,[5]),(1,[5]),(3,[5]),(4,[5]),(9,[5]),(10,[5]),(11,[1]),(12,[1]),(14,[3]),(15,[3]),(16,[3])] [] [1,3,5] [] [0,1,2,3,4,5,6,7,8,9,10,11,12,13,14,15,16,17,18] (.bB 62 (x17.qF) λx19=>.ifs [62] x19 (.bB 66 (decide (x17.fU=a2)) λx20=>.ifs [66] x20 (.gv 74<|.gv 75<|.gv 76<|.bB 77 (decide (x17.oP=((x12:aP).fQ))) λx21=>.ret x21) (.ret false)) (.ret false))) (λy2_1=>.ifs [78] y2_1 (.dr [(0,[1]),(1,[1]),(3,[1]),(4,[1]),(6,[4]),(7,[4]),(9,[4]),(10,[4])] [(8,[1]),(11,[])] [1,4] [8,11] [0,1,2,3,4,5,6,7,8,9,10,11] (.gv 85<|.gv 86<|.bl (y1_2.set (Int.toNat y1_1) ((⟨x17.fU,x17.Item,x17.Loc,x17.aT,x17.jB,0,x17.bO,x17.oP,x17.qF⟩:fA):fA):List fA) λx22=>.ge 1013008 0<|.gv 87<|.gv 88<|.bl (x22.set (Int.toNat y1_1) ((⟨x17.fU,x17.Item,x17.Loc,x17.aT,x17.jB,0,0,x17.oP,x17.qF⟩:fA):fA):List fA) λx23=>.ge 1013011 0<|.ret x23)) (.ret y1_2))) (λy3_1=>.bI 54 (bE (y1_1+1)) λx24=>.brk ((x24:Int),y3_1))) (.esc (.ret y1_2)))) (λy4_1=>.ret (((⟨a1.bF,x13,a1.bX,y4_1,a1.dH,a1.Done⟩:aB):aB),0))))))
def MP (n:Nat) (a1:aB) (a2:Int):Option (aB×Int):=(aA5 n a1 a2).run
theorem aLA {n:Nat} {a1:aB} {a2:Int} {r:aB×Int} (h0:MP n a1 a2=some r):PP Tryz.prog 26 [.agg (aB.av a1),int a2] (λy=>y=.bD [.agg (aB.av r.1),int r.2]):=by
 refine bY mixed aA (λ(r:aB×Int)=>.bD [.agg (aB.av r.1),int r.2]) h0 Tryz.func26 (λr=>.bD (gK ((λ(a:aB)=>PV.agg (aB.dR a)) (r.1)) (bQ (r.2)))) 100000 ?_
 intro v3
 intro v4
 refine .mk ?_ ?_
 refine .mk λx5=>?_
 refine .mk .mk ?_
 refine .mk ?_
 refine .mk λx6=>?_
 exact .mk
 intro _ _
 refine .mk .mk ?_
 refine .mk λx7 e7=>?_
 refine .mk λx8=>?_
 refine .mk .mk ?_
 refine .mk λp9=>?_
 refine .mk _ ⟨λ_=>nU (g:=aP.av) (m:=a1.bA) 3 rfl Tryz.underlying27 yH EH rfl rfl rfl rfl (.refl _) aP.one p9,λ_ _ _=>trivial⟩ ?_
 rintro _ _ ⟨v10,rfl,rfl⟩
 refine .mk ?_
 refine .mk λx11 e11=>?_
 refine .mk _ (λH hH _=>iT rfl Tryz.underlying27 mQ rfl rfl ((hH _ (by decide)).trans rfl) rfl rfl (Eq.symm rfl) (List.length_map _) e11) ?_
 refine .mk _ (λH hH _=>iC rfl A7 rfl (.pt ((hH _ (by decide)).trans rfl) rfl (iM e11 (aP.fB _))) (.pt _ _ _ _ _)) ?_
 refine .mk _ (λH hH _=>gQ rfl vK rfl (.pt ((hH _ (by decide)).trans rfl) rfl (iM e11 (aP.fB _))) rfl) ?_
 refine .mk λx12 e12=>?_
 refine .mk _ (λH hH _=>iT rfl Tryz.underlying27 mQ rfl rfl ((hH _ (by decide)).trans rfl) rfl rfl (Eq.symm rfl) (List.length_map _) e11) ?_
 refine .mk λx13 e13=>?_
 have fx13:=mX e11 e13;have lx13:=l6 e13 (rfl:a1.bA.length=a1.bA.length)
 refine .mk _ ⟨λ_=>eG.iA (iP (ob':=(⟨60,8,true,true,_,x13.map aP.av⟩:cO)) (iL rfl mQ rfl rfl rfl rfl rfl (iM e11 (aP.fB _)) rfl rfl rfl) (jZ (aBK e13 (aP.fB _)))) (λ_ h=>h) (λ_ _=>trivial),by rintro _ _ ⟨rfl,rfl⟩;exact trivial⟩ ?_
 rintro _ _ ⟨rfl,rfl⟩
 refine .mk λp14=>?_
 refine .mk _ ⟨λ_=>nU (g:=fA.av) (m:=a1.dS) 4 rfl Tryz.underlying29 aGD aIV rfl rfl rfl rfl (.refl _) (λ_=>rfl) p14,λ_ _ _=>trivial⟩ ?_
 rintro _ _ ⟨v15,rfl,rfl⟩
 refine .mk ?_ ?_
 refine .mk ?_
 rintro ⟨y1_1,y1_2⟩ _
 refine .mk λx16=>?_
 refine .mk ?_ ?_
 refine .mk ?_ ?_
 refine .mk λx17 e17=>?_
 refine .mk _ (fK (iT rfl Tryz.underlying29 MZ rfl rfl rfl rfl rfl (Eq.symm rfl) (List.length_map _) e17)) ?_
 refine .mk _ (fK (gQ rfl MZ rfl (.pt rfl rfl (iN e17)) rfl)) ?_
 intro v18
 refine .mk ?_ ?_
 refine .mk ?_
 refine .mk λx19=>?_
 refine .mk ?_ ?_
 refine .mk λx20=>?_
 refine .mk ?_ ?_
 refine .mk _ (λH hH _=>iT rfl Tryz.underlying27 mQ rfl rfl ((hH _ (by decide)).trans rfl) rfl rfl (Eq.symm lx13) (List.length_map _) fx13) ?_
 refine .mk _ (λH hH _=>iC rfl aKE rfl (.pt ((hH _ (by decide)).trans rfl) rfl (iM fx13 (aP.fB _))) (.pt _ _ _ _ _)) ?_
 refine .mk _ (λH hH _=>gQ rfl dM rfl (.pt ((hH _ (by decide)).trans rfl) rfl (iM fx13 (aP.fB _))) rfl) ?_
 refine .mk λx21=>?_
 exact .mk
 exact .mk
 exact .mk
 intro _ _
 refine .mk ?_ ?_
 refine .mk ?_
 refine .mk _ (λH hH _=>iT rfl Tryz.underlying29 MZ rfl rfl ((hH _ (by decide)).trans rfl) rfl rfl (Eq.symm rfl) (List.length_map _) e17) ?_
 refine .mk _ (λH hH _=>iC rfl aLO rfl (.pt ((hH _ (by decide)).trans rfl) rfl (iN e17)) (.pt _ _ _ _ _)) ?_
 refine .mk λx22 e22=>?_
 have fx22:=mX e17 e22;have lx22:=l6 e22 (rfl:y1_2.length=y1_2.length)
 refine .mk _ ⟨λ_=>eG.iA (iP (ob':=(⟨92,9,true,true,_,x22.map fA.av⟩:cO)) (iL rfl dM rfl rfl rfl rfl rfl (iN e17) rfl rfl rfl) (jZ (oI e22))) (λ_ h=>h) (λ_ _=>trivial),by rintro _ _ ⟨rfl,rfl⟩;exact ⟨rfl,trivial⟩⟩ ?_
 rintro _ _ ⟨rfl,rfl⟩
 refine .mk _ (λH hH _=>iT rfl Tryz.underlying29 MZ rfl rfl ((hH _ (by decide)).trans rfl) rfl rfl (Eq.symm lx22) (List.length_map _) fx22) ?_
 refine .mk _ (λH hH _=>iC rfl aQI rfl (.pt ((hH _ (by decide)).trans rfl) rfl (iN fx22)) (.pt _ _ _ _ _)) ?_
 refine .mk λx23 e23=>?_
 have fx23:=mX fx22 e23;have lx23:=l6 e23 lx22
 refine .mk _ ⟨λ_=>eG.iA (iP (ob':=(⟨92,9,true,true,_,x23.map fA.av⟩:cO)) (iL rfl dM rfl rfl rfl rfl rfl (iN fx22) rfl rfl rfl) (jZ (oI e23))) (λ_ h=>h) (λ_ _=>trivial),by rintro _ _ ⟨rfl,rfl⟩;exact trivial⟩ ?_
 rintro _ _ ⟨rfl,rfl⟩
 exact .mk ⟨⟨⟨_,rfl,(.refl _)⟩,⟨_,rfl,(.refl _)⟩,⟨_,rfl,(.refl _)⟩,⟨_,rfl,(.refl _)⟩,⟨_,rfl,(.refl _)⟩,trivial⟩,⟨⟨_,rfl,⟨rfl,(.cons (.cons (.refl _) (.cons (.refl _) (.cons (.refl _) (.cons (.refl _) (.cons (.refl _) (.cons (.refl _) (.cons (.refl _) (.cons (rA (Eq.symm lx23)) (.cons (.refl _) (.cons (.refl _) .nil)))))))))) .nil)⟩⟩,⟨_,rfl,(.refl _)⟩,⟨_,rfl,(.refl _)⟩,⟨_,rfl,(.refl _)⟩,trivial⟩⟩
 exact .mk
 intro _ _
 refine .mk λx24=>?_
 exact .mk
 exact .mk
 intro _ _
 exact .mk (dG.bD (.cons (dG.agg (.cons (.refl _) (.cons (.refl _) (.cons (.refl _) (.cons (.refl _) (.cons (.refl _) (.cons (gY rfl rfl rfl rfl rfl (Eq.symm lx13)) (.cons (.refl _) (.cons (gY rfl rfl rfl rfl rfl (Eq.symm rfl)) (.cons (.refl _) (.cons (.refl _) .nil))))))))))) (.cons (.refl _) .nil)))
def aBD (n:Nat) (a1:aB) (a2:Int):WT Tryz.prog (.b (aB×Int)) :=
 .al 1<|.al 2<|.jn 1 [1,2,4,5] [1,2] [] (λ_ (a:Bool)=>[(9,aZ a)]) (λ_ _=>[]) (.bB 11 (decide (a2<0)) λx5=>.ifs [11] x5 (.ret true) (.ln 16 aP.av a1.bA<|.bB 17 (decide (a2>=(a1.bA.length:Int))) λx6=>.ret x6)) (λy0_1=>.ifs [9] y0_1 (.ret ((a1:aB),4)) (.jC 24 aP.av gE aP.fB a1.bA a2 λx7=>.bB 27 (!x7.Closed) λx8=>.ifs [27] x8 (.ret ((a1:aB),8)) (.dr [(0,[1]),(1,[1]),(6,[1]),(7,[1]),(8,[1])] [] [1] [] [0,1,2,3,4,5,6,7,8,9,10] (.jC 33 aP.av gE aP.fB a1.bA a2 λx9=>.bB 39 (decide (x9.fQ>=a1.bF.gZ)) λx10=>.ifs [39] x10 (.ret ((a1:aB),11)) (.inl 43 zH Tryz.func60 [1,2] [5,6,7,8,9,10] (λu4 (a:Int×Bool×(List aP)×(List aS)×(List Int)×(List cB)×(List Int)×(List Int))=>.agg [int a1.bF.gG,int a1.bF.gZ,aH 1 fI a1.bF.bW,aH 1 (fL 1 fI) a1.bF.Methods,aH 1 (fL 1 fI) a1.bF.gX,.sl 5 (u4 5) 0 a1.bA.length,aH 8 dX.av a1.bX,aH 9 fA.av a1.dS,aH 6 fP.av a1.dH,int a1.Done]) (λu4 a=>[.nw 5 60 8 ((a1.bA.map aP.av).set (Int.toNat a2) [int a.1,aZ a.2.1,.sl 6 (u4 6) 0 a.2.2.2.1.length,.sl 7 (u4 7) 0 a.2.2.2.2.1.length,.sl 8 (u4 8) 0 a.2.2.2.2.2.1.length,.sl 9 (u4 9) 0 a.2.2.2.2.2.2.1.length,.sl 10 (u4 10) 0 a.2.2.2.2.2.2.2.length,aH 8 aP.av a.2.2.1]),.nw 6 99 4 (a.2.2.2.1.map aS.av),.nw 7 3 1 (a.2.2.2.2.1.map fI),.nw 8 76 11 (a.2.2.2.2.2.1.map cB.av),.nw 9 3 1 (a.2.2.2.2.2.2.1.map fI),.nw 10 3 1 (a.2.2.2.2.2.2.2.map fI)]) (.al 3<|.al 4<|.as (a1.bA.length<=68719476736) inferInstance<|.ge 8 5<|.bo (ix a1.bA a2) λx15=>.gv 13<|.dr [(4,[5]),(5,[5]),(6,[5]),(9,[5]),(10,[5]),(11,[5]),(14,[5]),(15,[5]),(16,[5]),(18,[5]),(19,[5]),(21,[5]),(22,[5]),(24,[5]),(25,[5])] [(17,[]),(20,[]),(23,[]),(26,[])] [5] [7,12,17,20,23,26] [0,1,2,3,4,5,6,8,9,10,11,13,14,15,16,7,12,17,18,19,20,21,22,23,24,25,26] (.gv 18<|.gv 19<|.gv 20<|.gv 23<|.gv 24<|.gv 25<|.gv 28<|.gv 29<|.gv 30<|.as (x15.bR.length<=68719476736) inferInstance<|.ge 21 6<|.as (x15.dI.length<=68719476736) inferInstance<|.ge 26 7<|.as (x15.dJ.length<=68719476736) inferInstance<|.ge 31 8<|.gv 32<|.gv 33<|.ge 1003020 0<|.gv 34<|.gv 35<|.ge 1003023 0<|.gv 36<|.gv 37<|.ge 1003026 0<|.dr [(3,[5]),(4,[5]),(5,[5]),(8,[5]),(9,[5]),(10,[5]),(12,[5]),(13,[5]),(15,[5]),(16,[5])] [(11,[]),(14,[]),(17,[])] [5] [6,11,14,17] [0,1,2,3,4,5,7,8,9,10,6,11,12,13,14,15,16,17] (.gv 41<|.gv 42<|.gv 43<|.gv 46<|.gv 47<|.gv 48<|.as (x15.gJ.length<=68719476736) inferInstance<|.ge 44 9<|.as (x15.Down.length<=68719476736) inferInstance<|.ge 49 10<|.gv 50<|.gv 51<|.ge 1004014 0<|.gv 52<|.gv 53<|.ge 1004017 0<|.ret ((x15.fQ:Int),(x15.Closed:Bool),(x15.fZ:List aP),(x15.bR:List aS),(x15.dI:List Int),(x15.dJ:List cB),(x15.gJ:List Int),(x15.Down:List Int))))) (pw λy1_2 q0=>(pw λy1_3 q1=>(pw λy1_9 q2=>(pw λy1_10 q3=>(pw λy1_11 q4=>(pw λy1_12 q5=>(pw λy1_13 y1_14=>.bo (ix a1.bA a2) λx26=>.al 11<|.gv 47<|.gv 52<|.gv 53<|.gv 54<|.bI 55 (bE (y1_2+1)) λx28=>.gv 56<|.gv 57<|.ge 1009010 0<|.gv 58<|.gv 59<|.ge 1009013 0<|.gv 60<|.gv 61<|.ge 1009016 0<|.jn 1 [4,5,6] [2,6,7,9,10,11] [] (λ_ (a:(List cB))=>[]) (λu6 a=>[.kp 5 ((a1.bA.map aP.av).set (Int.toNat a2) [int x28,aZ false,.sl 6 (u6 6) 0 y1_10.length,.sl 7 (u6 7) 0 y1_11.length,.sl 8 (u6 8) 0 a.length,.sl 9 (u6 9) 0 y1_13.length,.sl 10 (u6 10) 0 y1_14.length,.sc (.slice none 0 0)]),.kp 8 (a.map cB.av)]) (.lp [1,2,4,5,6,7] [1,2,6,7,9,10,11] [] (λ_ (a:Int×(List cB))=>[(8,int a.1)]) (λu7 a=>[.kp 5 ((a1.bA.map aP.av).set (Int.toNat a2) [int x28,aZ false,.sl 6 (u7 6) 0 y1_10.length,.sl 7 (u7 7) 0 y1_11.length,.sl 8 (u7 8) 0 a.2.length,.sl 9 (u7 9) 0 y1_13.length,.sl 10 (u7 10) 0 y1_14.length,.sc (.slice none 0 0)]),.kp 8 (a.2.map cB.av)]) n ((0:Int),y1_12) (pw λy2_1 y2_2=>.gv 64<|.gv 65<|.gv 66<|.bB 68 (decide (y2_1<(y2_2.length:Int))) λx29=>.ifs [68] x29 (.dr [(1,[5]),(2,[5]),(3,[5]),(5,[1]),(11,[8])] [(12,[])] [1,5,8] [12] [0,1,2,3,4,5,6,7,8,9,10,11,12] (.gv 72<|.gv 73<|.gv 74<|.cl 79 (xN n a1 a2 y2_1) IL IV λx30=>.bo (ix y2_2 y2_1) λx31=>.gv 82<|.bl (y2_2.set (Int.toNat y2_1) ((⟨x30.Value,0,0,0,0,0,0,0,0,0,0⟩:cB):cB):List cB) λx32=>.ge 1013012 0<|.bI 70 (bE (y2_1+1)) λx33=>.brk ((x33:Int),x32))) (.esc (.ret y2_2)))) (λy3_1=>.ret (((⟨a1.bF,(a1.bA.set (Int.toNat a2) (⟨x28,false,y1_10,y1_11,y3_1,y1_13,y1_14,[]⟩:aP)),a1.bX,a1.dS,a1.dH,a1.Done⟩:aB):aB),0))) q5) q4) q3) q2) q1) q0))))))
def L6 (n:Nat) (a1:aB) (a2:Int):Option (aB×Int):=(aBD n a1 a2).run
theorem aOZ {n a1 a2 r} (h0:L6 n a1 a2=some r):PP Tryz.prog 27 [.agg (aB.av a1),int a2] (λy=>y=.bD [.agg (aB.av r.1),int r.2]) :=
 bY mixed aA (λr:aB×Int=>.bD [.agg (aB.av r.1),int r.2]) h0 Tryz.func27 (λr=>.bD (gK ((λ(a:aB)=>PV.agg (aB.dR a)) (r.1)) (bQ (r.2)))) 100000 au
def NN (a1:aB) (a2:Int) (a3:Int):WT Tryz.prog (.b (Int)) :=
 .al 1<|.cl 11 (yD a1 a2 a3) G7 FQ λx5=>.bB 12 (!x5) λx6=>.ifs [12] x6 (.ret ((4:Int))) (.jC 17 aP.av gE aP.fB a1.bA a2 λx7=>.wt 13 <|.ifs [13] x7.Closed (.ret ((7:Int))) (.ret ((0:Int))))
def pK (a1:aB) (a2:Int) (a3:Int):Option (Int):=(NN a1 a2 a3).run
theorem vB {a1 a2 a3 r} (h0:pK a1 a2 a3=some r):PP Tryz.prog 43 [.agg (aB.av a1),int a2,int a3] (λy=>y=int r) :=
 bY mixed aA (λr:Int=>int r) h0 Tryz.func43 (λr=>bQ r) 100000 au
def VE (n:Nat) (a1:List aF):WT Tryz.prog (.b (Int×Int)) :=
 .fH 3 [2,3] [] [] (λ_ (a:Int)=>[(4,int a)]) (λ_ _=>[]) (.lp [0,2,3] [] [] (λ_ (a:Int×Int)=>[(4,int a.1),(5,int a.2)]) (λ_ _=>[]) n ((0:Int),0) (pw λy0_1 y0_2=>.ln 10 aF.av a1<|.bB 11 (decide (y0_2<(a1.length:Int))) λx2=>.ifs [11] x2 (.dr [] [] [] [] [0,1,2,3,4,5,6,7,8,9,10,11,12,13,14,15,16,17,18] (.ix 18 aF.av a1 y0_2 λx3=>.ix 23 aF.av a1 y0_2 λx4=>.bI 26 (bE (0-x4.bO)) λx5=>.bl (if x5>x3.bO then x5 else x3.bO:Int) λx6=>.gv 27<|.cl 28 (uE y0_1 x6) yX xR λx7=>.jn 0 [0,2,3,4,5,6] [] [] (λ_ (a:Bool)=>[(40,aZ a)]) (λ_ _=>[]) (.bB 32 (decide (x7.2≠0)) λx8=>.ifs [32] x8 (.ret true) (.ix 36 aF.av a1 y0_2 λx9=>.bB 39 (decide (x9.bO<(-288230376151711744))) λx10=>.ret x10)) (λy1_1=>.ifs [40] y1_1 (.esc (.esc (.ret ((0:Int),2)))) (.bI 13 (bE (y0_2+1)) λx11=>.brk ((x7.1:Int),x11))))) (.esc (.brk y0_1)))) (λy2_1=>.ret ((y2_1:Int),0))
def GH (n:Nat) (a1:List aF):Option (Int×Int):=(VE n a1).run
theorem aCH {n a1 r} (h0:GH n a1=some r):PP Tryz.prog 83 [aH 3 aF.av a1] (λy=>y=.bD [int r.1,int r.2]) :=
 bY mixed aA (λr:Int×Int=>.bD [int r.1,int r.2]) h0 Tryz.func83 (λr=>.bD (gK (bQ (r.1)) (bQ (r.2)))) 100000 au
def Y9 (n:Nat) (a1:List aF):WT Tryz.prog (.b (Bool)) :=
 .fH 2 [0,2] [] [] (λ_ (a:Unit)=>[]) (λ_ _=>[]) (.lp [0,2] [] [] (λ_ (a:Int)=>[(3,int a)]) (λ_ _=>[]) n 0 (λy0_1=>.ln 11 aF.av a1<|.bB 12 (decide (y0_1<(a1.length:Int))) λx2=>.ifs [12] x2 (.ix 17 aF.av a1 y0_1 λx3=>.al 1<|.jn 0 [0,2,3] [] [] (λ_ (a:Bool)=>[(42,aZ a)]) (λ_ _=>[]) (.bB 21 (decide (x3.aT<1)) λx5=>.ifs [21] x5 (.ret true) (.bB 25 (decide (x3.aT>288230376151711744)) λx6=>.ifs [25] x6 (.ret true) (.bB 30 (decide (x3.Value<0)) λx7=>.ifs [30] x7 (.ret true) (.bB 35 (decide (x3.Value>288230376151711744)) λx8=>.ifs [35] x8 (.ret true) (.cl 40 (pI x3.bO) tO sJ λx9=>.bB 41 (!x9) λx10=>.ret x10))))) (λy1_1=>.ifs [42] y1_1 (.esc (.esc (.ret ((false:Bool))))) (.bI 14 (bE (y0_1+1)) λx11=>.brk x11))) (.esc (.brk ())))) (λ_=>.cl 45 (sH n a1) AB zA λx12=>.al 2<|.cl 50 (GH n a1) aA3 aCH λx14=>.jn 0 [] [] [] (λ_ (a:Bool)=>[(2,aZ a)]) (λ_ _=>[]) (.ln 54 aF.av a1<|.bB 55 (decide ((a1.length:Int)<=30)) λx15=>.ifs [55] x15 (.bB 58 (decide (x12.2=0)) λx16=>.ifs [58] x16 (.bB 62 (decide (x14.2=0)) λx17=>.ret x17) (.ret false)) (.ret false)) (λy3_1=>.ret ((y3_1:Bool))))
def zY (n:Nat) (a1:List aF):Option (Bool):=(Y9 n a1).run
theorem KI {n a1 r} (h0:zY n a1=some r):PP Tryz.prog 164 [aH 3 aF.av a1] (λy=>y=aZ r) :=
 bY mixed aA (λr:Bool=>aZ r) h0 Tryz.func164 (λr=>gT r) 100000 au
def QT (n:Nat) (a1:List aF) (a2:aF):WT Tryz.prog (.b ((List aF)×Int)) :=
 .al 1<|.dr [(2,[1])] [(4,[])] [1] [1,4] [0,2,3,1,4,5] (.to 10 (aH 3 aF.av ([a2]:List aF))<|.as (a1.length<=68719476736) inferInstance<|.ge 8 2<|.bl (a1++([a2]:List aF):List aF) λx6=>.as (x6.length<=68719476736) inferInstance<|.ge 11 0<|.jn 1 [0,4,5,6] [2] [] (λ_ (a:Bool)=>[(12,aZ a)]) (λ_ _=>[]) (.bB 15 (decide (a2.aT<1)) λx9=>.ifs [15] x9 (.ret true) (.bB 19 (decide (a2.Value<0)) λx10=>.ret x10)) (λy0_1=>.ifs [12] y0_1 (.ret ((a1:List aF),1)) (.ln 24 aF.av a1<|.bB 25 (decide ((a1.length:Int)>=30)) λx11=>.ifs [25] x11 (.ret ((a1:List aF),6)) (.kZ 29 (zY n x6) IC KI (λ_=>rfl) λx12=>.bB 30 (!x12) λx13=>.ifs [30] x13 (.ret ((a1:List aF),2)) (.ret ((x6:List aF),0))))))
def CX (n:Nat) (a1:List aF) (a2:aF):Option ((List aF)×Int):=(QT n a1 a2).run
theorem aSK {n a1 a2 r} (h0:CX n a1 a2=some r):PP Tryz.prog 127 [aH 3 aF.av a1,.agg (aF.av a2)] (λy=>y=.bD [aH 3 aF.av r.1,int r.2]) :=
 bY mixed aA (λr:(List aF)×Int=>.bD [aH 3 aF.av r.1,int r.2]) h0 Tryz.func127 (λr=>.bD (gK ((jD aF.dR) (r.1)) (bQ (r.2)))) 100000 au
def OG (n:Nat) (a1:List aF) (a2:aF):WT Tryz.prog (.b ((List aF)×Int)) :=
 .al 1<|.jn 0 [0,3,4,5] [1] [] (λ_ (a:Bool)=>[(16,aZ a)]) (λ_ _=>[]) (.bB 11 (decide (a2.aT<1)) λx4=>.ifs [11] x4 (.ret true) (.bB 15 (decide (a2.Value<0)) λx5=>.ret x5)) (λy0_1=>.ifs [16] y0_1 (.ret ((a1:List aF),1)) (.dr [(2,[1])] [(4,[])] [1] [1,4] [0,2,3,1,4,5] (.to 21 (aH 3 aF.av ([a2]:List aF))<|.as (a1.length<=68719476736) inferInstance<|.ge 19 2<|.bl (a1++([a2]:List aF):List aF) λx8=>.as (x8.length<=68719476736) inferInstance<|.ge 22 0<|.kZ 24 (zY n x8) IC KI (λ_=>rfl) λx11=>.bB 25 (!x11) λx12=>.ifs [25] x12 (.ret ((a1:List aF),2)) (.kZ 29 (sH n x8) AB zA (λ_=>rfl) λx13=>.al 3<|.to 33 (aH 3 aF.av ([x13.1]:List aF))<|.ret ((([x13.1]:List aF):List aF),0)))))
def xA (n:Nat) (a1:List aF) (a2:aF):Option ((List aF)×Int):=(OG n a1 a2).run
theorem RS {n a1 a2 r} (h0:xA n a1 a2=some r):PP Tryz.prog 128 [aH 3 aF.av a1,.agg (aF.av a2)] (λy=>y=.bD [aH 3 aF.av r.1,int r.2]) :=
 bY mixed aA (λr:(List aF)×Int=>.bD [aH 3 aF.av r.1,int r.2]) h0 Tryz.func128 (λr=>.bD (gK ((jD aF.dR) (r.1)) (bQ (r.2)))) 100000 au
def SQ (n:Nat) (a1:aS) (a2:aF):WT Tryz.prog (.b (aS×Int)) :=
 .al 1<|.al 2<|.al 3<|.cl 12 (xA n a1.aI a2) O6 RS λx6=>.bB 16 (decide (x6.2≠0)) λx7=>.ifs [16] x7 (.ret ((a1:aS),x6.2)) (.ret (((⟨x6.1,a1.bC⟩:aS):aS),0))
def CK (n:Nat) (a1:aS) (a2:aF):Option (aS×Int):=(SQ n a1 a2).run
theorem aRZ {n a1 a2 r} (h0:CK n a1 a2=some r):PP Tryz.prog 129 [.agg (aS.av a1),.agg (aF.av a2)] (λy=>y=.bD [.agg (aS.av r.1),int r.2]) :=
 bY mixed aA (λr:aS×Int=>.bD [.agg (aS.av r.1),int r.2]) h0 Tryz.func129 (λr=>.bD (gK ((λ(a:aS)=>PV.agg (aS.dR a)) (r.1)) (bQ (r.2)))) 100000 au
def aDA (n:Nat) (a1:Int) (a2:Int):WT Tryz.prog (.b (Int×Bool)) :=
 .cl 12 (qZ n a1 a2 1) xY xX λx3=>.bB 18 (decide (x3.2.2=0)) λx4=>.ret ((x3.1:Int),x4)
def DT (n:Nat) (a1:Int) (a2:Int):Option (Int×Bool):=(aDA n a1 a2).run
theorem OV {n a1 a2 r} (h0:DT n a1 a2=some r):PP Tryz.prog 166 [int a1,int a2] (λy=>y=.bD [int r.1,aZ r.2]) :=
 bY mixed aA (λr:Int×Bool=>.bD [int r.1,aZ r.2]) h0 Tryz.func166 (λr=>.bD (gK (bQ (r.1)) (gT (r.2)))) 100000 au
def P8 (n:Nat) (a1:List aF) (a2:aF) (a3:Int):WT Tryz.prog (.b ((List aF)×Int×Int)) :=
 .al 1<|.jn 0 [0,2,4,6,7,8] [1] [] (λ_ (a:Bool)=>[(28,aZ a)]) (λ_ _=>[]) (.bB 14 (decide (a3<0)) λx5=>.ifs [14] x5 (.ret true) (.bB 17 (decide (a3>1073741824)) λx6=>.ifs [17] x6 (.ret true) (.bB 22 (decide (a2.aT<1)) λx7=>.ifs [22] x7 (.ret true) (.bB 27 (decide (a2.Value<0)) λx8=>.ret x8)))) (λy0_1=>.ifs [28] y0_1 (.ret ((a1:List aF),0,1)) (.cl 34 (DT n a2.aT a3) QC OV λx9=>.jn 0 [0,4,6,7,8,9] [1] [] (λ_ (a:Bool)=>[(43,aZ a)]) (λ_ _=>[]) (.bB 38 (!x9.2) λx10=>.ifs [38] x10 (.ret true) (.bB 42 (decide (a2.Value>288230376151711744)) λx11=>.ret x11)) (λy1_1=>.ifs [43] y1_1 (.ret ((a1:List aF),0,2)) (.cl 53 (xA n a1 (⟨a2.aT,x9.1,a2.bO⟩:aF)) O6 RS λx12=>.bB 57 (decide (x12.2≠0)) λx13=>.ifs [57] x13 (.ret ((a1:List aF),0,x12.2)) (.dr [(1,[1]),(2,[1])] [] [1] [] [0,1,2,3,4,5,6,7] (.bI 64 (bE (a2.Value-x9.1)) λx14=>.ret ((x12.1:List aF),x14,0)))))))
def AP (n:Nat) (a1:List aF) (a2:aF) (a3:Int):Option ((List aF)×Int×Int):=(P8 n a1 a2 a3).run
theorem aNH {n a1 a2 a3 r} (h0:AP n a1 a2 a3=some r):PP Tryz.prog 130 [aH 3 aF.av a1,.agg (aF.av a2),int a3] (λy=>y=.bD [aH 3 aF.av r.1,int r.2.1,int r.2.2]) :=
 bY mixed aA (λr:(List aF)×Int×Int=>.bD [aH 3 aF.av r.1,int r.2.1,int r.2.2]) h0 Tryz.func130 (λr=>.bD (qN ((jD aF.dR) (r.1)) (bQ (r.2.1)) (bQ (r.2.2)))) 100000 au
def SF (n:Nat) (a1:Int) (a2:Int) (a3:aS) (a4:aF):WT Tryz.prog (.b (aS×Int×Int)) :=
 .al 1<|.al 2<|.al 3<|.al 4<|.jn 2 [6,8,9,10,11] [1,3] [] (λ_ (a:Int×Int×aS)=>[(12,int a.1),(13,int a.2.1)]) (λ_ a=>[.kp 4 [[aH 3 aF.av a.2.2.aI,int a.2.2.bC.a0,int a.2.2.bC.a1,int a.2.2.bC.a2]]]) (.bB 17 (decide (a1=1)) λx9=>.ifs [17] x9 (.cl 22 (CX n a3.aI a4) aLI aSK λx10=>.ret ((0:Int),x10.2,((⟨x10.1,a3.bC⟩:aS):aS))) (.bB 27 (decide (a1=2)) λx11=>.ifs [27] x11 (.cl 32 (xA n a3.aI a4) O6 RS λx12=>.ret ((0:Int),x12.2,((⟨x12.1,a3.bC⟩:aS):aS))) (.bB 37 (decide (a1=3)) λx13=>.ifs [37] x13 (.cl 41 (CK n a3 a4) aFM aRZ λx14=>.ret ((0:Int),x14.2,x14.1)) (.bB 45 (decide (a1=4)) λx15=>.ifs [45] x15 (.cl 51 (AP n a3.aI a4 a2) aNX aNH λx16=>.ret ((x16.2.1:Int),x16.2.2,((⟨x16.1,a3.bC⟩:aS):aS))) (.ret ((0:Int),12,a3)))))) (pw λy0_1 q0=>(pw λy0_2 y0_3=>.bB 57 (decide (y0_2≠0)) λx17=>.ifs [57] x17 (.ret ((a3:aS),0,y0_2)) (.ret ((y0_3:aS),y0_1,0))) q0)
def C9 (n:Nat) (a1:Int) (a2:Int) (a3:aS) (a4:aF):Option (aS×Int×Int):=(SF n a1 a2 a3 a4).run
theorem aPK {n a1 a2 a3 a4 r} (h0:C9 n a1 a2 a3 a4=some r):PP Tryz.prog 79 [int a1,int a2,.agg (aS.av a3),.agg (aF.av a4)] (λy=>y=.bD [.agg (aS.av r.1),int r.2.1,int r.2.2]) :=
 bY mixed aA (λr:aS×Int×Int=>.bD [.agg (aS.av r.1),int r.2.1,int r.2.2]) h0 Tryz.func79 (λr=>.bD (qN ((λ(a:aS)=>PV.agg (aS.dR a)) (r.1)) (bQ (r.2.1)) (bQ (r.2.2)))) 100000 au
end
end Go.Pv
