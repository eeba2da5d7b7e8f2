import Derived.Test.YtkgnickfdedbmabGreatXCc
set_option linter.unusedVariables false
set_option linter.unusedSimpArgs false
namespace Go.Pv
open Go.Proofs
set_option maxRecDepth 100000
set_option maxHeartbeats 4000000
noncomputable section
def XF (a1:Int) (a2:Int) (a3:Int):WB (Int) :=
 .jn 1 [0,1,2,6] [] [] (λ_ (a:Bool)=>[(18,aF a)]) (λ_ _=>[]) (.bB 10 (decide (a1<0)) λx4=>.ifs [10] x4 (.ret true) (.bB 13 (decide (a2<0)) λx5=>.ifs [13] x5 (.ret true) (.bB 17 (decide (a3<0)) λx6=>.ret x6))) (λy0_1=>.ifs [18] y0_1 (.ret ((0:Int))) (.cl 22 (I6 a2 a3) SI M4 λx7=>.jn 0 [0,6,8] [] [] (λ_ (a:Bool)=>[(32,aF a)]) (λ_ _=>[]) (.bB 26 (decide (x7.1>0)) λx8=>.ifs [26] x8 (.ret true) (.bI 30 (wu64 a1) λx9=>.bB 31 (decide (x7.2>=x9)) λx10=>.ret x10)) (λy1_1=>.ifs [32] y1_1 (.ret ((0:Int))) (.bI 35 (aI x7.2) λx11=>.bI 36 (aI (a1-x11)) λx12=>.ret ((x12:Int))))))
def TT (a1:Int) (a2:Int) (a3:Int):Option (Int):=(XF a1 a2 a3).run
theorem aM4 {a1 a2 a3}:PZ (TT a1 a2 a3) 78 [int a1,int a2,int a3] int:=wq Tryz.func78
def aNZ (n:Nat) (a1:aA) (a2:Int):WB (aA×Int) :=
 .al 1<|.al 2<|.jn 0 [1,2,4,5] [1,2] [] (λ_ (a:Bool)=>[(22,aF a)]) (λ_ _=>[]) (.bB 15 (decide (a2<0)) λx5=>.ifs [15] x5 (.ret true) (.ln 20 aP.av a1.aW<|.bB 21 (decide (a2>=(a1.aW.length:Int))) λx6=>.ret x6)) (λy0_1=>.ifs [22] y0_1 (.ret ((a1:aA),4)) (.inl 26 tO Tryz.func40 [1,2] [5,6,7,8,9,10] (λu3 (a:Int×Bool×(List aP)×(List aM)×(List Int)×(List bM)×(List Int)×(List Int))=>.agg [int a1.bA.eH,int a1.bA.fA,aD 1 fI a1.bA.cB,aD 1 (fL 1 fI) a1.bA.Methods,aD 1 (fL 1 fI) a1.bA.dN,.sl 5 (u3 5) 0 a1.aW.length,aD 8 bH.av a1.bP,aD 9 bS.av a1.bU,aD 6 dB.av a1.bY,int a1.Done]) (λu3 a=>[.nw 5 42 8 ((a1.aW.map aP.av).set (Int.toNat a2) [int a.1,aF a.2.1,.sl 6 (u3 6) 0 a.2.2.2.1.length,.sl 7 (u3 7) 0 a.2.2.2.2.1.length,.sl 8 (u3 8) 0 a.2.2.2.2.2.1.length,.sl 9 (u3 9) 0 a.2.2.2.2.2.2.1.length,.sl 10 (u3 10) 0 a.2.2.2.2.2.2.2.length,aD 8 aP.av a.2.2.1]),.nw 6 126 4 (a.2.2.2.1.map aM.av),.nw 7 3 1 (a.2.2.2.2.1.map fI),.nw 8 87 11 (a.2.2.2.2.2.1.map bM.av),.nw 9 3 1 (a.2.2.2.2.2.2.1.map fI),.nw 10 3 1 (a.2.2.2.2.2.2.2.map fI)]) (.al 3<|.al 4<|.as (a1.aW.length<=68719476736) inferInstance<|.ge 8 5<|.bo (ix a1.aW a2) λx11=>.gv 13<|.dr [(4,[5]),(5,[5]),(6,[5]),(9,[5]),(10,[5]),(11,[5]),(14,[5]),(15,[5]),(16,[5]),(18,[5]),(19,[5]),(21,[5]),(22,[5]),(24,[5]),(25,[5])] [(17,[]),(20,[]),(23,[]),(26,[])] [5] [7,12,17,20,23,26] [0,1,2,3,4,5,6,8,9,10,11,13,14,15,16,7,12,17,18,19,20,21,22,23,24,25,26] (.gv 18<|.gv 19<|.gv 20<|.gv 23<|.gv 24<|.gv 25<|.gv 28<|.gv 29<|.gv 30<|.as (x11.dD.length<=68719476736) inferInstance<|.ge 21 6<|.as (x11.dU.length<=68719476736) inferInstance<|.ge 26 7<|.as (x11.dI.length<=68719476736) inferInstance<|.ge 31 8<|.gv 32<|.gv 33<|.ge 1003020 0<|.gv 34<|.gv 35<|.ge 1003023 0<|.gv 36<|.gv 37<|.ge 1003026 0<|.dr [(3,[5]),(4,[5]),(5,[5]),(8,[5]),(9,[5]),(10,[5]),(12,[5]),(13,[5]),(15,[5]),(16,[5])] [(11,[]),(14,[]),(17,[])] [5] [6,11,14,17] [0,1,2,3,4,5,7,8,9,10,6,11,12,13,14,15,16,17] (.gv 41<|.gv 42<|.gv 43<|.gv 46<|.gv 47<|.gv 48<|.as (x11.dO.length<=68719476736) inferInstance<|.ge 44 9<|.as (x11.Down.length<=68719476736) inferInstance<|.ge 49 10<|.gv 50<|.gv 51<|.ge 1004014 0<|.gv 52<|.gv 53<|.ge 1004017 0<|.ret ((x11.dS:Int),(x11.Closed:Bool),(x11.eT:List aP),(x11.dD:List aM),(x11.dU:List Int),(x11.dI:List bM),(x11.dO:List Int),(x11.Down:List Int))))) (pw λy1_2 q0=>(pw λy1_3 q1=>(pw λy1_9 q2=>(pw λy1_10 q3=>(pw λy1_11 q4=>(pw λy1_12 q5=>(pw λy1_13 y1_14=>.bo (ix a1.aW a2) λx22=>.al 11<|.jn 2 [1,2,4,5,6] [1,2,6,7,8,9,11] [14] (λu9 (a:(List aH)×(List Int))=>[(7,.sl 14 (u9 14) 0 a.1.length)]) (λu9 a=>[.kp 5 ((a1.aW.map aP.av).set (Int.toNat a2) [int y1_2,aF y1_3,.sl 6 (u9 6) 0 y1_10.length,.sl 7 (u9 7) 0 y1_11.length,.sl 8 (u9 8) 0 y1_12.length,.sl 9 (u9 9) 0 y1_13.length,.sl 10 (u9 10) 0 a.2.length,aD 8 aP.av y1_9]),.kp 10 (a.2.map fI),.nw 14 93 2 (a.1.map aH.av)]) (.no 7 14 93 2<|.lp [1,2,4,5,6] [1,2,6,7,8,9,11] [14] (λu13 (a:Int×(List aH)×(List Int))=>[(7,.sl 14 (u13 14) 0 a.2.1.length),(8,int a.1)]) (λu13 a=>[.kp 5 ((a1.aW.map aP.av).set (Int.toNat a2) [int y1_2,aF y1_3,.sl 6 (u13 6) 0 y1_10.length,.sl 7 (u13 7) 0 y1_11.length,.sl 8 (u13 8) 0 y1_12.length,.sl 9 (u13 9) 0 y1_13.length,.sl 10 (u13 10) 0 a.2.2.length,aD 8 aP.av y1_9]),.kp 10 (a.2.2.map fI),.nw 14 93 2 (a.2.1.map aH.av)]) n ((0:Int),(([]:List aH):List aH),y1_14) (pw λy2_2 q0=>(pw λy2_3 y2_4=>.gv 31<|.gv 32<|.gv 33<|.bB 35 (decide (y2_2<(y1_13.length:Int))) λx25=>.ifs [35] x25 (.jn 1 [1,2,4,5,6,8] [1,2,6,7,8,9,11] [14] (λu14 (a:(List aH)×(List Int))=>[(7,.sl 14 (u14 14) 0 a.1.length)]) (λu14 a=>[.kp 5 ((a1.aW.map aP.av).set (Int.toNat a2) [int y1_2,aF y1_3,.sl 6 (u14 6) 0 y1_10.length,.sl 7 (u14 7) 0 y1_11.length,.sl 8 (u14 8) 0 y1_12.length,.sl 9 (u14 9) 0 y1_13.length,.sl 10 (u14 10) 0 a.2.length,aD 8 aP.av y1_9]),.kp 10 (a.2.map fI),.nw 14 93 2 (a.1.map aH.av)]) (.gv 41<|.gv 42<|.gv 43<|.bo (ix y1_13 y2_2) λx26=>.gv 45<|.gv 46<|.bB 48 (decide (x26>=0)) λx27=>.ifs [48] x27 (.cl 52 (G8 n a1 a2 y2_2) KC QJ λx28=>.al 12<|.cl 58 (TT x28.Value x28.aQ x26) aLZ aM4 λx30=>.gv 63<|.gv 64<|.gv 65<|.bo (ix y2_4 y2_2) λx31=>.gv 67<|.gv 68<|.bI 69 (aI (x30-x31)) λx32=>.bI 74 (aI (0-x32)) λx33=>.to 76 (aD 2 aH.av ([(⟨10,x32⟩:aH),(⟨11,x33⟩:aH)]:List aH))<|.bl (y2_3++([(⟨10,x32⟩:aH),(⟨11,x33⟩:aH)]:List aH):List aH) λx34=>.as (x34.length<=68719476736) inferInstance<|.ge 77 0<|.gv 81<|.gv 82<|.gv 83<|.gv 86<|.bl (y2_4.set (Int.toNat y2_2) x30:List Int) λx37=>.ge 1014009 0<|.ret ((x34:List aH),x37)) (.ret ((y2_3:List aH),y2_4))) (pw λy3_2 y3_3=>.bI 37 (aI (y2_2+1)) λx38=>.brk ((x38:Int),y3_2,y3_3))) (.esc (.ret ((y2_3:List aH),y2_4)))) q0)) (pw λy4_2 y4_3=>.fO 5<|.fO 6<|.fO 7<|.fO 8<|.fO 9<|.fO 10<|.fO 14<|.cl 91 (kN n (⟨a1.bA,(a1.aW.set (Int.toNat a2) (⟨y1_2,y1_3,y1_10,y1_11,y1_12,y1_13,y4_3,y1_9⟩:aP)),a1.bP,a1.bU,a1.bY,a1.Done⟩:aA) a2 y4_2) kX lI λx39=>.bB 95 (decide (x39.2≠0)) λx40=>.ifs [95] x40 (.ret ((a1:aA),x39.2)) (.ret ((x39.1:aA),0)))) q5) q4) q3) q2) q1) q0)))
def KR (n:Nat) (a1:aA) (a2:Int):Option (aA×Int):=(aNZ n a1 a2).run
theorem aKK {n a1 a2}:PZ (KR n a1 a2) 39 [.agg (aA.av a1),int a2] (λr=>.aU [.agg (aA.av r.1),int r.2]):=wq Tryz.func39
def WX (n:Nat) (a1:aA) (a2:Int):WB (aA×Int) :=
 .al 1<|.al 2<|.jn 1 [1,2,4,5] [1,2] [] (λ_ (a:Bool)=>[(12,aF a)]) (λ_ _=>[]) (.bB 14 (decide (a2<0)) λx5=>.ifs [14] x5 (.ret true) (.ln 19 aP.av a1.aW<|.bB 20 (decide (a2>=(a1.aW.length:Int))) λx6=>.ret x6)) (λy0_1=>.ifs [12] y0_1 (.ret ((a1:aA),4)) (.gI 27 aP.av gE aP.bW a1.aW a2 λx7=>.wt 23 <|.ifs [23] x7.Closed (.ret ((a1:aA),7)) (.al 3<|.dF 1 [1,2,4,5,6] [1,2] [] (λ_ (a:aA)=>[]) (λ_ a=>[.kp 3 [(aA.av a)]]) (.lp [1,2,4,5,6] [1,2] [] (λ_ (a:Int×aA)=>[(7,int a.1)]) (λ_ a=>[.kp 3 [(aA.av a.2)]]) n ((0:Int),a1) (pw λy1_1 y1_2=>.ln 36 fI a1.bA.cB<|.bB 37 (decide (y1_1<(a1.bA.cB.length:Int))) λx9=>.ifs [37] x9 (.dF 1 [1,2,4,5,6,7] [1,2] [] (λ_ (a:aA)=>[]) (λ_ a=>[.kp 3 [(aA.av a)]]) (.dF 2 [1,2,4,5,6,7] [1,2] [] (λ_ (a:aA)=>[]) (λ_ a=>[.kp 3 [(aA.av a)]]) (.lp [1,2,4,5,6,7] [1,2] [] (λ_ (a:Int×aA)=>[(8,int a.1)]) (λ_ a=>[.kp 3 [(aA.av a.2)]]) n ((0:Int),y1_2) (pw λy2_1 y2_2=>.jn 0 [1,2,4,5,6,7,8] [1,2,3] [] (λ_ (a:Bool)=>[(53,aF a)]) (λ_ _=>[]) (.bB 41 (decide (y2_1<2)) λx10=>.ifs [41] x10 (.ix 47 (fL 1 fI) a1.bA.Methods a2 λx11=>.ix 50 fI x11 y1_1 λx12=>.bB 52 (decide (x12=3)) λx13=>.ret x13) (.ret false)) (λy3_1=>.ifs [53] y3_1 (.cl 61 (JZ n y2_2 a2 y1_1 y2_1) aBI aLE λx14=>.al 4<|.bB 65 (decide (x14.2≠0)) λx16=>.ifs [65] x16 (.esc (.esc (.esc (.esc (.esc (.ret ((a1:aA),x14.2))))))) (.bI 55 (aI (y2_1+1)) λx17=>.brk ((x17:Int),x14.1))) (.esc (.brk y2_2))))) (λy4_1=>.brk y4_1)) (λy5_1=>.bI 39 (aI (y1_1+1)) λx18=>.brk ((x18:Int),y5_1))) (.esc (.brk y1_2)))) (λy6_1=>.cl 72 (KR n y6_1 a2) aED aKK λx19=>.bB 76 (decide (x19.2≠0)) λx20=>.ifs [76] x20 (.ret ((a1:aA),x19.2)) (.inl 81 tO Tryz.func40 [1,2,3] [7,8,9,10,11,12] (λu75 (a:Int×Bool×(List aP)×(List aM)×(List Int)×(List bM)×(List Int)×(List Int))=>.agg [int x19.1.bA.eH,int x19.1.bA.fA,aD 1 fI x19.1.bA.cB,aD 1 (fL 1 fI) x19.1.bA.Methods,aD 1 (fL 1 fI) x19.1.bA.dN,.sl 7 (u75 7) 0 x19.1.aW.length,aD 8 bH.av x19.1.bP,aD 9 bS.av x19.1.bU,aD 6 dB.av x19.1.bY,int x19.1.Done]) (λu75 a=>[.nw 7 42 8 ((x19.1.aW.map aP.av).set (Int.toNat a2) [int a.1,aF a.2.1,.sl 8 (u75 8) 0 a.2.2.2.1.length,.sl 9 (u75 9) 0 a.2.2.2.2.1.length,.sl 10 (u75 10) 0 a.2.2.2.2.2.1.length,.sl 11 (u75 11) 0 a.2.2.2.2.2.2.1.length,.sl 12 (u75 12) 0 a.2.2.2.2.2.2.2.length,aD 8 aP.av a.2.2.1]),.nw 8 126 4 (a.2.2.2.1.map aM.av),.nw 9 3 1 (a.2.2.2.2.1.map fI),.nw 10 87 11 (a.2.2.2.2.2.1.map bM.av),.nw 11 3 1 (a.2.2.2.2.2.2.1.map fI),.nw 12 3 1 (a.2.2.2.2.2.2.2.map fI)]) (.al 5<|.al 6<|.as (x19.1.aW.length<=68719476736) inferInstance<|.ge 8 7<|.bo (ix x19.1.aW a2) λx25=>.gv 13<|.dr [(4,[7]),(5,[7]),(6,[7]),(9,[7]),(10,[7]),(11,[7]),(14,[7]),(15,[7]),(16,[7]),(18,[7]),(19,[7]),(21,[7]),(22,[7]),(24,[7]),(25,[7])] [(17,[]),(20,[]),(23,[]),(26,[])] [7] [7,12,17,20,23,26] [0,1,2,3,4,5,6,8,9,10,11,13,14,15,16,7,12,17,18,19,20,21,22,23,24,25,26] (.gv 18<|.gv 19<|.gv 20<|.gv 23<|.gv 24<|.gv 25<|.gv 28<|.gv 29<|.gv 30<|.as (x25.dD.length<=68719476736) inferInstance<|.ge 21 8<|.as (x25.dU.length<=68719476736) inferInstance<|.ge 26 9<|.as (x25.dI.length<=68719476736) inferInstance<|.ge 31 10<|.gv 32<|.gv 33<|.ge 1003020 0<|.gv 34<|.gv 35<|.ge 1003023 0<|.gv 36<|.gv 37<|.ge 1003026 0<|.dr [(3,[7]),(4,[7]),(5,[7]),(8,[7]),(9,[7]),(10,[7]),(12,[7]),(13,[7]),(15,[7]),(16,[7])] [(11,[]),(14,[]),(17,[])] [7] [6,11,14,17] [0,1,2,3,4,5,7,8,9,10,6,11,12,13,14,15,16,17] (.gv 41<|.gv 42<|.gv 43<|.gv 46<|.gv 47<|.gv 48<|.as (x25.dO.length<=68719476736) inferInstance<|.ge 44 11<|.as (x25.Down.length<=68719476736) inferInstance<|.ge 49 12<|.gv 50<|.gv 51<|.ge 1004014 0<|.gv 52<|.gv 53<|.ge 1004017 0<|.ret ((x25.dS:Int),(x25.Closed:Bool),(x25.eT:List aP),(x25.dD:List aM),(x25.dU:List Int),(x25.dI:List bM),(x25.dO:List Int),(x25.Down:List Int))))) (pw λy7_2 q0=>(pw λy7_3 q1=>(pw λy7_9 q2=>(pw λy7_10 q3=>(pw λy7_11 q4=>(pw λy7_12 q5=>(pw λy7_13 y7_14=>.bo (ix x19.1.aW a2) λx36=>.dr [(0,[3]),(1,[3]),(3,[3]),(4,[3]),(6,[1]),(7,[1]),(12,[7]),(13,[7]),(15,[7]),(16,[7])] [(14,[3]),(17,[])] [1,3,7] [14,17] [0,1,2,3,4,5,6,7,8,9,10,11,12,13,14,15,16,17] (.gI 91 aP.av gE aP.bW a1.aW a2 λx37=>.to 93 (aD 8 aP.av ([x37]:List aP))<|.gv 94<|.gv 95<|.ge 1020014 0<|.gv 96<|.gv 97<|.ge 1020017 0<|.ret (((⟨x19.1.bA,(x19.1.aW.set (Int.toNat a2) (⟨y7_2,true,y7_10,y7_11,y7_12,y7_13,y7_14,([x37]:List aP)⟩:aP)),x19.1.bP,x19.1.bU,x19.1.bY,x19.1.Done⟩:aA):aA),0))) q5) q4) q3) q2) q1) q0))))))
def UJ (n:Nat) (a1:aA) (a2:Int):Option (aA×Int):=(WX n a1 a2).run
theorem aGG {n a1 a2}:PZ (UJ n a1 a2) 18 [.agg (aA.av a1),int a2] (λr=>.aU [.agg (aA.av r.1),int r.2]):=by
 refine wm Tryz.func18 ?_
 intro v3
 intro v4
 refine .mk ?_ ?_
 refine .mk λx5=>?_
 refine .mk .mk ?_
 refine .mk ?_
 refine .mk λx6=>?_
 exact .mk
 intro _ _
 refine .mk .mk ?_
 refine .mk λx7 e7=>?_
 refine .mk .mk ?_
 intro v8
 refine .mk ?_ ?_
 refine .mk ?_
 intro _ _
 refine .mk ?_
 refine .mk λx9=>?_
 refine .mk ?_ ?_
 refine .mk ?_ ?_
 refine .mk ?_ ?_
 refine .mk ?_
 intro _ _
 refine .mk ?_ ?_
 refine .mk λx10=>?_
 refine .mk ?_ ?_
 refine .mk λx11 e11=>?_
 refine .mk λx12 e12=>?_
 refine .mk λx13=>?_
 exact .mk
 exact .mk
 intro _ _
 refine .mk ?_ ?_
 refine .mk λx14 e14=>?_
 intro v15
 refine .mk λx16=>?_
 refine .mk .mk ?_
 refine .mk λx17=>?_
 exact .mk
 exact .mk
 intro _ _
 exact .mk
 intro _ _
 refine .mk λx18=>?_
 exact .mk
 exact .mk
 intro _ _
 refine .mk λx19 e19=>?_
 refine .mk λx20=>?_
 refine .mk .mk ?_
 refine .mk ?_ ?_
 intro v21
 intro v22
 refine .mk λp23=>?_
 refine .mk _ ⟨λ_=>nW (g:=aP.av) (m:=x19.1.aW) 7 rfl Tryz.underlying26 qW yE rfl rfl rfl rfl (.refl _) aP.one p23,λ_ _ _=>trivial⟩ ?_
 rintro _ _ ⟨v24,rfl,rfl⟩
 refine .mk λx25 e25=>?_
 refine .mk _ (bE (eB rfl Tryz.underlying26 jE rfl rfl rfl rfl rfl (Eq.symm rfl) (List.length_map _) e25)) ?_
 refine .mk ?_
 refine .mk _ (λH hH _=>iH rfl rfl (.pt ((hH _ (by decide)).trans rfl) rfl (dR e25 (aP.bW _)))) ?_
 refine .mk _ (λH hH _=>dK rfl l6 rfl (.pt ((hH _ (by decide)).trans rfl) rfl (dR e25 (aP.bW _))) (.pt _ _ _ _ _)) ?_
 refine .mk _ (λH hH _=>dV rfl mH rfl (.pt ((hH _ (by decide)).trans rfl) rfl (dR e25 (aP.bW _))) rfl) ?_
 refine .mk _ (λH hH _=>iH rfl rfl (.pt ((hH _ (by decide)).trans rfl) rfl (dR e25 (aP.bW _)))) ?_
 refine .mk _ (λH hH _=>dK rfl ER rfl (.pt ((hH _ (by decide)).trans rfl) rfl (dR e25 (aP.bW _))) (.pt _ _ _ _ _)) ?_
 refine .mk _ (λH hH _=>dV rfl kC rfl (.pt ((hH _ (by decide)).trans rfl) rfl (dR e25 (aP.bW _))) rfl) ?_
 refine .mk _ (λH hH _=>iH rfl rfl (.pt ((hH _ (by decide)).trans rfl) rfl (dR e25 (aP.bW _)))) ?_
 refine .mk _ (λH hH _=>dK rfl yH rfl (.pt ((hH _ (by decide)).trans rfl) rfl (dR e25 (aP.bW _))) (.pt _ _ _ _ _)) ?_
 refine .mk _ (λH hH _=>dV rfl wW rfl (.pt ((hH _ (by decide)).trans rfl) rfl (dR e25 (aP.bW _))) rfl) ?_
 refine .mk λp26=>?_
 refine .mk _ ⟨λ_=>nW (g:=aM.av) (m:=x25.dD) 8 rfl Tryz.underlying39 EQ DV rfl rfl rfl rfl (.refl _) (λ_=>rfl) p26,by rintro _ _ ⟨v27,rfl,rfl⟩;exact ⟨rfl,trivial⟩⟩ ?_
 rintro _ _ ⟨v27,rfl,rfl⟩
 refine .mk λp28=>?_
 refine .mk _ ⟨λ_=>nW (g:=fI) (m:=x25.dU) 9 rfl Tryz.underlying22 fT kY rfl rfl rfl rfl (.refl _) (λ_=>rfl) p28,by rintro _ _ ⟨v29,rfl,rfl⟩;exact ⟨rfl,trivial⟩⟩ ?_
 rintro _ _ ⟨v29,rfl,rfl⟩
 refine .mk λp30=>?_
 refine .mk _ ⟨λ_=>nW (g:=bM.av) (m:=x25.dI) 10 rfl Tryz.underlying40 EB ES rfl rfl rfl rfl (.refl _) (λ_=>rfl) p30,by rintro _ _ ⟨v31,rfl,rfl⟩;exact trivial⟩ ?_
 rintro _ _ ⟨v31,rfl,rfl⟩
 refine .mk _ (λH hH _=>iH rfl rfl (.pt ((hH _ (by decide)).trans rfl) rfl (dR e25 (aP.bW _)))) ?_
 refine .mk _ (λH hH _=>dK rfl l6 rfl (.pt ((hH _ (by decide)).trans rfl) rfl (dR e25 (aP.bW _))) (.pt _ _ _ _ _)) ?_
 refine .mk _ ⟨λ_=>bQ.dM (eO (ob':=(⟨42,8,true,true,_,(x19.1.aW.map aP.av).set (Int.toNat a2) [int x25.dS,aF x25.Closed,.sl 8 v27 0 x25.dD.length,aD 1 fI x25.dU,aD 11 bM.av x25.dI,aD 1 fI x25.dO,aD 1 fI x25.Down,aD 8 aP.av x25.eT]⟩:bC)) (dZ rfl mH rfl rfl rfl rfl rfl (dR e25 (aP.bW _)) rfl rfl rfl) (eU rfl)) (λ_ h=>h) (λ_ _=>trivial),by rintro _ _ ⟨rfl,rfl⟩;exact trivial⟩ ?_
 rintro _ _ ⟨rfl,rfl⟩
 refine .mk _ (λH hH _=>iH rfl rfl (.pt ((hH _ (by decide)).trans rfl) rfl (eY e25))) ?_
 refine .mk _ (λH hH _=>dK rfl ER rfl (.pt ((hH _ (by decide)).trans rfl) rfl (eY e25)) (.pt _ _ _ _ _)) ?_
 refine .mk _ ⟨λ_=>bQ.dM (eO (ob':=(⟨42,8,true,true,_,(x19.1.aW.map aP.av).set (Int.toNat a2) [int x25.dS,aF x25.Closed,.sl 8 v27 0 x25.dD.length,.sl 9 v29 0 x25.dU.length,aD 11 bM.av x25.dI,aD 1 fI x25.dO,aD 1 fI x25.Down,aD 8 aP.av x25.eT]⟩:bC)) (dZ rfl kC rfl rfl rfl rfl rfl (eY e25) rfl rfl rfl) (eU pR)) (λ_ h=>h) (λ_ _=>trivial),by rintro _ _ ⟨rfl,rfl⟩;exact trivial⟩ ?_
 rintro _ _ ⟨rfl,rfl⟩
 refine .mk _ (λH hH _=>iH rfl rfl (.pt ((hH _ (by decide)).trans rfl) rfl (eY e25))) ?_
 refine .mk _ (λH hH _=>dK rfl yH rfl (.pt ((hH _ (by decide)).trans rfl) rfl (eY e25)) (.pt _ _ _ _ _)) ?_
 refine .mk _ ⟨λ_=>bQ.dM (eO (ob':=(⟨42,8,true,true,_,(x19.1.aW.map aP.av).set (Int.toNat a2) [int x25.dS,aF x25.Closed,.sl 8 v27 0 x25.dD.length,.sl 9 v29 0 x25.dU.length,.sl 10 v31 0 x25.dI.length,aD 1 fI x25.dO,aD 1 fI x25.Down,aD 8 aP.av x25.eT]⟩:bC)) (dZ rfl wW rfl rfl rfl rfl rfl (eY e25) rfl rfl rfl) (eU pR)) (λ_ h=>h) (λ_ _=>trivial),by rintro _ _ ⟨rfl,rfl⟩;exact trivial⟩ ?_
 rintro _ _ ⟨rfl,rfl⟩
 refine .mk ?_
 refine .mk _ (λH hH _=>iH rfl rfl (.pt ((hH _ (by decide)).trans rfl) rfl (eY e25))) ?_
 refine .mk _ (λH hH _=>dK rfl LQ rfl (.pt ((hH _ (by decide)).trans rfl) rfl (eY e25)) (.pt _ _ _ _ _)) ?_
 refine .mk _ (λH hH _=>dV rfl kC rfl (.pt ((hH _ (by decide)).trans rfl) rfl (eY e25)) rfl) ?_
 refine .mk _ (λH hH _=>iH rfl rfl (.pt ((hH _ (by decide)).trans rfl) rfl (eY e25))) ?_
 refine .mk _ (λH hH _=>dK rfl UR rfl (.pt ((hH _ (by decide)).trans rfl) rfl (eY e25)) (.pt _ _ _ _ _)) ?_
 refine .mk _ (λH hH _=>dV rfl kC rfl (.pt ((hH _ (by decide)).trans rfl) rfl (eY e25)) rfl) ?_
 refine .mk λp32=>?_
 refine .mk _ ⟨λ_=>nW (g:=fI) (m:=x25.dO) 11 rfl Tryz.underlying22 fT kY rfl rfl rfl rfl (.refl _) (λ_=>rfl) p32,by rintro _ _ ⟨v33,rfl,rfl⟩;exact ⟨rfl,trivial⟩⟩ ?_
 rintro _ _ ⟨v33,rfl,rfl⟩
 refine .mk λp34=>?_
 refine .mk _ ⟨λ_=>nW (g:=fI) (m:=x25.Down) 12 rfl Tryz.underlying22 fT kY rfl rfl rfl rfl (.refl _) (λ_=>rfl) p34,by rintro _ _ ⟨v35,rfl,rfl⟩;exact trivial⟩ ?_
 rintro _ _ ⟨v35,rfl,rfl⟩
 refine .mk _ (λH hH _=>iH rfl rfl (.pt ((hH _ (by decide)).trans rfl) rfl (eY e25))) ?_
 refine .mk _ (λH hH _=>dK rfl LQ rfl (.pt ((hH _ (by decide)).trans rfl) rfl (eY e25)) (.pt _ _ _ _ _)) ?_
 refine .mk _ ⟨λ_=>bQ.dM (eO (ob':=(⟨42,8,true,true,_,(x19.1.aW.map aP.av).set (Int.toNat a2) [int x25.dS,aF x25.Closed,.sl 8 v27 0 x25.dD.length,.sl 9 v29 0 x25.dU.length,.sl 10 v31 0 x25.dI.length,.sl 11 v33 0 x25.dO.length,aD 1 fI x25.Down,aD 8 aP.av x25.eT]⟩:bC)) (dZ rfl kC rfl rfl rfl rfl rfl (eY e25) rfl rfl rfl) (eU pR)) (λ_ h=>h) (λ_ _=>trivial),by rintro _ _ ⟨rfl,rfl⟩;exact trivial⟩ ?_
 rintro _ _ ⟨rfl,rfl⟩
 refine .mk _ (λH hH _=>iH rfl rfl (.pt ((hH _ (by decide)).trans rfl) rfl (eY e25))) ?_
 refine .mk _ (λH hH _=>dK rfl UR rfl (.pt ((hH _ (by decide)).trans rfl) rfl (eY e25)) (.pt _ _ _ _ _)) ?_
 refine .mk _ ⟨λ_=>bQ.dM (eO (ob':=(⟨42,8,true,true,_,(x19.1.aW.map aP.av).set (Int.toNat a2) [int x25.dS,aF x25.Closed,.sl 8 v27 0 x25.dD.length,.sl 9 v29 0 x25.dU.length,.sl 10 v31 0 x25.dI.length,.sl 11 v33 0 x25.dO.length,.sl 12 v35 0 x25.Down.length,aD 8 aP.av x25.eT]⟩:bC)) (dZ rfl kC rfl rfl rfl rfl rfl (eY e25) rfl rfl rfl) (eU pR)) (λ_ h=>h) (λ_ _=>trivial),by rintro _ _ ⟨rfl,rfl⟩;exact trivial⟩ ?_
 rintro _ _ ⟨rfl,rfl⟩
 exact .mk
 rintro ⟨y7_2,y7_3,y7_9,y7_10,y7_11,y7_12,y7_13,y7_14⟩ u75
 refine .mk trivial ?_
 refine .mk λx36 e36=>?_
 refine .mk ?_
 refine .mk λx37 e37=>?_
 refine .mk (λH hH _=>bX (y:=aD 8 aP.av ([x37]:List aP)) (dQ (ps:=[(0,_)]) (rows:=[[int x37.dS,aF x37.Closed,aD 4 aM.av x37.dD,aD 1 fI x37.dU,aD 11 bM.av x37.dI,aD 1 fI x37.dO,aD 1 fI x37.Down,aD 8 aP.av x37.eT]]) rfl Tryz.underlying26 qW (.cons rfl .nil) (by kernel_rfl) rfl rfl rfl) (congrArg (AV.list 8) (by simp only [List.map_cons,List.map_nil,aP.bW]))) ?_
 refine .mk _ (λH hH _=>eB rfl Tryz.underlying26 jE rfl rfl ((hH _ (by decide)).trans rfl) rfl rfl (Eq.symm rfl) qH e36) ?_
 refine .mk _ (λH hH _=>dK rfl ED rfl (.pt ((hH _ (by decide)).trans rfl) rfl (eY e36)) (.pt _ _ _ _ _)) ?_
 refine .mk _ ⟨λ_=>bQ.dM (eO (ob':=(⟨42,8,true,true,_,(x19.1.aW.map aP.av).set (Int.toNat a2) [int y7_2,aF y7_3,.sl 8 (u75 8) 0 y7_10.length,.sl 9 (u75 9) 0 y7_11.length,.sl 10 (u75 10) 0 y7_12.length,.sl 11 (u75 11) 0 y7_13.length,.sl 12 (u75 12) 0 y7_14.length,aD 8 aP.av ([x37]:List aP)]⟩:bC)) (dZ rfl zH rfl rfl rfl rfl rfl (eY e36) rfl rfl rfl) (eU pR)) (λ_ h=>h) (λ_ _=>trivial),by rintro _ _ ⟨rfl,rfl⟩;exact ⟨rfl,trivial⟩⟩ ?_
 rintro _ _ ⟨rfl,rfl⟩
 refine .mk _ (λH hH _=>eB rfl Tryz.underlying26 jE rfl rfl ((hH _ (by decide)).trans rfl) rfl rfl (Eq.symm rfl) qH e36) ?_
 refine .mk _ (λH hH _=>dK rfl TZ rfl (.pt ((hH _ (by decide)).trans rfl) rfl (eY e36)) (.pt _ _ _ _ _)) ?_
 refine .mk _ ⟨λ_=>bQ.dM (eO (ob':=(⟨42,8,true,true,_,(x19.1.aW.map aP.av).set (Int.toNat a2) [int y7_2,aF true,.sl 8 (u75 8) 0 y7_10.length,.sl 9 (u75 9) 0 y7_11.length,.sl 10 (u75 10) 0 y7_12.length,.sl 11 (u75 11) 0 y7_13.length,.sl 12 (u75 12) 0 y7_14.length,aD 8 aP.av ([x37]:List aP)]⟩:bC)) (dZ rfl rE rfl rfl rfl rfl rfl (eY e36) rfl rfl rfl) (eU pR)) (λ_ h=>h) (λ_ _=>trivial),by rintro _ _ ⟨rfl,rfl⟩;exact trivial⟩ ?_
 rintro _ _ ⟨rfl,rfl⟩
 exact .mk (bK.aU (.cons (bK.agg (.cons (.refl _) (.cons (.refl _) (.cons (.refl _) (.cons (.refl _) (.cons (.refl _) (.cons (kZ rfl rfl rfl rfl rfl (Eq.symm rfl) e36 (lW (.cons (.refl _) (.cons (.refl _) (.cons (dH rfl rfl rfl rfl rfl (Eq.symm rfl)) (.cons (dH rfl rfl rfl rfl rfl (Eq.symm rfl)) (.cons (dH rfl rfl rfl rfl rfl (Eq.symm rfl)) (.cons (dH rfl rfl rfl rfl rfl (Eq.symm rfl)) (.cons (dH rfl rfl rfl rfl rfl (Eq.symm rfl)) (.cons (.refl _) .nil)))))))) (aP.bW _))) (.cons (.refl _) (.cons (.refl _) (.cons (.refl _) (.cons (.refl _) .nil))))))))))) (.cons (.refl _) .nil)))
def aBU (n:Nat) (a1:aA) (a2:Int):WB (aA×Int) :=
 .al 1<|.al 2<|.jn 1 [1,2,4,5] [1,2] [] (λ_ (a:Bool)=>[(8,aF a)]) (λ_ _=>[]) (.bB 10 (decide (a2<0)) λx5=>.ifs [10] x5 (.ret true) (.ln 15 aP.av a1.aW<|.bB 16 (decide (a2>=(a1.aW.length:Int))) λx6=>.ret x6)) (λy0_1=>.ifs [8] y0_1 (.ret ((a1:aA),4)) (.gI 23 aP.av gE aP.bW a1.aW a2 λx7=>.bB 26 (!x7.Closed) λx8=>.ifs [26] x8 (.ret ((a1:aA),8)) (.as (a1.aW.length<=68719476736) inferInstance<|.ge 30 3<|.dr [(0,[1]),(1,[1]),(3,[1]),(4,[1]),(6,[3]),(7,[3]),(8,[3]),(11,[3])] [(12,[])] [1,3] [12] [0,1,2,3,4,5,6,7,8,9,10,11,12] (.bo (ix a1.aW a2) λx11=>.gv 38<|.gv 39<|.gv 40<|.gI 41 aP.av gE aP.bW x11.eT 0 λx12=>.gv 43<|.bl (a1.aW.set (Int.toNat a2) x12:List aP) λx13=>.ge 1006012 0<|.as (a1.bU.length<=68719476736) inferInstance<|.ge 46 4<|.jn 1 [2,4,5] [2,3] [] (λ_ (a:(List bS))=>[]) (λu10 a=>[.kp 1 [[int a1.bA.eH,int a1.bA.fA,aD 1 fI a1.bA.cB,aD 1 (fL 1 fI) a1.bA.Methods,aD 1 (fL 1 fI) a1.bA.dN,.sl 3 (u10 3) 0 a1.aW.length,aD 8 bH.av a1.bP,.sl 4 (u10 4) 0 a.length,aD 6 dB.av a1.bY,int a1.Done]],.kp 4 (a.map bS.av)]) (.lp [1,2,4,5] [2,3] [] (λ_ (a:Int×(List bS))=>[(6,int a.1)]) (λu13 a=>[.kp 1 [[int a1.bA.eH,int a1.bA.fA,aD 1 fI a1.bA.cB,aD 1 (fL 1 fI) a1.bA.Methods,aD 1 (fL 1 fI) a1.bA.dN,.sl 3 (u13 3) 0 a1.aW.length,aD 8 bH.av a1.bP,.sl 4 (u13 4) 0 a.2.length,aD 6 dB.av a1.bY,int a1.Done]],.kp 4 (a.2.map bS.av)]) n ((0:Int),(a1.bU:List bS)) (pw λy1_1 y1_2=>.bB 52 (decide (y1_1<(y1_2.length:Int))) λx16=>.ifs [52] x16 (.jn 1 [1,2,4,5,6] [2,3] [] (λ_ (a:(List bS))=>[]) (λu15 a=>[.kp 1 [[int a1.bA.eH,int a1.bA.fA,aD 1 fI a1.bA.cB,aD 1 (fL 1 fI) a1.bA.Methods,aD 1 (fL 1 fI) a1.bA.dN,.sl 3 (u15 3) 0 a1.aW.length,aD 8 bH.av a1.bP,.sl 4 (u15 4) 0 a.length,aD 6 dB.av a1.bY,int a1.Done]],.kp 4 (a.map bS.av)]) (.bo (ix y1_2 y1_1) λx17=>.gv 58<|.gv 59<|.al 5<|.jn 0 [1,2,4,5,6] [1,2,3,4] [] (λ_ (a:Bool)=>[(78,aF a)]) (λ_ _=>[]) (.dr [(0,[5]),(1,[5]),(3,[5]),(4,[5]),(9,[5]),(10,[5]),(11,[1]),(12,[1]),(14,[3]),(15,[3]),(16,[3])] [] [1,3,5] [] [0,1,2,3,4,5,6,7,8,9,10,11,12,13,14,15,16,17,18] (.bB 62 (x17.jY) λx19=>.ifs [62] x19 (.bB 66 (decide (x17.dG=a2)) λx20=>.ifs [66] x20 (.gv 74<|.gv 75<|.gv 76<|.bB 77 (decide (x17.jW=((x12:aP).dS))) λx21=>.ret x21) (.ret false)) (.ret false))) (λy2_1=>.ifs [78] y2_1 (.dr [(0,[1]),(1,[1]),(3,[1]),(4,[1]),(6,[4]),(7,[4]),(9,[4]),(10,[4])] [(8,[1]),(11,[])] [1,4] [8,11] [0,1,2,3,4,5,6,7,8,9,10,11] (.gv 85<|.gv 86<|.bl (y1_2.set (Int.toNat y1_1) ((⟨x17.dG,x17.Item,x17.Loc,x17.aQ,x17.fF,0,x17.bO,x17.jW,x17.jY⟩:bS):bS):List bS) λx22=>.ge 1013008 0<|.gv 87<|.gv 88<|.bl (x22.set (Int.toNat y1_1) ((⟨x17.dG,x17.Item,x17.Loc,x17.aQ,x17.fF,0,0,x17.jW,x17.jY⟩:bS):bS):List bS) λx23=>.ge 1013011 0<|.ret x23)) (.ret y1_2))) (λy3_1=>.bI 54 (aI (y1_1+1)) λx24=>.brk ((x24:Int),y3_1))) (.esc (.ret y1_2)))) (λy4_1=>.ret (((⟨a1.bA,x13,a1.bP,y4_1,a1.bY,a1.Done⟩:aA):aA),0))))))
def M7 (n:Nat) (a1:aA) (a2:Int):Option (aA×Int):=(aBU n a1 a2).run
theorem aKV {n a1 a2}:PZ (M7 n a1 a2) 19 [.agg (aA.av a1),int a2] (λr=>.aU [.agg (aA.av r.1),int r.2]):=by
 refine wm Tryz.func19 ?_
 intro v3
 intro v4
 refine .mk ?_ ?_
 refine .mk λx5=>?_
 refine .mk .mk ?_
 refine .mk ?_
 refine .mk λx6=>?_
 exact .mk
 intro _ _
 refine .mk .mk ?_
 refine .mk λx7 e7=>?_
 refine .mk λx8=>?_
 refine .mk .mk ?_
 refine .mk λp9=>?_
 refine .mk _ ⟨λ_=>nW (g:=aP.av) (m:=a1.aW) 3 rfl Tryz.underlying26 qW yE rfl rfl rfl rfl (.refl _) aP.one p9,λ_ _ _=>trivial⟩ ?_
 rintro _ _ ⟨v10,rfl,rfl⟩
 refine .mk ?_
 refine .mk λx11 e11=>?_
 refine .mk _ (λH hH _=>eB rfl Tryz.underlying26 jE rfl rfl ((hH _ (by decide)).trans rfl) rfl rfl (Eq.symm rfl) (List.length_map _) e11) ?_
 refine .mk _ (λH hH _=>dK rfl ED rfl (.pt ((hH _ (by decide)).trans rfl) rfl (dR e11 (aP.bW _))) (.pt _ _ _ _ _)) ?_
 refine .mk _ (λH hH _=>dV rfl zH rfl (.pt ((hH _ (by decide)).trans rfl) rfl (dR e11 (aP.bW _))) rfl) ?_
 refine .mk λx12 e12=>?_
 refine .mk _ (λH hH _=>eB rfl Tryz.underlying26 jE rfl rfl ((hH _ (by decide)).trans rfl) rfl rfl (Eq.symm rfl) (List.length_map _) e11) ?_
 refine .mk λx13 e13=>?_
 have fx13:=fP e11 e13;have lx13:=fH e13 (rfl:a1.aW.length=a1.aW.length)
 refine .mk _ ⟨λ_=>bQ.dM (eO (ob':=(⟨42,8,true,true,_,x13.map aP.av⟩:bC)) (dZ rfl jE rfl rfl rfl rfl rfl (dR e11 (aP.bW _)) rfl rfl rfl) (eU (C5 e13 (aP.bW _)))) (λ_ h=>h) (λ_ _=>trivial),by rintro _ _ ⟨rfl,rfl⟩;exact trivial⟩ ?_
 rintro _ _ ⟨rfl,rfl⟩
 refine .mk λp14=>?_
 refine .mk _ ⟨λ_=>nW (g:=bS.av) (m:=a1.bU) 4 rfl Tryz.underlying28 OU RF rfl rfl rfl rfl (.refl _) (λ_=>rfl) p14,λ_ _ _=>trivial⟩ ?_
 rintro _ _ ⟨v15,rfl,rfl⟩
 refine .mk ?_ ?_
 refine .mk ?_
 rintro ⟨y1_1,y1_2⟩ _
 refine .mk λx16=>?_
 refine .mk ?_ ?_
 refine .mk ?_ ?_
 refine .mk λx17 e17=>?_
 refine .mk _ (bE (eB rfl Tryz.underlying28 BO rfl rfl rfl rfl rfl (Eq.symm rfl) (List.length_map _) e17)) ?_
 refine .mk _ (bE (dV rfl BO rfl (.pt rfl rfl (cZ e17)) rfl)) ?_
 intro v18
 refine .mk ?_ ?_
 refine .mk ?_
 refine .mk λx19=>?_
 refine .mk ?_ ?_
 refine .mk λx20=>?_
 refine .mk ?_ ?_
 refine .mk _ (λH hH _=>eB rfl Tryz.underlying26 jE rfl rfl ((hH _ (by decide)).trans rfl) rfl rfl (Eq.symm lx13) (List.length_map _) fx13) ?_
 refine .mk _ (λH hH _=>dK rfl XQ rfl (.pt ((hH _ (by decide)).trans rfl) rfl (dR fx13 (aP.bW _))) (.pt _ _ _ _ _)) ?_
 refine .mk _ (λH hH _=>dV rfl fC rfl (.pt ((hH _ (by decide)).trans rfl) rfl (dR fx13 (aP.bW _))) rfl) ?_
 refine .mk λx21=>?_
 exact .mk
 exact .mk
 exact .mk
 intro _ _
 refine .mk ?_ ?_
 refine .mk ?_
 refine .mk _ (λH hH _=>eB rfl Tryz.underlying28 BO rfl rfl ((hH _ (by decide)).trans rfl) rfl rfl (Eq.symm rfl) (List.length_map _) e17) ?_
 refine .mk _ (λH hH _=>dK rfl aEP rfl (.pt ((hH _ (by decide)).trans rfl) rfl (cZ e17)) (.pt _ _ _ _ _)) ?_
 refine .mk λx22 e22=>?_
 have fx22:=fP e17 e22;have lx22:=fH e22 (rfl:y1_2.length=y1_2.length)
 refine .mk _ ⟨λ_=>bQ.dM (eO (ob':=(⟨81,9,true,true,_,x22.map bS.av⟩:bC)) (dZ rfl fC rfl rfl rfl rfl rfl (cZ e17) rfl rfl rfl) (eU (iI e22))) (λ_ h=>h) (λ_ _=>trivial),by rintro _ _ ⟨rfl,rfl⟩;exact ⟨rfl,trivial⟩⟩ ?_
 rintro _ _ ⟨rfl,rfl⟩
 refine .mk _ (λH hH _=>eB rfl Tryz.underlying28 BO rfl rfl ((hH _ (by decide)).trans rfl) rfl rfl (Eq.symm lx22) (List.length_map _) fx22) ?_
 refine .mk _ (λH hH _=>dK rfl aM2 rfl (.pt ((hH _ (by decide)).trans rfl) rfl (cZ fx22)) (.pt _ _ _ _ _)) ?_
 refine .mk λx23 e23=>?_
 have fx23:=fP fx22 e23;have lx23:=fH e23 lx22
 refine .mk _ ⟨λ_=>bQ.dM (eO (ob':=(⟨81,9,true,true,_,x23.map bS.av⟩:bC)) (dZ rfl fC rfl rfl rfl rfl rfl (cZ fx22) rfl rfl rfl) (eU (iI e23))) (λ_ h=>h) (λ_ _=>trivial),by rintro _ _ ⟨rfl,rfl⟩;exact trivial⟩ ?_
 rintro _ _ ⟨rfl,rfl⟩
 exact .mk ⟨⟨⟨_,rfl,(.refl _)⟩,⟨_,rfl,(.refl _)⟩,⟨_,rfl,(.refl _)⟩,⟨_,rfl,(.refl _)⟩,⟨_,rfl,(.refl _)⟩,trivial⟩,⟨⟨_,rfl,⟨rfl,(.cons (.cons (.refl _) (.cons (.refl _) (.cons (.refl _) (.cons (.refl _) (.cons (.refl _) (.cons (.refl _) (.cons (.refl _) (.cons (nC (Eq.symm lx23)) (.cons (.refl _) (.cons (.refl _) .nil)))))))))) .nil)⟩⟩,⟨_,rfl,(.refl _)⟩,⟨_,rfl,(.refl _)⟩,⟨_,rfl,(.refl _)⟩,trivial⟩⟩
 exact .mk
 intro _ _
 refine .mk λx24=>?_
 exact .mk
 exact .mk
 intro _ _
 exact .mk (bK.aU (.cons (bK.agg (.cons (.refl _) (.cons (.refl _) (.cons (.refl _) (.cons (.refl _) (.cons (.refl _) (.cons (dH rfl rfl rfl rfl rfl (Eq.symm lx13)) (.cons (.refl _) (.cons (dH rfl rfl rfl rfl rfl (Eq.symm rfl)) (.cons (.refl _) (.cons (.refl _) .nil))))))))))) (.cons (.refl _) .nil)))
def ZI (n:Nat) (a1:aA) (a2:Int):WB (aA×Int) :=
 .al 1<|.al 2<|.jn 1 [1,2,4,5] [1,2] [] (λ_ (a:Bool)=>[(9,aF a)]) (λ_ _=>[]) (.bB 11 (decide (a2<0)) λx5=>.ifs [11] x5 (.ret true) (.ln 16 aP.av a1.aW<|.bB 17 (decide (a2>=(a1.aW.length:Int))) λx6=>.ret x6)) (λy0_1=>.ifs [9] y0_1 (.ret ((a1:aA),4)) (.gI 24 aP.av gE aP.bW a1.aW a2 λx7=>.bB 27 (!x7.Closed) λx8=>.ifs [27] x8 (.ret ((a1:aA),8)) (.dr [(0,[1]),(1,[1]),(6,[1]),(7,[1]),(8,[1])] [] [1] [] [0,1,2,3,4,5,6,7,8,9,10] (.gI 33 aP.av gE aP.bW a1.aW a2 λx9=>.bB 39 (decide (x9.dS>=a1.bA.fA)) λx10=>.ifs [39] x10 (.ret ((a1:aA),11)) (.inl 43 tO Tryz.func40 [1,2] [5,6,7,8,9,10] (λu4 (a:Int×Bool×(List aP)×(List aM)×(List Int)×(List bM)×(List Int)×(List Int))=>.agg [int a1.bA.eH,int a1.bA.fA,aD 1 fI a1.bA.cB,aD 1 (fL 1 fI) a1.bA.Methods,aD 1 (fL 1 fI) a1.bA.dN,.sl 5 (u4 5) 0 a1.aW.length,aD 8 bH.av a1.bP,aD 9 bS.av a1.bU,aD 6 dB.av a1.bY,int a1.Done]) (λu4 a=>[.nw 5 42 8 ((a1.aW.map aP.av).set (Int.toNat a2) [int a.1,aF a.2.1,.sl 6 (u4 6) 0 a.2.2.2.1.length,.sl 7 (u4 7) 0 a.2.2.2.2.1.length,.sl 8 (u4 8) 0 a.2.2.2.2.2.1.length,.sl 9 (u4 9) 0 a.2.2.2.2.2.2.1.length,.sl 10 (u4 10) 0 a.2.2.2.2.2.2.2.length,aD 8 aP.av a.2.2.1]),.nw 6 126 4 (a.2.2.2.1.map aM.av),.nw 7 3 1 (a.2.2.2.2.1.map fI),.nw 8 87 11 (a.2.2.2.2.2.1.map bM.av),.nw 9 3 1 (a.2.2.2.2.2.2.1.map fI),.nw 10 3 1 (a.2.2.2.2.2.2.2.map fI)]) (.al 3<|.al 4<|.as (a1.aW.length<=68719476736) inferInstance<|.ge 8 5<|.bo (ix a1.aW a2) λx15=>.gv 13<|.dr [(4,[5]),(5,[5]),(6,[5]),(9,[5]),(10,[5]),(11,[5]),(14,[5]),(15,[5]),(16,[5]),(18,[5]),(19,[5]),(21,[5]),(22,[5]),(24,[5]),(25,[5])] [(17,[]),(20,[]),(23,[]),(26,[])] [5] [7,12,17,20,23,26] [0,1,2,3,4,5,6,8,9,10,11,13,14,15,16,7,12,17,18,19,20,21,22,23,24,25,26] (.gv 18<|.gv 19<|.gv 20<|.gv 23<|.gv 24<|.gv 25<|.gv 28<|.gv 29<|.gv 30<|.as (x15.dD.length<=68719476736) inferInstance<|.ge 21 6<|.as (x15.dU.length<=68719476736) inferInstance<|.ge 26 7<|.as (x15.dI.length<=68719476736) inferInstance<|.ge 31 8<|.gv 32<|.gv 33<|.ge 1003020 0<|.gv 34<|.gv 35<|.ge 1003023 0<|.gv 36<|.gv 37<|.ge 1003026 0<|.dr [(3,[5]),(4,[5]),(5,[5]),(8,[5]),(9,[5]),(10,[5]),(12,[5]),(13,[5]),(15,[5]),(16,[5])] [(11,[]),(14,[]),(17,[])] [5] [6,11,14,17] [0,1,2,3,4,5,7,8,9,10,6,11,12,13,14,15,16,17] (.gv 41<|.gv 42<|.gv 43<|.gv 46<|.gv 47<|.gv 48<|.as (x15.dO.length<=68719476736) inferInstance<|.ge 44 9<|.as (x15.Down.length<=68719476736) inferInstance<|.ge 49 10<|.gv 50<|.gv 51<|.ge 1004014 0<|.gv 52<|.gv 53<|.ge 1004017 0<|.ret ((x15.dS:Int),(x15.Closed:Bool),(x15.eT:List aP),(x15.dD:List aM),(x15.dU:List Int),(x15.dI:List bM),(x15.dO:List Int),(x15.Down:List Int))))) (pw λy1_2 q0=>(pw λy1_3 q1=>(pw λy1_9 q2=>(pw λy1_10 q3=>(pw λy1_11 q4=>(pw λy1_12 q5=>(pw λy1_13 y1_14=>.bo (ix a1.aW a2) λx26=>.al 11<|.gv 47<|.gv 52<|.gv 53<|.gv 54<|.bI 55 (aI (y1_2+1)) λx28=>.gv 56<|.gv 57<|.ge 1009010 0<|.gv 58<|.gv 59<|.ge 1009013 0<|.gv 60<|.gv 61<|.ge 1009016 0<|.jn 1 [4,5,6] [2,6,7,9,10,11] [] (λ_ (a:(List bM))=>[]) (λu6 a=>[.kp 5 ((a1.aW.map aP.av).set (Int.toNat a2) [int x28,aF false,.sl 6 (u6 6) 0 y1_10.length,.sl 7 (u6 7) 0 y1_11.length,.sl 8 (u6 8) 0 a.length,.sl 9 (u6 9) 0 y1_13.length,.sl 10 (u6 10) 0 y1_14.length,.sc (.slice none 0 0)]),.kp 8 (a.map bM.av)]) (.lp [1,2,4,5,6,7] [1,2,6,7,9,10,11] [] (λ_ (a:Int×(List bM))=>[(8,int a.1)]) (λu7 a=>[.kp 5 ((a1.aW.map aP.av).set (Int.toNat a2) [int x28,aF false,.sl 6 (u7 6) 0 y1_10.length,.sl 7 (u7 7) 0 y1_11.length,.sl 8 (u7 8) 0 a.2.length,.sl 9 (u7 9) 0 y1_13.length,.sl 10 (u7 10) 0 y1_14.length,.sc (.slice none 0 0)]),.kp 8 (a.2.map bM.av)]) n ((0:Int),y1_12) (pw λy2_1 y2_2=>.gv 64<|.gv 65<|.gv 66<|.bB 68 (decide (y2_1<(y2_2.length:Int))) λx29=>.ifs [68] x29 (.dr [(1,[5]),(2,[5]),(3,[5]),(5,[1]),(11,[8])] [(12,[])] [1,5,8] [12] [0,1,2,3,4,5,6,7,8,9,10,11,12] (.gv 72<|.gv 73<|.gv 74<|.cl 79 (G8 n a1 a2 y2_1) KC QJ λx30=>.bo (ix y2_2 y2_1) λx31=>.gv 82<|.bl (y2_2.set (Int.toNat y2_1) ((⟨x30.Value,0,0,0,0,0,0,0,0,0,0⟩:bM):bM):List bM) λx32=>.ge 1013012 0<|.bI 70 (aI (y2_1+1)) λx33=>.brk ((x33:Int),x32))) (.esc (.ret y2_2)))) (λy3_1=>.ret (((⟨a1.bA,(a1.aW.set (Int.toNat a2) (⟨x28,false,y1_10,y1_11,y3_1,y1_13,y1_14,[]⟩:aP)),a1.bP,a1.bU,a1.bY,a1.Done⟩:aA):aA),0))) q5) q4) q3) q2) q1) q0))))))
def P5 (n:Nat) (a1:aA) (a2:Int):Option (aA×Int):=(ZI n a1 a2).run
theorem Y5 {n a1 a2}:PZ (P5 n a1 a2) 20 [.agg (aA.av a1),int a2] (λr=>.aU [.agg (aA.av r.1),int r.2]):=wq Tryz.func20
def YV (a1:aA) (a2:Int) (a3:Int):WB (Int) :=
 .al 1<|.cl 11 (uK a1 a2 a3) xK yC λx5=>.bB 12 (!x5) λx6=>.ifs [12] x6 (.ret ((4:Int))) (.gI 17 aP.av gE aP.bW a1.aW a2 λx7=>.wt 13 <|.ifs [13] x7.Closed (.ret ((7:Int))) (.ret ((0:Int))))
def lY (a1:aA) (a2:Int) (a3:Int):Option (Int):=(YV a1 a2 a3).run
theorem nX {a1 a2 a3}:PZ (lY a1 a2 a3) 145 [.agg (aA.av a1),int a2,int a3] int:=wq Tryz.func145
def aAO (n:Nat) (a1:List aB):WB (Int×Int) :=
 .dF 3 [2,3] [] [] (λ_ (a:Int)=>[(4,int a)]) (λ_ _=>[]) (.lp [0,2,3] [] [] (λ_ (a:Int×Int)=>[(4,int a.1),(5,int a.2)]) (λ_ _=>[]) n ((0:Int),0) (pw λy0_1 y0_2=>.ln 10 aB.av a1<|.bB 11 (decide (y0_2<(a1.length:Int))) λx2=>.ifs [11] x2 (.dr [] [] [] [] [0,1,2,3,4,5,6,7,8,9,10,11,12,13,14,15,16,17,18] (.ix 18 aB.av a1 y0_2 λx3=>.ix 23 aB.av a1 y0_2 λx4=>.bI 26 (aI (0-x4.bO)) λx5=>.bl (if x5>x3.bO then x5 else x3.bO:Int) λx6=>.gv 27<|.cl 28 (oK y0_1 x6) p8 qB λx7=>.jn 0 [0,2,3,4,5,6] [] [] (λ_ (a:Bool)=>[(40,aF a)]) (λ_ _=>[]) (.bB 32 (decide (x7.2≠0)) λx8=>.ifs [32] x8 (.ret true) (.ix 36 aB.av a1 y0_2 λx9=>.bB 39 (decide (x9.bO<(-288230376151711744))) λx10=>.ret x10)) (λy1_1=>.ifs [40] y1_1 (.esc (.esc (.ret ((0:Int),2)))) (.bI 13 (aI (y0_2+1)) λx11=>.brk ((x7.1:Int),x11))))) (.esc (.brk y0_1)))) (λy2_1=>.ret ((y2_1:Int),0))
def IJ (n:Nat) (a1:List aB):Option (Int×Int):=(aAO n a1).run
theorem RD {n a1}:PZ (IJ n a1) 201 [aD 3 aB.av a1] (λr=>.aU [int r.1,int r.2]):=wq Tryz.func201
def aOV (n:Nat) (a1:List aB):WB (Bool) :=
 .dF 2 [0,2] [] [] (λ_ (a:Unit)=>[]) (λ_ _=>[]) (.lp [0,2] [] [] (λ_ (a:Int)=>[(3,int a)]) (λ_ _=>[]) n 0 (λy0_1=>.ln 11 aB.av a1<|.bB 12 (decide (y0_1<(a1.length:Int))) λx2=>.ifs [12] x2 (.ix 17 aB.av a1 y0_1 λx3=>.al 1<|.jn 0 [0,2,3] [] [] (λ_ (a:Bool)=>[(42,aF a)]) (λ_ _=>[]) (.bB 21 (decide (x3.aQ<1)) λx5=>.ifs [21] x5 (.ret true) (.bB 25 (decide (x3.aQ>288230376151711744)) λx6=>.ifs [25] x6 (.ret true) (.bB 30 (decide (x3.Value<0)) λx7=>.ifs [30] x7 (.ret true) (.bB 35 (decide (x3.Value>288230376151711744)) λx8=>.ifs [35] x8 (.ret true) (.cl 40 (qO x3.bO) rF tN λx9=>.bB 41 (!x9) λx10=>.ret x10))))) (λy1_1=>.ifs [42] y1_1 (.esc (.esc (.ret ((false:Bool))))) (.bI 14 (aI (y0_1+1)) λx11=>.brk x11))) (.esc (.brk ())))) (λ_=>.cl 45 (qM n a1) rH tX λx12=>.al 2<|.cl 50 (IJ n a1) L4 RD λx14=>.jn 0 [] [] [] (λ_ (a:Bool)=>[(2,aF a)]) (λ_ _=>[]) (.ln 54 aB.av a1<|.bB 55 (decide ((a1.length:Int)<=30)) λx15=>.ifs [55] x15 (.bB 58 (decide (x12.2=0)) λx16=>.ifs [58] x16 (.bB 62 (decide (x14.2=0)) λx17=>.ret x17) (.ret false)) (.ret false)) (λy3_1=>.ret ((y3_1:Bool))))
def zL (n:Nat) (a1:List aB):Option (Bool):=(aOV n a1).run
theorem IT {n a1}:PZ (zL n a1) 236 [aD 3 aB.av a1] aF:=wq Tryz.func236
def XI (n:Nat) (a1:List aB) (a2:aB):WB ((List aB)×Int) :=
 .al 1<|.dr [(2,[1])] [(4,[])] [1] [1,4] [0,2,3,1,4,5] (.to 10 (aD 3 aB.av ([a2]:List aB))<|.as (a1.length<=68719476736) inferInstance<|.ge 8 2<|.bl (a1++([a2]:List aB):List aB) λx6=>.as (x6.length<=68719476736) inferInstance<|.ge 11 0<|.jn 1 [0,4,5,6] [2] [] (λ_ (a:Bool)=>[(12,aF a)]) (λ_ _=>[]) (.bB 15 (decide (a2.aQ<1)) λx9=>.ifs [15] x9 (.ret true) (.bB 19 (decide (a2.Value<0)) λx10=>.ret x10)) (λy0_1=>.ifs [12] y0_1 (.ret ((a1:List aB),1)) (.ln 24 aB.av a1<|.bB 25 (decide ((a1.length:Int)>=30)) λx11=>.ifs [25] x11 (.ret ((a1:List aB),6)) (.gK 29 (zL n x6) EP IT (λ_=>rfl) λx12=>.bB 30 (!x12) λx13=>.ifs [30] x13 (.ret ((a1:List aB),2)) (.ret ((x6:List aB),0))))))
def SQ (n:Nat) (a1:List aB) (a2:aB):Option ((List aB)×Int):=(XI n a1 a2).run
theorem aBA {n a1 a2}:PZ (SQ n a1 a2) 229 [aD 3 aB.av a1,.agg (aB.av a2)] (λr=>.aU [aD 3 aB.av r.1,int r.2]):=wq Tryz.func229
def aGF (n:Nat) (a1:List aB) (a2:aB):WB ((List aB)×Int) :=
 .al 1<|.jn 0 [0,3,4,5] [1] [] (λ_ (a:Bool)=>[(16,aF a)]) (λ_ _=>[]) (.bB 11 (decide (a2.aQ<1)) λx4=>.ifs [11] x4 (.ret true) (.bB 15 (decide (a2.Value<0)) λx5=>.ret x5)) (λy0_1=>.ifs [16] y0_1 (.ret ((a1:List aB),1)) (.dr [(2,[1])] [(4,[])] [1] [1,4] [0,2,3,1,4,5] (.to 21 (aD 3 aB.av ([a2]:List aB))<|.as (a1.length<=68719476736) inferInstance<|.ge 19 2<|.bl (a1++([a2]:List aB):List aB) λx8=>.as (x8.length<=68719476736) inferInstance<|.ge 22 0<|.gK 24 (zL n x8) EP IT (λ_=>rfl) λx11=>.bB 25 (!x11) λx12=>.ifs [25] x12 (.ret ((a1:List aB),2)) (.gK 29 (qM n x8) rH tX (λ_=>rfl) λx13=>.al 3<|.to 33 (aD 3 aB.av ([x13.1]:List aB))<|.ret ((([x13.1]:List aB):List aB),0)))))
def CJ (n:Nat) (a1:List aB) (a2:aB):Option ((List aB)×Int):=(aGF n a1 a2).run
theorem IG {n a1 a2}:PZ (CJ n a1 a2) 230 [aD 3 aB.av a1,.agg (aB.av a2)] (λr=>.aU [aD 3 aB.av r.1,int r.2]):=wq Tryz.func230
def aB4 (n:Nat) (a1:aM) (a2:aB):WB (aM×Int) :=
 .al 1<|.al 2<|.al 3<|.cl 12 (CJ n a1.cO a2) IQ IG λx6=>.bB 16 (decide (x6.2≠0)) λx7=>.ifs [16] x7 (.ret ((a1:aM),x6.2)) (.ret (((⟨x6.1,a1.bF⟩:aM):aM),0))
def MF (n:Nat) (a1:aM) (a2:aB):Option (aM×Int):=(aB4 n a1 a2).run
theorem aK5 {n a1 a2}:PZ (MF n a1 a2) 231 [.agg (aM.av a1),.agg (aB.av a2)] (λr=>.aU [.agg (aM.av r.1),int r.2]):=wq Tryz.func231
def aCC (n:Nat) (a1:Int) (a2:Int):WB (Int×Bool) :=
 .cl 12 (oO n a1 a2 1) pN pO λx3=>.bB 18 (decide (x3.2.2=0)) λx4=>.ret ((x3.1:Int),x4)
def B7 (n:Nat) (a1:Int) (a2:Int):Option (Int×Bool):=(aCC n a1 a2).run
theorem FR {n a1 a2}:PZ (B7 n a1 a2) 235 [int a1,int a2] (λr=>.aU [int r.1,aF r.2]):=wq Tryz.func235
def aLA (n:Nat) (a1:List aB) (a2:aB) (a3:Int):WB ((List aB)×Int×Int) :=
 .al 1<|.jn 0 [0,2,4,6,7,8] [1] [] (λ_ (a:Bool)=>[(28,aF a)]) (λ_ _=>[]) (.bB 14 (decide (a3<0)) λx5=>.ifs [14] x5 (.ret true) (.bB 17 (decide (a3>1073741824)) λx6=>.ifs [17] x6 (.ret true) (.bB 22 (decide (a2.aQ<1)) λx7=>.ifs [22] x7 (.ret true) (.bB 27 (decide (a2.Value<0)) λx8=>.ret x8)))) (λy0_1=>.ifs [28] y0_1 (.ret ((a1:List aB),0,1)) (.cl 34 (B7 n a2.aQ a3) D9 FR λx9=>.jn 0 [0,4,6,7,8,9] [1] [] (λ_ (a:Bool)=>[(43,aF a)]) (λ_ _=>[]) (.bB 38 (!x9.2) λx10=>.ifs [38] x10 (.ret true) (.bB 42 (decide (a2.Value>288230376151711744)) λx11=>.ret x11)) (λy1_1=>.ifs [43] y1_1 (.ret ((a1:List aB),0,2)) (.cl 53 (CJ n a1 (⟨a2.aQ,x9.1,a2.bO⟩:aB)) IQ IG λx12=>.bB 57 (decide (x12.2≠0)) λx13=>.ifs [57] x13 (.ret ((a1:List aB),0,x12.2)) (.dr [(1,[1]),(2,[1])] [] [1] [] [0,1,2,3,4,5,6,7] (.bI 64 (aI (a2.Value-x9.1)) λx14=>.ret ((x12.1:List aB),x14,0)))))))
def NN (n:Nat) (a1:List aB) (a2:aB) (a3:Int):Option ((List aB)×Int×Int):=(aLA n a1 a2 a3).run
theorem ZQ {n a1 a2 a3}:PZ (NN n a1 a2 a3) 232 [aD 3 aB.av a1,.agg (aB.av a2),int a3] (λr=>.aU [aD 3 aB.av r.1,int r.2.1,int r.2.2]):=wq Tryz.func232
def XT (n:Nat) (a1:Int) (a2:Int) (a3:aM) (a4:aB):WB (aM×Int×Int) :=
 .al 1<|.al 2<|.al 3<|.al 4<|.jn 2 [6,8,9,10,11] [1,3] [] (λ_ (a:Int×Int×aM)=>[(12,int a.1),(13,int a.2.1)]) (λ_ a=>[.kp 4 [[aD 3 aB.av a.2.2.cO,int a.2.2.bF.a0,int a.2.2.bF.a1,int a.2.2.bF.a2]]]) (.bB 17 (decide (a1=1)) λx9=>.ifs [17] x9 (.cl 22 (SQ n a3.cO a4) aAG aBA λx10=>.ret ((0:Int),x10.2,((⟨x10.1,a3.bF⟩:aM):aM))) (.bB 27 (decide (a1=2)) λx11=>.ifs [27] x11 (.cl 32 (CJ n a3.cO a4) IQ IG λx12=>.ret ((0:Int),x12.2,((⟨x12.1,a3.bF⟩:aM):aM))) (.bB 37 (decide (a1=3)) λx13=>.ifs [37] x13 (.cl 41 (MF n a3 a4) aH1 aK5 λx14=>.ret ((0:Int),x14.2,x14.1)) (.bB 45 (decide (a1=4)) λx15=>.ifs [45] x15 (.cl 51 (NN n a3.cO a4 a2) aB7 ZQ λx16=>.ret ((x16.2.1:Int),x16.2.2,((⟨x16.1,a3.bF⟩:aM):aM))) (.ret ((0:Int),12,a3)))))) (pw λy0_1 q0=>(pw λy0_2 y0_3=>.bB 57 (decide (y0_2≠0)) λx17=>.ifs [57] x17 (.ret ((a3:aM),0,y0_2)) (.ret ((y0_3:aM),y0_1,0))) q0)
def VE (n:Nat) (a1:Int) (a2:Int) (a3:aM) (a4:aB):Option (aM×Int×Int):=(XT n a1 a2 a3 a4).run
theorem aO6 {n a1 a2 a3 a4}:PZ (VE n a1 a2 a3 a4) 200 [int a1,int a2,.agg (aM.av a3),.agg (aB.av a4)] (λr=>.aU [.agg (aM.av r.1),int r.2.1,int r.2.2]):=wq Tryz.func200
def ZU (n:Nat) (a1:aA) (a2:Int) (a3:Int) (a4:Int) (a5:aB):WB (aA×Int×Int×Int) :=
 .al 1<|.al 2<|.al 3<|.jn 0 [1,2,3,5,9,10,11,12,13] [1,2,3] [] (λ_ (a:Bool)=>[(29,aF a)]) (λ_ _=>[]) (.cl 23 (uK a1 a2 a3) xK yC λx9=>.bB 24 (!x9) λx10=>.ifs [24] x10 (.ret true) (.cl 27 (sZ a4 1) vG wG λx11=>.bB 28 (!x11) λx12=>.ret x12)) (λy0_1=>.ifs [29] y0_1 (.ret ((a1:aA),0,0,4)) (.dr [(0,[1]),(1,[1]),(2,[1]),(9,[1]),(10,[1]),(11,[1]),(18,[1]),(23,[2])] [(30,[])] [1,2] [29,30] [0,1,2,3,4,5,6,7,8,9,10,11,12,13,14,15,16,17,18,19,20,21,22,23,24,25,26,27,28,29,30,31,32] (.ix 36 (fL 1 fI) a1.bA.Methods a2 λx13=>.ix 39 fI x13 a3 λx14=>.ix 45 (fL 1 fI) a1.bA.dN a2 λx15=>.ix 48 fI x15 a3 λx16=>.cl 54 (nS a1 a2 a3 a4) oG oD λx17=>.cl 56 (VE n x14 x16 x17 a5) aNF aO6 λx18=>.al 4<|.bB 61 (decide (x18.2.2≠0)) λx20=>.ifs [61] x20 (.ret ((a1:aA),0,0,x18.2.2)) (.cl 69 (rO a1 a2 a3 a4 x18.1) wJ wV λx21=>.al 5<|.cl 74 (JL n x21 a2 a3) NS VA λx23=>.bB 78 (decide (x23.2≠0)) λx24=>.ifs [78] x24 (.ret ((a1:aA),0,0,2)) (.jn 3 [5,9,10,11,12,13,15,17] [1,2,3,5] [7] (λu3 (a:(List aB))=>[(18,.sl 7 (u3 7) 0 a.length)]) (λ_ a=>[.nw 7 84 3 (a.map aB.av)]) (.no 18 7 84 3<|.lp [1,2,5,9,10,11,12,13,15,17] [1,2,3,5] [7] (λu4 (a:Int×(List aB))=>[(18,.sl 7 (u4 7) 0 a.2.length),(19,int a.1)]) (λ_ a=>[.nw 7 84 3 (a.2.map aB.av)]) n ((0:Int),(([]:List aB):List aB)) (pw λy1_2 y1_3=>.bB 81 (decide (y1_2<2)) λx26=>.ifs [81] x26 (.cl 89 (nS x21 a2 a3 y1_2) oG oD λx27=>.bl (y1_3++x27.cO:List aB) λx28=>.as (x28.length<=68719476736) inferInstance<|.ge 91 0<|.bI 83 (aI (y1_2+1)) λx31=>.brk ((x31:Int),x28)) (.esc (.ret y1_3)))) (λy2_2=>.gK 94 (IJ n y2_2) L4 RD (λ_=>rfl) λx32=>.bB 98 (decide (x32.2≠0)) λx33=>.ifs [98] x33 (.ret ((a1:aA),0,0,2)) (.dr [(0,[5]),(1,[2]),(2,[2])] [(6,[2])] [2,5] [6] [0,1,2,3,4,5,6,7,8,9] (.bI 104 (aI (a5.Value-x18.2.1)) λx34=>.ret ((x21:aA),x34,x18.2.1,0)))))))))
def uM (n:Nat) (a1:aA) (a2:Int) (a3:Int) (a4:Int) (a5:aB):Option (aA×Int×Int×Int):=(ZU n a1 a2 a3 a4 a5).run
theorem xU {n a1 a2 a3 a4 a5}:PZ (uM n a1 a2 a3 a4 a5) 146 [.agg (aA.av a1),int a2,int a3,int a4,.agg (aB.av a5)] (λr=>.aU [.agg (aA.av r.1),int r.2.1,int r.2.2.1,int r.2.2.2]):=wq Tryz.func146
end
end Go.Pv
