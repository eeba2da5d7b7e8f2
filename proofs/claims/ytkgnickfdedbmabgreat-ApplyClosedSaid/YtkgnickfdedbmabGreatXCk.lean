import Derived.Test.YtkgnickfdedbmabGreatXCj
set_option linter.unusedVariables false
set_option linter.unusedSimpArgs false
namespace Go.Pv
open Go.Proofs
set_option maxRecDepth 100000
set_option maxHeartbeats 4000000
noncomputable section
def aH2 (n:Nat) (a1:aM) (a2:Int) (a3:Int):WB (aM×Int) :=
 .al 1<|.al 2<|.cl 11 (rG a1 a1.cO) vC vY λx6=>.jn 1 [1,2,3,6,7] [1,2] [] (λ_ (a:Bool)=>[(12,aF a)]) (λ_ _=>[]) (.cl 14 (EK a2) PL UC λx7=>.bB 15 (!x7) λx8=>.ifs [15] x8 (.ret true) (.bB 18 (decide (a3<1)) λx9=>.ret x9)) (λy0_1=>.ifs [12] y0_1 (.ret ((x6:aM),1)) (.cl 24 (AN n x6) FZ IN λx10=>.bB 25 (decide (a3>x10)) λx11=>.ifs [25] x11 (.ret ((x6:aM),5)) (.sp [1] a2 0 (.gv 29<|.bI 32 (aI (x6.bF.a0+a3)) λx14=>.gv 34<|.ret (((⟨x6.cO,(⟨x14,x6.bF.a1,x6.bF.a2⟩:gJ)⟩:aM):aM),0)) (.sp [1] a2 1 (.gv 29<|.bI 32 (aI (x6.bF.a1+a3)) λx13=>.gv 34<|.ret (((⟨x6.cO,(⟨x6.bF.a0,x13,x6.bF.a2⟩:gJ)⟩:aM):aM),0)) (.sa [1] a2 2 (.gv 29<|.bI 32 (aI (x6.bF.a2+a3)) λx12=>.gv 34<|.ret (((⟨x6.cO,(⟨x6.bF.a0,x6.bF.a1,x12⟩:gJ)⟩:aM):aM),0)))))))
def LK (n:Nat) (a1:aM) (a2:Int) (a3:Int):Option (aM×Int):=(aH2 n a1 a2 a3).run
theorem aI3 {n a1 a2 a3}:PZ (LK n a1 a2 a3) 220 [.agg (aM.av a1),int a2,int a3] (λr=>.aU [.agg (aM.av r.1),int r.2]):=wq Tryz.func220
def aFK (n:Nat) (a1:aM) (a2:Int):WB (aM×aB×Int) :=
 .al 1<|.al 2<|.al 3<|.bB 12 (decide (a2<1)) λx6=>.ifs [12] x6 (.cl 16 (rG a1 a1.cO) vC vY λx7=>.ret ((x7:aM),((⟨0,0,0⟩:aB):aB),1)) (.cl 21 (AN n a1) FZ IN λx8=>.bB 22 (decide (a2>x8)) λx9=>.ifs [22] x9 (.cl 26 (rG a1 a1.cO) vC vY λx10=>.ret ((x10:aM),((⟨0,0,0⟩:aB):aB),5)) (.cl 32 (I1 n a1.cO a2) F5 R7 λx11=>.al 4<|.dr [(0,[1]),(3,[4])] [(5,[4]),(6,[])] [1,4] [5,6] [0,1,2,3,4,5,6,7] (.cl 38 (rG a1 x11.1) vC vY λx13=>.ret ((x13:aM),x11.2.1,x11.2.2))))
def VF (n:Nat) (a1:aM) (a2:Int):Option (aM×aB×Int):=(aFK n a1 a2).run
theorem aAJ {n a1 a2}:PZ (VF n a1 a2) 283 [.agg (aM.av a1),int a2] (λr=>.aU [.agg (aM.av r.1),.agg (aB.av r.2.1),int r.2.2]):=wq Tryz.func283
def aIK (n:Nat) (a1:List aB) (a2:Int) (a3:Int):WB ((List aB)×aB×Int) :=
 .al 1<|.cl 15 (BX a3) EY IL λx5=>.bB 16 (!x5) λx6=>.ifs [16] x6 (.as (a1.length<=68719476736) inferInstance<|.ge 18 2<|.ret ((a1:List aB),((⟨0,0,0⟩:aB):aB),(1:Int))) (.inl 23 F5 Tryz.func278 [1] [6] (λu17 (a:Nat×Nat×aB×Int×(List aB))=>.aU [.sl 6 (u17 6) a.1 a.2.1,.agg [int a.2.2.1.aQ,int a.2.2.1.Value,int a.2.2.1.bO],int a.2.2.2.1]) (λ_ a=>[.nw 6 84 3 (a.2.2.2.2.map aB.av)]) (.al 3<|.inl 7 AB Tryz.func279 [1,3] [] (λ_ (a:Unit)=>.agg [.fn (.func 272) [] [],.fn (.func 273) [] [],.fn (.func 163) [] []]) (λ_ _=>[]) (.al 4<|.ret ()) (λ_=>.inl 11 II Tryz.func273 [1,3] [6] (λu32 (a:Nat×Nat×aB×Int×(List aB))=>.aU [.sl 6 (u32 6) a.1 a.2.1,.agg [int a.2.2.1.aQ,int a.2.2.1.Value,int a.2.2.1.bO],int a.2.2.2.1]) (λ_ a=>[.nw 6 84 3 (a.2.2.2.2.map aB.av)]) (.al 5<|.as (a1.length<=68719476736) inferInstance<|.ge 10 6<|.bB 12 (decide (a2<1)) λx14=>.ifs [12] x14 (.ret ((0:Nat),(a1.length:Nat),((⟨0,0,0⟩:aB):aB),(1:Int),a1)) (.gK 17 (GX n a1 a2) MP UG (λ_=>rfl) λx15=>.bB 18 (!x15) λx16=>.ifs [18] x16 (.ret ((0:Nat),(a1.length:Nat),((⟨0,0,0⟩:aB):aB),(5:Int),a1)) (.al 7<|.jn 0 [4,5,6,7] [1,3,5] [] (λu33 (a:Nat×Nat×(List aB)×aB)=>[(0,.sl 6 (u33 6) a.1 a.2.1)]) (λ_ a=>[.kp 6 (a.2.2.1.map aB.av),.kp 7 [[int a.2.2.2.aQ,int a.2.2.2.Value,int a.2.2.2.bO]]]) (.lp [4,5,6,7] [1,3,5] [] (λu38 (a:Nat×Nat×Int×(List aB)×aB)=>[(0,.sl 6 (u38 6) a.1 a.2.1),(1,int a.2.2.1)]) (λ_ a=>[.kp 6 (a.2.2.2.1.map aB.av),.kp 7 [[int a.2.2.2.2.aQ,int a.2.2.2.2.Value,int a.2.2.2.2.bO]]]) n ((0:Nat),(a1.length:Nat),(a2:Int),a1,((⟨0,0,0⟩:aB):aB)) (pw λy1_1 q0=>(pw λy1_2 q1=>(pw λy1_3 q2=>(pw λy1_4 y1_5=>.jn 0 [0,1,4,5,6,7] [1,3,5,6,7] [] (λ_ (a:Bool)=>[(27,aF a)]) (λ_ _=>[]) (.bB 23 (decide ((y1_2:Int)>0)) λx18=>.ifs [23] x18 (.bB 26 (decide (y1_3>0)) λx19=>.ret x19) (.ret false)) (λy2_1=>.ifs [27] y2_1 (.as ((0:Int)<=0/\0<(y1_2:Int)) inferInstance<|.bo (ix y1_4 (((y1_1:Nat):Int)+0)) λx21=>.gv 29<|.gv 30<|.al 8<|.bB 34 (decide (x21.aQ>y1_3)) λx23=>.jn 0 [1,4,5,6,7,8] [1,3,5,7] [] (λu41 (a:Nat×Nat×(List aB)×aB)=>[(0,.sl 6 (u41 6) a.1 a.2.1)]) (λ_ a=>[.kp 6 (a.2.2.1.map aB.av),.kp 8 [[int a.2.2.2.aQ,int a.2.2.2.Value,int a.2.2.2.bO]]]) (.ifs [34] x23 (.dr [(1,[8]),(2,[8]),(4,[8]),(5,[8]),(7,[8]),(8,[8]),(10,[8]),(11,[8])] [(14,[])] [8] [14] [0,1,2,3,4,5,6,7,8,9,10,11,12,13,14] (.cl 41 (mX n x21.Value y1_3 x21.aQ) nN nU λx24=>.cl 47 (mX n x21.bO y1_3 x21.aQ) nN nU λx25=>.dr [(4,[6]),(5,[6]),(6,[6]),(7,[8]),(8,[8]),(11,[6]),(12,[6]),(13,[6]),(14,[8]),(15,[8]),(18,[6]),(19,[6]),(20,[6]),(21,[8]),(22,[8]),(24,[6]),(25,[6]),(27,[6]),(28,[6]),(30,[6]),(31,[6])] [(26,[8]),(29,[8]),(32,[])] [6,8] [26,29,32] [0,1,2,3,4,5,6,7,8,9,10,11,12,13,14,15,16,17,18,19,20,21,22,23,24,25,26,27,28,29,30,31,32] (.as ((0:Int)<=0/\0<(y1_2:Int)) inferInstance<|.gv 53<|.gv 54<|.gv 55<|.bI 58 (aI (x21.aQ-y1_3)) λx27=>.as ((0:Int)<=0/\0<(y1_2:Int)) inferInstance<|.gv 60<|.gv 61<|.gv 62<|.bI 65 (aI (x21.Value-x24)) λx29=>.as ((0:Int)<=0/\0<(y1_2:Int)) inferInstance<|.gv 67<|.gv 68<|.gv 69<|.bI 72 (aI (x21.bO-x25)) λx31=>.as ((0:Int)<=0/\0<(y1_2:Int)) inferInstance<|.gv 73<|.gv 74<|.bl (y1_4.set (Int.toNat (((y1_1:Nat):Int)+0)) ((⟨x27,x21.Value,x21.bO⟩:aB):aB):List aB) λx33=>.ge 1011026 0<|.as ((0:Int)<=0/\0<(y1_2:Int)) inferInstance<|.gv 75<|.gv 76<|.bl (x33.set (Int.toNat (((y1_1:Nat):Int)+0)) ((⟨x27,x29,x21.bO⟩:aB):aB):List aB) λx35=>.ge 1011029 0<|.as ((0:Int)<=0/\0<(y1_2:Int)) inferInstance<|.gv 77<|.gv 78<|.bl (x35.set (Int.toNat (((y1_1:Nat):Int)+0)) ((⟨x27,x29,x31⟩:aB):aB):List aB) λx37=>.ge 1011032 0<|.ret ((y1_1:Nat),(y1_2:Nat),x37,((⟨y1_3,x24,x25⟩:aB):aB))))) (.as ((0:Int)<=1/\1<=(y1_2:Int)/\(y1_2:Int)<=(y1_2:Int)/\1<(y1_2+1:Int)) inferInstance<|.bl (if (Int.toNat (y1_2:Int))=1 then y1_1 else y1_1+1:Nat) λx39=>.gv 84<|.ret ((x39:Nat),(((Int.toNat (y1_2:Int))-1):Nat),y1_4,x21))) (pw λy3_1 q0=>(pw λy3_2 q1=>(pw λy3_3 y3_4=>.dr [(0,[7]),(1,[7]),(2,[8]),(3,[8]),(5,[7]),(6,[7]),(7,[8]),(8,[8]),(10,[7]),(11,[7]),(12,[8]),(13,[8]),(15,[7]),(17,[7]),(19,[7])] [(16,[8]),(18,[8]),(20,[])] [7,8] [16,18,20] [0,1,2,3,4,5,6,7,8,9,10,11,12,13,14,15,16,17,18,19,20] (.bI 89 (aI (y1_5.aQ+y3_4.aQ)) λx40=>.bI 94 (aI (y1_5.Value+y3_4.Value)) λx41=>.bI 99 (aI (y1_5.bO+y3_4.bO)) λx42=>.bI 106 (aI (y1_3-y3_4.aQ)) λx43=>.brk ((y3_1:Nat),(y3_2:Nat),(x43:Int),y3_3,((⟨x40,x41,x42⟩:aB):aB)))) q1) q0)) (.esc (.ret ((y1_1:Nat),(y1_2:Nat),y1_4,y1_5))))) q2) q1) q0)) (pw λy4_1 q0=>(pw λy4_2 q1=>(pw λy4_3 y4_4=>.dr [(1,[7])] [(3,[])] [7] [3] [0,1,2,3,4] (.ret ((y4_1:Nat),(y4_2:Nat),y4_4,(0:Int),y4_3))) q1) q0)))) (pw λy5_2 q0=>(pw λy5_3 q1=>(pw λy5_4 q2=>(pw λy5_5 y5_6=>.ret ((y5_2:Nat),(y5_3:Nat),y5_4,(y5_5:Int),y5_6)) q2) q1) q0))) (pw λy6_2 q0=>(pw λy6_3 q1=>(pw λy6_4 q2=>(pw λy6_5 y6_6=>.al 9<|.jn 0 [1,2,6,7,8,9,10,11] [1,6,9] [] (λ_ (a:Bool)=>[(33,aF a)]) (λ_ _=>[]) (.bB 28 (decide (y6_5≠0)) λx45=>.ifs [28] x45 (.ret true) (.bB 32 (decide ((y6_3:Int)=0)) λx46=>.ret x46)) (λy7_1=>.ifs [33] y7_1 (.dr [(1,[9])] [(4,[])] [9] [4] [0,1,2,3,4,5] (.as (y6_2+y6_3<=y6_6.length) inferInstance<|.ret (((((y6_6).drop y6_2).take y6_3):List aB),y6_4,(y6_5:Int)))) (.cl 40 (CB n a3 a2) JV FW λx48=>.dr [(1,[6]),(2,[6]),(3,[6]),(4,[9]),(5,[9])] [] [6,9] [] [0,1,2,3,4,5,6,7] (.as ((0:Int)<=0/\0<(y6_3:Int)) inferInstance<|.bo (ix y6_6 (((y6_2:Nat):Int)+0)) λx50=>.gv 44<|.gv 45<|.gv 46<|.bI 49 (aI (x50.Value+y6_4.Value)) λx51=>.jn 0 [6,7,8,9,10,12,13] [1,6,9] [] (λ_ (a:Bool)=>[(56,aF a)]) (λ_ _=>[]) (.bB 51 (decide (x48.2≠0)) λx52=>.ifs [51] x52 (.ret true) (.bB 55 (decide (x48.1>x51)) λx53=>.ret x53)) (λy8_1=>.jn 0 [6,7,8,9,10] [1,6,9] [] (λ_ (a:Int)=>[(12,int a)]) (λ_ _=>[]) (.ifs [56] y8_1 (.ret (x51:Int)) (.ret (x48.1:Int))) (λy9_1=>.dr [(1,[6]),(2,[6]),(3,[6]),(4,[9]),(5,[9]),(9,[6]),(10,[6])] [(11,[])] [6,9] [11] [0,1,2,3,4,5,6,7,8,9,10,11] (.as ((0:Int)<=0/\0<(y6_3:Int)) inferInstance<|.gv 59<|.gv 60<|.gv 61<|.bI 65 (aI (y6_4.Value-y9_1)) λx55=>.bI 66 (aI (x50.Value+x55)) λx56=>.as ((0:Int)<=0/\0<(y6_3:Int)) inferInstance<|.gv 67<|.gv 68<|.bl (y6_6.set (Int.toNat (((y6_2:Nat):Int)+0)) ((⟨x50.aQ,x56,x50.bO⟩:aB):aB):List aB) λx58=>.ge 1010011 0<|.dr [(1,[9])] [(3,[])] [9] [3] [0,1,2,3,4] (.as (y6_2+y6_3<=x58.length) inferInstance<|.ret (((((x58).drop y6_2).take y6_3):List aB),((⟨y6_4.aQ,y9_1,y6_4.bO⟩:aB):aB),(0:Int)))))))))) q2) q1) q0))
def QH (n:Nat) (a1:List aB) (a2:Int) (a3:Int):Option ((List aB)×aB×Int):=(aIK n a1 a2 a3).run
theorem aH6 {n a1 a2 a3}:PZ (QH n a1 a2 a3) 287 [aD 3 aB.av a1,int a2,int a3] (λr=>.aU [aD 3 aB.av r.1,.agg (aB.av r.2.1),int r.2.2]):=by
 refine wm Tryz.func287 ?_
 intro v4
 refine .mk λx5 e5=>?_
 refine .mk λx6=>?_
 refine .mk ?_ ?_
 refine .mk λp7=>?_
 refine .mk _ ⟨λ_=>d9 rfl rfl (.cons rfl .nil) vJ (iK (wU.pc (id:=2) (l:=a1) rfl p7) (.cons (.refl _) .nil)),λ_ _ _=>trivial⟩ ?_
 rintro _ _ ⟨v8,rfl,rfl⟩
 exact .mk (bK.aU (.cons (dH rfl rfl rfl rfl rfl (Eq.symm rfl)) (.cons (.refl _) (.cons (.refl _) .nil))))
 refine .mk ?_ ?_
 intro v9
 refine .mk ?_ ?_
 intro v10
 exact .mk
 intro _ _
 refine .mk trivial ?_
 refine .mk ?_ ?_
 intro v11
 refine .mk λp12=>?_
 refine .mk _ ⟨λ_=>d9 rfl rfl (.cons rfl .nil) vJ (iK (wU.pc (id:=6) (l:=a1) rfl p12) (.cons (.refl _) .nil)),λ_ _ _=>trivial⟩ ?_
 rintro _ _ ⟨v13,rfl,rfl⟩
 refine .mk λx14=>?_
 refine .mk .mk ?_
 refine .mk (λx15 e15=>?_) rfl (by rintro _ rfl;exact (.cons (dH rfl rfl rfl rfl rfl (Eq.symm rfl)) (.cons (.refl _) .nil)))
 refine .mk λx16=>?_
 refine .mk .mk ?_
 intro v17
 refine .mk ?_ ?_
 refine .mk ?_
 rintro ⟨y1_1,y1_2,y1_3,y1_4,y1_5⟩ _
 refine .mk ?_ ?_
 refine .mk λx18=>?_
 refine .mk ?_ ?_
 refine .mk λx19=>?_
 exact .mk
 exact .mk
 intro _ _
 refine .mk ?_ ?_
 refine .mk λp20=>?_
 refine .mk λx21 e21=>?_
 refine .mk _ (bE (jF rfl Tryz.underlying123 iO rfl rfl rfl rfl rfl p20 (List.length_map _) e21)) ?_
 refine .mk _ (bE (dV rfl iO rfl (.pt rfl rfl (cZ e21)) rfl)) ?_
 intro v22
 refine .mk λx23=>?_
 refine .mk ?_ ?_
 refine .mk ?_ ?_
 refine .mk ?_
 refine .mk λx24 e24=>?_
 refine .mk λx25 e25=>?_
 refine .mk ?_
 refine .mk λp26=>?_
 refine .mk _ (λH hH _=>jF rfl Tryz.underlying123 iO rfl rfl ((hH _ (by decide)).trans rfl) rfl rfl p26 (List.length_map _) e21) ?_
 refine .mk _ (λH hH _=>dK rfl CQ rfl (.pt ((hH _ (by decide)).trans rfl) rfl (cZ e21)) (.pt _ _ _ _ _)) ?_
 refine .mk _ (λH hH _=>dV rfl fC rfl (.pt ((hH _ (by decide)).trans rfl) rfl (cZ e21)) rfl) ?_
 refine .mk λx27=>?_
 refine .mk λp28=>?_
 refine .mk _ (λH hH _=>jF rfl Tryz.underlying123 iO rfl rfl ((hH _ (by decide)).trans rfl) rfl rfl p28 (List.length_map _) e21) ?_
 refine .mk _ (λH hH _=>dK rfl sI rfl (.pt ((hH _ (by decide)).trans rfl) rfl (cZ e21)) (.pt _ _ _ _ _)) ?_
 refine .mk _ (λH hH _=>dV rfl fC rfl (.pt ((hH _ (by decide)).trans rfl) rfl (cZ e21)) rfl) ?_
 refine .mk λx29=>?_
 refine .mk λp30=>?_
 refine .mk _ (λH hH _=>jF rfl Tryz.underlying123 iO rfl rfl ((hH _ (by decide)).trans rfl) rfl rfl p30 (List.length_map _) e21) ?_
 refine .mk _ (λH hH _=>dK rfl CU rfl (.pt ((hH _ (by decide)).trans rfl) rfl (cZ e21)) (.pt _ _ _ _ _)) ?_
 refine .mk _ (λH hH _=>dV rfl fC rfl (.pt ((hH _ (by decide)).trans rfl) rfl (cZ e21)) rfl) ?_
 refine .mk λx31=>?_
 refine .mk λp32=>?_
 refine .mk _ (λH hH _=>jF rfl Tryz.underlying123 iO rfl rfl ((hH _ (by decide)).trans rfl) rfl rfl p32 (List.length_map _) e21) ?_
 refine .mk _ (λH hH _=>dK rfl CQ rfl (.pt ((hH _ (by decide)).trans rfl) rfl (cZ e21)) (.pt _ _ _ _ _)) ?_
 refine .mk λx33 e33=>?_
 have fx33:=fP e21 e33;have lx33:=fH e33 (rfl:y1_4.length=y1_4.length)
 refine .mk _ ⟨λ_=>bQ.dM (eO (ob':=(⟨84,3,true,true,_,x33.map aB.av⟩:bC)) (dZ rfl fC rfl rfl rfl rfl rfl (cZ e21) rfl rfl rfl) (eU (iI e33))) (λ_ h=>h) (λ_ _=>trivial),by rintro _ _ ⟨rfl,rfl⟩;exact ⟨rfl,trivial⟩⟩ ?_
 rintro _ _ ⟨rfl,rfl⟩
 refine .mk λp34=>?_
 refine .mk _ (λH hH _=>jF rfl Tryz.underlying123 iO rfl rfl ((hH _ (by decide)).trans rfl) rfl rfl p34 (List.length_map _) fx33) ?_
 refine .mk _ (λH hH _=>dK rfl sI rfl (.pt ((hH _ (by decide)).trans rfl) rfl (cZ fx33)) (.pt _ _ _ _ _)) ?_
 refine .mk λx35 e35=>?_
 have fx35:=fP fx33 e35;have lx35:=fH e35 lx33
 refine .mk _ ⟨λ_=>bQ.dM (eO (ob':=(⟨84,3,true,true,_,x35.map aB.av⟩:bC)) (dZ rfl fC rfl rfl rfl rfl rfl (cZ fx33) rfl rfl rfl) (eU (iI e35))) (λ_ h=>h) (λ_ _=>trivial),by rintro _ _ ⟨rfl,rfl⟩;exact ⟨rfl,trivial⟩⟩ ?_
 rintro _ _ ⟨rfl,rfl⟩
 refine .mk λp36=>?_
 refine .mk _ (λH hH _=>jF rfl Tryz.underlying123 iO rfl rfl ((hH _ (by decide)).trans rfl) rfl rfl p36 (List.length_map _) fx35) ?_
 refine .mk _ (λH hH _=>dK rfl CU rfl (.pt ((hH _ (by decide)).trans rfl) rfl (cZ fx35)) (.pt _ _ _ _ _)) ?_
 refine .mk λx37 e37=>?_
 have fx37:=fP fx35 e37;have lx37:=fH e37 lx35
 refine .mk _ ⟨λ_=>bQ.dM (eO (ob':=(⟨84,3,true,true,_,x37.map aB.av⟩:bC)) (dZ rfl fC rfl rfl rfl rfl rfl (cZ fx35) rfl rfl rfl) (eU (iI e37))) (λ_ h=>h) (λ_ _=>trivial),by rintro _ _ ⟨rfl,rfl⟩;exact trivial⟩ ?_
 rintro _ _ ⟨rfl,rfl⟩
 exact .mk
 refine .mk λp38=>?_
 refine .mk λx39 e39=>?_
 refine .mk _ (bE (VX (len:=y1_2) (i:=1) (j:=(Int.toNat (y1_2:Int))) rfl Tryz.underlying123 iO rfl rfl rfl rfl (.yes rfl (by first | omega | (dsimp only;omega) | (dsimp only at *;omega))) (.yes rfl (by first | omega | (dsimp only;omega) | (dsimp only at *;omega))) (.yes rfl (by first | omega | (dsimp only;omega) | (dsimp only at *;omega))) (by first | omega | (dsimp only;omega) | (dsimp only at *;omega)) (by first | omega | (dsimp only;omega) | (dsimp only at *;omega)) e39)) ?_
 exact .mk
 intro _ _
 refine .mk ?_
 refine .mk λx40=>?_
 refine .mk λx41=>?_
 refine .mk λx42=>?_
 refine .mk λx43=>?_
 exact .mk
 exact .mk
 intro _ _
 refine .mk ?_
 exact .mk
 intro _ _
 refine .mk trivial ?_
 exact .mk
 rintro ⟨y6_2,y6_3,y6_4,y6_5,y6_6⟩ _
 refine .mk trivial ?_
 intro v44
 refine .mk ?_ ?_
 refine .mk λx45=>?_
 refine .mk .mk ?_
 refine .mk λx46=>?_
 exact .mk
 intro _ _
 refine .mk ?_ ?_
 refine .mk ?_
 refine .mk λp47=>?_
 exact .mk (bK.aU (.cons (DK (l:=y6_6) rfl rfl rfl rfl (fD.refl _) (by first | omega | (simp only [List.length_set];omega)) rfl) (.cons (.refl _) (.cons (.refl _) .nil))))
 refine .mk λx48 e48=>?_
 refine .mk ?_
 refine .mk λp49=>?_
 refine .mk λx50 e50=>?_
 refine .mk _ (λH hH _=>jF rfl Tryz.underlying123 iO rfl rfl ((hH _ (by decide)).trans rfl) rfl rfl p49 (List.length_map _) e50) ?_
 refine .mk _ (λH hH _=>dK rfl sI rfl (.pt ((hH _ (by decide)).trans rfl) rfl (cZ e50)) (.pt _ _ _ _ _)) ?_
 refine .mk _ (λH hH _=>dV rfl fC rfl (.pt ((hH _ (by decide)).trans rfl) rfl (cZ e50)) rfl) ?_
 refine .mk λx51=>?_
 refine .mk ?_ ?_
 refine .mk λx52=>?_
 refine .mk .mk ?_
 refine .mk λx53=>?_
 exact .mk
 intro _ _
 refine .mk ?_ ?_
 refine .mk .mk ?_
 exact .mk
 intro _ _
 refine .mk ?_
 refine .mk λp54=>?_
 refine .mk _ (λH hH _=>jF rfl Tryz.underlying123 iO rfl rfl ((hH _ (by decide)).trans rfl) rfl rfl p54 (List.length_map _) e50) ?_
 refine .mk _ (λH hH _=>dK rfl sI rfl (.pt ((hH _ (by decide)).trans rfl) rfl (cZ e50)) (.pt _ _ _ _ _)) ?_
 refine .mk _ (λH hH _=>dV rfl fC rfl (.pt ((hH _ (by decide)).trans rfl) rfl (cZ e50)) rfl) ?_
 refine .mk λx55=>?_
 refine .mk λx56=>?_
 refine .mk λp57=>?_
 refine .mk _ (λH hH _=>jF rfl Tryz.underlying123 iO rfl rfl ((hH _ (by decide)).trans rfl) rfl rfl p57 (List.length_map _) e50) ?_
 refine .mk _ (λH hH _=>dK rfl sI rfl (.pt ((hH _ (by decide)).trans rfl) rfl (cZ e50)) (.pt _ _ _ _ _)) ?_
 refine .mk λx58 e58=>?_
 have fx58:=fP e50 e58;have lx58:=fH e58 (rfl:y6_6.length=y6_6.length)
 refine .mk _ ⟨λ_=>bQ.dM (eO (ob':=(⟨84,3,true,true,_,x58.map aB.av⟩:bC)) (dZ rfl fC rfl rfl rfl rfl rfl (cZ e50) rfl rfl rfl) (eU (iI e58))) (λ_ h=>h) (λ_ _=>trivial),by rintro _ _ ⟨rfl,rfl⟩;exact trivial⟩ ?_
 rintro _ _ ⟨rfl,rfl⟩
 refine .mk ?_
 refine .mk λp59=>?_
 exact .mk (bK.aU (.cons (DK (l:=x58) rfl rfl rfl rfl (fD.refl _) (by first | omega | (simp only [List.length_set];omega)) rfl) (.cons (.refl _) (.cons (.refl _) .nil))))
def aE0 (n:Nat) (a1:Int) (a2:Int) (a3:aM) (a4:Int) (a5:Int):WB (aM×aB×Bool×Int) :=
 .al 1<|.al 2<|.al 3<|.inl 21 PO Tryz.func161 [1,2,3] [] (B:=(Unit)⊕(Unit)⊕(Unit)⊕(Unit)⊕(Unit)) (λu2=>Sum.elim (λa=>.dW 235 (.agg [])) (Sum.elim (λa=>.dW 236 (.agg [])) (Sum.elim (λa=>.dW 237 (.agg [])) (Sum.elim (λa=>.dW 239 (.agg [int a2])) (λa=>.sc .nilIface))))) (λu2=>Sum.elim (λa=>[]) (Sum.elim (λa=>[]) (Sum.elim (λa=>[]) (Sum.elim (λa=>[]) (λa=>[]))))) (.bB 7 (decide (a1=1)) λx9=>.ifs [7] x9 (.gv 9<|.ret (.inl ())) (.bB 11 (decide (a1=2)) λx10=>.ifs [11] x10 (.gv 13<|.ret (.inr (.inl ()))) (.bB 15 (decide (a1=3)) λx11=>.ifs [15] x11 (.gv 17<|.ret (.inr (.inr (.inl ())))) (.bB 19 (decide (a1=4)) λx12=>.ifs [19] x12 (.gv 22<|.ret (.inr (.inr (.inr (.inl ()))))) (.ret (.inr (.inr (.inr (.inr ()))))))))) (Sum.elim (λ_=>.gv 23<|.jn 1 [3,4,7,10,11,12,13,14] [1,2,3] [] (λ_ (a:Bool)=>[(32,aF a)]) (λ_ _=>[]) (.bB 28 (decide (a4<0)) λx13=>.ifs [28] x13 (.ret true) (.bB 31 (decide (a4>3)) λx14=>.ret x14)) (λy5_1=>.ifs [32] y5_1 (.cl 34 (j4 a3) kQ kP λx15=>.ret ((x15:aM),((⟨0,0,0⟩:aB):aB),false,1)) (.al 4<|.al 5<|.inl 37 AX Tryz.func219 [1,2,3,4,5] [] (λ_ (a:Unit)=>aF false) (λ_ _=>[]) (.gv 7<|.al 6<|.ret ()) (λ_=>.iv 54 aNU XW Tryz.func271 [1,2,3,4,5] [] (λ_ (a:aM×aB×Int)=>.aU [.agg [aD 3 aB.av a.1.cO,int a.1.bF.a0,int a.1.bF.a1,int a.1.bF.a2],.agg [int a.2.1.aQ,int a.2.1.Value,int a.2.1.bO],int a.2.2]) (λ_ _=>[]) (.al 12<|.al 13<|.al 14<|.al 15<|.cl 16 (IU n a3.cO a5) II QB λx23=>.al 16<|.dr [(0,[13]),(3,[16])] [(5,[16]),(6,[])] [13,16] [5,6] [0,1,2,3,4,5,6,7] (.cl 22 (rX a3 x23.1) rV wK λx25=>.ret ((x25:aM),x23.2.1,x23.2.2))) (pw λy8_1 q0=>(pw λy8_2 y8_3=>.bB 59 (decide (y8_3≠0)) λx26=>.ifs [59] x26 (.cl 61 (j4 a3) kQ kP λx27=>.ret ((x27:aM),((⟨0,0,0⟩:aB):aB),false,y8_3)) (.dr [(0,[5]),(1,[4])] [(3,[4]),(4,[])] [4,5] [3,4] [0,1,2,3,4,5,6] (.ret ((y8_1:aM),y8_2,false,0)))) q0))))) (Sum.elim (λ_=>.gv 23<|.jn 1 [3,4,7,10,11,12,13,14] [1,2,3] [] (λ_ (a:Bool)=>[(32,aF a)]) (λ_ _=>[]) (.bB 28 (decide (a4<0)) λx28=>.ifs [28] x28 (.ret true) (.bB 31 (decide (a4>3)) λx29=>.ret x29)) (λy5_1=>.ifs [32] y5_1 (.cl 34 (j4 a3) kQ kP λx30=>.ret ((x30:aM),((⟨0,0,0⟩:aB):aB),false,1)) (.al 4<|.al 5<|.inl 37 AX Tryz.func219 [1,2,3,4,5] [] (λ_ (a:Unit)=>aF false) (λ_ _=>[]) (.gv 7<|.al 6<|.ret ()) (λ_=>.iv 54 aHT aAD Tryz.func276 [1,2,3,4,5] [] (λ_ (a:aM×aB×Int)=>.aU [.agg [aD 3 aB.av a.1.cO,int a.1.bF.a0,int a.1.bF.a1,int a.1.bF.a2],.agg [int a.2.1.aQ,int a.2.1.Value,int a.2.1.bO],int a.2.2]) (λ_ _=>[]) (.al 22<|.al 23<|.al 24<|.al 25<|.cl 16 (I1 n a3.cO a5) F5 R7 λx38=>.al 26<|.dr [(0,[23]),(3,[26])] [(5,[26]),(6,[])] [23,26] [5,6] [0,1,2,3,4,5,6,7] (.cl 22 (rX a3 x38.1) rV wK λx40=>.ret ((x40:aM),x38.2.1,x38.2.2))) (pw λy10_1 q0=>(pw λy10_2 y10_3=>.bB 59 (decide (y10_3≠0)) λx41=>.ifs [59] x41 (.cl 61 (j4 a3) kQ kP λx42=>.ret ((x42:aM),((⟨0,0,0⟩:aB):aB),false,y10_3)) (.dr [(0,[5]),(1,[4])] [(3,[4]),(4,[])] [4,5] [3,4] [0,1,2,3,4,5,6] (.ret ((y10_1:aM),y10_2,false,0)))) q0))))) (Sum.elim (λ_=>.gv 23<|.jn 1 [3,4,7,10,11,12,13,14] [1,2,3] [] (λ_ (a:Bool)=>[(32,aF a)]) (λ_ _=>[]) (.bB 28 (decide (a4<0)) λx43=>.ifs [28] x43 (.ret true) (.bB 31 (decide (a4>3)) λx44=>.ret x44)) (λy5_1=>.ifs [32] y5_1 (.cl 34 (j4 a3) kQ kP λx45=>.ret ((x45:aM),((⟨0,0,0⟩:aB):aB),false,1)) (.al 4<|.al 5<|.inl 37 AX Tryz.func219 [1,2,3,4,5] [] (λ_ (a:Unit)=>aF true) (λ_ _=>[]) (.gv 7<|.al 6<|.ret ()) (λ_=>.bB 40 (decide (a4≠3)) λx49=>.jn 1 [7,10,11,12,13,15,16] [1,2,3] [] (λ_ (a:Int×Bool×aB×aM)=>[(17,int a.1),(18,aF a.2.1)]) (λ_ a=>[.kp 4 [[int a.2.2.1.aQ,int a.2.2.1.Value,int a.2.2.1.bO]],.kp 5 [[aD 3 aB.av a.2.2.2.cO,int a.2.2.2.bF.a0,int a.2.2.2.bF.a1,int a.2.2.2.bF.a2]]]) (.ifs [18,40,41,42] x49 (.cl 47 (LK n a3 a4 a5) aOW aI3 λx50=>.ret ((x50.2:Int),true,((⟨0,0,0⟩:aB):aB),x50.1)) (.iv 54 aLW Y0 Tryz.func281 [1,2,3,4,5] [] (λ_ (a:aM×aB×Int)=>.aU [.agg [aD 3 aB.av a.1.cO,int a.1.bF.a0,int a.1.bF.a1,int a.1.bF.a2],.agg [int a.2.1.aQ,int a.2.1.Value,int a.2.1.bO],int a.2.2]) (λ_ _=>[]) (.al 39<|.al 40<|.al 41<|.al 42<|.cl 11 (VF n a3 a5) aOF aAJ λx55=>.ret ((x55.1:aM),x55.2.1,x55.2.2)) (pw λy15_1 q0=>(pw λy15_2 y15_3=>.ret ((y15_3:Int),false,y15_2,y15_1)) q0))) (pw λy13_1 q0=>(pw λy13_2 q1=>(pw λy13_3 y13_4=>.bB 59 (decide (y13_1≠0)) λx56=>.ifs [59] x56 (.cl 61 (j4 a3) kQ kP λx57=>.ret ((x57:aM),((⟨0,0,0⟩:aB):aB),false,y13_1)) (.dr [(0,[5]),(1,[4])] [(3,[4]),(4,[])] [4,5] [3,4] [0,1,2,3,4,5,6] (.ret ((y13_4:aM),y13_3,y13_2,0)))) q1) q0))))) (Sum.elim (λ_=>.gv 23<|.jn 1 [3,4,7,10,11,12,13,14] [1,2,3] [] (λ_ (a:Bool)=>[(32,aF a)]) (λ_ _=>[]) (.bB 28 (decide (a4<0)) λx58=>.ifs [28] x58 (.ret true) (.bB 31 (decide (a4>3)) λx59=>.ret x59)) (λy5_1=>.ifs [32] y5_1 (.cl 34 (j4 a3) kQ kP λx60=>.ret ((x60:aM),((⟨0,0,0⟩:aB):aB),false,1)) (.al 4<|.al 5<|.inl 37 AX Tryz.func219 [1,2,3,4,5] [] (λ_ (a:Unit)=>aF false) (λ_ _=>[]) (.gv 7<|.al 6<|.ret ()) (λ_=>.iv 54 aI9 aJD Tryz.func285 [1,2,3,4,5] [] (λ_ (a:aM×aB×Int)=>.aU [.agg [aD 3 aB.av a.1.cO,int a.1.bF.a0,int a.1.bF.a1,int a.1.bF.a2],.agg [int a.2.1.aQ,int a.2.1.Value,int a.2.1.bO],int a.2.2]) (λ_ _=>[]) (.al 48<|.al 49<|.al 50<|.al 51<|.cl 18 (QH n a3.cO a5 a2) aN7 aH6 λx68=>.al 52<|.dr [(0,[49]),(3,[52])] [(5,[52]),(6,[])] [49,52] [5,6] [0,1,2,3,4,5,6,7] (.cl 24 (rX a3 x68.1) rV wK λx70=>.ret ((x70:aM),x68.2.1,x68.2.2))) (pw λy17_1 q0=>(pw λy17_2 y17_3=>.bB 59 (decide (y17_3≠0)) λx71=>.ifs [59] x71 (.cl 61 (j4 a3) kQ kP λx72=>.ret ((x72:aM),((⟨0,0,0⟩:aB):aB),false,y17_3)) (.dr [(0,[5]),(1,[4])] [(3,[4]),(4,[])] [4,5] [3,4] [0,1,2,3,4,5,6] (.ret ((y17_1:aM),y17_2,false,0)))) q0))))) (λ_=>.gv 23<|.cl 25 (j4 a3) kQ kP λx73=>.ret ((x73:aM),((⟨0,0,0⟩:aB):aB),false,12))))))
def KL (n:Nat) (a1:Int) (a2:Int) (a3:aM) (a4:Int) (a5:Int):Option (aM×aB×Bool×Int):=(aE0 n a1 a2 a3 a4 a5).run
theorem ZJ {n a1 a2 a3 a4 a5}:PZ (KL n a1 a2 a3 a4 a5) 177 [int a1,int a2,.agg (aM.av a3),int a4,int a5] (λr=>.aU [.agg (aM.av r.1),.agg (aB.av r.2.1),aF r.2.2.1,int r.2.2.2]):=wq Tryz.func177
def aNC (n:Nat) (a1:aA) (a2:Int) (a3:Int) (a4:Int) (a5:Int) (a6:Int):WB (aA×aB×Bool×Int) :=
 .al 1<|.al 2<|.al 3<|.cl 24 (zN a1 a2 a3 a4) I8 FX λx10=>.bB 26 (decide (x10<0)) λx11=>.ifs [26] x11 (.ret ((a1:aA),((⟨0,0,0⟩:aB):aB),false,4)) (.dr [(0,[1]),(1,[1]),(2,[1]),(9,[1]),(10,[1]),(11,[1]),(18,[1]),(19,[1])] [(36,[]),(37,[])] [1] [35,36,37] [0,1,2,3,4,5,6,7,8,9,10,11,12,13,14,15,16,17,18,19,20,21,22,23,24,25,26,27,28,29,30,31,32,33,34,35,36,37,38,39] (.ix 34 (fL 1 fI) a1.bA.Methods a2 λx12=>.ix 37 fI x12 a3 λx13=>.ix 43 (fL 1 fI) a1.bA.dN a2 λx14=>.ix 46 fI x14 a3 λx15=>.gI 51 aP.av gE aP.bW a1.aW a2 λx16=>.ix 55 aM.av x16.dD x10 λx17=>.cl 59 (KL n x13 x15 x17 a5 a6) ZX ZJ λx18=>.al 4<|.bB 14 (x18.2.2.1) λx20=>.bB 65 (decide (x18.2.2.2≠0)) λx21=>.ifs [65] x21 (.ret ((a1:aA),((⟨0,0,0⟩:aB):aB),false,x18.2.2.2)) (.al 5<|.inl 74 P4 Tryz.func90 [1,2,3,4] [7,8] (λ_ (a:Int×Bool×(List Int)×(List bM)×(List Int)×(List Int)×(List aP)×(List aM))=>.aU []) (λu4 a=>[.kp 5 [[int a1.bA.eH,int a1.bA.fA,aD 1 fI a1.bA.cB,aD 1 (fL 1 fI) a1.bA.Methods,aD 1 (fL 1 fI) a1.bA.dN,.sl 7 (u4 7) 0 a1.aW.length,aD 8 bH.av a1.bP,aD 9 bS.av a1.bU,aD 6 dB.av a1.bY,int a1.Done]],.nw 7 42 8 ((a1.aW.map aP.av).set (Int.toNat a2) [int a.1,aF a.2.1,.sl 8 (u4 8) 0 a.2.2.2.2.2.2.2.length,aD 1 fI a.2.2.1,aD 11 bM.av a.2.2.2.1,aD 1 fI a.2.2.2.2.1,aD 1 fI a.2.2.2.2.2.1,aD 8 aP.av a.2.2.2.2.2.2.1]),.nw 8 126 4 (a.2.2.2.2.2.2.2.map aM.av)]) (.al 6<|.inl 11 zQ Tryz.func95 [1,2,3,4,6] [7] (λu6 (a:Unit)=>.pt 7 (u6 7) (Int.toNat a2) 0) (λu6 _=>[.kp 5 [[int a1.bA.eH,int a1.bA.fA,aD 1 fI a1.bA.cB,aD 1 (fL 1 fI) a1.bA.Methods,aD 1 (fL 1 fI) a1.bA.dN,.sl 7 (u6 7) 0 a1.aW.length,aD 8 bH.av a1.bP,aD 9 bS.av a1.bU,aD 6 dB.av a1.bY,int a1.Done]],.nw 7 42 8 (a1.aW.map aP.av)]) (.as (a1.aW.length<=68719476736) inferInstance<|.ge 11 7<|.bo (ix a1.aW a2) λx26=>.gv 21<|.ret ()) (λ_=>.bo (ix a1.aW a2) λx27=>.gv 14<|.gv 15<|.gv 16<|.as (x27.dD.length<=68719476736) inferInstance<|.ge 17 8<|.gv 18<|.gv 19<|.ge 1002008 0<|.dr [(1,[7]),(2,[7]),(3,[7]),(5,[6]),(6,[8])] [(7,[])] [6,7,8] [7] [0,1,2,3,4,5,6,7] (.gv 21<|.gv 22<|.gv 23<|.bo (ix x27.dD x10) λx30=>.gv 26<|.bl (x27.dD.set (Int.toNat x10) x18.1:List aM) λx31=>.ge 1003007 0<|.ret ((x27.dS:Int),(x27.Closed:Bool),(x27.dU:List Int),(x27.dI:List bM),(x27.dO:List Int),(x27.Down:List Int),(x27.eT:List aP),x31)))) (pw λy1_2 q0=>(pw λy1_3 q1=>(pw λy1_5 q2=>(pw λy1_6 q3=>(pw λy1_7 q4=>(pw λy1_8 q5=>(pw λy1_9 y1_10=>.bo (ix a1.aW a2) λx32=>.dr [(0,[5]),(1,[5]),(2,[3])] [(4,[3]),(5,[])] [3,5] [4,5] [0,1,2,3,4,5,6,7] (.ret (((⟨a1.bA,(a1.aW.set (Int.toNat a2) (⟨y1_2,y1_3,y1_10,y1_5,y1_6,y1_7,y1_8,y1_9⟩:aP)),a1.bP,a1.bU,a1.bY,a1.Done⟩:aA):aA),x18.2.1,x20,0))) q5) q4) q3) q2) q1) q0))))
def rR (n:Nat) (a1:aA) (a2:Int) (a3:Int) (a4:Int) (a5:Int) (a6:Int):Option (aA×aB×Bool×Int):=(aNC n a1 a2 a3 a4 a5 a6).run
theorem wP {n a1 a2 a3 a4 a5 a6}:PZ (rR n a1 a2 a3 a4 a5 a6) 100 [.agg (aA.av a1),int a2,int a3,int a4,int a5,int a6] (λr=>.aU [.agg (aA.av r.1),.agg (aB.av r.2.1),aF r.2.2.1,int r.2.2.2]):=by
 refine wm Tryz.func100 ?_
 intro v7
 intro v8
 intro v9
 refine .mk λx10 e10=>?_
 refine .mk λx11=>?_
 refine .mk .mk ?_
 refine .mk ?_
 refine .mk λx12 e12=>?_
 refine .mk λx13 e13=>?_
 refine .mk λx14 e14=>?_
 refine .mk λx15 e15=>?_
 refine .mk λx16 e16=>?_
 refine .mk λx17 e17=>?_
 refine .mk λx18 e18=>?_
 intro v19
 refine .mk λx20=>?_
 refine .mk λx21=>?_
 refine .mk .mk ?_
 intro v22
 refine .mk ?_ ?_
 intro v23
 refine .mk ?_ ?_
 refine .mk λp24=>?_
 refine .mk _ ⟨λ_=>d9 rfl rfl (.cons rfl .nil) vX (iK (vQ.pc (id:=7) (l:=a1.aW) rfl p24) (.cons (.refl _) .nil)),λ_ _ _=>trivial⟩ ?_
 rintro _ _ ⟨v25,rfl,rfl⟩
 refine .mk λx26 e26=>?_
 refine .mk _ (bE (eB rfl Tryz.underlying26 jE rfl rfl rfl rfl rfl (Eq.symm rfl) (List.length_map _) e26)) ?_
 exact .mk
 intro _ _
 refine .mk trivial ?_
 refine .mk λx27 e27=>?_
 refine .mk _ (bE (iH rfl rfl (.pt rfl rfl (dR e27 (aP.bW _))))) ?_
 refine .mk _ (bE (dK rfl l6 rfl (.pt rfl rfl (dR e27 (aP.bW _))) (.pt _ _ _ _ _))) ?_
 refine .mk _ (bE (dV rfl mH rfl (.pt rfl rfl (dR e27 (aP.bW _))) rfl)) ?_
 refine .mk λp28=>?_
 refine .mk _ ⟨λ_=>d9 rfl rfl (.cons rfl .nil) C4 (iK (AR.pc (id:=8) (l:=x27.dD) rfl p28) (.cons (.refl _) .nil)),λ_ _ _=>trivial⟩ ?_
 rintro _ _ ⟨v29,rfl,rfl⟩
 refine .mk _ (bE (iH rfl rfl (.pt rfl rfl (dR e27 (aP.bW _))))) ?_
 refine .mk _ (bE (dK rfl l6 rfl (.pt rfl rfl (dR e27 (aP.bW _))) (.pt _ _ _ _ _))) ?_
 refine .mk _ ⟨λ_=>bQ.dM (eO (ob':=(⟨42,8,true,true,_,(a1.aW.map aP.av).set (Int.toNat a2) [int x27.dS,aF x27.Closed,.sl 8 v29 0 x27.dD.length,aD 1 fI x27.dU,aD 11 bM.av x27.dI,aD 1 fI x27.dO,aD 1 fI x27.Down,aD 8 aP.av x27.eT]⟩:bC)) (dZ rfl mH rfl rfl rfl rfl rfl (dR e27 (aP.bW _)) rfl rfl rfl) (eU rfl)) (λ_ h=>h) (λ_ _=>trivial),λ_ _ _=>trivial⟩ ?_
 rintro _ _ ⟨rfl,rfl⟩
 refine .mk ?_
 refine .mk _ (λH hH _=>iH rfl rfl (.pt ((hH _ (by decide)).trans rfl) rfl (eY e27))) ?_
 refine .mk _ (λH hH _=>dK rfl l6 rfl (.pt ((hH _ (by decide)).trans rfl) rfl (eY e27)) (.pt _ _ _ _ _)) ?_
 refine .mk _ (λH hH _=>dV rfl mH rfl (.pt ((hH _ (by decide)).trans rfl) rfl (eY e27)) rfl) ?_
 refine .mk λx30 e30=>?_
 refine .mk _ (λH hH _=>eB rfl Tryz.underlying39 qG rfl rfl ((hH _ (by decide)).trans rfl) rfl rfl (Eq.symm rfl) (List.length_map _) e30) ?_
 refine .mk λx31 e31=>?_
 have fx31:=fP e30 e31;have lx31:=fH e31 (rfl:x27.dD.length=x27.dD.length)
 refine .mk _ ⟨λ_=>bQ.dM (eO (ob':=(⟨126,4,true,true,_,x31.map aM.av⟩:bC)) (dZ rfl qG rfl rfl rfl rfl rfl (cZ e30) rfl rfl rfl) (eU (iI e31))) (λ_ h=>h) (λ_ _=>trivial),by rintro _ _ ⟨rfl,rfl⟩;exact trivial⟩ ?_
 rintro _ _ ⟨rfl,rfl⟩
 exact .mk rfl ⟨rfl,(by first | rfl | exact lx31 ▸ rfl),rfl,rfl,rfl,rfl,rfl,trivial⟩
 intro _ _
 refine .mk trivial ?_
 refine .mk λx32 e32=>?_
 refine .mk ?_
 exact .mk (bK.aU (.cons (bK.agg (.cons (.refl _) (.cons (.refl _) (.cons (.refl _) (.cons (.refl _) (.cons (.refl _) (.cons (kZ rfl rfl rfl rfl rfl (Eq.symm rfl) e32 (lW (.cons (.refl _) (.cons (.refl _) (.cons (dH rfl rfl rfl rfl rfl (Eq.symm rfl)) (.cons (.refl _) (.cons (.refl _) (.cons (.refl _) (.cons (.refl _) (.cons (.refl _) .nil)))))))) (aP.bW _))) (.cons (.refl _) (.cons (.refl _) (.cons (.refl _) (.cons (.refl _) .nil))))))))))) (.cons (.refl _) (.cons (.refl _) (.cons (.refl _) .nil)))))
def aGP (a1:Int) (a2:Int):WB (aH) :=
 .al 1<|.ret (((⟨a1,a2⟩:aH):aH))
def lU (a1:Int) (a2:Int):Option (aH):=(aGP a1 a2).run
theorem mF {a1 a2}:PZ (lU a1 a2) 101 [int a1,int a2] (λr=>.agg (aH.av r)):=wq Tryz.func101
def aFY (n:Nat) (a1:aA) (a2:aS):WB (aA×Int) :=
 .al 1<|.al 2<|.al 3<|.ln 12 bS.av a1.bU<|.bB 13 (decide ((a1.bU.length:Int)>=40)) λx6=>.ifs [13] x6 (.ret ((a1:aA),6)) (.cl 25 (rR n a1 a2.E a2.Item a2.Loc 0 a2.aQ) vS wP λx7=>.al 4<|.al 5<|.bB 31 (decide (x7.2.2.2≠0)) λx10=>.ifs [31] x10 (.ret ((a1:aA),x7.2.2.2)) (.dr [(0,[4]),(1,[2]),(2,[2]),(3,[2]),(4,[2]),(6,[2]),(7,[2]),(10,[5]),(11,[5]),(13,[5]),(14,[5])] [(22,[])] [2,4,5] [22] [0,1,2,3,4,5,6,7,8,9,10,11,12,13,14,15,16,17,18,19,20,21,22,23] (.cl 40 (lU 3 a2.bD) mM mF λx11=>.bI 43 (aI (0-a2.bD)) λx12=>.cl 44 (lU 4 x12) mM mF λx13=>.cl 47 (lU 5 x7.2.1.Value) mM mF λx14=>.bI 50 (aI (0-x7.2.1.Value)) λx15=>.cl 51 (lU 0 x15) mM mF λx16=>.to 52 (aD 2 aH.av ([x11,x13,x14,x16]:List aH))<|.cl 53 (oN n x7.1 a2.E ([x11,x13,x14,x16]:List aH)) qC qN λx17=>.bB 57 (decide (x17.2≠0)) λx18=>.ifs [57] x18 (.ret ((a1:aA),x17.2)) (.cl 69 (qD x17.1 a2.E a2.Item (⟨0,0,0,0,0,x7.2.1.Value,0,0,0,0,0⟩:bM)) sH sO λx19=>.bB 73 (decide (x19.2≠0)) λx20=>.ifs [73] x20 (.ret ((a1:aA),x19.2)) (.dr [(0,[4]),(1,[4]),(3,[2]),(4,[2]),(5,[2]),(6,[2]),(7,[2]),(8,[2]),(9,[2]),(10,[2]),(11,[5]),(12,[5]),(13,[5]),(14,[5]),(15,[1]),(16,[1]),(17,[2]),(18,[2]),(26,[4])] [(2,[1,2,5]),(25,[]),(27,[])] [1,2,4,5] [2,25,27] [0,1,3,4,5,6,7,8,9,10,11,12,13,14,15,16,17,18,19,20,21,22,23,24,2,25,26,27] (.gI 95 aP.av gE aP.bW a1.aW a2.E λx21=>.bB 98 (x7.2.2.1) λx22=>.to 100 (aD 9 bS.av ([(⟨a2.E,a2.Item,a2.Loc,a2.aQ,0,x7.2.1.Value,x7.2.1.bO,x21.dS,x22⟩:bS)]:List bS))<|.as (x19.1.bU.length<=68719476736) inferInstance<|.ge 78 6<|.bl (x19.1.bU++([(⟨a2.E,a2.Item,a2.Loc,a2.aQ,0,x7.2.1.Value,x7.2.1.bO,x21.dS,x22⟩:bS)]:List bS):List bS) λx25=>.as (x25.length<=68719476736) inferInstance<|.ge 101 0<|.ret (((⟨x19.1.bA,x19.1.aW,x19.1.bP,x25,x19.1.bY,x19.1.Done⟩:aA):aA),0)))))))
def OX (n:Nat) (a1:aA) (a2:aS):Option (aA×Int):=(aFY n a1 a2).run
theorem aHA {n a1 a2}:PZ (OX n a1 a2) 53 [.agg (aA.av a1),.agg (aS.av a2)] (λr=>.aU [.agg (aA.av r.1),int r.2]):=wq Tryz.func53
def aCM (a1:aM) (a2:Int) (a3:Int):WB (aM×Int) :=
 .al 1<|.al 2<|.cl 11 (rG a1 a1.cO) vC vY λx6=>.dF 0 [2,3,6,7] [1,2] [] (λ_ (a:Int)=>[(1,int a)]) (λ_ _=>[]) (.jn 1 [1,2,3,6,7] [1,2] [] (λ_ (a:Bool)=>[(12,aF a)]) (λ_ _=>[]) (.cl 14 (EK a2) PL UC λx7=>.bB 15 (!x7) λx8=>.ifs [15] x8 (.ret true) (.bB 18 (decide (a3<1)) λx9=>.ret x9)) (λy0_1=>.ifs [12] y0_1 (.esc (.ret ((x6:aM),1))) (.sp [1] a2 0 (.gv 25<|.bB 27 (decide (a3>x6.bF.a0)) λx12=>.ifs [27] x12 (.esc (.ret ((x6:aM),5))) (.brk 0)) (.sp [1] a2 1 (.gv 25<|.bB 27 (decide (a3>x6.bF.a1)) λx11=>.ifs [27] x11 (.esc (.ret ((x6:aM),5))) (.brk 1)) (.sa [1] a2 2 (.gv 25<|.bB 27 (decide (a3>x6.bF.a2)) λx10=>.ifs [27] x10 (.esc (.ret ((x6:aM),5))) (.brk 2))))))) (λy1_1=>.sp [1] y1_1 0 (.gv 31<|.bI 34 (aI (x6.bF.a0-a3)) λx15=>.gv 36<|.ret (((⟨x6.cO,(⟨x15,x6.bF.a1,x6.bF.a2⟩:gJ)⟩:aM):aM),0)) (.sp [1] y1_1 1 (.gv 31<|.bI 34 (aI (x6.bF.a1-a3)) λx14=>.gv 36<|.ret (((⟨x6.cO,(⟨x6.bF.a0,x14,x6.bF.a2⟩:gJ)⟩:aM):aM),0)) (.sa [1] y1_1 2 (.gv 31<|.bI 34 (aI (x6.bF.a2-a3)) λx13=>.gv 36<|.ret (((⟨x6.cO,(⟨x6.bF.a0,x6.bF.a1,x13⟩:gJ)⟩:aM):aM),0)))))
def K3 (a1:aM) (a2:Int) (a3:Int):Option (aM×Int):=(aCM a1 a2 a3).run
theorem aER {a1 a2 a3}:PZ (K3 a1 a2 a3) 103 [.agg (aM.av a1),int a2,int a3] (λr=>.aU [.agg (aM.av r.1),int r.2]):=wq Tryz.func103
def aAL (n:Nat) (a1:aA) (a2:aS):WB (aA×Int) :=
 .al 1<|.al 2<|.al 3<|.dr [(0,[1]),(1,[2]),(2,[2]),(3,[2]),(4,[2]),(5,[2]),(6,[2]),(8,[2]),(9,[2])] [(15,[])] [1,2] [14,15] [0,1,2,3,4,5,6,7,8,9,10,11,12,13,14,15,16] (.cl 18 (yG a1 a2.E a2.Item a2.Loc) zM BV λx6=>.cl 21 (K3 x6 0 a2.aQ) aAQ aER λx7=>.al 4<|.bB 25 (decide (x7.2≠0)) λx9=>.ifs [25] x9 (.ret ((a1:aA),x7.2)) (.dr [(0,[1]),(1,[2]),(2,[2]),(3,[2]),(4,[2]),(6,[2]),(7,[2])] [(16,[])] [1,2] [15,16] [0,1,2,3,4,5,6,7,8,9,10,11,12,13,14,15,16,17] (.cl 34 (lU 4 a2.bD) mM mF λx10=>.bI 37 (aI (0-a2.bD)) λx11=>.cl 38 (lU 3 x11) mM mF λx12=>.to 39 (aD 2 aH.av ([x10,x12]:List aH))<|.cl 40 (oN n a1 a2.E ([x10,x12]:List aH)) qC qN λx13=>.al 5<|.bB 44 (decide (x13.2≠0)) λx15=>.ifs [44] x15 (.ret ((a1:aA),x13.2)) (.as (x13.1.aW.length<=68719476736) inferInstance<|.ge 49 6<|.bo (ix x13.1.aW a2.E) λx18=>.gv 55<|.gv 58<|.gv 59<|.gv 60<|.as (x18.dD.length<=68719476736) inferInstance<|.ge 61 7<|.gv 62<|.gv 63<|.ge 1009008 0<|.dr [(1,[6]),(2,[6]),(3,[6]),(4,[2]),(5,[2]),(7,[2]),(8,[2]),(10,[4]),(11,[7])] [(12,[])] [2,4,6,7] [12] [0,1,2,3,4,5,6,7,8,9,10,11,12] (.gv 65<|.gv 66<|.gv 67<|.bI 70 (aI (a2.Item*2)) λx21=>.bI 73 (aI (x21+a2.Loc)) λx22=>.bo (ix x18.dD x22) λx23=>.gv 75<|.bl (x18.dD.set (Int.toNat x22) x7.1:List aM) λx24=>.ge 1010012 0<|.dr [(0,[2]),(1,[2]),(3,[8]),(4,[8]),(5,[8]),(6,[2]),(7,[2]),(9,[8]),(10,[8])] [(2,[2]),(11,[])] [2,8] [2,11] [0,1,6,7,2,3,4,5,8,9,10,11] (.inl 78 VP Tryz.func106 [1,2,3,4,6,7] [8] (λu2 (a:Unit)=>.pt 8 (u2 8) (Int.toNat a2.Ref) 0) (λu2 _=>[.kp 5 [[int x13.1.bA.eH,int x13.1.bA.fA,aD 1 fI x13.1.bA.cB,aD 1 (fL 1 fI) x13.1.bA.Methods,aD 1 (fL 1 fI) x13.1.bA.dN,.sl 6 (u2 6) 0 x13.1.aW.length,aD 8 bH.av x13.1.bP,.sl 8 (u2 8) 0 x13.1.bU.length,aD 6 dB.av x13.1.bY,int x13.1.Done]],.nw 8 81 9 (x13.1.bU.map bS.av)]) (.as (x13.1.bU.length<=68719476736) inferInstance<|.ge 10 8<|.bo (ix x13.1.bU a2.Ref) λx27=>.gv 18<|.ret ()) (λ_=>.bo (ix x13.1.bU a2.Ref) λx28=>.gv 79<|.gv 80<|.gv 81<|.bI 84 (aI (x28.fF+a2.aQ)) λx29=>.gv 85<|.gv 86<|.bl (x13.1.bU.set (Int.toNat a2.Ref) ((⟨x28.dG,x28.Item,x28.Loc,x28.aQ,x29,x28.qV,x28.bO,x28.jW,x28.jY⟩:bS):bS):List bS) λx30=>.ge 1011011 0<|.ret (((⟨x13.1.bA,(x13.1.aW.set (Int.toNat a2.E) (⟨x18.dS,x18.Closed,x24,x18.dU,x18.dI,x18.dO,x18.Down,x18.eT⟩:aP)),x13.1.bP,x30,x13.1.bY,x13.1.Done⟩:aA):aA),0))))))))
def RI (n:Nat) (a1:aA) (a2:aS):Option (aA×Int):=(aAL n a1 a2).run
theorem aMZ {n a1 a2}:PZ (RI n a1 a2) 54 [.agg (aA.av a1),.agg (aS.av a2)] (λr=>.aU [.agg (aA.av r.1),int r.2]):=wq Tryz.func54
def aGM (n:Nat) (a1:aA) (a2:aS) (a3:bS):WB (aA×Int) :=
 .al 1<|.al 2<|.al 3<|.al 4<|.dr [(0,[3]),(1,[3]),(2,[2]),(3,[2]),(4,[3]),(5,[3]),(6,[3]),(7,[3]),(10,[3]),(11,[3]),(12,[2]),(13,[2]),(14,[3]),(15,[3]),(16,[3]),(17,[3])] [] [2,3] [] [0,1,2,3,4,5,6,7,8,9,10,11,12,13,14,15,16,17,18,19,20,21] (.bI 23 (aI (a3.aQ-a3.fF)) λx8=>.cl 24 (mX n a3.qV a2.aQ x8) nN nU λx9=>.bI 33 (aI (a3.aQ-a3.fF)) λx10=>.cl 34 (mX n a3.bO a2.aQ x10) nN nU λx11=>.cl 48 (uU n a1 a2.E a2.Item a2.Loc (⟨a2.aQ,x9,x11⟩:aB)) y9 yA λx12=>.al 5<|.bB 54 (decide (x12.2.2.2≠0)) λx14=>.ifs [54] x14 (.ret ((a1:aA),x12.2.2.2)) (.dr [(0,[5]),(1,[2]),(2,[2]),(10,[2]),(11,[2]),(13,[2]),(14,[2])] [(22,[])] [2,5] [22] [0,1,2,3,4,5,6,7,8,9,10,11,12,13,14,15,16,17,18,19,20,21,22,23] (.cl 62 (lU 0 x12.2.1) mM mF λx15=>.cl 64 (lU 6 x12.2.2.1) mM mF λx16=>.bI 66 (aI (0-x9)) λx17=>.cl 67 (lU 5 x17) mM mF λx18=>.cl 70 (lU 4 a2.bD) mM mF λx19=>.bI 73 (aI (0-a2.bD)) λx20=>.cl 74 (lU 3 x20) mM mF λx21=>.to 75 (aD 2 aH.av ([x15,x16,x18,x19,x21]:List aH))<|.cl 76 (oN n x12.1 a2.E ([x15,x16,x18,x19,x21]:List aH)) qC qN λx22=>.bB 80 (decide (x22.2≠0)) λx23=>.ifs [80] x23 (.ret ((a1:aA),x22.2)) (.cl 91 (qD x22.1 a2.E a2.Item (⟨0,0,0,0,x12.2.1,0,0,0,0,0,0⟩:bM)) sH sO λx24=>.bB 95 (decide (x24.2≠0)) λx25=>.ifs [95] x25 (.ret ((a1:aA),x24.2)) (.inl 100 VP Tryz.func106 [1,2,3,4] [6] (λu2 (a:Unit)=>.pt 6 (u2 6) (Int.toNat a2.Ref) 0) (λu2 _=>[.kp 5 [[int x24.1.bA.eH,int x24.1.bA.fA,aD 1 fI x24.1.bA.cB,aD 1 (fL 1 fI) x24.1.bA.Methods,aD 1 (fL 1 fI) x24.1.bA.dN,aD 8 aP.av x24.1.aW,aD 8 bH.av x24.1.bP,.sl 6 (u2 6) 0 x24.1.bU.length,aD 6 dB.av x24.1.bY,int x24.1.Done]],.nw 6 81 9 (x24.1.bU.map bS.av)]) (.as (x24.1.bU.length<=68719476736) inferInstance<|.ge 10 6<|.bo (ix x24.1.bU a2.Ref) λx28=>.gv 18<|.ret ()) (λ_=>.dr [(4,[6]),(5,[6]),(6,[6]),(10,[6]),(11,[6]),(12,[6]),(16,[6]),(17,[6]),(18,[6]),(19,[2]),(20,[2]),(22,[6]),(23,[6]),(25,[6]),(26,[6]),(28,[6]),(29,[6])] [(24,[2]),(27,[2]),(30,[])] [2,6] [24,27,30] [0,1,2,3,4,5,6,7,8,9,10,11,12,13,14,15,16,17,18,19,20,21,22,23,24,25,26,27,28,29,30] (.bo (ix x24.1.bU a2.Ref) λx29=>.gv 105<|.gv 106<|.gv 107<|.bI 109 (aI (x29.qV-x9)) λx30=>.gv 111<|.gv 112<|.gv 113<|.bI 115 (aI (x29.bO-x11)) λx31=>.gv 117<|.gv 118<|.gv 119<|.bI 122 (aI (x29.fF+a2.aQ)) λx32=>.gv 123<|.gv 124<|.bl (x24.1.bU.set (Int.toNat a2.Ref) ((⟨x29.dG,x29.Item,x29.Loc,x29.aQ,x29.fF,x30,x29.bO,x29.jW,x29.jY⟩:bS):bS):List bS) λx33=>.ge 1012024 0<|.gv 125<|.gv 126<|.bl (x33.set (Int.toNat a2.Ref) ((⟨x29.dG,x29.Item,x29.Loc,x29.aQ,x29.fF,x30,x31,x29.jW,x29.jY⟩:bS):bS):List bS) λx34=>.ge 1012027 0<|.gv 127<|.gv 128<|.bl (x34.set (Int.toNat a2.Ref) ((⟨x29.dG,x29.Item,x29.Loc,x29.aQ,x32,x30,x31,x29.jW,x29.jY⟩:bS):bS):List bS) λx35=>.ge 1012030 0<|.ret (((⟨x24.1.bA,x24.1.aW,x24.1.bP,x35,x24.1.bY,x24.1.Done⟩:aA):aA),0))))))))
def NA (n:Nat) (a1:aA) (a2:aS) (a3:bS):Option (aA×Int):=(aGM n a1 a2 a3).run
theorem aET {n a1 a2 a3}:PZ (NA n a1 a2 a3) 55 [.agg (aA.av a1),.agg (aS.av a2),.agg (bS.av a3)] (λr=>.aU [.agg (aA.av r.1),int r.2]):=wq Tryz.func55
def WU (n:Nat) (a1:aA) (a2:aS):WB (aA×Int) :=
 .al 1<|.al 2<|.al 3<|.al 4<|.dF 3 [2,3,4,5,6] [1,3] [] (λ_ (a:aS×bS)=>[]) (λ_ a=>[.kp 2 [(aS.av a.1)],.kp 4 [[int a.2.dG,int a.2.Item,int a.2.Loc,int a.2.aQ,int a.2.fF,int a.2.qV,int a.2.bO,int a.2.jW,aF a.2.jY]]]) (.bB 13 (decide (a2.Kind=5)) λx7=>.ifs [13] x7 (.jn 2 [2,3,4,5,6] [1,2,3,4] [] (λ_ (a:Bool)=>[(26,aF a)]) (λ_ _=>[]) (.bB 18 (decide (a2.Ref<0)) λx8=>.ifs [18] x8 (.ret true) (.ln 24 bS.av a1.bU<|.bB 25 (decide (a2.Ref>=(a1.bU.length:Int))) λx9=>.ret x9)) (λy0_1=>.ifs [26] y0_1 (.esc (.ret ((a1:aA),4))) (.ix 32 bS.av a1.bU a2.Ref λx10=>.dr [(0,[4]),(1,[4]),(2,[4]),(3,[4]),(4,[4]),(5,[4]),(6,[2]),(8,[2]),(10,[2])] [(7,[4]),(9,[4]),(11,[])] [2,4] [7,9,11] [0,1,2,3,4,5,6,7,8,9,10,11] (.brk (((⟨a2.Kind,x10.dG,x10.Item,x10.Loc,a2.To,a2.aQ,a2.bD,a2.Ref,a2.bT⟩:aS):aS),x10))))) (.bB 15 (decide (a2.Kind=4)) λx11=>.ifs [15] x11 (.brk ((a2:aS),((⟨0,0,0,0,0,0,0,0,false⟩:bS):bS))) (.esc (.ret ((a1:aA),1))))) (pw λy1_1 y1_2=>.cl 48 (lH a1 y1_1.E y1_1.Item) mI mU λx12=>.bB 50 (decide (x12≠0)) λx13=>.ifs [50] x13 (.ret ((a1:aA),x12)) (.al 5<|.jn 0 [2,4,5,8] [1,3] [] (λ_ (a:Int×aA)=>[(9,int a.1)]) (λ_ a=>[.kp 5 [(aA.av a.2)]]) (.bB 65 (decide (y1_1.Kind=4)) λx15=>.ifs [65] x15 (.cl 69 (OX n a1 y1_1) aID aHA λx16=>.ret ((x16.2:Int),x16.1)) (.bI 79 (aI (y1_2.aQ-y1_2.fF)) λx17=>.bB 80 (decide (y1_1.aQ>x17)) λx18=>.ifs [80] x18 (.ret ((5:Int),a1)) (.jn 1 [2,3,4,5,6,8,9] [1,2,3,4,5] [] (λ_ (a:Bool)=>[(81,aF a)]) (λ_ _=>[]) (.dr [(0,[4]),(1,[4]),(3,[4]),(4,[4]),(5,[1]),(6,[1]),(7,[2]),(8,[2])] [] [1,2,4] [] [0,1,2,3,4,5,6,7,8,9,10,11,12,13,14] (.bB 84 (y1_2.jY) λx19=>.ifs [84] x19 (.gI 91 aP.av gE aP.bW a1.aW y1_1.E λx20=>.bB 94 (decide (y1_2.jW=x20.dS)) λx21=>.ret x21) (.ret false))) (λy2_1=>.ifs [81] y2_1 (.cl 99 (RI n a1 y1_1) aKJ aMZ λx22=>.ret ((x22.2:Int),x22.1)) (.cl 59 (NA n a1 y1_1 y1_2) aGC aET λx23=>.ret ((x23.2:Int),x23.1)))))) (pw λy3_1 y3_2=>.bB 103 (decide (y3_1≠0)) λx24=>.ifs [103] x24 (.ret ((a1:aA),y3_1)) (.ret ((y3_2:aA),0)))))
def N7 (n:Nat) (a1:aA) (a2:aS):Option (aA×Int):=(WU n a1 a2).run
theorem aOK {n a1 a2}:PZ (N7 n a1 a2) 23 [.agg (aA.av a1),.agg (aS.av a2)] (λr=>.aU [.agg (aA.av r.1),int r.2]):=wq Tryz.func23
theorem aGB:PP Tryz.prog 56 [] (λy=>y=.mp [6,7,8,9] [.agg [.fn (.func 108) [] []],.agg [.fn (.func 109) [] []],.agg [.fn (.func 110) [] []],.agg [.fn (.func 111) [] []]]):=by
  refine uD (R0:=λy H=>Cv (jZ H) y (.mp [6,7,8,9] [.agg [.fn (.func 108) [] []],.agg [.fn (.func 109) [] []],.agg [.fn (.func 110) [] []],.agg [.fn (.func 111) [] []]])) ?_ (λy H hc=>⟨_,rfl,.mp (by intro x hx;simp only [List.mem_cons,List.not_mem_nil,or_false] at hx;rcases hx with rfl | rfl | rfl | rfl <;> exact .agg (by intro x hx;simp only [List.mem_cons,List.not_mem_nil,or_false] at hx;subst hx;exact .fn (by intro x hx;cases hx) (by intro x hx;cases hx))),hc⟩)
  refine gN (c:=_) Tryz.func56 rfl rfl ?_;intro Q hret hnorm
  refine tc aN 6 (.mk ?_)
  refine mmk rfl rfl rfl rfl ?_;intro b0
  refine AI rfl rfl rfl (pY (cs:=[.fn (.func 108) [] []]) (ps:=[(0,_)]) rfl zO yV rfl (.cons rfl .nil) (by kernel_rfl)) ?_
  refine BJ rfl rfl rfl Tryz.underlying104 Tryz.underlying3 rfl rfl rfl rfl ?_
  refine AI rfl rfl rfl (pY (cs:=[.fn (.func 109) [] []]) (ps:=[(0,_)]) rfl zO yV rfl (.cons rfl .nil) (by kernel_rfl)) ?_
  refine BJ rfl rfl rfl Tryz.underlying104 Tryz.underlying3 rfl rfl rfl rfl ?_
  refine AI rfl rfl rfl (pY (cs:=[.fn (.func 110) [] []]) (ps:=[(0,_)]) rfl zO yV rfl (.cons rfl .nil) (by kernel_rfl)) ?_
  refine BJ rfl rfl rfl Tryz.underlying104 Tryz.underlying3 rfl rfl rfl rfl ?_
  refine AI rfl rfl rfl (pY (cs:=[.fn (.func 111) [] []]) (ps:=[(0,_)]) rfl zO yV rfl (.cons rfl .nil) (by kernel_rfl)) ?_
  refine BJ rfl rfl rfl Tryz.underlying104 Tryz.underlying3 rfl rfl rfl rfl ?_
  refine aFS 1 rfl ?_
  refine tr aN 3 (.mk ?_)
  refine wR hret (rT .nil) ?_
  exact .refl _
def Y3 (n:Nat) (a1:List aB) (a2:Int):WB ((List aB)×Int×Int) :=
 .as (a1.length<=68719476736) inferInstance<|.ge 11 1<|.cl 13 (BX a2) EY IL λx5=>.bB 14 (!x5) λx6=>.ifs [14] x6 (.ret ((a1:List aB),0,1)) (.bB 18 (decide ((a1.length:Int)=0)) λx7=>.ifs [18] x7 (.ret ((a1:List aB),0,0)) (.bo (ix a1 0) λx8=>.gv 23<|.gv 24<|.gv 25<|.cl 26 (CB n a2 x8.aQ) JV FW λx9=>.bB 30 (decide (x9.2≠0)) λx10=>.ifs [30] x10 (.ret ((a1:List aB),0,x9.2)) (.gv 35<|.gv 36<|.gv 37<|.bI 38 (aI (x9.1-x8.Value)) λx11=>.gv 41<|.gv 42<|.bl (a1.set (Int.toNat 0) ((⟨x8.aQ,x9.1,x8.bO⟩:aB):aB):List aB) λx12=>.ge 1010004 0<|.ret ((x12:List aB),x11,0))))
def PT (n:Nat) (a1:List aB) (a2:Int):Option ((List aB)×Int×Int):=(Y3 n a1 a2).run
theorem aF7 {n a1 a2}:PZ (PT n a1 a2) 185 [aD 3 aB.av a1,int a2] (λr=>.aU [aD 3 aB.av r.1,int r.2.1,int r.2.2]):=wq Tryz.func185
def W9 (a1:Int) (a2:Int):WB (aH) :=
 .al 1<|.ret (((⟨a1,a2⟩:aH):aH))
def lM (a1:Int) (a2:Int):Option (aH):=(W9 a1 a2).run
theorem mG {a1 a2}:PZ (lM a1 a2) 182 [int a1,int a2] (λr=>.agg (aH.av r)):=wq Tryz.func182
end
end Go.Pv
