import Derived.Test.YtfamehgkphejnaaGreatXTd
set_option linter.unusedVariables false
set_option linter.unusedSimpArgs false
namespace Go.Pv
open Go.Proofs
set_option maxRecDepth 100000
set_option maxHeartbeats 4000000
noncomputable section
def Z5 (n:Nat) (a1:List aB):WB (aB×Int) :=
 .al 1<|.ln 15 aB.av a1<|.jn 0 [2,3] [1] [6,7,8] (λu2 (a:(List Int)×(List Int)×(List Int))=>[(4,.sl 6 (u2 6) 0 a.1.length),(5,.sl 7 (u2 7) 0 a.2.1.length),(6,.sl 8 (u2 8) 0 a.2.2.length)]) (λ_ a=>[.nw 6 3 1 (a.1.map fI),.nw 7 3 1 (a.2.1.map fI),.nw 8 3 1 (a.2.2.map fI)]) (.no 4 6 3 1<|.no 5 7 3 1<|.no 6 8 3 1<|.lp [2,3,14,15] [1] [6,7,8] (λu3 (a:Int×(List Int)×(List Int)×(List Int))=>[(4,.sl 6 (u3 6) 0 a.2.1.length),(5,.sl 7 (u3 7) 0 a.2.2.1.length),(6,.sl 8 (u3 8) 0 a.2.2.2.length),(16,int a.1)]) (λ_ a=>[.nw 6 3 1 (a.2.1.map fI),.nw 7 3 1 (a.2.2.1.map fI),.nw 8 3 1 (a.2.2.2.map fI)]) n ((0:Int),(([]:List Int):List Int),(([]:List Int):List Int),(([]:List Int):List Int)) (pw λy0_4 q0=>(pw λy0_5 q1=>(pw λy0_6 y0_7=>.bB 17 (decide (y0_4<(a1.length:Int))) λx6=>.ifs [17] x6 (.ix 18 aB.av a1 y0_4 λx7=>.al 2<|.dr [(1,[2]),(2,[2]),(6,[2]),(7,[2]),(11,[2]),(12,[2])] [(14,[])] [2] [4,9,14] [0,1,2,3,5,6,7,8,10,11,12,13,4,9,14,15,16,17] (.to 23 (aD 1 fI ([x7.aQ]:List Int))<|.to 28 (aD 1 fI ([x7.Value]:List Int))<|.to 33 (aD 1 fI ([x7.bO]:List Int))<|.bl (y0_5++([x7.aQ]:List Int):List Int) λx9=>.as (x9.length<=68719476736) inferInstance<|.ge 24 0<|.bl (y0_6++([x7.Value]:List Int):List Int) λx12=>.as (x12.length<=68719476736) inferInstance<|.ge 29 0<|.bl (y0_7++([x7.bO]:List Int):List Int) λx15=>.as (x15.length<=68719476736) inferInstance<|.ge 34 0<|.bI 35 (aI (y0_4+1)) λx18=>.brk ((x18:Int),x9,x12,x15))) (.esc (.ret ((y0_5:List Int),y0_6,y0_7)))) q1) q0)) (pw λy1_4 q0=>(pw λy1_5 y1_6=>.al 9<|.gv 45<|.dF 0 [2,3,9] [1] [] (λ_ (a:aB)=>[]) (λ_ a=>[.kp 9 [[int a.aQ,int a.Value,int a.bO]]]) (.un 24 (.kB 48 true<|.gv 49<|.al 10<|.gK 54 (nV n y1_4) aLB o5 (λ_=>rfl) λx21=>.bB 58 (decide (x21.2≠0)) λx22=>.ifs [58] x22 (.esc (.ret (((⟨0,0,0⟩:aB):aB),x21.2))) (.kI 65 1<|.kB 48 true<|.gv 49<|.al 11<|.gK 54 (nV n y1_5) aLB o5 (λ_=>rfl) λx24=>.bB 58 (decide (x24.2≠0)) λx25=>.ifs [58] x25 (.esc (.ret (((⟨0,0,0⟩:aB):aB),x24.2))) (.kI 65 2<|.kB 48 true<|.gv 49<|.al 12<|.gK 54 (nV n y1_6) aLB o5 (λ_=>rfl) λx27=>.bB 58 (decide (x27.2≠0)) λx28=>.ifs [58] x28 (.esc (.ret (((⟨0,0,0⟩:aB):aB),x27.2))) (.kI 65 3<|.kB 48 false<|.brk ((⟨x21.1,x24.1,x27.1⟩:aB):aB)))))) (λy2_1=>.ret ((y2_1:aB),0))) q0)
def y8 (n:Nat) (a1:List aB):Option (aB×Int):=(Z5 n a1).run
theorem BD {n a1}:PZ (y8 n a1) 94 [aD 3 aB.av a1] (λr=>.aU [.agg (aB.av r.1),int r.2]):=by
 refine wm Tryz.func94 ?_
 intro v2
 refine .mk ?_
 refine .mk ?_ ?_
 intro v3
 intro v4
 intro v5
 refine .mk ?_
 rintro ⟨y0_4,y0_5,y0_6,y0_7⟩ _
 refine .mk λx6=>?_
 refine .mk ?_ ?_
 refine .mk λx7 e7=>?_
 intro v8
 refine .mk ?_
 refine .mk (λH hH _=>bX (y:=aD 1 fI ([x7.aQ]:List Int)) (dQ (ps:=[(0,_)]) (rows:=[[int x7.aQ]]) rfl Tryz.underlying22 fT (.cons rfl .nil) (by kernel_rfl) rfl rfl rfl) rfl) ?_
 refine .mk (λH hH _=>bX (y:=aD 1 fI ([x7.Value]:List Int)) (dQ (ps:=[(0,_)]) (rows:=[[int x7.Value]]) rfl Tryz.underlying22 fT (.cons rfl .nil) (by kernel_rfl) rfl rfl rfl) rfl) ?_
 refine .mk (λH hH _=>bX (y:=aD 1 fI ([x7.bO]:List Int)) (dQ (ps:=[(0,_)]) (rows:=[[int x7.bO]]) rfl Tryz.underlying22 fT (.cons rfl .nil) (by kernel_rfl) rfl rfl rfl) rfl) ?_
 refine .mk λx9 e9=>?_
 refine .mk λp10=>?_
 refine .mk _ ⟨λ_=>jU (g:=fI) (l:=y0_5) (m:=([x7.aQ]:List Int)) .any rfl Tryz.underlying22 fT kY rfl rfl rfl rfl rfl rfl rfl rfl rfl rfl (Eq.symm rfl) (.refl _) (λ_=>rfl) e9 p10,by rintro _ _ ⟨v11,-,rfl,rfl⟩;exact ⟨rfl,trivial⟩⟩ ?_
 rintro _ _ ⟨v11,-,rfl,rfl⟩
 refine .mk λx12 e12=>?_
 refine .mk λp13=>?_
 refine .mk _ ⟨λ_=>jU (g:=fI) (l:=y0_6) (m:=([x7.Value]:List Int)) .any rfl Tryz.underlying22 fT kY rfl rfl rfl rfl rfl rfl rfl rfl rfl rfl (Eq.symm rfl) (.refl _) (λ_=>rfl) e12 p13,by rintro _ _ ⟨v14,-,rfl,rfl⟩;exact ⟨rfl,trivial⟩⟩ ?_
 rintro _ _ ⟨v14,-,rfl,rfl⟩
 refine .mk λx15 e15=>?_
 refine .mk λp16=>?_
 refine .mk _ ⟨λ_=>jU (g:=fI) (l:=y0_7) (m:=([x7.bO]:List Int)) .any rfl Tryz.underlying22 fT kY rfl rfl rfl rfl rfl rfl rfl rfl rfl rfl (Eq.symm rfl) (.refl _) (λ_=>rfl) e15 p16,by rintro _ _ ⟨v17,-,rfl,rfl⟩;exact trivial⟩ ?_
 rintro _ _ ⟨v17,-,rfl,rfl⟩
 refine .mk λx18=>?_
 exact .mk
 exact .mk
 rintro ⟨y1_4,y1_5,y1_6⟩ u2
 intro v19
 refine .mk _ (bE (dQ (ps:=[(0,_),(1,_),(2,_)]) (rows:=[[.pt 9 v19 0 0,.sl 6 (u2 6) 0 y1_4.length],[.pt 9 v19 0 1,.sl 7 (u2 7) 0 y1_5.length],[.pt 9 v19 0 2,.sl 8 (u2 8) 0 y1_6.length]]) rfl Tryz.underlying213 bE0 (.cons rfl (.cons rfl (.cons rfl .nil))) (by kernel_rfl) rfl rfl rfl)) ?_
 refine .mk ?_ ?_
 refine .mk ?_
 refine .mk _ (bE (iM (j:=0) rfl Tryz.underlying213 a7U rfl rfl rfl (.list rfl))) ?_
 intro v20
 refine .mk (λx21 e21=>?_) rfl (by rintro _ rfl;exact (.cons (dH rfl rfl rfl rfl rfl (Eq.symm rfl)) .nil))
 refine .mk λx22=>?_
 refine .mk .mk ?_
 refine .mk ?_
 refine .mk ?_
 refine .mk _ (bE (iM (j:=1) rfl Tryz.underlying213 a7U rfl rfl rfl (.list rfl))) ?_
 intro v23
 refine .mk (λx24 e24=>?_) rfl (by rintro _ rfl;exact (.cons (dH rfl rfl rfl rfl rfl (Eq.symm rfl)) .nil))
 refine .mk λx25=>?_
 refine .mk .mk ?_
 refine .mk ?_
 refine .mk ?_
 refine .mk _ (bE (iM (j:=2) rfl Tryz.underlying213 a7U rfl rfl rfl (.list rfl))) ?_
 intro v26
 refine .mk (λx27 e27=>?_) rfl (by rintro _ rfl;exact (.cons (dH rfl rfl rfl rfl rfl (Eq.symm rfl)) .nil))
 refine .mk λx28=>?_
 refine .mk .mk ?_
 refine .mk ?_
 refine .mk ?_
 exact .mk
 intro _ _
 exact .mk
def aAP (n:Nat) (a1:List aB):WB (Bool) :=
 .ln 9 aB.av a1<|.jn 0 [2] [] [3] (λu2 (a:(List Int))=>[(3,.sl 3 (u2 3) 0 a.length)]) (λ_ a=>[.nw 3 3 1 (a.map fI)]) (.no 3 3 3 1<|.lp [2,8,9] [] [3] (λu3 (a:Int×(List Int))=>[(3,.sl 3 (u3 3) 0 a.2.length),(10,int a.1)]) (λ_ a=>[.nw 3 3 1 (a.2.map fI)]) n ((0:Int),(([]:List Int):List Int)) (pw λy0_2 y0_3=>.bB 11 (decide (y0_2<(a1.length:Int))) λx3=>.ifs [11] x3 (.ix 12 aB.av a1 y0_2 λx4=>.al 1<|.bI 19 (aI (0-x4.bO)) λx6=>.bl (if x6>x4.bO then x6 else x4.bO:Int) λx7=>.gv 20<|.to 21 (aD 1 fI ([x7]:List Int))<|.bl (y0_3++([x7]:List Int):List Int) λx8=>.as (x8.length<=68719476736) inferInstance<|.ge 22 0<|.bI 23 (aI (y0_2+1)) λx11=>.brk ((x11:Int),x8)) (.esc (.ret y0_3)))) (λy1_2=>.gK 26 (nV n y1_2) aLB o5 (λ_=>rfl) λx12=>.bB 30 (decide (x12.2=0)) λx13=>.ret ((x13:Bool)))
def UH (n:Nat) (a1:List aB):Option (Bool):=(aAP n a1).run
theorem aHB {n a1}:PZ (UH n a1) 201 [aD 3 aB.av a1] aF:=wq Tryz.func201
def aJ8 (n:Nat) (a1:List aB):WB (Bool) :=
 .jn 1 [0,2] [] [] (λ_ (a:Bool)=>[(11,aF a)]) (λ_ _=>[]) (.ln 6 aB.av a1<|.bB 7 (decide ((a1.length:Int)>30)) λx2=>.ifs [7] x2 (.ret true) (.inl 10 rH Tryz.func199 [] [] (λ_ (a:Bool)=>aF a) (λ_ _=>[]) (.inl 7 aMU Tryz.func212 [] [] (λ_ (a:Int)=>int a) (λ_ _=>[]) (.ln 7 aB.av a1<|.dF 0 [4] [] [] (λ_ (a:Unit)=>[]) (λ_ _=>[]) (.lp [0,1,4,7] [] [] (λ_ (a:Int)=>[(8,int a)]) (λ_ _=>[]) n 0 (λy0_1=>.bB 9 (decide (y0_1<(a1.length:Int))) λx3=>.ifs [9] x3 (.ix 14 aB.av a1 y0_1 λx4=>.cl 16 (TU x4) aNF aFP λx5=>.ifs [16] x5 (.esc (.esc (.ret y0_1))) (.bI 18 (aI (y0_1+1)) λx6=>.brk x6)) (.esc (.brk ())))) (λ_=>.ret (-1))) (λy2_1=>.bB 8 (decide (y2_1>=0)) λx7=>.ret x7)) (λy3_1=>.ret y3_1))) (λy4_1=>.ifs [11] y4_1 (.ret ((false:Bool))) (.cl 14 (y8 n a1) aM0 BD λx8=>.al 1<|.jn 0 [] [] [] (λ_ (a:Bool)=>[(2,aF a)]) (λ_ _=>[]) (.bB 18 (decide (x8.2=0)) λx10=>.ifs [18] x10 (.cl 21 (UH n a1) L4 aHB λx11=>.ret x11) (.ret false)) (λy5_1=>.ret ((y5_1:Bool)))))
def L5 (n:Nat) (a1:List aB):Option (Bool):=(aJ8 n a1).run
theorem aN0 {n a1}:PZ (L5 n a1) 175 [aD 3 aB.av a1] aF:=wq Tryz.func175
def WO (n:Nat) (a1:List aB) (a2:aB):WB ((List aB)×Int) :=
 .al 1<|.as (a1.length<=68719476736) inferInstance<|.ge 8 2<|.jn 1 [0,3,4,5] [1,2] [] (λ_ (a:Bool)=>[(9,aF a)]) (λ_ _=>[]) (.bB 12 (decide (a2.aQ<1)) λx6=>.ifs [12] x6 (.ret true) (.bB 16 (decide (a2.Value<0)) λx7=>.ret x7)) (λy0_1=>.ifs [9] y0_1 (.ret ((a1:List aB),1)) (.bB 22 (decide ((a1.length:Int)>=30)) λx8=>.ifs [22] x8 (.ret ((a1:List aB),6)) (.dr [(2,[1])] [(4,[])] [1] [1,4] [0,2,3,1,4,5] (.to 27 (aD 3 aB.av ([a2]:List aB))<|.as (a1.length<=68719476736) inferInstance<|.ge 25 3<|.bl (a1++([a2]:List aB):List aB) λx11=>.as (x11.length<=68719476736) inferInstance<|.ge 28 0<|.gK 30 (L5 n x11) YS aN0 (λ_=>rfl) λx14=>.bB 31 (!x14) λx15=>.ifs [31] x15 (.ret ((a1:List aB),2)) (.ret ((x11:List aB),0))))))
def JM (n:Nat) (a1:List aB) (a2:aB):Option ((List aB)×Int):=(WO n a1 a2).run
theorem ND {n a1 a2}:PZ (JM n a1 a2) 178 [aD 3 aB.av a1,.agg (aB.av a2)] (λr=>.aU [aD 3 aB.av r.1,int r.2]):=by
 refine wm Tryz.func178 ?_
 intro v3
 refine .mk λp4=>?_
 refine .mk _ ⟨λ_=>d9 rfl rfl (.cons rfl .nil) aHH (iK (a3T.pc (id:=2) (l:=a1) rfl p4) (.cons (.refl _) .nil)),λ_ _ _=>trivial⟩ ?_
 rintro _ _ ⟨v5,rfl,rfl⟩
 refine .mk ?_ ?_
 refine .mk λx6=>?_
 refine .mk .mk ?_
 refine .mk λx7=>?_
 exact .mk
 intro _ _
 refine .mk ?_ ?_
 exact .mk (bK.aU (.cons (dH rfl rfl rfl rfl rfl (Eq.symm rfl)) (.cons (.refl _) .nil)))
 refine .mk λx8=>?_
 refine .mk ?_ ?_
 exact .mk (bK.aU (.cons (dH rfl rfl rfl rfl rfl (Eq.symm rfl)) (.cons (.refl _) .nil)))
 refine .mk ?_
 refine .mk (λH hH _=>bX (y:=aD 3 aB.av ([a2]:List aB)) (dQ (ps:=[(0,_)]) (rows:=[[int a2.aQ,int a2.Value,int a2.bO]]) rfl Tryz.underlying74 a7T (.cons rfl .nil) (by kernel_rfl) rfl rfl rfl) rfl) ?_
 refine .mk λp9=>?_
 refine .mk _ ⟨λ_=>bQ.fO 2 rfl (d9 rfl rfl (.cons rfl .nil) aHH (iK (a3T.pc (id:=3) (l:=a1) rfl p9) (.cons (dH rfl rfl rfl rfl rfl (Eq.symm rfl)) .nil))),by rintro _ _ ⟨v10,rfl,rfl⟩;exact ⟨rfl,trivial⟩⟩ ?_
 rintro _ _ ⟨v10,rfl,rfl⟩
 refine .mk λx11 e11=>?_
 refine .mk λp12=>?_
 refine .mk _ ⟨λ_=>jU (g:=aB.av) (l:=a1) (m:=([a2]:List aB)) .any rfl Tryz.underlying74 a7T a88 rfl rfl rfl rfl rfl rfl rfl rfl rfl rfl (Eq.symm rfl) (.refl _) (λ_=>rfl) e11 p12,by rintro _ _ ⟨v13,-,rfl,rfl⟩;exact trivial⟩ ?_
 rintro _ _ ⟨v13,-,rfl,rfl⟩
 refine .mk (λx14 e14=>?_) rfl (by rintro _ rfl;exact (.cons (dH rfl rfl rfl rfl rfl (Eq.symm rfl)) .nil))
 refine .mk λx15=>?_
 refine .mk ?_ ?_
 exact .mk (bK.aU (.cons (dH rfl rfl rfl rfl rfl (Eq.symm rfl)) (.cons (.refl _) .nil)))
 exact .mk (bK.aU (.cons (dH rfl rfl rfl rfl rfl (Eq.symm rfl)) (.cons (.refl _) .nil)))
def aAB (n:Nat) (a1:List aB) (a2:aB):WB ((List aB)×Int) :=
 .al 1<|.dr [(3,[1])] [] [1] [0] [2,3,0,1,4,5,6,7,8,9] (.inl 10 aUV Tryz.func129 [1] [] (λ_ (a:Unit)=>.agg [.fn (.func 178) [] [],.fn (.func 179) [] [],.fn (.func 94) [] []]) (λ_ _=>[]) (.al 2<|.ret ()) (λ_=>.cl 14 (JM n a1 a2) vC ND λx5=>.bB 18 (decide (x5.2≠0)) λx6=>.ifs [18] x6 (.ret ((x5.1:List aB),x5.2)) (.inl 22 aUV Tryz.func129 [1] [] (λ_ (a:Unit)=>.agg [.fn (.func 178) [] [],.fn (.func 179) [] [],.fn (.func 94) [] []]) (λ_ _=>[]) (.al 3<|.ret ()) (λ_=>.cl 25 (y8 n x5.1) aM0 BD λx8=>.al 4<|.bB 29 (decide (x8.2≠0)) λx10=>.ifs [29] x10 (.as (a1.length<=68719476736) inferInstance<|.ge 31 5<|.ret ((a1:List aB),x8.2)) (.to 34 (aD 3 aB.av ([x8.1]:List aB))<|.ret ((([x8.1]:List aB):List aB),0))))))
def DT (n:Nat) (a1:List aB) (a2:aB):Option ((List aB)×Int):=(aAB n a1 a2).run
theorem FI {n a1 a2}:PZ (DT n a1 a2) 242 [aD 3 aB.av a1,.agg (aB.av a2)] (λr=>.aU [aD 3 aB.av r.1,int r.2]):=wq Tryz.func242
def X7 (n:Nat) (a1:aM) (a2:aB):WB (aM×Int) :=
 .al 1<|.al 2<|.al 3<|.cl 12 (DT n a1.cO a2) aD5 FI λx6=>.cl 17 (rG a1 x6.1) aGA vY λx7=>.ret ((x7:aM),x6.2)
def VJ (n:Nat) (a1:aM) (a2:aB):Option (aM×Int):=(X7 n a1 a2).run
theorem aCD {n a1 a2}:PZ (VJ n a1 a2) 245 [.agg (aM.av a1),.agg (aB.av a2)] (λr=>.aU [.agg (aM.av r.1),int r.2]):=wq Tryz.func245
def aIP (n:Nat) (a1:List aB) (a2:aB) (a3:Int):WB ((List aB)×Int×Int) :=
 .al 1<|.as (a1.length<=68719476736) inferInstance<|.ge 16 2<|.jn 1 [0,2,4,6,7,8,10] [1,2] [] (λ_ (a:Bool)=>[(30,aF a)]) (λ_ _=>[]) (.cl 19 (BX a3) V8 aTQ λx7=>.bB 20 (!x7) λx8=>.ifs [20] x8 (.ret true) (.bB 24 (decide (a2.aQ<1)) λx9=>.ifs [24] x9 (.ret true) (.bB 29 (decide (a2.Value<0)) λx10=>.ret x10))) (λy0_1=>.ifs [30] y0_1 (.ret ((a1:List aB),0,1)) (.cl 37 (CB n a3 a2.aQ) R4 FW λx11=>.jn 0 [0,4,6,7,8,11] [1,2] [] (λ_ (a:Bool)=>[(46,aF a)]) (λ_ _=>[]) (.bB 41 (decide (x11.2≠0)) λx12=>.ifs [41] x12 (.ret true) (.bB 45 (decide (a2.Value>288230376151711744)) λx13=>.ret x13)) (λy1_1=>.ifs [46] y1_1 (.ret ((a1:List aB),0,2)) (.bI 51 (aI (a2.Value-x11.1)) λx14=>.fO 2<|.cl 57 (DT n a1 (⟨a2.aQ,x11.1,a2.bO⟩:aB)) aD5 FI λx15=>.bB 61 (decide (x15.2≠0)) λx16=>.ifs [61] x16 (.ret ((a1:List aB),0,x15.2)) (.ret ((x15.1:List aB),x14,0))))))
def TC (n:Nat) (a1:List aB) (a2:aB) (a3:Int):Option ((List aB)×Int×Int):=(aIP n a1 a2 a3).run
theorem aLU {n a1 a2 a3}:PZ (TC n a1 a2 a3) 249 [aD 3 aB.av a1,.agg (aB.av a2),int a3] (λr=>.aU [aD 3 aB.av r.1,int r.2.1,int r.2.2]):=wq Tryz.func249
def aJE (n:Nat) (a1:Int) (a2:Int) (a3:aM) (a4:aB):WB (aM×Int×Int) :=
 .al 1<|.al 2<|.al 3<|.inl 17 aAT Tryz.func174 [1,2,3] [] (B:=(Unit)⊕(Unit)⊕(Unit)⊕(Unit)⊕(Unit)) (λu2=>Sum.elim (λa=>.dW 259 (.agg [])) (Sum.elim (λa=>.dW 260 (.agg [])) (Sum.elim (λa=>.dW 261 (.agg [])) (Sum.elim (λa=>.dW 263 (.agg [int a2])) (λa=>.sc .nilIface))))) (λu2=>Sum.elim (λa=>[]) (Sum.elim (λa=>[]) (Sum.elim (λa=>[]) (Sum.elim (λa=>[]) (λa=>[]))))) (.bB 7 (decide (a1=1)) λx8=>.ifs [7] x8 (.gv 9<|.ret (.inl ())) (.bB 11 (decide (a1=2)) λx9=>.ifs [11] x9 (.gv 13<|.ret (.inr (.inl ()))) (.bB 15 (decide (a1=3)) λx10=>.ifs [15] x10 (.gv 17<|.ret (.inr (.inr (.inl ())))) (.bB 19 (decide (a1=4)) λx11=>.ifs [19] x11 (.gv 22<|.ret (.inr (.inr (.inr (.inl ()))))) (.ret (.inr (.inr (.inr (.inr ()))))))))) (Sum.elim (λ_=>.gv 19<|.iv 26 bC9 aNV Tryz.func238 [1,2,3] [] (λ_ (a:aM×Int)=>.aU [.agg [aD 3 aB.av a.1.cO,int a.1.bF.a0,int a.1.bF.a1,int a.1.bF.a2],int 0,int a.2]) (λ_ _=>[]) (.al 9<|.al 10<|.al 11<|.al 12<|.cl 15 (JM n a3.cO a4) vC ND λx16=>.cl 20 (rX a3 x16.1) aKP wK λx17=>.ret ((x17:aM),x16.2)) (pw λy6_1 y6_2=>.al 8<|.bB 31 (decide (y6_2≠0)) λx19=>.ifs [31] x19 (.cl 33 (aTO a3) aCQ kP λx20=>.ret ((x20:aM),0,y6_2)) (.ret ((y6_1:aM),0,0)))) (Sum.elim (λ_=>.gv 19<|.iv 26 bCV aX7 Tryz.func240 [1,2,3] [] (λ_ (a:aM×Int)=>.aU [.agg [aD 3 aB.av a.1.cO,int a.1.bF.a0,int a.1.bF.a1,int a.1.bF.a2],int 0,int a.2]) (λ_ _=>[]) (.al 17<|.al 18<|.al 19<|.al 20<|.cl 15 (DT n a3.cO a4) aD5 FI λx25=>.cl 20 (rX a3 x25.1) aKP wK λx26=>.ret ((x26:aM),x25.2)) (pw λy8_1 y8_2=>.al 8<|.bB 31 (decide (y8_2≠0)) λx28=>.ifs [31] x28 (.cl 33 (aTO a3) aCQ kP λx29=>.ret ((x29:aM),0,y8_2)) (.ret ((y8_1:aM),0,0)))) (Sum.elim (λ_=>.gv 19<|.iv 26 bFB aOA Tryz.func243 [1,2,3] [] (λ_ (a:aM×Int)=>.aU [.agg [aD 3 aB.av a.1.cO,int a.1.bF.a0,int a.1.bF.a1,int a.1.bF.a2],int 0,int a.2]) (λ_ _=>[]) (.al 25<|.al 26<|.al 27<|.al 28<|.cl 13 (VJ n a3 a4) aGS aCD λx34=>.ret ((x34.1:aM),x34.2)) (pw λy10_1 y10_2=>.al 8<|.bB 31 (decide (y10_2≠0)) λx36=>.ifs [31] x36 (.cl 33 (aTO a3) aCQ kP λx37=>.ret ((x37:aM),0,y10_2)) (.ret ((y10_1:aM),0,0)))) (Sum.elim (λ_=>.gv 19<|.iv 26 bBK aJW Tryz.func247 [1,2,3] [] (λ_ (a:aM×Int×Int)=>.aU [.agg [aD 3 aB.av a.1.cO,int a.1.bF.a0,int a.1.bF.a1,int a.1.bF.a2],int a.2.1,int a.2.2]) (λ_ _=>[]) (.al 33<|.al 34<|.al 35<|.al 36<|.cl 18 (TC n a3.cO a4 a2) a03 aLU λx42=>.cl 24 (rX a3 x42.1) aKP wK λx43=>.ret ((x43:aM),x42.2.1,x42.2.2)) (pw λy12_1 q0=>(pw λy12_2 y12_3=>.al 8<|.bB 31 (decide (y12_3≠0)) λx45=>.ifs [31] x45 (.cl 33 (aTO a3) aCQ kP λx46=>.ret ((x46:aM),0,y12_3)) (.ret ((y12_1:aM),y12_2,0))) q0)) (λ_=>.gv 19<|.cl 21 (aTO a3) aCQ kP λx47=>.ret ((x47:aM),0,12))))))
def UO (n:Nat) (a1:Int) (a2:Int) (a3:aM) (a4:aB):Option (aM×Int×Int):=(aJE n a1 a2 a3 a4).run
theorem aG8 {n a1 a2 a3 a4}:PZ (UO n a1 a2 a3 a4) 149 [int a1,int a2,.agg (aM.av a3),.agg (aB.av a4)] (λr=>.aU [.agg (aM.av r.1),int r.2.1,int r.2.2]):=wq Tryz.func149
def aJC (a1:aA) (a2:Int) (a3:Int) (a4:Int):WB (aM) :=
 .al 1<|.al 2<|.cl 15 (zN a1 a2 a3 a4) aCO FX λx7=>.bB 17 (decide (x7<0)) λx8=>.ifs [17] x8 (.ret (((⟨[],(⟨0,0,0⟩:gJ)⟩:aM):aM))) (.gI 22 aP.av gE aP.bW a1.aW a2 λx9=>.ix 26 aM.av x9.dD x7 λx10=>.al 3<|.as (x10.cO.length<=68719476736) inferInstance<|.ge 30 4<|.ret ((x10:aM)))
def yG (a1:aA) (a2:Int) (a3:Int) (a4:Int):Option (aM):=(aJC a1 a2 a3 a4).run
theorem BV {a1 a2 a3 a4}:PZ (yG a1 a2 a3 a4) 95 [.agg (aA.av a1),int a2,int a3,int a4] (λr=>.agg (aM.av r)):=wq Tryz.func95
def aBY (n:Nat) (a1:aA) (a2:Int) (a3:Int):WB (aB×Bool) :=
 .al 1<|.al 2<|.jn 2 [6,7] [2] [7,8,9] (λu2 (a:(List Int)×(List Int)×(List Int))=>[(8,.sl 7 (u2 7) 0 a.1.length),(9,.sl 8 (u2 8) 0 a.2.1.length),(10,.sl 9 (u2 9) 0 a.2.2.length)]) (λ_ a=>[.nw 7 3 1 (a.1.map fI),.nw 8 3 1 (a.2.1.map fI),.nw 9 3 1 (a.2.2.map fI)]) (.no 8 7 3 1<|.no 9 8 3 1<|.no 10 9 3 1<|.lp [1,2,3,6,7] [1,2] [7,8,9] (λu3 (a:Int×(List Int)×(List Int)×(List Int))=>[(8,.sl 7 (u3 7) 0 a.2.1.length),(9,.sl 8 (u3 8) 0 a.2.2.1.length),(10,.sl 9 (u3 9) 0 a.2.2.2.length),(20,int a.1)]) (λ_ a=>[.nw 7 3 1 (a.2.1.map fI),.nw 8 3 1 (a.2.2.1.map fI),.nw 9 3 1 (a.2.2.2.map fI)]) n ((0:Int),(([]:List Int):List Int),(([]:List Int):List Int),(([]:List Int):List Int)) (pw λy0_4 q0=>(pw λy0_5 q1=>(pw λy0_6 y0_7=>.bB 21 (decide (y0_4<2)) λx9=>.ifs [21] x9 (.cl 28 (yG a1 a2 a3 y0_4) zQ BV λx10=>.cl 30 (y8 n x10.cO) aM0 BD λx11=>.al 3<|.dr [(1,[3]),(2,[3]),(6,[3]),(7,[3]),(11,[3]),(12,[3])] [(14,[])] [3] [4,9,14] [0,1,2,3,5,6,7,8,10,11,12,13,4,9,14,15,16,17] (.to 36 (aD 1 fI ([x11.1.aQ]:List Int))<|.to 41 (aD 1 fI ([x11.1.Value]:List Int))<|.to 46 (aD 1 fI ([x11.1.bO]:List Int))<|.bl (y0_5++([x11.1.aQ]:List Int):List Int) λx13=>.as (x13.length<=68719476736) inferInstance<|.ge 37 0<|.bl (y0_6++([x11.1.Value]:List Int):List Int) λx16=>.as (x16.length<=68719476736) inferInstance<|.ge 42 0<|.bl (y0_7++([x11.1.bO]:List Int):List Int) λx19=>.as (x19.length<=68719476736) inferInstance<|.ge 47 0<|.bI 48 (aI (y0_4+1)) λx22=>.brk ((x22:Int),x13,x16,x19))) (.esc (.ret ((y0_5:List Int),y0_6,y0_7)))) q1) q0)) (pw λy1_4 q0=>(pw λy1_5 y1_6=>.gK 51 (nV n y1_4) aLB o5 (λ_=>rfl) λx23=>.gK 56 (nV n y1_5) aLB o5 (λ_=>rfl) λx24=>.gK 61 (nV n y1_6) aLB o5 (λ_=>rfl) λx25=>.bl (if x25.2>(if x24.2>x23.2 then x24.2 else x23.2) then x25.2 else (if x24.2>x23.2 then x24.2 else x23.2):Int) λx26=>.gv 71<|.bB 72 (decide (x26=0)) λx27=>.ret (((⟨x23.1,x24.1,x25.1⟩:aB):aB),x27)) q0)
def SB (n:Nat) (a1:aA) (a2:Int) (a3:Int):Option (aB×Bool):=(aBY n a1 a2 a3).run
theorem aOL {n a1 a2 a3}:PZ (SB n a1 a2 a3) 57 [.agg (aA.av a1),int a2,int a3] (λr=>.aU [.agg (aB.av r.1),aF r.2]):=wq Tryz.func57
def ZG (n:Nat) (a1:aA) (a2:Int) (a3:Int):WB (Bool) :=
 .al 1<|.jn 2 [6] [] [4] (λu14 (a:(List Int))=>[(7,.sl 4 (u14 4) 0 a.length)]) (λ_ a=>[.nw 4 3 1 (a.map fI)]) (.no 7 4 3 1<|.lp [1,2,3,6] [1] [4] (λu18 (a:Int×(List Int))=>[(7,.sl 4 (u18 4) 0 a.2.length),(13,int a.1)]) (λ_ a=>[.nw 4 3 1 (a.2.map fI)]) n ((0:Int),(([]:List Int):List Int)) (pw λy0_2 y0_3=>.bB 14 (decide (y0_2<2)) λx6=>.ifs [14] x6 (.jn 1 [1,2,3,6,13] [1] [4] (λu21 (a:(List Int))=>[(7,.sl 4 (u21 4) 0 a.length)]) (λ_ a=>[.nw 4 3 1 (a.map fI)]) (.cl 20 (yG a1 a2 a3 y0_2) zQ BV λx7=>.ln 22 aB.av x7.cO<|.jn 0 [1,2,3,6,13] [1] [4] (λu23 (a:(List Int))=>[(7,.sl 4 (u23 4) 0 a.length)]) (λ_ a=>[.nw 4 3 1 (a.map fI)]) (.lp [1,2,3,6,13,21,22] [1] [4] (λu24 (a:Int×(List Int))=>[(7,.sl 4 (u24 4) 0 a.2.length),(23,int a.1)]) (λ_ a=>[.nw 4 3 1 (a.2.map fI)]) n ((0:Int),y0_3) (pw λy1_2 y1_3=>.bB 24 (decide (y1_2<(x7.cO.length:Int))) λx8=>.ifs [24] x8 (.ix 25 aB.av x7.cO y1_2 λx9=>.al 2<|.bI 32 (aI (0-x9.bO)) λx11=>.bl (if x11>x9.bO then x11 else x9.bO:Int) λx12=>.gv 33<|.to 34 (aD 1 fI ([x12]:List Int))<|.bl (y1_3++([x12]:List Int):List Int) λx13=>.as (x13.length<=68719476736) inferInstance<|.ge 35 0<|.bI 36 (aI (y1_2+1)) λx16=>.brk ((x16:Int),x13)) (.esc (.ret y1_3)))) (λy2_2=>.ret y2_2)) (λy3_2=>.bI 37 (aI (y0_2+1)) λx17=>.brk ((x17:Int),y3_2))) (.esc (.ret y0_3)))) (λy4_2=>.gK 40 (nV n y4_2) aLB o5 (λ_=>rfl) λx18=>.bB 44 (decide (x18.2=0)) λx19=>.ret ((x19:Bool)))
def RY (n:Nat) (a1:aA) (a2:Int) (a3:Int):Option (Bool):=(ZG n a1 a2 a3).run
theorem Z0 {n a1 a2 a3}:PZ (RY n a1 a2 a3) 151 [.agg (aA.av a1),int a2,int a3] aF:=wq Tryz.func151
def aEQ (n:Nat) (a1:aA) (a2:Int) (a3:Int) (a4:Int) (a5:aB):WB (aA×Int×Int×Int) :=
 .al 1<|.al 2<|.al 3<|.cl 24 (zN a1 a2 a3 a4) aCO FX λx9=>.bB 26 (decide (x9<0)) λx10=>.ifs [26] x10 (.ret ((a1:aA),0,0,4)) (.dr [(0,[1]),(1,[1]),(2,[1]),(9,[1]),(10,[1]),(11,[1]),(18,[1]),(19,[1]),(27,[2])] [(34,[])] [1,2] [33,34] [0,1,2,3,4,5,6,7,8,9,10,11,12,13,14,15,16,17,18,19,20,21,22,23,24,25,26,27,28,29,30,31,32,33,34,35,36] (.ix 33 (fL 1 fI) a1.bA.Methods a2 λx11=>.ix 36 fI x11 a3 λx12=>.ix 42 (fL 1 fI) a1.bA.dN a2 λx13=>.ix 45 fI x13 a3 λx14=>.gI 50 aP.av gE aP.bW a1.aW a2 λx15=>.ix 54 aM.av x15.dD x9 λx16=>.cl 57 (UO n x12 x14 x16 a5) XH aG8 λx17=>.al 4<|.bB 62 (decide (x17.2.2≠0)) λx19=>.ifs [62] x19 (.ret ((a1:aA),0,0,x17.2.2)) (.al 5<|.inl 70 aKQ Tryz.func150 [1,2,3,4] [7,8] (λ_ (a:Int×Bool×(List Int)×(List bM)×(List Int)×(List Int)×(List aP)×(List aM))=>.aU []) (λu4 a=>[.kp 5 [[int a1.bA.eH,int a1.bA.aQA,aD 1 fI a1.bA.cB,aD 1 (fL 1 fI) a1.bA.Methods,aD 1 (fL 1 fI) a1.bA.dN,.sl 7 (u4 7) 0 a1.aW.length,aD 8 bH.av a1.bP,aD 9 bS.av a1.bU,aD 6 dB.av a1.bY,int a1.Done]],.nw 7 45 8 ((a1.aW.map aP.av).set (Int.toNat a2) [int a.1,aF a.2.1,.sl 8 (u4 8) 0 a.2.2.2.2.2.2.2.length,aD 1 fI a.2.2.1,aD 11 bM.av a.2.2.2.1,aD 1 fI a.2.2.2.2.1,aD 1 fI a.2.2.2.2.2.1,aD 8 aP.av a.2.2.2.2.2.2.1]),.nw 8 77 4 (a.2.2.2.2.2.2.2.map aM.av)]) (.al 6<|.inl 11 JA Tryz.func87 [1,2,3,4,6] [7] (λu6 (a:Unit)=>.pt 7 (u6 7) (Int.toNat a2) 0) (λu6 _=>[.kp 5 [[int a1.bA.eH,int a1.bA.aQA,aD 1 fI a1.bA.cB,aD 1 (fL 1 fI) a1.bA.Methods,aD 1 (fL 1 fI) a1.bA.dN,.sl 7 (u6 7) 0 a1.aW.length,aD 8 bH.av a1.bP,aD 9 bS.av a1.bU,aD 6 dB.av a1.bY,int a1.Done]],.nw 7 45 8 (a1.aW.map aP.av)]) (.as (a1.aW.length<=68719476736) inferInstance<|.ge 11 7<|.bo (ix a1.aW a2) λx24=>.gv 21<|.ret ()) (λ_=>.bo (ix a1.aW a2) λx25=>.gv 14<|.gv 15<|.gv 16<|.as (x25.dD.length<=68719476736) inferInstance<|.ge 17 8<|.gv 18<|.gv 19<|.ge 1002008 0<|.dr [(1,[7]),(2,[7]),(3,[7]),(5,[6]),(6,[8])] [(7,[])] [6,7,8] [7] [0,1,2,3,4,5,6,7] (.gv 21<|.gv 22<|.gv 23<|.bo (ix x25.dD x9) λx28=>.gv 26<|.bl (x25.dD.set (Int.toNat x9) x17.1:List aM) λx29=>.ge 1003007 0<|.ret ((x25.Now:Int),(x25.Closed:Bool),(x25.dU:List Int),(x25.dI:List bM),(x25.dO:List Int),(x25.Down:List Int),(x25.eT:List aP),x29)))) (pw λy1_2 q0=>(pw λy1_3 q1=>(pw λy1_5 q2=>(pw λy1_6 q3=>(pw λy1_7 q4=>(pw λy1_8 q5=>(pw λy1_9 y1_10=>.bo (ix a1.aW a2) λx30=>.gK 76 (SB n (⟨a1.bA,(a1.aW.set (Int.toNat a2) (⟨y1_2,y1_3,y1_10,y1_5,y1_6,y1_7,y1_8,y1_9⟩:aP)),a1.bP,a1.bU,a1.bY,a1.Done⟩:aA) a2 a3) aN9 aOL (λ_=>rfl) λx31=>.al 9<|.jn 0 [5,9,10,11,12,13,17] [1,2,3,5,7,8] [] (λ_ (a:Bool)=>[(88,aF a)]) (λ_ _=>[]) (.bB 80 (!x31.2) λx33=>.ifs [80] x33 (.ret true) (.gK 86 (RY n (⟨a1.bA,(a1.aW.set (Int.toNat a2) (⟨y1_2,y1_3,y1_10,y1_5,y1_6,y1_7,y1_8,y1_9⟩:aP)),a1.bP,a1.bU,a1.bY,a1.Done⟩:aA) a2 a3) aJ4 Z0 (λ_=>rfl) λx34=>.bB 87 (!x34) λx35=>.ret x35)) (λy2_1=>.ifs [88] y2_1 (.ret ((a1:aA),0,0,2)) (.dr [(0,[5]),(1,[5]),(2,[2]),(3,[2])] [(7,[2])] [2,5] [7] [0,1,2,3,4,5,6,7,8,9,10] (.bI 95 (aI (a5.Value-x17.2.1)) λx36=>.ret (((⟨a1.bA,(a1.aW.set (Int.toNat a2) (⟨y1_2,y1_3,y1_10,y1_5,y1_6,y1_7,y1_8,y1_9⟩:aP)),a1.bP,a1.bU,a1.bY,a1.Done⟩:aA):aA),x36,x17.2.1,0))))) q5) q4) q3) q2) q1) q0))))
def uU (n:Nat) (a1:aA) (a2:Int) (a3:Int) (a4:Int) (a5:aB):Option (aA×Int×Int×Int):=(aEQ n a1 a2 a3 a4 a5).run
theorem yA {n a1 a2 a3 a4 a5}:PZ (uU n a1 a2 a3 a4 a5) 100 [.agg (aA.av a1),int a2,int a3,int a4,.agg (aB.av a5)] (λr=>.aU [.agg (aA.av r.1),int r.2.1,int r.2.2.1,int r.2.2.2]):=by
 refine wm Tryz.func100 ?_
 intro v6
 intro v7
 intro v8
 refine .mk λx9 e9=>?_
 refine .mk λx10=>?_
 refine .mk .mk ?_
 refine .mk ?_
 refine .mk λx11 e11=>?_
 refine .mk λx12 e12=>?_
 refine .mk λx13 e13=>?_
 refine .mk λx14 e14=>?_
 refine .mk λx15 e15=>?_
 refine .mk λx16 e16=>?_
 refine .mk λx17 e17=>?_
 intro v18
 refine .mk λx19=>?_
 refine .mk .mk ?_
 intro v20
 refine .mk ?_ ?_
 intro v21
 refine .mk ?_ ?_
 refine .mk λp22=>?_
 refine .mk _ ⟨λ_=>d9 rfl rfl (.cons rfl .nil) aHV (iK (a2I.pc (id:=7) (l:=a1.aW) rfl p22) (.cons (.refl _) .nil)),λ_ _ _=>trivial⟩ ?_
 rintro _ _ ⟨v23,rfl,rfl⟩
 refine .mk λx24 e24=>?_
 refine .mk _ (bE (aP4 rfl Tryz.underlying28 aWN rfl rfl rfl rfl rfl (Eq.symm rfl) (List.length_map _) e24)) ?_
 exact .mk
 intro _ _
 refine .mk trivial ?_
 refine .mk λx25 e25=>?_
 refine .mk _ (bE (iH rfl rfl (.pt rfl rfl (dR e25 (aP.bW _))))) ?_
 refine .mk _ (bE (dK rfl a3A rfl (.pt rfl rfl (dR e25 (aP.bW _))) (.pt _ _ _ _ _))) ?_
 refine .mk _ (bE (dV rfl jE rfl (.pt rfl rfl (dR e25 (aP.bW _))) rfl)) ?_
 refine .mk λp26=>?_
 refine .mk _ ⟨λ_=>d9 rfl rfl (.cons rfl .nil) aC8 (iK (a5N.pc (id:=8) (l:=x25.dD) rfl p26) (.cons (.refl _) .nil)),λ_ _ _=>trivial⟩ ?_
 rintro _ _ ⟨v27,rfl,rfl⟩
 refine .mk _ (bE (iH rfl rfl (.pt rfl rfl (dR e25 (aP.bW _))))) ?_
 refine .mk _ (bE (dK rfl a3A rfl (.pt rfl rfl (dR e25 (aP.bW _))) (.pt _ _ _ _ _))) ?_
 refine .mk _ ⟨λ_=>bQ.dM (eO (ob':=(⟨45,8,true,true,_,(a1.aW.map aP.av).set (Int.toNat a2) [int x25.Now,aF x25.Closed,.sl 8 v27 0 x25.dD.length,aD 1 fI x25.dU,aD 11 bM.av x25.dI,aD 1 fI x25.dO,aD 1 fI x25.Down,aD 8 aP.av x25.eT]⟩:bC)) (dZ rfl jE rfl rfl rfl rfl rfl (dR e25 (aP.bW _)) rfl rfl rfl) (eU rfl)) (λ_ h=>h) (λ_ _=>trivial),λ_ _ _=>trivial⟩ ?_
 rintro _ _ ⟨rfl,rfl⟩
 refine .mk ?_
 refine .mk _ (λH hH _=>iH rfl rfl (.pt ((hH _ (by decide)).trans rfl) rfl (eY e25))) ?_
 refine .mk _ (λH hH _=>dK rfl a3A rfl (.pt ((hH _ (by decide)).trans rfl) rfl (eY e25)) (.pt _ _ _ _ _)) ?_
 refine .mk _ (λH hH _=>dV rfl jE rfl (.pt ((hH _ (by decide)).trans rfl) rfl (eY e25)) rfl) ?_
 refine .mk λx28 e28=>?_
 refine .mk _ (λH hH _=>aP4 rfl Tryz.underlying42 a2Q rfl rfl ((hH _ (by decide)).trans rfl) rfl rfl (Eq.symm rfl) (List.length_map _) e28) ?_
 refine .mk λx29 e29=>?_
 have fx29:=aQC e28 e29;have lx29:=fH e29 (rfl:x25.dD.length=x25.dD.length)
 refine .mk _ ⟨λ_=>bQ.dM (eO (ob':=(⟨77,4,true,true,_,x29.map aM.av⟩:bC)) (dZ rfl a2Q rfl rfl rfl rfl rfl (cZ e28) rfl rfl rfl) (eU (iI e29))) (λ_ h=>h) (λ_ _=>trivial),by rintro _ _ ⟨rfl,rfl⟩;exact trivial⟩ ?_
 rintro _ _ ⟨rfl,rfl⟩
 exact .mk rfl ⟨rfl,(by first | rfl | exact lx29 ▸ rfl),rfl,rfl,rfl,rfl,rfl,trivial⟩
 intro _ _
 refine .mk trivial ?_
 refine .mk λx30 e30=>?_
 refine .mk (λx31 e31=>?_) rfl (by rintro _ rfl;exact (.cons (bK.agg (.cons (.refl _) (.cons (.refl _) (.cons (.refl _) (.cons (.refl _) (.cons (.refl _) (.cons (kZ rfl rfl rfl rfl rfl (Eq.symm rfl) e30 (lW (.cons (.refl _) (.cons (.refl _) (.cons (dH rfl rfl rfl rfl rfl (Eq.symm rfl)) (.cons (.refl _) (.cons (.refl _) (.cons (.refl _) (.cons (.refl _) (.cons (.refl _) .nil)))))))) (aP.bW _))) (.cons (.refl _) (.cons (.refl _) (.cons (.refl _) (.cons (.refl _) .nil))))))))))) (.cons (.refl _) (.cons (.refl _) .nil))))
 intro v32
 refine .mk ?_ ?_
 refine .mk λx33=>?_
 refine .mk .mk ?_
 refine .mk (λx34 e34=>?_) rfl (by rintro _ rfl;exact (.cons (bK.agg (.cons (.refl _) (.cons (.refl _) (.cons (.refl _) (.cons (.refl _) (.cons (.refl _) (.cons (kZ rfl rfl rfl rfl rfl (Eq.symm rfl) e30 (lW (.cons (.refl _) (.cons (.refl _) (.cons (dH rfl rfl rfl rfl rfl (Eq.symm rfl)) (.cons (.refl _) (.cons (.refl _) (.cons (.refl _) (.cons (.refl _) (.cons (.refl _) .nil)))))))) (aP.bW _))) (.cons (.refl _) (.cons (.refl _) (.cons (.refl _) (.cons (.refl _) .nil))))))))))) (.cons (.refl _) (.cons (.refl _) .nil))))
 refine .mk λx35=>?_
 exact .mk
 intro _ _
 refine .mk .mk ?_
 refine .mk ?_
 refine .mk λx36=>?_
 exact .mk (bK.aU (.cons (bK.agg (.cons (.refl _) (.cons (.refl _) (.cons (.refl _) (.cons (.refl _) (.cons (.refl _) (.cons (kZ rfl rfl rfl rfl rfl (Eq.symm rfl) e30 (lW (.cons (.refl _) (.cons (.refl _) (.cons (dH rfl rfl rfl rfl rfl (Eq.symm rfl)) (.cons (.refl _) (.cons (.refl _) (.cons (.refl _) (.cons (.refl _) (.cons (.refl _) .nil)))))))) (aP.bW _))) (.cons (.refl _) (.cons (.refl _) (.cons (.refl _) (.cons (.refl _) .nil))))))))))) (.cons (.refl _) (.cons (.refl _) (.cons (.refl _) .nil)))))
def aC5 (n:Nat) (a1:aA) (a2:aS):WB (aA×Int) :=
 .al 1<|.al 2<|.al 3<|.cl 21 (rR n a1 a2.E a2.Item a2.Loc 3 a2.aQ) aA0 wP λx6=>.al 4<|.bB 27 (decide (x6.2.2.2≠0)) λx8=>.ifs [27] x8 (.ret ((x6.1:aA),x6.2.2.2)) (.cl 39 (uU n x6.1 a2.E a2.Item a2.To x6.2.1) vS yA λx9=>.bB 45 (decide (x9.2.2.2≠0)) λx10=>.ifs [45] x10 (.ret ((x9.1:aA),x9.2.2.2)) (.dr [(0,[1]),(1,[2]),(3,[4]),(4,[4]),(8,[4]),(9,[4])] [(18,[])] [1,2,4] [18] [0,1,2,3,4,5,6,7,8,9,10,11,12,13,14,15,16,17,18,19] (.bI 53 (aI (x9.2.1-x6.2.1.Value)) λx11=>.bI 58 (aI (x9.2.1-x6.2.1.Value)) λx12=>.cl 59 (lM 0 x12) aWG mG λx13=>.cl 61 (lM 6 x9.2.2.1) aWG mG λx14=>.to 62 (aD 2 aH.av ([x13,x14]:List aH))<|.cl 63 (wE n x9.1 a2 (⟨0,0,0,0,0,0,0,0,0,0,x11⟩:bM) ([x13,x14]:List aH)) YG xA λx15=>.ret ((x15.1:aA),x15.2))))
def U9 (n:Nat) (a1:aA) (a2:aS):Option (aA×Int):=(aC5 n a1 a2).run
theorem aHY {n a1 a2}:PZ (U9 n a1 a2) 159 [.agg (aA.av a1),.agg (aS.av a2)] (λr=>.aU [.agg (aA.av r.1),int r.2]):=wq Tryz.func159
def aD8 (n:Nat) (a1:aM):WB (aB) :=
 .al 1<|.al 2<|.cl 8 (y8 n a1.cO) aM0 BD λx4=>.al 3<|.ret ((x4.1:aB))
def IZ (n:Nat) (a1:aM):Option (aB):=(aD8 n a1).run
theorem T7 {n a1}:PZ (IZ n a1) 165 [.agg (aM.av a1)] (λr=>.agg (aB.av r)):=wq Tryz.func165
def aK8 (n:Nat) (a1:Int) (a2:aM):WB (Int) :=
 .al 1<|.bB 6 (decide (a1=3)) λx4=>.ifs [6] x4 (.cl 8 (AN n a2) aGZ IN λx5=>.ret ((x5:Int))) (.cl 10 (IZ n a2) aBS T7 λx6=>.ret ((x6.aQ:Int)))
def OF (n:Nat) (a1:Int) (a2:aM):Option (Int):=(aK8 n a1 a2).run
theorem aHL {n a1 a2}:PZ (OF n a1 a2) 194 [int a1,.agg (aM.av a2)] int:=wq Tryz.func194
def aMT (n:Nat) (a1:aA) (a2:aS):WB (aA×Int) :=
 .al 1<|.al 2<|.al 3<|.dr [(0,[1]),(1,[1]),(2,[1]),(3,[2]),(4,[2]),(7,[2]),(8,[2]),(11,[1]),(12,[1]),(13,[1]),(14,[2]),(15,[2]),(18,[2]),(19,[2])] [] [1,2] [] [0,1,2,3,4,5,6,7,8,9,10,11,12,13,14,15,16,17,18,19,20,21,22,23] (.ix 24 (fL 1 fI) a1.bA.Methods a2.E λx6=>.ix 28 fI x6 a2.Item λx7=>.ix 35 (fL 1 fI) a1.bA.dN a2.E λx8=>.ix 39 fI x8 a2.Item λx9=>.cl 48 (yG a1 a2.E a2.Item a2.Loc) zQ BV λx10=>.al 4<|.dr [(0,[2]),(1,[2]),(3,[4])] [] [2,4] [] [0,1,2,3,4,5,6] (.cl 53 (OF n x7 x10) aKA aHL λx12=>.bI 54 (aI (a2.aQ-x12)) λx13=>.bB 57 (decide (x13=0)) λx14=>.ifs [57] x14 (.ret ((a1:aA),0)) (.bB 61 (decide (x13<0)) λx15=>.ifs [61] x15 (.bI 71 (aI (0-x13)) λx16=>.cl 72 (rR n a1 a2.E a2.Item a2.Loc 2 x16) aA0 wP λx17=>.al 5<|.al 6<|.bB 78 (decide (x17.2.2.2≠0)) λx20=>.ifs [78] x20 (.ret ((x17.1:aA),x17.2.2.2)) (.dr [(0,[5]),(1,[2]),(2,[6]),(3,[6]),(5,[6]),(6,[6]),(8,[6]),(9,[6])] [(16,[])] [2,5,6] [16] [0,1,2,3,4,5,6,7,8,9,10,11,12,13,14,15,16,17] (.cl 88 (lM 8 x17.2.1.Value) aWG mG λx21=>.bI 91 (aI (0-x17.2.1.Value)) λx22=>.cl 92 (lM 0 x22) aWG mG λx23=>.to 93 (aD 2 aH.av ([x21,x23]:List aH))<|.cl 94 (wE n x17.1 a2 (⟨0,0,0,0,0,0,0,0,0,x17.2.1.Value,0⟩:bM) ([x21,x23]:List aH)) YG xA λx24=>.ret ((x24.1:aA),x24.2)))) (.cl 98 (IZ n x10) aBS T7 λx25=>.al 7<|.bB 100 (decide (x7=4)) λx27=>.jn 0 [2,3,4,5,9] [1,2,3] [] (λ_ (a:Int×Int)=>[(14,int a.1),(15,int a.2)]) (λ_ _=>[]) (.ifs [100] x27 (.cl 104 (wT n x13 x9 1) sW xV λx28=>.ret ((x28.1:Int),x28.2.2)) (.bB 110 (decide (x25.aQ>0)) λx29=>.ifs [110] x29 (.cl 117 (wT n x25.Value x13 x25.aQ) sW xV λx30=>.ret ((x30.1:Int),x30.2.2)) (.ret ((0:Int),0)))) (pw λy0_1 y0_2=>.bB 122 (decide (y0_2≠0)) λx31=>.ifs [122] x31 (.ret ((a1:aA),y0_2)) (.cl 136 (uU n a1 a2.E a2.Item a2.Loc (⟨x13,y0_1,0⟩:aB)) vS yA λx32=>.bB 142 (decide (x32.2.2.2≠0)) λx33=>.ifs [142] x33 (.ret ((x32.1:aA),x32.2.2.2)) (.dr [(0,[1]),(1,[2])] [(16,[])] [1,2] [16] [0,1,2,3,4,5,6,7,8,9,10,11,12,13,14,15,16,17] (.bI 148 (aI (0-x32.2.1)) λx34=>.cl 151 (lM 0 x32.2.1) aWG mG λx35=>.cl 153 (lM 6 x32.2.2.1) aWG mG λx36=>.bI 155 (aI (0-y0_1)) λx37=>.cl 156 (lM 8 x37) aWG mG λx38=>.to 157 (aD 2 aH.av ([x35,x36,x38]:List aH))<|.cl 158 (wE n x32.1 a2 (⟨0,0,0,0,0,0,0,0,0,x34,0⟩:bM) ([x35,x36,x38]:List aH)) YG xA λx39=>.ret ((x39.1:aA),x39.2)))))))))
def OB (n:Nat) (a1:aA) (a2:aS):Option (aA×Int):=(aMT n a1 a2).run
theorem aNB {n a1 a2}:PZ (OB n a1 a2) 158 [.agg (aA.av a1),.agg (aS.av a2)] (λr=>.aU [.agg (aA.av r.1),int r.2]):=wq Tryz.func158
def aLN (n:Nat) (a1:aA) (a2:aS):WB (aA×Int) :=
 .al 1<|.al 2<|.al 3<|.cl 19 (rR n a1 a2.E a2.Item a2.Loc 1 a2.aQ) aA0 wP λx6=>.al 4<|.bB 25 (decide (x6.2.2.2≠0)) λx8=>.ifs [25] x8 (.ret ((x6.1:aA),x6.2.2.2)) (.dr [(0,[1]),(1,[2]),(2,[4]),(3,[4]),(5,[4]),(6,[4]),(8,[4]),(9,[4])] [(16,[])] [1,2,4] [16] [0,1,2,3,4,5,6,7,8,9,10,11,12,13,14,15,16,17] (.cl 35 (lM 7 x6.2.1.Value) aWG mG λx9=>.bI 38 (aI (0-x6.2.1.Value)) λx10=>.cl 39 (lM 0 x10) aWG mG λx11=>.to 40 (aD 2 aH.av ([x9,x11]:List aH))<|.cl 41 (wE n x6.1 a2 (⟨0,0,0,0,0,0,0,0,x6.2.1.Value,0,0⟩:bM) ([x9,x11]:List aH)) YG xA λx12=>.ret ((x12.1:aA),x12.2)))
def a5A (n:Nat) (a1:aA) (a2:aS):Option (aA×Int):=(aLN n a1 a2).run
theorem aC4 {n a1 a2}:PZ (a5A n a1 a2) 157 [.agg (aA.av a1),.agg (aS.av a2)] (λr=>.aU [.agg (aA.av r.1),int r.2]):=wq Tryz.func157
def aUK (n:Nat) (a1:aA) (a2:aS):WB (aA×Int) :=
 .al 1<|.al 2<|.al 3<|.dr [(1,[2]),(2,[2])] [(8,[])] [2] [7,8] [0,1,2,3,4,5,6,7,8,9] (.gv 12<|.wt 14<|.sp [14] a2.Kind 6 (.gv 15<|.al 4<|.cl 26 (lH a1 a2.E a2.Item) l8 mU λx26=>.bB 28 (decide (x26≠0)) λx27=>.ifs [28] x27 (.ret ((a1:aA),x26)) (.cl 36 (a5A n a1 a2) aB0 aC4 λx28=>.al 5<|.bB 40 (decide (x28.2≠0)) λx30=>.ifs [40] x30 (.ret ((a1:aA),x28.2)) (.ret ((x28.1:aA),0)))) (.sp [14] a2.Kind 7 (.gv 15<|.al 4<|.cl 26 (lH a1 a2.E a2.Item) l8 mU λx20=>.bB 28 (decide (x20≠0)) λx21=>.ifs [28] x21 (.ret ((a1:aA),x20)) (.cl 36 (OB n a1 a2) aDC aNB λx22=>.al 5<|.bB 40 (decide (x22.2≠0)) λx24=>.ifs [40] x24 (.ret ((a1:aA),x22.2)) (.ret ((x22.1:aA),0)))) (.sp [14] a2.Kind 8 (.gv 15<|.al 4<|.cl 26 (lH a1 a2.E a2.Item) l8 mU λx14=>.bB 28 (decide (x14≠0)) λx15=>.ifs [28] x15 (.ret ((a1:aA),x14)) (.cl 36 (U9 n a1 a2) WY aHY λx16=>.al 5<|.bB 40 (decide (x16.2≠0)) λx18=>.ifs [40] x18 (.ret ((a1:aA),x16.2)) (.ret ((x16.1:aA),0)))) (.sp [14] a2.Kind 9 (.gv 15<|.al 4<|.cl 26 (lH a1 a2.E a2.Item) l8 mU λx8=>.bB 28 (decide (x8≠0)) λx9=>.ifs [28] x9 (.ret ((a1:aA),x8)) (.cl 36 (O3 n a1 a2) aJP aJH λx10=>.al 5<|.bB 40 (decide (x10.2≠0)) λx12=>.ifs [40] x12 (.ret ((a1:aA),x10.2)) (.ret ((x10.1:aA),0)))) (.as (a2.Kind≠6/\a2.Kind≠7/\a2.Kind≠8/\a2.Kind≠9) inferInstance<|.gv 15<|.al 4<|.ret ((a1:aA),1))))))
def aTX (n:Nat) (a1:aA) (a2:aS):Option (aA×Int):=(aUK n a1 a2).run
def VY (a1:Int) (a2:Int):WB (Int) :=
 .as (a2≠0) inferInstance<|.bl (a1.tmod a2:Int) λx4=>.gv 8<|.bB 10 (decide (x4<0)) λx5=>.jn 0 [4] [] [] (λ_ (a:Int)=>[(5,int a)]) (λ_ _=>[]) (.ifs [10] x5 (.bI 13 (aI (x4+a2)) λx6=>.ret x6) (.ret x4)) (λy0_1=>.ret ((y0_1:Int)))
def rQ (a1:Int) (a2:Int):Option (Int):=(VY a1 a2).run
theorem AY {a1 a2}:PZ (rQ a1 a2) 6 [int a1,int a2] int:=wq Tryz.func6
def bDB (n:Nat) (a1:Int) (a2:Int):WB (eZ) :=
 .al 1<|.to 8 (aD 1 fI ([1]:List Int))<|.al 2<|.jn 1 [4,5] [1] [5,6] (λ_ (a:(List (List Int))×(List (List Int)))=>[]) (λu2 a=>[.kp 2 [[int a1,int 4,aD 1 fI ([1]:List Int),.sl 5 (u2 5) 0 a.1.length,.sl 6 (u2 6) 0 a.2.length]],.nw 5 22 1 (a.1.map (fL 1 fI)),.nw 6 22 1 (a.2.map (fL 1 fI))]) (.nc 2 0 3 5 22 1<|.nc 2 0 4 6 22 1<|.lp [0,1,4,5] [1] [5,6] (λ_ (a:Int×(List (List Int))×(List (List Int)))=>[(6,int a.1)]) (λu3 a=>[.kp 2 [[int a1,int 4,aD 1 fI ([1]:List Int),.sl 5 (u3 5) 0 a.2.1.length,.sl 6 (u3 6) 0 a.2.2.length]],.nw 5 22 1 (a.2.1.map (fL 1 fI)),.nw 6 22 1 (a.2.2.map (fL 1 fI))]) n ((0:Int),(([]:List (List Int)):List (List Int)),(([]:List (List Int)):List (List Int))) (pw λy0_1 q0=>(pw λy0_4 y0_5=>.bB 12 (decide (y0_1<a1)) λx7=>.ifs [12] x7 (.dr [(0,[2]),(1,[2]),(6,[2]),(7,[2]),(11,[2]),(13,[2])] [(12,[]),(14,[])] [2] [5,10,12,14] [0,1,2,3,4,6,7,8,9,5,11,10,12,13,14] (.to 18 (aD 1 fI ([a2]:List Int))<|.to 19 (aD 1 (fL 1 fI) ([([a2]:List Int)]:List (List Int)))<|.to 23 (aD 1 fI ([10]:List Int))<|.to 24 (aD 1 (fL 1 fI) ([([10]:List Int)]:List (List Int)))<|.bl (y0_4++([([a2]:List Int)]:List (List Int)):List (List Int)) λx8=>.as (x8.length<=68719476736) inferInstance<|.ge 20 0<|.bl (y0_5++([([10]:List Int)]:List (List Int)):List (List Int)) λx11=>.as (x11.length<=68719476736) inferInstance<|.ge 25 0<|.bI 14 (aI (y0_1+1)) λx14=>.brk ((x14:Int),(x8:List (List Int)),(x11:List (List Int))))) (.esc (.ret ((y0_4:List (List Int)),(y0_5:List (List Int)))))) q0)) (pw λy1_3 y1_4=>.ret (((⟨a1,4,([1]:List Int),y1_3,y1_4⟩:eZ):eZ)))
def a3Z (n:Nat) (a1:Int) (a2:Int):Option (eZ):=(bDB n a1 a2).run
theorem a9D {n a1 a2}:PZ (a3Z n a1 a2) 5 [int a1,int a2] (λr=>.agg (eZ.av r)):=wq Tryz.func5
def aLS (n:Nat) (a1:List Int) (a2:Int) (a3:Int) (a4:Int):WB (Bool) :=
 .ln 11 fI a1<|.bB 13 (decide ((a1.length:Int)≠a2)) λx5=>.ifs [13] x5 (.ret ((false:Bool))) (.dF 2 [8] [] [] (λ_ (a:Unit)=>[]) (λ_ _=>[]) (.lp [0,1,2,3,8] [] [] (λ_ (a:Int)=>[(9,int a)]) (λ_ _=>[]) n 0 (λy0_1=>.bB 16 (decide (y0_1<a2)) λx6=>.ifs [16] x6 (.jn 2 [0,1,2,3,8,9] [] [] (λ_ (a:Bool)=>[(32,aF a)]) (λ_ _=>[]) (.ix 21 fI a1 y0_1 λx7=>.bB 24 (decide (x7<a3)) λx8=>.ifs [24] x8 (.ret true) (.ix 28 fI a1 y0_1 λx9=>.bB 31 (decide (x9>a4)) λx10=>.ret x10)) (λy1_1=>.ifs [32] y1_1 (.esc (.esc (.ret ((false:Bool))))) (.bI 18 (aI (y0_1+1)) λx11=>.brk x11))) (.esc (.brk ())))) (λ_=>.ret ((true:Bool))))
def zS (n:Nat) (a1:List Int) (a2:Int) (a3:Int) (a4:Int):Option (Bool):=(aLS n a1 a2 a3 a4).run
theorem GH {n a1 a2 a3 a4}:PZ (zS n a1 a2 a3 a4) 47 [aD 1 fI a1,int a2,int a3,int a4] aF:=wq Tryz.func47
def aOG (n:Nat) (a1:eZ):WB (Bool) :=
 .al 1<|.ln 7 fI a1.cB<|.jn 0 [1,2,3] [1] [] (λ_ (a:Bool)=>[(56,aF a)]) (λ_ _=>[]) (.bB 10 (decide (a1.eH<1)) λx3=>.ifs [10] x3 (.ret true) (.bB 14 (decide (a1.eH>4)) λx4=>.ifs [14] x4 (.ret true) (.bB 19 (decide (a1.aQA<1)) λx5=>.ifs [19] x5 (.ret true) (.bB 24 (decide (a1.aQA>12)) λx6=>.ifs [24] x6 (.ret true) (.bB 28 (decide ((a1.cB.length:Int)<1)) λx7=>.ifs [28] x7 (.ret true) (.bB 32 (decide ((a1.cB.length:Int)>5)) λx8=>.ifs [32] x8 (.ret true) (.cl 38 (zS n a1.cB (a1.cB.length:Int) 0 1073741824) y9 GH λx9=>.bB 39 (!x9) λx10=>.ifs [39] x10 (.ret true) (.ln 44 (fL 1 fI) a1.Methods<|.bB 47 (decide ((a1.Methods.length:Int)≠a1.eH)) λx11=>.ifs [47] x11 (.ret true) (.ln 52 (fL 1 fI) a1.dN<|.bB 55 (decide ((a1.dN.length:Int)≠a1.eH)) λx12=>.ret x12))))))))) (λy0_1=>.ifs [56] y0_1 (.ret ((false:Bool))) (.dF 2 [2] [] [] (λ_ (a:Unit)=>[]) (λ_ _=>[]) (.lp [1,2,3] [1] [] (λ_ (a:Int)=>[(4,int a)]) (λ_ _=>[]) n 0 (λy1_1=>.bB 60 (decide (y1_1<a1.eH)) λx13=>.ifs [60] x13 (.jn 2 [1,2,3,4] [1] [] (λ_ (a:Bool)=>[(80,aF a)]) (λ_ _=>[]) (.ix 66 (fL 1 fI) a1.Methods y1_1 λx14=>.cl 69 (zS n x14 (a1.cB.length:Int) 1 4) y9 GH λx15=>.bB 70 (!x15) λx16=>.ifs [70] x16 (.ret true) (.ix 75 (fL 1 fI) a1.dN y1_1 λx17=>.cl 78 (zS n x17 (a1.cB.length:Int) 0 1073741824) y9 GH λx18=>.bB 79 (!x18) λx19=>.ret x19)) (λy2_1=>.ifs [80] y2_1 (.esc (.esc (.ret ((false:Bool))))) (.bI 62 (aI (y1_1+1)) λx20=>.brk x20))) (.esc (.brk ())))) (λ_=>.ret ((true:Bool)))))
def TE (n:Nat) (a1:eZ):Option (Bool):=(aOG n a1).run
theorem aDK {n a1}:PZ (TE n a1) 20 [.agg (eZ.av a1)] aF:=wq Tryz.func20
end
end Go.Pv
