import Derived.Test.YtgoihillpibdjaaGreatX90j
set_option linter.unusedVariables false
set_option linter.unusedSimpArgs false
namespace Go.Pv
open Go.Proofs
set_option maxRecDepth 100000
set_option maxHeartbeats 4000000
noncomputable section
def Y2 (n:Nat) (a1:List aB):WB (aB×Int) :=
 .al 1<|.ln 15 aB.av a1<|.jn 0 [2,3] [1] [6,7,8] (λu2 (a:(List Int)×(List Int)×(List Int))=>[(4,.sl 6 (u2 6) 0 a.1.length),(5,.sl 7 (u2 7) 0 a.2.1.length),(6,.sl 8 (u2 8) 0 a.2.2.length)]) (λ_ a=>[.nw 6 3 1 (a.1.map fI),.nw 7 3 1 (a.2.1.map fI),.nw 8 3 1 (a.2.2.map fI)]) (.no 4 6 3 1<|.no 5 7 3 1<|.no 6 8 3 1<|.lp [2,3,14,15] [1] [6,7,8] (λu3 (a:Int×(List Int)×(List Int)×(List Int))=>[(4,.sl 6 (u3 6) 0 a.2.1.length),(5,.sl 7 (u3 7) 0 a.2.2.1.length),(6,.sl 8 (u3 8) 0 a.2.2.2.length),(16,int a.1)]) (λ_ a=>[.nw 6 3 1 (a.2.1.map fI),.nw 7 3 1 (a.2.2.1.map fI),.nw 8 3 1 (a.2.2.2.map fI)]) n ((0:Int),(([]:List Int):List Int),(([]:List Int):List Int),(([]:List Int):List Int)) (pw λy0_4 q0=>(pw λy0_5 q1=>(pw λy0_6 y0_7=>.bB 17 (decide (y0_4<(a1.length:Int))) λx6=>.ifs [17] x6 (.ix 18 aB.av a1 y0_4 λx7=>.al 2<|.dr [(1,[2]),(2,[2]),(6,[2]),(7,[2]),(11,[2]),(12,[2])] [(14,[])] [2] [4,9,14] [0,1,2,3,5,6,7,8,10,11,12,13,4,9,14,15,16,17] (.to 23 (aN 1 fI ([x7.aI]:List Int))<|.to 28 (aN 1 fI ([x7.Value]:List Int))<|.to 33 (aN 1 fI ([x7.bN]:List Int))<|.bl (y0_5++([x7.aI]:List Int):List Int) λx9=>.as (x9.length<=68719476736) inferInstance<|.ge 24 0<|.bl (y0_6++([x7.Value]:List Int):List Int) λx12=>.as (x12.length<=68719476736) inferInstance<|.ge 29 0<|.bl (y0_7++([x7.bN]:List Int):List Int) λx15=>.as (x15.length<=68719476736) inferInstance<|.ge 34 0<|.bI 35 (aW (y0_4+1)) λx18=>.brk ((x18:Int),x9,x12,x15))) (.esc (.ret ((y0_5:List Int),y0_6,y0_7)))) q1) q0)) (pw λy1_4 q0=>(pw λy1_5 y1_6=>.al 9<|.gv 45<|.eZ 0 [2,3,9] [1] [] (λ_ (a:aB)=>[]) (λ_ a=>[.kp 9 [[int a.aI,int a.Value,int a.bN]]]) (.un 24 (.kB 48 true<|.gv 49<|.al 10<|.jV 54 (pX n y1_4) vM vL (λ_=>rfl) λx21=>.bB 58 (decide (x21.2≠0)) λx22=>.ifs [58] x22 (.esc (.ret (((⟨0,0,0⟩:aB):aB),x21.2))) (.kI 65 1<|.kB 48 true<|.gv 49<|.al 11<|.jV 54 (pX n y1_5) vM vL (λ_=>rfl) λx24=>.bB 58 (decide (x24.2≠0)) λx25=>.ifs [58] x25 (.esc (.ret (((⟨0,0,0⟩:aB):aB),x24.2))) (.kI 65 2<|.kB 48 true<|.gv 49<|.al 12<|.jV 54 (pX n y1_6) vM vL (λ_=>rfl) λx27=>.bB 58 (decide (x27.2≠0)) λx28=>.ifs [58] x28 (.esc (.ret (((⟨0,0,0⟩:aB):aB),x27.2))) (.kI 65 3<|.kB 48 false<|.brk ((⟨x21.1,x24.1,x27.1⟩:aB):aB)))))) (λy2_1=>.ret ((y2_1:aB),0))) q0)
def wV (n:Nat) (a1:List aB):Option (aB×Int):=(Y2 n a1).run
theorem IW {n a1}:PZ (wV n a1) 142 [aN 3 aB.av a1] (λr=>.bT [.agg (aB.av r.1),int r.2]):=by
 refine wm Tryz.func142 ?_
 intro v2
 refine .mk ?_
 refine .mk ?_ ?_
 intro v3
 intro v4
 intro v5
 refine .mk ?_
 rintro ⟨y0_4,y0_5,y0_6,y0_7⟩ _
 refine .mk λx6=>?_
 refine .mk ?_ ?_
 refine .mk λx7 e7=>?_
 intro v8
 refine .mk ?_
 refine .mk (λH hH _=>jY (y:=aN 1 fI ([x7.aI]:List Int)) (jM (ps:=[(0,_)]) (rows:=[[int x7.aI]]) rfl Tryz.underlying22 kE (.cons rfl .nil) (by kernel_rfl) rfl rfl rfl) rfl) ?_
 refine .mk (λH hH _=>jY (y:=aN 1 fI ([x7.Value]:List Int)) (jM (ps:=[(0,_)]) (rows:=[[int x7.Value]]) rfl Tryz.underlying22 kE (.cons rfl .nil) (by kernel_rfl) rfl rfl rfl) rfl) ?_
 refine .mk (λH hH _=>jY (y:=aN 1 fI ([x7.bN]:List Int)) (jM (ps:=[(0,_)]) (rows:=[[int x7.bN]]) rfl Tryz.underlying22 kE (.cons rfl .nil) (by kernel_rfl) rfl rfl rfl) rfl) ?_
 refine .mk λx9 e9=>?_
 refine .mk λxS=>?_
 refine .mk _ ⟨λ_=>oH (g:=fI) (l:=y0_5) (m:=([x7.aI]:List Int)) .any rfl Tryz.underlying22 kE nX rfl rfl rfl rfl rfl rfl rfl rfl rfl rfl (Eq.symm rfl) (.refl _) (λ_=>rfl) e9 xS,by rintro _ _ ⟨v11,-,rfl,rfl⟩;exact ⟨rfl,trivial⟩⟩ ?_
 rintro _ _ ⟨v11,-,rfl,rfl⟩
 refine .mk λx12 e12=>?_
 refine .mk λRE=>?_
 refine .mk _ ⟨λ_=>oH (g:=fI) (l:=y0_6) (m:=([x7.Value]:List Int)) .any rfl Tryz.underlying22 kE nX rfl rfl rfl rfl rfl rfl rfl rfl rfl rfl (Eq.symm rfl) (.refl _) (λ_=>rfl) e12 RE,by rintro _ _ ⟨v14,-,rfl,rfl⟩;exact ⟨rfl,trivial⟩⟩ ?_
 rintro _ _ ⟨v14,-,rfl,rfl⟩
 refine .mk λx15 e15=>?_
 refine .mk λp16=>?_
 refine .mk _ ⟨λ_=>oH (g:=fI) (l:=y0_7) (m:=([x7.bN]:List Int)) .any rfl Tryz.underlying22 kE nX rfl rfl rfl rfl rfl rfl rfl rfl rfl rfl (Eq.symm rfl) (.refl _) (λ_=>rfl) e15 p16,by rintro _ _ ⟨v17,-,rfl,rfl⟩;exact trivial⟩ ?_
 rintro _ _ ⟨v17,-,rfl,rfl⟩
 refine .mk λx18=>?_
 exact .mk
 exact .mk
 rintro ⟨y1_4,y1_5,y1_6⟩ u2
 intro v19
 refine .mk _ (fD (jM (ps:=[(0,_),(1,_),(2,_)]) (rows:=[[.pt 9 v19 0 0,.sl 6 (u2 6) 0 y1_4.length],[.pt 9 v19 0 1,.sl 7 (u2 7) 0 y1_5.length],[.pt 9 v19 0 2,.sl 8 (u2 8) 0 y1_6.length]]) rfl Tryz.underlying214 aKC (.cons rfl (.cons rfl (.cons rfl .nil))) (by kernel_rfl) rfl rfl rfl)) ?_
 refine .mk ?_ ?_
 refine .mk ?_
 refine .mk _ (fD (mX (j:=0) rfl Tryz.underlying214 TW rfl rfl rfl (.list rfl))) ?_
 intro v20
 refine .mk (λx21 e21=>?_) rfl (by rintro _ rfl;exact (.cons (gQ rfl rfl rfl rfl rfl (Eq.symm rfl)) .nil))
 refine .mk λx22=>?_
 refine .mk .mk ?_
 refine .mk ?_
 refine .mk ?_
 refine .mk _ (fD (mX (j:=1) rfl Tryz.underlying214 TW rfl rfl rfl (.list rfl))) ?_
 intro v23
 refine .mk (λx24 e24=>?_) rfl (by rintro _ rfl;exact (.cons (gQ rfl rfl rfl rfl rfl (Eq.symm rfl)) .nil))
 refine .mk λx25=>?_
 refine .mk .mk ?_
 refine .mk ?_
 refine .mk ?_
 refine .mk _ (fD (mX (j:=2) rfl Tryz.underlying214 TW rfl rfl rfl (.list rfl))) ?_
 intro v26
 refine .mk (λx27 e27=>?_) rfl (by rintro _ rfl;exact (.cons (gQ rfl rfl rfl rfl rfl (Eq.symm rfl)) .nil))
 refine .mk λx28=>?_
 refine .mk .mk ?_
 refine .mk ?_
 refine .mk ?_
 exact .mk
 intro _ _
 exact .mk
def Y6 (n:Nat) (a1:List aB):WB (Bool) :=
 .ln 9 aB.av a1<|.jn 0 [2] [] [3] (λu2 (a:(List Int))=>[(3,.sl 3 (u2 3) 0 a.length)]) (λ_ a=>[.nw 3 3 1 (a.map fI)]) (.no 3 3 3 1<|.lp [2,8,9] [] [3] (λu3 (a:Int×(List Int))=>[(3,.sl 3 (u3 3) 0 a.2.length),(10,int a.1)]) (λ_ a=>[.nw 3 3 1 (a.2.map fI)]) n ((0:Int),(([]:List Int):List Int)) (pw λy0_2 y0_3=>.bB 11 (decide (y0_2<(a1.length:Int))) λx3=>.ifs [11] x3 (.ix 12 aB.av a1 y0_2 λx4=>.al 1<|.bI 19 (aW (0-x4.bN)) λx6=>.bl (if x6>x4.bN then x6 else x4.bN:Int) λx7=>.gv 20<|.to 21 (aN 1 fI ([x7]:List Int))<|.bl (y0_3++([x7]:List Int):List Int) λx8=>.as (x8.length<=68719476736) inferInstance<|.ge 22 0<|.bI 23 (aW (y0_2+1)) λx11=>.brk ((x11:Int),x8)) (.esc (.ret y0_3)))) (λy1_2=>.jV 26 (pX n y1_2) vM vL (λ_=>rfl) λx12=>.bB 30 (decide (x12.2=0)) λx13=>.ret ((x13:Bool)))
def GN (n:Nat) (a1:List aB):Option (Bool):=(Y6 n a1).run
theorem aNR {n a1}:PZ (GN n a1) 235 [aN 3 aB.av a1] bD:=wq Tryz.func235
def aA7 (n:Nat) (a1:List aB):WB (Bool) :=
 .jn 1 [0,2] [] [] (λ_ (a:Bool)=>[(11,bD a)]) (λ_ _=>[]) (.ln 6 aB.av a1<|.bB 7 (decide ((a1.length:Int)>30)) λx2=>.ifs [7] x2 (.ret true) (.inl 10 aPZ Tryz.func233 [] [] (λ_ (a:Bool)=>bD a) (λ_ _=>[]) (.inl 7 aJ9 Tryz.func236 [] [] (λ_ (a:Int)=>int a) (λ_ _=>[]) (.ln 7 aB.av a1<|.eZ 0 [4] [] [] (λ_ (a:Unit)=>[]) (λ_ _=>[]) (.lp [0,1,4,7] [] [] (λ_ (a:Int)=>[(8,int a)]) (λ_ _=>[]) n 0 (λy0_1=>.bB 9 (decide (y0_1<(a1.length:Int))) λx3=>.ifs [9] x3 (.ix 14 aB.av a1 y0_1 λx4=>.cl 16 (MU x4) aZG aT7 λx5=>.ifs [16] x5 (.esc (.esc (.ret y0_1))) (.bI 18 (aW (y0_1+1)) λx6=>.brk x6)) (.esc (.brk ())))) (λ_=>.ret (-1))) (λy2_1=>.bB 8 (decide (y2_1>=0)) λx7=>.ret x7)) (λy3_1=>.ret y3_1))) (λy4_1=>.ifs [11] y4_1 (.ret ((false:Bool))) (.cl 14 (wV n a1) KL IW λx8=>.al 1<|.jn 0 [] [] [] (λ_ (a:Bool)=>[(2,bD a)]) (λ_ _=>[]) (.bB 18 (decide (x8.2=0)) λx10=>.ifs [18] x10 (.cl 21 (GN n a1) aWO aNR λx11=>.ret x11) (.ret false)) (λy5_1=>.ret ((y5_1:Bool)))))
def IM (n:Nat) (a1:List aB):Option (Bool):=(aA7 n a1).run
theorem aXK {n a1}:PZ (IM n a1) 230 [aN 3 aB.av a1] bD:=wq Tryz.func230
def aAF (n:Nat) (a1:List aB) (a2:aB):WB ((List aB)×Int) :=
 .al 1<|.as (a1.length<=68719476736) inferInstance<|.ge 8 2<|.jn 1 [0,3,4,5] [1,2] [] (λ_ (a:Bool)=>[(9,bD a)]) (λ_ _=>[]) (.bB 12 (decide (a2.aI<1)) λx6=>.ifs [12] x6 (.ret true) (.bB 16 (decide (a2.Value<0)) λx7=>.ret x7)) (λy0_1=>.ifs [9] y0_1 (.ret ((a1:List aB),1)) (.bB 22 (decide ((a1.length:Int)>=30)) λx8=>.ifs [22] x8 (.ret ((a1:List aB),6)) (.dr [(2,[1])] [(4,[])] [1] [1,4] [0,2,3,1,4,5] (.to 27 (aN 3 aB.av ([a2]:List aB))<|.as (a1.length<=68719476736) inferInstance<|.ge 25 3<|.bl (a1++([a2]:List aB):List aB) λx11=>.as (x11.length<=68719476736) inferInstance<|.ge 28 0<|.jV 30 (IM n x11) aT6 aXK (λ_=>rfl) λx14=>.bB 31 (!x14) λx15=>.ifs [31] x15 (.ret ((a1:List aB),2)) (.ret ((x11:List aB),0))))))
def F4 (n:Nat) (a1:List aB) (a2:aB):Option ((List aB)×Int):=(aAF n a1 a2).run
theorem YU {n a1 a2}:PZ (F4 n a1 a2) 228 [aN 3 aB.av a1,.agg (aB.av a2)] (λr=>.bT [aN 3 aB.av r.1,int r.2]):=by
 refine wm Tryz.func228 ?_
 intro v3
 refine .mk λp4=>?_
 refine .mk _ ⟨λ_=>kZ rfl rfl (.cons rfl .nil) AP (lT (C6.pc (id:=2) (l:=a1) rfl p4) (.cons (.refl _) .nil)),λ_ _ _=>trivial⟩ ?_
 rintro _ _ ⟨v5,rfl,rfl⟩
 refine .mk ?_ ?_
 refine .mk λx6=>?_
 refine .mk .mk ?_
 refine .mk λx7=>?_
 exact .mk
 intro _ _
 refine .mk ?_ ?_
 exact .mk (dX.bT (.cons (gQ rfl rfl rfl rfl rfl (Eq.symm rfl)) (.cons (.refl _) .nil)))
 refine .mk λx8=>?_
 refine .mk ?_ ?_
 exact .mk (dX.bT (.cons (gQ rfl rfl rfl rfl rfl (Eq.symm rfl)) (.cons (.refl _) .nil)))
 refine .mk ?_
 refine .mk (λH hH _=>jY (y:=aN 3 aB.av ([a2]:List aB)) (jM (ps:=[(0,_)]) (rows:=[[int a2.aI,int a2.Value,int a2.bN]]) rfl Tryz.underlying104 VC (.cons rfl .nil) (by kernel_rfl) rfl rfl rfl) rfl) ?_
 refine .mk λp9=>?_
 refine .mk _ ⟨λ_=>eG.jS 2 rfl (kZ rfl rfl (.cons rfl .nil) AP (lT (C6.pc (id:=3) (l:=a1) rfl p9) (.cons (gQ rfl rfl rfl rfl rfl (Eq.symm rfl)) .nil))),by rintro _ _ ⟨v10,rfl,rfl⟩;exact ⟨rfl,trivial⟩⟩ ?_
 rintro _ _ ⟨v10,rfl,rfl⟩
 refine .mk λx11 e11=>?_
 refine .mk λpW=>?_
 refine .mk _ ⟨λ_=>oH (g:=aB.av) (l:=a1) (m:=([a2]:List aB)) .any rfl Tryz.underlying104 VC aDO rfl rfl rfl rfl rfl rfl rfl rfl rfl rfl (Eq.symm rfl) (.refl _) (λ_=>rfl) e11 pW,by rintro _ _ ⟨v13,-,rfl,rfl⟩;exact trivial⟩ ?_
 rintro _ _ ⟨v13,-,rfl,rfl⟩
 refine .mk (λx14 e14=>?_) rfl (by rintro _ rfl;exact (.cons (gQ rfl rfl rfl rfl rfl (Eq.symm rfl)) .nil))
 refine .mk λx15=>?_
 refine .mk ?_ ?_
 exact .mk (dX.bT (.cons (gQ rfl rfl rfl rfl rfl (Eq.symm rfl)) (.cons (.refl _) .nil)))
 exact .mk (dX.bT (.cons (gQ rfl rfl rfl rfl rfl (Eq.symm rfl)) (.cons (.refl _) .nil)))
def aF1 (n:Nat) (a1:List aB) (a2:aB):WB ((List aB)×Int) :=
 .al 1<|.dr [(3,[1])] [] [1] [0] [2,3,0,1,4,5,6,7,8,9] (.inl 10 I4 Tryz.func241 [1] [] (λ_ (a:Unit)=>.agg [.fn (.func 228) [] [],.fn (.func 229) [] [],.fn (.func 142) [] []]) (λ_ _=>[]) (.al 2<|.ret ()) (λ_=>.cl 14 (F4 n a1 a2) aHW YU λx5=>.bB 18 (decide (x5.2≠0)) λx6=>.ifs [18] x6 (.ret ((x5.1:List aB),x5.2)) (.inl 22 I4 Tryz.func241 [1] [] (λ_ (a:Unit)=>.agg [.fn (.func 228) [] [],.fn (.func 229) [] [],.fn (.func 142) [] []]) (λ_ _=>[]) (.al 3<|.ret ()) (λ_=>.cl 25 (wV n x5.1) KL IW λx8=>.al 4<|.bB 29 (decide (x8.2≠0)) λx10=>.ifs [29] x10 (.as (a1.length<=68719476736) inferInstance<|.ge 31 5<|.ret ((a1:List aB),x8.2)) (.to 34 (aN 3 aB.av ([x8.1]:List aB))<|.ret ((([x8.1]:List aB):List aB),0))))))
def AI (n:Nat) (a1:List aB) (a2:aB):Option ((List aB)×Int):=(aF1 n a1 a2).run
theorem R3 {n a1 a2}:PZ (AI n a1 a2) 239 [aN 3 aB.av a1,.agg (aB.av a2)] (λr=>.bT [aN 3 aB.av r.1,int r.2]):=wq Tryz.func239
def XC (n:Nat) (a1:aQ) (a2:aB):WB (aQ×Int) :=
 .al 1<|.al 2<|.al 3<|.cl 12 (AI n a1.aG a2) TZ R3 λx6=>.cl 17 (uK a1 x6.1) GA GI λx7=>.ret ((x7:aQ),x6.2)
def IJ (n:Nat) (a1:aQ) (a2:aB):Option (aQ×Int):=(XC n a1 a2).run
theorem aLQ {n a1 a2}:PZ (IJ n a1 a2) 244 [.agg (aQ.av a1),.agg (aB.av a2)] (λr=>.bT [.agg (aQ.av r.1),int r.2]):=wq Tryz.func244
def VX (n:Nat) (a1:List aB) (a2:aB) (a3:Int):WB ((List aB)×Int×Int) :=
 .al 1<|.as (a1.length<=68719476736) inferInstance<|.ge 16 2<|.jn 1 [0,2,4,6,7,8,10] [1,2] [] (λ_ (a:Bool)=>[(30,bD a)]) (λ_ _=>[]) (.cl 19 (BC a3) UO UJ λx7=>.bB 20 (!x7) λx8=>.ifs [20] x8 (.ret true) (.bB 24 (decide (a2.aI<1)) λx9=>.ifs [24] x9 (.ret true) (.bB 29 (decide (a2.Value<0)) λx10=>.ret x10))) (λy0_1=>.ifs [30] y0_1 (.ret ((a1:List aB),0,1)) (.cl 37 (AB n a3 a2.aI) TV SG λx11=>.jn 0 [0,4,6,7,8,11] [1,2] [] (λ_ (a:Bool)=>[(46,bD a)]) (λ_ _=>[]) (.bB 41 (decide (x11.2≠0)) λx12=>.ifs [41] x12 (.ret true) (.bB 45 (decide (a2.Value>288230376151711744)) λx13=>.ret x13)) (λy1_1=>.ifs [46] y1_1 (.ret ((a1:List aB),0,2)) (.bI 51 (aW (a2.Value-x11.1)) λx14=>.jS 2<|.cl 57 (AI n a1 (⟨a2.aI,x11.1,a2.bN⟩:aB)) TZ R3 λx15=>.bB 61 (decide (x15.2≠0)) λx16=>.ifs [61] x16 (.ret ((a1:List aB),0,x15.2)) (.ret ((x15.1:List aB),x14,0))))))
def LA (n:Nat) (a1:List aB) (a2:aB) (a3:Int):Option ((List aB)×Int×Int):=(VX n a1 a2 a3).run
theorem aJM {n a1 a2 a3}:PZ (LA n a1 a2 a3) 248 [aN 3 aB.av a1,.agg (aB.av a2),int a3] (λr=>.bT [aN 3 aB.av r.1,int r.2.1,int r.2.2]):=wq Tryz.func248
def XB (n:Nat) (a1:Int) (a2:Int) (a3:aQ) (a4:aB):WB (aQ×Int×Int) :=
 .al 1<|.al 2<|.al 3<|.inl 17 aED Tryz.func169 [1,2,3] [] (B:=(Unit)⊕(Unit)⊕(Unit)⊕(Unit)⊕(Unit)) (λu2=>Sum.elim (λa=>.iK 221 (.agg [])) (Sum.elim (λa=>.iK 222 (.agg [])) (Sum.elim (λa=>.iK 223 (.agg [])) (Sum.elim (λa=>.iK 225 (.agg [int a2])) (λa=>.sc .nilIface))))) (λu2=>Sum.elim (λa=>[]) (Sum.elim (λa=>[]) (Sum.elim (λa=>[]) (Sum.elim (λa=>[]) (λa=>[]))))) (.bB 7 (decide (a1=1)) λx8=>.ifs [7] x8 (.gv 9<|.ret (.inl ())) (.bB 11 (decide (a1=2)) λx9=>.ifs [11] x9 (.gv 13<|.ret (.inr (.inl ()))) (.bB 15 (decide (a1=3)) λx10=>.ifs [15] x10 (.gv 17<|.ret (.inr (.inr (.inl ())))) (.bB 19 (decide (a1=4)) λx11=>.ifs [19] x11 (.gv 22<|.ret (.inr (.inr (.inr (.inl ()))))) (.ret (.inr (.inr (.inr (.inr ()))))))))) (Sum.elim (λ_=>.gv 19<|.iv 26 aP9 aPX Tryz.func226 [1,2,3] [] (λ_ (a:aQ×Int)=>.bT [.agg [aN 3 aB.av a.1.aG,int a.1.bH.a0,int a.1.bH.a1,int a.1.bH.a2],int 0,int a.2]) (λ_ _=>[]) (.al 9<|.al 10<|.al 11<|.al 12<|.cl 15 (F4 n a3.aG a4) aHW YU λx16=>.cl 20 (wL a3 x16.1) yG BG λx17=>.ret ((x17:aQ),x16.2)) (pw λy6_1 y6_2=>.al 8<|.bB 31 (decide (y6_2≠0)) λx19=>.ifs [31] x19 (.cl 33 (mY a3) oK o5 λx20=>.ret ((x20:aQ),0,y6_2)) (.ret ((y6_1:aQ),0,0)))) (Sum.elim (λ_=>.gv 19<|.iv 26 aK6 aZC Tryz.func237 [1,2,3] [] (λ_ (a:aQ×Int)=>.bT [.agg [aN 3 aB.av a.1.aG,int a.1.bH.a0,int a.1.bH.a1,int a.1.bH.a2],int 0,int a.2]) (λ_ _=>[]) (.al 17<|.al 18<|.al 19<|.al 20<|.cl 15 (AI n a3.aG a4) TZ R3 λx25=>.cl 20 (wL a3 x25.1) yG BG λx26=>.ret ((x26:aQ),x25.2)) (pw λy8_1 y8_2=>.al 8<|.bB 31 (decide (y8_2≠0)) λx28=>.ifs [31] x28 (.cl 33 (mY a3) oK o5 λx29=>.ret ((x29:aQ),0,y8_2)) (.ret ((y8_1:aQ),0,0)))) (Sum.elim (λ_=>.gv 19<|.iv 26 aOO aXR Tryz.func242 [1,2,3] [] (λ_ (a:aQ×Int)=>.bT [.agg [aN 3 aB.av a.1.aG,int a.1.bH.a0,int a.1.bH.a1,int a.1.bH.a2],int 0,int a.2]) (λ_ _=>[]) (.al 25<|.al 26<|.al 27<|.al 28<|.cl 13 (IJ n a3 a4) aT0 aLQ λx34=>.ret ((x34.1:aQ),x34.2)) (pw λy10_1 y10_2=>.al 8<|.bB 31 (decide (y10_2≠0)) λx36=>.ifs [31] x36 (.cl 33 (mY a3) oK o5 λx37=>.ret ((x37:aQ),0,y10_2)) (.ret ((y10_1:aQ),0,0)))) (Sum.elim (λ_=>.gv 19<|.iv 26 aQJ aXA Tryz.func246 [1,2,3] [] (λ_ (a:aQ×Int×Int)=>.bT [.agg [aN 3 aB.av a.1.aG,int a.1.bH.a0,int a.1.bH.a1,int a.1.bH.a2],int a.2.1,int a.2.2]) (λ_ _=>[]) (.al 33<|.al 34<|.al 35<|.al 36<|.cl 18 (LA n a3.aG a4 a2) aY7 aJM λx42=>.cl 24 (wL a3 x42.1) yG BG λx43=>.ret ((x43:aQ),x42.2.1,x42.2.2)) (pw λy12_1 q0=>(pw λy12_2 y12_3=>.al 8<|.bB 31 (decide (y12_3≠0)) λx45=>.ifs [31] x45 (.cl 33 (mY a3) oK o5 λx46=>.ret ((x46:aQ),0,y12_3)) (.ret ((y12_1:aQ),y12_2,0))) q0)) (λ_=>.gv 19<|.cl 21 (mY a3) oK o5 λx47=>.ret ((x47:aQ),0,12))))))
def JX (n:Nat) (a1:Int) (a2:Int) (a3:aQ) (a4:aB):Option (aQ×Int×Int):=(XB n a1 a2 a3 a4).run
theorem aOZ {n a1 a2 a3 a4}:PZ (JX n a1 a2 a3 a4) 145 [int a1,int a2,.agg (aQ.av a3),.agg (aB.av a4)] (λr=>.bT [.agg (aQ.av r.1),int r.2.1,int r.2.2]):=wq Tryz.func145
def aBN (a1:aA) (a2:Int) (a3:Int) (a4:Int):WB (aQ) :=
 .al 1<|.al 2<|.cl 15 (CE a1 a2 a3 a4) VE VS λx7=>.bB 17 (decide (x7<0)) λx8=>.ifs [17] x8 (.ret (((⟨[],(⟨0,0,0⟩:kJ)⟩:aQ):aQ))) (.iG 22 aP.av gE aP.eP a1.bC a2 λx9=>.ix 26 aQ.av x9.bS x7 λx10=>.al 3<|.as (x10.aG.length<=68719476736) inferInstance<|.ge 30 4<|.ret ((x10:aQ)))
def DJ (a1:aA) (a2:Int) (a3:Int) (a4:Int):Option (aQ):=(aBN a1 a2 a3 a4).run
theorem VP {a1 a2 a3 a4}:PZ (DJ a1 a2 a3 a4) 98 [.agg (aA.av a1),int a2,int a3,int a4] (λr=>.agg (aQ.av r)):=wq Tryz.func98
def aA8 (n:Nat) (a1:aA) (a2:Int) (a3:Int):WB (aB×Bool) :=
 .al 1<|.al 2<|.jn 2 [6,7] [2] [7,8,9] (λu2 (a:(List Int)×(List Int)×(List Int))=>[(8,.sl 7 (u2 7) 0 a.1.length),(9,.sl 8 (u2 8) 0 a.2.1.length),(10,.sl 9 (u2 9) 0 a.2.2.length)]) (λ_ a=>[.nw 7 3 1 (a.1.map fI),.nw 8 3 1 (a.2.1.map fI),.nw 9 3 1 (a.2.2.map fI)]) (.no 8 7 3 1<|.no 9 8 3 1<|.no 10 9 3 1<|.lp [1,2,3,6,7] [1,2] [7,8,9] (λu3 (a:Int×(List Int)×(List Int)×(List Int))=>[(8,.sl 7 (u3 7) 0 a.2.1.length),(9,.sl 8 (u3 8) 0 a.2.2.1.length),(10,.sl 9 (u3 9) 0 a.2.2.2.length),(20,int a.1)]) (λ_ a=>[.nw 7 3 1 (a.2.1.map fI),.nw 8 3 1 (a.2.2.1.map fI),.nw 9 3 1 (a.2.2.2.map fI)]) n ((0:Int),(([]:List Int):List Int),(([]:List Int):List Int),(([]:List Int):List Int)) (pw λy0_4 q0=>(pw λy0_5 q1=>(pw λy0_6 y0_7=>.bB 21 (decide (y0_4<2)) λx9=>.ifs [21] x9 (.cl 28 (DJ a1 a2 a3 y0_4) TC VP λx10=>.cl 30 (wV n x10.aG) KL IW λx11=>.al 3<|.dr [(1,[3]),(2,[3]),(6,[3]),(7,[3]),(11,[3]),(12,[3])] [(14,[])] [3] [4,9,14] [0,1,2,3,5,6,7,8,10,11,12,13,4,9,14,15,16,17] (.to 36 (aN 1 fI ([x11.1.aI]:List Int))<|.to 41 (aN 1 fI ([x11.1.Value]:List Int))<|.to 46 (aN 1 fI ([x11.1.bN]:List Int))<|.bl (y0_5++([x11.1.aI]:List Int):List Int) λx13=>.as (x13.length<=68719476736) inferInstance<|.ge 37 0<|.bl (y0_6++([x11.1.Value]:List Int):List Int) λx16=>.as (x16.length<=68719476736) inferInstance<|.ge 42 0<|.bl (y0_7++([x11.1.bN]:List Int):List Int) λx19=>.as (x19.length<=68719476736) inferInstance<|.ge 47 0<|.bI 48 (aW (y0_4+1)) λx22=>.brk ((x22:Int),x13,x16,x19))) (.esc (.ret ((y0_5:List Int),y0_6,y0_7)))) q1) q0)) (pw λy1_4 q0=>(pw λy1_5 y1_6=>.jV 51 (pX n y1_4) vM vL (λ_=>rfl) λx23=>.jV 56 (pX n y1_5) vM vL (λ_=>rfl) λx24=>.jV 61 (pX n y1_6) vM vL (λ_=>rfl) λx25=>.bl (if x25.2>(if x24.2>x23.2 then x24.2 else x23.2) then x25.2 else (if x24.2>x23.2 then x24.2 else x23.2):Int) λx26=>.gv 71<|.bB 72 (decide (x26=0)) λx27=>.ret (((⟨x23.1,x24.1,x25.1⟩:aB):aB),x27)) q0)
def KM (n:Nat) (a1:aA) (a2:Int) (a3:Int):Option (aB×Bool):=(aA8 n a1 a2 a3).run
theorem aVF {n a1 a2 a3}:PZ (KM n a1 a2 a3) 146 [.agg (aA.av a1),int a2,int a3] (λr=>.bT [.agg (aB.av r.1),bD r.2]):=wq Tryz.func146
def aJA (n:Nat) (a1:aA) (a2:Int) (a3:Int):WB (Bool) :=
 .al 1<|.jn 2 [6] [] [4] (λu14 (a:(List Int))=>[(7,.sl 4 (u14 4) 0 a.length)]) (λ_ a=>[.nw 4 3 1 (a.map fI)]) (.no 7 4 3 1<|.lp [1,2,3,6] [1] [4] (λu18 (a:Int×(List Int))=>[(7,.sl 4 (u18 4) 0 a.2.length),(13,int a.1)]) (λ_ a=>[.nw 4 3 1 (a.2.map fI)]) n ((0:Int),(([]:List Int):List Int)) (pw λy0_2 y0_3=>.bB 14 (decide (y0_2<2)) λx6=>.ifs [14] x6 (.jn 1 [1,2,3,6,13] [1] [4] (λu21 (a:(List Int))=>[(7,.sl 4 (u21 4) 0 a.length)]) (λ_ a=>[.nw 4 3 1 (a.map fI)]) (.cl 20 (DJ a1 a2 a3 y0_2) TC VP λx7=>.ln 22 aB.av x7.aG<|.jn 0 [1,2,3,6,13] [1] [4] (λu23 (a:(List Int))=>[(7,.sl 4 (u23 4) 0 a.length)]) (λ_ a=>[.nw 4 3 1 (a.map fI)]) (.lp [1,2,3,6,13,21,22] [1] [4] (λu24 (a:Int×(List Int))=>[(7,.sl 4 (u24 4) 0 a.2.length),(23,int a.1)]) (λ_ a=>[.nw 4 3 1 (a.2.map fI)]) n ((0:Int),y0_3) (pw λy1_2 y1_3=>.bB 24 (decide (y1_2<(x7.aG.length:Int))) λx8=>.ifs [24] x8 (.ix 25 aB.av x7.aG y1_2 λx9=>.al 2<|.bI 32 (aW (0-x9.bN)) λx11=>.bl (if x11>x9.bN then x11 else x9.bN:Int) λx12=>.gv 33<|.to 34 (aN 1 fI ([x12]:List Int))<|.bl (y1_3++([x12]:List Int):List Int) λx13=>.as (x13.length<=68719476736) inferInstance<|.ge 35 0<|.bI 36 (aW (y1_2+1)) λx16=>.brk ((x16:Int),x13)) (.esc (.ret y1_3)))) (λy2_2=>.ret y2_2)) (λy3_2=>.bI 37 (aW (y0_2+1)) λx17=>.brk ((x17:Int),y3_2))) (.esc (.ret y0_3)))) (λy4_2=>.jV 40 (pX n y4_2) vM vL (λ_=>rfl) λx18=>.bB 44 (decide (x18.2=0)) λx19=>.ret ((x19:Bool)))
def JE (n:Nat) (a1:aA) (a2:Int) (a3:Int):Option (Bool):=(aJA n a1 a2 a3).run
theorem aSA {n a1 a2 a3}:PZ (JE n a1 a2 a3) 147 [.agg (aA.av a1),int a2,int a3] bD:=wq Tryz.func147
def RB (n:Nat) (a1:aA) (a2:Int) (a3:Int) (a4:Int) (a5:aB):WB (aA×Int×Int×Int) :=
 .al 1<|.al 2<|.al 3<|.cl 24 (CE a1 a2 a3 a4) VE VS λx9=>.bB 26 (decide (x9<0)) λx10=>.ifs [26] x10 (.ret ((a1:aA),0,0,4)) (.dr [(0,[1]),(1,[1]),(2,[1]),(9,[1]),(10,[1]),(11,[1]),(18,[1]),(19,[1]),(27,[2])] [(34,[])] [1,2] [33,34] [0,1,2,3,4,5,6,7,8,9,10,11,12,13,14,15,16,17,18,19,20,21,22,23,24,25,26,27,28,29,30,31,32,33,34,35,36] (.ix 33 (fL 1 fI) a1.bJ.Methods a2 λx11=>.ix 36 fI x11 a3 λx12=>.ix 42 (fL 1 fI) a1.bJ.gB a2 λx13=>.ix 45 fI x13 a3 λx14=>.iG 50 aP.av gE aP.eP a1.bC a2 λx15=>.ix 54 aQ.av x15.bS x9 λx16=>.cl 57 (JX n x12 x14 x16 a5) aYY aOZ λx17=>.al 4<|.bB 62 (decide (x17.2.2≠0)) λx19=>.ifs [62] x19 (.ret ((a1:aA),0,0,x17.2.2)) (.al 5<|.inl 70 aDA Tryz.func137 [1,2,3,4] [7,8] (λ_ (a:Int×Bool×(List Int)×(List cK)×(List Int)×(List Int)×(List aP)×(List aQ))=>.bT []) (λu4 a=>[.kp 5 [[int a1.bJ.gD,int a1.bJ.gP,aN 1 fI a1.bJ.cB,aN 1 (fL 1 fI) a1.bJ.Methods,aN 1 (fL 1 fI) a1.bJ.gB,.sl 7 (u4 7) 0 a1.bC.length,aN 8 eU.av a1.cZ,aN 9 eH.av a1.dY,aN 6 fU.av a1.dJ,int a1.Done]],.nw 7 60 8 ((a1.bC.map aP.av).set (Int.toNat a2) [int a.1,bD a.2.1,.sl 8 (u4 8) 0 a.2.2.2.2.2.2.2.length,aN 1 fI a.2.2.1,aN 11 cK.av a.2.2.2.1,aN 1 fI a.2.2.2.2.1,aN 1 fI a.2.2.2.2.2.1,aN 8 aP.av a.2.2.2.2.2.2.1]),.nw 8 107 4 (a.2.2.2.2.2.2.2.map aQ.av)]) (.al 6<|.inl 11 IK Tryz.func173 [1,2,3,4,6] [7] (λu6 (a:Unit)=>.pt 7 (u6 7) (Int.toNat a2) 0) (λu6 _=>[.kp 5 [[int a1.bJ.gD,int a1.bJ.gP,aN 1 fI a1.bJ.cB,aN 1 (fL 1 fI) a1.bJ.Methods,aN 1 (fL 1 fI) a1.bJ.gB,.sl 7 (u6 7) 0 a1.bC.length,aN 8 eU.av a1.cZ,aN 9 eH.av a1.dY,aN 6 fU.av a1.dJ,int a1.Done]],.nw 7 60 8 (a1.bC.map aP.av)]) (.as (a1.bC.length<=68719476736) inferInstance<|.ge 11 7<|.bo (ix a1.bC a2) λx24=>.gv 21<|.ret ()) (λ_=>.bo (ix a1.bC a2) λx25=>.gv 14<|.gv 15<|.gv 16<|.as (x25.bS.length<=68719476736) inferInstance<|.ge 17 8<|.gv 18<|.gv 19<|.ge 1002008 0<|.dr [(1,[7]),(2,[7]),(3,[7]),(5,[6]),(6,[8])] [(7,[])] [6,7,8] [7] [0,1,2,3,4,5,6,7] (.gv 21<|.gv 22<|.gv 23<|.bo (ix x25.bS x9) λx28=>.gv 26<|.bl (x25.bS.set (Int.toNat x9) x17.1:List aQ) λx29=>.ge 1003007 0<|.ret ((x25.fO:Int),(x25.Closed:Bool),(x25.dK:List Int),(x25.dH:List cK),(x25.fZ:List Int),(x25.Down:List Int),(x25.fP:List aP),x29)))) (pw λy1_2 q0=>(pw λy1_3 q1=>(pw λy1_5 q2=>(pw λy1_6 q3=>(pw λy1_7 q4=>(pw λy1_8 q5=>(pw λy1_9 y1_10=>.bo (ix a1.bC a2) λx30=>.jV 76 (KM n (⟨a1.bJ,(a1.bC.set (Int.toNat a2) (⟨y1_2,y1_3,y1_10,y1_5,y1_6,y1_7,y1_8,y1_9⟩:aP)),a1.cZ,a1.dY,a1.dJ,a1.Done⟩:aA) a2 a3) aN3 aVF (λ_=>rfl) λx31=>.al 9<|.jn 0 [5,9,10,11,12,13,17] [1,2,3,5,7,8] [] (λ_ (a:Bool)=>[(88,bD a)]) (λ_ _=>[]) (.bB 80 (!x31.2) λx33=>.ifs [80] x33 (.ret true) (.jV 86 (JE n (⟨a1.bJ,(a1.bC.set (Int.toNat a2) (⟨y1_2,y1_3,y1_10,y1_5,y1_6,y1_7,y1_8,y1_9⟩:aP)),a1.cZ,a1.dY,a1.dJ,a1.Done⟩:aA) a2 a3) aO9 aSA (λ_=>rfl) λx34=>.bB 87 (!x34) λx35=>.ret x35)) (λy2_1=>.ifs [88] y2_1 (.ret ((a1:aA),0,0,2)) (.dr [(0,[5]),(1,[5]),(2,[2]),(3,[2])] [(7,[2])] [2,5] [7] [0,1,2,3,4,5,6,7,8,9,10] (.bI 95 (aW (a5.Value-x17.2.1)) λx36=>.ret (((⟨a1.bJ,(a1.bC.set (Int.toNat a2) (⟨y1_2,y1_3,y1_10,y1_5,y1_6,y1_7,y1_8,y1_9⟩:aP)),a1.cZ,a1.dY,a1.dJ,a1.Done⟩:aA):aA),x36,x17.2.1,0))))) q5) q4) q3) q2) q1) q0))))
def wX (n:Nat) (a1:aA) (a2:Int) (a3:Int) (a4:Int) (a5:aB):Option (aA×Int×Int×Int):=(RB n a1 a2 a3 a4 a5).run
theorem aBQ {n a1 a2 a3 a4 a5}:PZ (wX n a1 a2 a3 a4 a5) 102 [.agg (aA.av a1),int a2,int a3,int a4,.agg (aB.av a5)] (λr=>.bT [.agg (aA.av r.1),int r.2.1,int r.2.2.1,int r.2.2.2]):=by
 refine wm Tryz.func102 ?_
 intro v6
 intro v7
 intro v8
 refine .mk λx9 e9=>?_
 refine .mk λx10=>?_
 refine .mk .mk ?_
 refine .mk ?_
 refine .mk λx11 e11=>?_
 refine .mk λx12 e12=>?_
 refine .mk λx13 e13=>?_
 refine .mk λx14 e14=>?_
 refine .mk λx15 e15=>?_
 refine .mk λx16 e16=>?_
 refine .mk λx17 e17=>?_
 intro v18
 refine .mk λx19=>?_
 refine .mk .mk ?_
 intro v20
 refine .mk ?_ ?_
 intro v21
 refine .mk ?_ ?_
 refine .mk λp22=>?_
 refine .mk _ ⟨λ_=>kZ rfl rfl (.cons rfl .nil) zX (lT (CX.pc (id:=7) (l:=a1.bC) rfl p22) (.cons (.refl _) .nil)),λ_ _ _=>trivial⟩ ?_
 rintro _ _ ⟨v23,rfl,rfl⟩
 refine .mk λx24 e24=>?_
 refine .mk _ (fD (iJ rfl Tryz.underlying27 nY rfl rfl rfl rfl rfl (Eq.symm rfl) (List.length_map _) e24)) ?_
 exact .mk
 intro _ _
 refine .mk trivial ?_
 refine .mk λx25 e25=>?_
 refine .mk _ (fD (kR rfl rfl (.pt rfl rfl (iE e25 (aP.eP _))))) ?_
 refine .mk _ (fD (gT rfl rH rfl (.pt rfl rfl (iE e25 (aP.eP _))) (.pt _ _ _ _ _))) ?_
 refine .mk _ (fD (iB rfl rZ rfl (.pt rfl rfl (iE e25 (aP.eP _))) rfl)) ?_
 refine .mk λp26=>?_
 refine .mk _ ⟨λ_=>kZ rfl rfl (.cons rfl .nil) IY (lT (K5.pc (id:=8) (l:=x25.bS) rfl p26) (.cons (.refl _) .nil)),λ_ _ _=>trivial⟩ ?_
 rintro _ _ ⟨v27,rfl,rfl⟩
 refine .mk _ (fD (kR rfl rfl (.pt rfl rfl (iE e25 (aP.eP _))))) ?_
 refine .mk _ (fD (gT rfl rH rfl (.pt rfl rfl (iE e25 (aP.eP _))) (.pt _ _ _ _ _))) ?_
 refine .mk _ ⟨λ_=>eG.gV (iR (ob':=(⟨60,8,true,true,_,(a1.bC.map aP.av).set (Int.toNat a2) [int x25.fO,bD x25.Closed,.sl 8 v27 0 x25.bS.length,aN 1 fI x25.dK,aN 11 cK.av x25.dH,aN 1 fI x25.fZ,aN 1 fI x25.Down,aN 8 aP.av x25.fP]⟩:bZ)) (iH rfl rZ rfl rfl rfl rfl rfl (iE e25 (aP.eP _)) rfl rfl rfl) (jJ rfl)) (λ_ h=>h) (λ_ _=>trivial),λ_ _ _=>trivial⟩ ?_
 rintro _ _ ⟨rfl,rfl⟩
 refine .mk ?_
 refine .mk _ (λH hH _=>kR rfl rfl (.pt ((hH _ (by decide)).trans rfl) rfl (iW e25))) ?_
 refine .mk _ (λH hH _=>gT rfl rH rfl (.pt ((hH _ (by decide)).trans rfl) rfl (iW e25)) (.pt _ _ _ _ _)) ?_
 refine .mk _ (λH hH _=>iB rfl rZ rfl (.pt ((hH _ (by decide)).trans rfl) rfl (iW e25)) rfl) ?_
 refine .mk λx28 e28=>?_
 refine .mk _ (λH hH _=>iJ rfl Tryz.underlying57 xB rfl rfl ((hH _ (by decide)).trans rfl) rfl rfl (Eq.symm rfl) (List.length_map _) e28) ?_
 refine .mk λx29 e29=>?_
 have fx29:=jW e28 e29;have lx29:=jU e29 (rfl:x25.bS.length=x25.bS.length)
 refine .mk _ ⟨λ_=>eG.gV (iR (ob':=(⟨107,4,true,true,_,x29.map aQ.av⟩:bZ)) (iH rfl xB rfl rfl rfl rfl rfl (fV e28) rfl rfl rfl) (jJ (kU e29))) (λ_ h=>h) (λ_ _=>trivial),by rintro _ _ ⟨rfl,rfl⟩;exact trivial⟩ ?_
 rintro _ _ ⟨rfl,rfl⟩
 exact .mk rfl ⟨rfl,(by first | rfl | exact lx29 ▸ rfl),rfl,rfl,rfl,rfl,rfl,trivial⟩
 intro _ _
 refine .mk trivial ?_
 refine .mk λx30 e30=>?_
 refine .mk (λx31 e31=>?_) rfl (by rintro _ rfl;exact (.cons (dX.agg (.cons (.refl _) (.cons (.refl _) (.cons (.refl _) (.cons (.refl _) (.cons (.refl _) (.cons (pO rfl rfl rfl rfl rfl (Eq.symm rfl) e30 (qG (.cons (.refl _) (.cons (.refl _) (.cons (gQ rfl rfl rfl rfl rfl (Eq.symm rfl)) (.cons (.refl _) (.cons (.refl _) (.cons (.refl _) (.cons (.refl _) (.cons (.refl _) .nil)))))))) (aP.eP _))) (.cons (.refl _) (.cons (.refl _) (.cons (.refl _) (.cons (.refl _) .nil))))))))))) (.cons (.refl _) (.cons (.refl _) .nil))))
 intro v32
 refine .mk ?_ ?_
 refine .mk λx33=>?_
 refine .mk .mk ?_
 refine .mk (λx34 e34=>?_) rfl (by rintro _ rfl;exact (.cons (dX.agg (.cons (.refl _) (.cons (.refl _) (.cons (.refl _) (.cons (.refl _) (.cons (.refl _) (.cons (pO rfl rfl rfl rfl rfl (Eq.symm rfl) e30 (qG (.cons (.refl _) (.cons (.refl _) (.cons (gQ rfl rfl rfl rfl rfl (Eq.symm rfl)) (.cons (.refl _) (.cons (.refl _) (.cons (.refl _) (.cons (.refl _) (.cons (.refl _) .nil)))))))) (aP.eP _))) (.cons (.refl _) (.cons (.refl _) (.cons (.refl _) (.cons (.refl _) .nil))))))))))) (.cons (.refl _) (.cons (.refl _) .nil))))
 refine .mk λx35=>?_
 exact .mk
 intro _ _
 refine .mk .mk ?_
 refine .mk ?_
 refine .mk λx36=>?_
 exact .mk (dX.bT (.cons (dX.agg (.cons (.refl _) (.cons (.refl _) (.cons (.refl _) (.cons (.refl _) (.cons (.refl _) (.cons (pO rfl rfl rfl rfl rfl (Eq.symm rfl) e30 (qG (.cons (.refl _) (.cons (.refl _) (.cons (gQ rfl rfl rfl rfl rfl (Eq.symm rfl)) (.cons (.refl _) (.cons (.refl _) (.cons (.refl _) (.cons (.refl _) (.cons (.refl _) .nil)))))))) (aP.eP _))) (.cons (.refl _) (.cons (.refl _) (.cons (.refl _) (.cons (.refl _) .nil))))))))))) (.cons (.refl _) (.cons (.refl _) (.cons (.refl _) .nil)))))
def aI2 (n:Nat) (a1:aA) (a2:bM):WB (aA×Int) :=
 .al 1<|.al 2<|.al 3<|.cl 21 (uY n a1 a2.E a2.Item a2.Loc 3 a2.aI) TS SB λx6=>.al 4<|.bB 27 (decide (x6.2.2.2≠0)) λx8=>.ifs [27] x8 (.ret ((x6.1:aA),x6.2.2.2)) (.cl 39 (wX n x6.1 a2.E a2.Item a2.To x6.2.1) X5 aBQ λx9=>.bB 45 (decide (x9.2.2.2≠0)) λx10=>.ifs [45] x10 (.ret ((x9.1:aA),x9.2.2.2)) (.dr [(0,[1]),(1,[2]),(3,[4]),(4,[4]),(8,[4]),(9,[4])] [(18,[])] [1,2,4] [18] [0,1,2,3,4,5,6,7,8,9,10,11,12,13,14,15,16,17,18,19] (.bI 53 (aW (x9.2.1-x6.2.1.Value)) λx11=>.bI 58 (aW (x9.2.1-x6.2.1.Value)) λx12=>.cl 59 (pJ 0 x12) rU sN λx13=>.cl 61 (pJ 6 x9.2.2.1) rU sN λx14=>.to 62 (aN 2 aS.av ([x13,x14]:List aS))<|.cl 63 (vT n x9.1 a2 (⟨0,0,0,0,0,0,0,0,0,0,x11⟩:cK) ([x13,x14]:List aS)) D6 H7 λx15=>.ret ((x15.1:aA),x15.2))))
def zT (n:Nat) (a1:aA) (a2:bM):Option (aA×Int):=(aI2 n a1 a2).run
theorem QT {n a1 a2}:PZ (zT n a1 a2) 60 [.agg (aA.av a1),.agg (bM.av a2)] (λr=>.bT [.agg (aA.av r.1),int r.2]):=wq Tryz.func60
def Y9 (n:Nat) (a1:aQ):WB (aB) :=
 .al 1<|.al 2<|.cl 8 (wV n a1.aG) KL IW λx4=>.al 3<|.ret ((x4.1:aB))
def HZ (n:Nat) (a1:aQ):Option (aB):=(Y9 n a1).run
theorem aFJ {n a1}:PZ (HZ n a1) 100 [.agg (aQ.av a1)] (λr=>.agg (aB.av r)):=wq Tryz.func100
def aFY (n:Nat) (a1:Int) (a2:aQ):WB (Int) :=
 .al 1<|.bB 6 (decide (a1=3)) λx4=>.ifs [6] x4 (.cl 8 (zQ n a2) TE VB λx5=>.ret ((x5:Int))) (.cl 10 (HZ n a2) aBC aFJ λx6=>.ret ((x6.aI:Int)))
def J9 (n:Nat) (a1:Int) (a2:aQ):Option (Int):=(aFY n a1 a2).run
theorem aMT {n a1 a2}:PZ (J9 n a1 a2) 99 [int a1,.agg (aQ.av a2)] int:=wq Tryz.func99
def aAO (n:Nat) (a1:aA) (a2:bM):WB (aA×Int) :=
 .al 1<|.al 2<|.al 3<|.dr [(0,[1]),(1,[1]),(2,[1]),(3,[2]),(4,[2]),(7,[2]),(8,[2]),(11,[1]),(12,[1]),(13,[1]),(14,[2]),(15,[2]),(18,[2]),(19,[2])] [] [1,2] [] [0,1,2,3,4,5,6,7,8,9,10,11,12,13,14,15,16,17,18,19,20,21,22,23] (.ix 24 (fL 1 fI) a1.bJ.Methods a2.E λx6=>.ix 28 fI x6 a2.Item λx7=>.ix 35 (fL 1 fI) a1.bJ.gB a2.E λx8=>.ix 39 fI x8 a2.Item λx9=>.cl 48 (DJ a1 a2.E a2.Item a2.Loc) TC VP λx10=>.al 4<|.dr [(0,[2]),(1,[2]),(3,[4])] [] [2,4] [] [0,1,2,3,4,5,6] (.cl 53 (J9 n x7 x10) aQ1 aMT λx12=>.bI 54 (aW (a2.aI-x12)) λx13=>.bB 57 (decide (x13=0)) λx14=>.ifs [57] x14 (.ret ((a1:aA),0)) (.bB 61 (decide (x13<0)) λx15=>.ifs [61] x15 (.bI 71 (aW (0-x13)) λx16=>.cl 72 (uY n a1 a2.E a2.Item a2.Loc 2 x16) TS SB λx17=>.al 5<|.al 6<|.bB 78 (decide (x17.2.2.2≠0)) λx20=>.ifs [78] x20 (.ret ((x17.1:aA),x17.2.2.2)) (.dr [(0,[5]),(1,[2]),(2,[6]),(3,[6]),(5,[6]),(6,[6]),(8,[6]),(9,[6])] [(16,[])] [2,5,6] [16] [0,1,2,3,4,5,6,7,8,9,10,11,12,13,14,15,16,17] (.cl 88 (pJ 8 x17.2.1.Value) rU sN λx21=>.bI 91 (aW (0-x17.2.1.Value)) λx22=>.cl 92 (pJ 0 x22) rU sN λx23=>.to 93 (aN 2 aS.av ([x21,x23]:List aS))<|.cl 94 (vT n x17.1 a2 (⟨0,0,0,0,0,0,0,0,0,x17.2.1.Value,0⟩:cK) ([x21,x23]:List aS)) D6 H7 λx24=>.ret ((x24.1:aA),x24.2)))) (.cl 98 (HZ n x10) aBC aFJ λx25=>.al 7<|.bB 100 (decide (x7=4)) λx27=>.jn 0 [2,3,4,5,9] [1,2,3] [] (λ_ (a:Int×Int)=>[(14,int a.1),(15,int a.2)]) (λ_ _=>[]) (.ifs [100] x27 (.cl 104 (tF n x13 x9 1) DW GQ λx28=>.ret ((x28.1:Int),x28.2.2)) (.bB 110 (decide (x25.aI>0)) λx29=>.ifs [110] x29 (.cl 117 (tF n x25.Value x13 x25.aI) DW GQ λx30=>.ret ((x30.1:Int),x30.2.2)) (.ret ((0:Int),0)))) (pw λy0_1 y0_2=>.bB 122 (decide (y0_2≠0)) λx31=>.ifs [122] x31 (.ret ((a1:aA),y0_2)) (.cl 136 (wX n a1 a2.E a2.Item a2.Loc (⟨x13,y0_1,0⟩:aB)) X5 aBQ λx32=>.bB 142 (decide (x32.2.2.2≠0)) λx33=>.ifs [142] x33 (.ret ((x32.1:aA),x32.2.2.2)) (.dr [(0,[1]),(1,[2])] [(16,[])] [1,2] [16] [0,1,2,3,4,5,6,7,8,9,10,11,12,13,14,15,16,17] (.bI 148 (aW (0-x32.2.1)) λx34=>.cl 151 (pJ 0 x32.2.1) rU sN λx35=>.cl 153 (pJ 6 x32.2.2.1) rU sN λx36=>.bI 155 (aW (0-y0_1)) λx37=>.cl 156 (pJ 8 x37) rU sN λx38=>.to 157 (aN 2 aS.av ([x35,x36,x38]:List aS))<|.cl 158 (vT n x32.1 a2 (⟨0,0,0,0,0,0,0,0,0,x34,0⟩:cK) ([x35,x36,x38]:List aS)) D6 H7 λx39=>.ret ((x39.1:aA),x39.2)))))))))
def xV (n:Nat) (a1:aA) (a2:bM):Option (aA×Int):=(aAO n a1 a2).run
theorem OS {n a1 a2}:PZ (xV n a1 a2) 59 [.agg (aA.av a1),.agg (bM.av a2)] (λr=>.bT [.agg (aA.av r.1),int r.2]):=wq Tryz.func59
def X8 (n:Nat) (a1:aA) (a2:bM):WB (aA×Int) :=
 .al 1<|.al 2<|.al 3<|.cl 19 (uY n a1 a2.E a2.Item a2.Loc 1 a2.aI) TS SB λx6=>.al 4<|.bB 25 (decide (x6.2.2.2≠0)) λx8=>.ifs [25] x8 (.ret ((x6.1:aA),x6.2.2.2)) (.dr [(0,[1]),(1,[2]),(2,[4]),(3,[4]),(5,[4]),(6,[4]),(8,[4]),(9,[4])] [(16,[])] [1,2,4] [16] [0,1,2,3,4,5,6,7,8,9,10,11,12,13,14,15,16,17] (.cl 35 (pJ 7 x6.2.1.Value) rU sN λx9=>.bI 38 (aW (0-x6.2.1.Value)) λx10=>.cl 39 (pJ 0 x10) rU sN λx11=>.to 40 (aN 2 aS.av ([x9,x11]:List aS))<|.cl 41 (vT n x6.1 a2 (⟨0,0,0,0,0,0,0,0,x6.2.1.Value,0,0⟩:cK) ([x9,x11]:List aS)) D6 H7 λx12=>.ret ((x12.1:aA),x12.2)))
def xR (n:Nat) (a1:aA) (a2:bM):Option (aA×Int):=(X8 n a1 a2).run
theorem OP {n a1 a2}:PZ (xR n a1 a2) 58 [.agg (aA.av a1),.agg (bM.av a2)] (λr=>.bT [.agg (aA.av r.1),int r.2]):=wq Tryz.func58
def aDZ (n:Nat) (a1:aA) (a2:bM):WB (aA×Int) :=
 .al 1<|.al 2<|.al 3<|.dr [(1,[2]),(2,[2])] [(8,[])] [2] [7,8] [0,1,2,3,4,5,6,7,8,9] (.gv 12<|.wt 14<|.sp [14] a2.Kind 6 (.gv 15<|.al 4<|.cl 26 (mI a1 a2.E a2.Item) nZ oI λx26=>.bB 28 (decide (x26≠0)) λx27=>.ifs [28] x27 (.ret ((a1:aA),x26)) (.cl 36 (xR n a1 a2) IV OP λx28=>.al 5<|.bB 40 (decide (x28.2≠0)) λx30=>.ifs [40] x30 (.ret ((a1:aA),x28.2)) (.ret ((x28.1:aA),0)))) (.sp [14] a2.Kind 7 (.gv 15<|.al 4<|.cl 26 (mI a1 a2.E a2.Item) nZ oI λx20=>.bB 28 (decide (x20≠0)) λx21=>.ifs [28] x21 (.ret ((a1:aA),x20)) (.cl 36 (xV n a1 a2) M6 OS λx22=>.al 5<|.bB 40 (decide (x22.2≠0)) λx24=>.ifs [40] x24 (.ret ((a1:aA),x22.2)) (.ret ((x22.1:aA),0)))) (.sp [14] a2.Kind 8 (.gv 15<|.al 4<|.cl 26 (mI a1 a2.E a2.Item) nZ oI λx14=>.bB 28 (decide (x14≠0)) λx15=>.ifs [28] x15 (.ret ((a1:aA),x14)) (.cl 36 (zT n a1 a2) QI QT λx16=>.al 5<|.bB 40 (decide (x16.2≠0)) λx18=>.ifs [40] x18 (.ret ((a1:aA),x16.2)) (.ret ((x16.1:aA),0)))) (.sp [14] a2.Kind 9 (.gv 15<|.al 4<|.cl 26 (mI a1 a2.E a2.Item) nZ oI λx8=>.bB 28 (decide (x8≠0)) λx9=>.ifs [28] x9 (.ret ((a1:aA),x8)) (.cl 36 (zJ n a1 a2) KE IR λx10=>.al 5<|.bB 40 (decide (x10.2≠0)) λx12=>.ifs [40] x12 (.ret ((a1:aA),x10.2)) (.ret ((x10.1:aA),0)))) (.as (a2.Kind≠6/\a2.Kind≠7/\a2.Kind≠8/\a2.Kind≠9) inferInstance<|.gv 15<|.al 4<|.ret ((a1:aA),1))))))
def aH4 (n:Nat) (a1:aA) (a2:bM):Option (aA×Int):=(aDZ n a1 a2).run
def aG7 (a1:bM) (a2:Int):WB (bM) :=
 .al 1<|.al 2<|.cl 8 (zL a2 1073741824) IF I5 λx5=>.gv 9<|.bI 11 (aW (x5.tdiv 16)) λx6=>.bI 12 (x6.tmod 12) λx7=>.bo (ix ([0,(-1),1,2,5,40,1073741824,1125899906842624,1125899906842625,(-9223372036854775808),9223372036854775807,3]:List Int) x7) λx8=>.gv 13<|.bI 15 (x5.tmod 16) λx9=>.bB 17 (decide (x9=0)) λx10=>.ifs [17] x10 (.ret (((⟨x8,a1.E,a1.Item,a1.Loc,a1.To,a1.aI,a1.bO,a1.Ref,a1.eY⟩:bM):bM))) (.bB 21 (decide (x9=1)) λx11=>.ifs [21] x11 (.ret (((⟨a1.Kind,x8,a1.Item,a1.Loc,a1.To,a1.aI,a1.bO,a1.Ref,a1.eY⟩:bM):bM))) (.bB 25 (decide (x9=2)) λx12=>.ifs [25] x12 (.ret (((⟨a1.Kind,a1.E,x8,a1.Loc,a1.To,a1.aI,a1.bO,a1.Ref,a1.eY⟩:bM):bM))) (.bB 29 (decide (x9=3)) λx13=>.ifs [29] x13 (.ret (((⟨a1.Kind,a1.E,a1.Item,x8,a1.To,a1.aI,a1.bO,a1.Ref,a1.eY⟩:bM):bM))) (.bB 33 (decide (x9=4)) λx14=>.ifs [33] x14 (.ret (((⟨a1.Kind,a1.E,a1.Item,a1.Loc,x8,a1.aI,a1.bO,a1.Ref,a1.eY⟩:bM):bM))) (.bB 37 (decide (x9=5)) λx15=>.ifs [37] x15 (.ret (((⟨a1.Kind,a1.E,a1.Item,a1.Loc,a1.To,x8,a1.bO,a1.Ref,a1.eY⟩:bM):bM))) (.bB 41 (decide (x9=6)) λx16=>.ifs [41] x16 (.ret (((⟨a1.Kind,a1.E,a1.Item,a1.Loc,a1.To,a1.aI,x8,a1.Ref,a1.eY⟩:bM):bM))) (.bB 45 (decide (x9=7)) λx17=>.ifs [45] x17 (.ret (((⟨a1.Kind,a1.E,a1.Item,a1.Loc,a1.To,a1.aI,a1.bO,x8,a1.eY⟩:bM):bM))) (.bB 49 (decide (x9=8)) λx18=>.ifs [49] x18 (.as (a1.eY.length<=68719476736) inferInstance<|.ge 52 3<|.to 54 (aN 1 fI ([x8]:List Int))<|.bl (a1.eY++([x8]:List Int):List Int) λx21=>.as (x21.length<=68719476736) inferInstance<|.ge 55 0<|.ret (((⟨a1.Kind,a1.E,a1.Item,a1.Loc,a1.To,a1.aI,a1.bO,a1.Ref,x21⟩:bM):bM))) (.ret ((a1:bM)))))))))))
def II (a1:bM) (a2:Int):Option (bM):=(aG7 a1 a2).run
theorem aKU {a1 a2}:PZ (II a1 a2) 17 [.agg (bM.av a1),int a2] (λr=>.agg (bM.av r)):=by
 refine wm Tryz.func17 ?_
 intro v3
 intro v4
 refine .mk λx5 e5=>?_
 refine .mk _ (fD (FE (cs:=[int 0,int (-1),int 1,int 2,int 5,int 40,int 1073741824,int 1125899906842624,int 1125899906842625,int (-9223372036854775808),int 9223372036854775807,int 3]) (ps:=[(0,_),(1,_),(2,_),(3,_),(4,_),(5,_),(6,_),(7,_),(8,_),(9,_),(10,_),(11,_)]) rfl Tryz.underlying72 gI z72 rfl (.cons rfl (.cons rfl (.cons rfl (.cons rfl (.cons rfl (.cons rfl (.cons rfl (.cons rfl (.cons rfl (.cons rfl (.cons rfl (.cons rfl .nil)))))))))))) (by kernel_rfl))) ?_
 refine .mk λx6=>?_
 refine .mk λx7=>?_
 refine .mk λx8 e8=>?_
 refine .mk _ (fD (OW (g:=fI) (l:=([0,(-1),1,2,5,40,1073741824,1125899906842624,1125899906842625,(-9223372036854775808),9223372036854775807,3]:List Int)) (v:=x8) (w:=int x8) rfl Tryz.underlying72 gI rfl rfl rfl e8 (λ_=>rfl) hw1)) ?_
 refine .mk λx9=>?_
 refine .mk λx10=>?_
 refine .mk .mk ?_
 refine .mk λx11=>?_
 refine .mk .mk ?_
 refine .mk λx12=>?_
 refine .mk .mk ?_
 refine .mk λx13=>?_
 refine .mk .mk ?_
 refine .mk λx14=>?_
 refine .mk .mk ?_
 refine .mk λx15=>?_
 refine .mk .mk ?_
 refine .mk λx16=>?_
 refine .mk .mk ?_
 refine .mk λx17=>?_
 refine .mk .mk ?_
 refine .mk λx18=>?_
 refine .mk ?_ ?_
 refine .mk λp19=>?_
 refine .mk _ ⟨λ_=>tK (g:=fI) (m:=a1.eY) 3 rfl Tryz.underlying22 kE nX rfl rfl rfl rfl (.refl _) (λ_=>rfl) p19,λ_ _ _=>trivial⟩ ?_
 rintro _ _ ⟨v20,rfl,rfl⟩
 refine .mk (fD (jY (y:=aN 1 fI ([x8]:List Int)) (jM (ps:=[(0,_)]) (rows:=[[int x8]]) rfl Tryz.underlying22 kE (.cons rfl .nil) (by kernel_rfl) rfl rfl rfl) rfl)) ?_
 refine .mk λx21 e21=>?_
 refine .mk λp22=>?_
 refine .mk _ ⟨λ_=>oH (g:=fI) (l:=a1.eY) (m:=([x8]:List Int)) .any rfl Tryz.underlying22 kE nX rfl rfl rfl rfl rfl rfl rfl rfl rfl rfl (Eq.symm rfl) (.refl _) (λ_=>rfl) e21 p22,λ_ _ _=>trivial⟩ ?_
 rintro _ _ ⟨v23,-,rfl,rfl⟩
 exact .mk (dX.agg (.cons (.refl _) (.cons (.refl _) (.cons (.refl _) (.cons (.refl _) (.cons (.refl _) (.cons (.refl _) (.cons (.refl _) (.cons (.refl _) (.cons (gQ rfl rfl rfl rfl rfl (Eq.symm rfl)) .nil))))))))))
 exact .mk
end
end Go.Pv
