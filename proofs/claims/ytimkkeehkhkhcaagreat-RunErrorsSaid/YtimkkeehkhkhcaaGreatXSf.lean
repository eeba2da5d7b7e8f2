import Derived.Test.YtimkkeehkhkhcaaGreatXSe
set_option linter.unusedVariables false
set_option linter.unusedSimpArgs false
namespace Go.Pv
open Go.Proofs
set_option maxRecDepth 100000
set_option maxHeartbeats 4000000
noncomputable section
def XW (n:Nat) (a1:List bQ):WB (bQ×Int) :=
 .al 1<|.ln 15 bQ.av a1<|.jn 0 [2,3] [1] [6,7,8] (λu2 (a:(List Int)×(List Int)×(List Int))=>[(4,.sl 6 (u2 6) 0 a.1.length),(5,.sl 7 (u2 7) 0 a.2.1.length),(6,.sl 8 (u2 8) 0 a.2.2.length)]) (λ_ a=>[.nw 6 3 1 (a.1.map fI),.nw 7 3 1 (a.2.1.map fI),.nw 8 3 1 (a.2.2.map fI)]) (.no 4 6 3 1<|.no 5 7 3 1<|.no 6 8 3 1<|.lp [2,3,14,15] [1] [6,7,8] (λu3 (a:Int×(List Int)×(List Int)×(List Int))=>[(4,.sl 6 (u3 6) 0 a.2.1.length),(5,.sl 7 (u3 7) 0 a.2.2.1.length),(6,.sl 8 (u3 8) 0 a.2.2.2.length),(16,int a.1)]) (λ_ a=>[.nw 6 3 1 (a.2.1.map fI),.nw 7 3 1 (a.2.2.1.map fI),.nw 8 3 1 (a.2.2.2.map fI)]) n ((0:Int),(([]:List Int):List Int),(([]:List Int):List Int),(([]:List Int):List Int)) (pw λy0_4 q0=>(pw λy0_5 q1=>(pw λy0_6 y0_7=>.bB 17 (decide (y0_4<(a1.length:Int))) λx6=>.ifs [17] x6 (.ix 18 bQ.av a1 y0_4 λx7=>.al 2<|.dr [(1,[2]),(2,[2]),(6,[2]),(7,[2]),(11,[2]),(12,[2])] [(14,[])] [2] [4,9,14] [0,1,2,3,5,6,7,8,10,11,12,13,4,9,14,15,16,17] (.to 23 (aG 1 fI ([x7.dJ]:List Int))<|.to 28 (aG 1 fI ([x7.Value]:List Int))<|.to 33 (aG 1 fI ([x7.gP]:List Int))<|.bl (y0_5++([x7.dJ]:List Int):List Int) λx9=>.as (x9.length<=68719476736) inferInstance<|.ge 24 0<|.bl (y0_6++([x7.Value]:List Int):List Int) λx12=>.as (x12.length<=68719476736) inferInstance<|.ge 29 0<|.bl (y0_7++([x7.gP]:List Int):List Int) λx15=>.as (x15.length<=68719476736) inferInstance<|.ge 34 0<|.bI 35 (bL (y0_4+1)) λx18=>.brk ((x18:Int),x9,x12,x15))) (.esc (.ret ((y0_5:List Int),y0_6,y0_7)))) q1) q0)) (pw λy1_4 q0=>(pw λy1_5 y1_6=>.al 9<|.gv 45<|.jn 0 [2,3,9] [1] [] (λ_ (a:bQ)=>[]) (λ_ a=>[.kp 9 [[int a.dJ,int a.Value,int a.gP]]]) (.un 24 (.kB 48 true<|.gv 49<|.al 10<|.mW 54 (rH n y1_4) sO rM (λ_=>rfl) λx21=>.bB 58 (decide (x21.2≠0)) λx22=>.az [58] x22 (.kI 65 1<|.kB 48 true<|.gv 49<|.al 11<|.mW 54 (rH n y1_5) sO rM (λ_=>rfl) λx24=>.bB 58 (decide (x24.2≠0)) λx25=>.az [58] x25 (.kI 65 2<|.kB 48 true<|.gv 49<|.al 12<|.mW 54 (rH n y1_6) sO rM (λ_=>rfl) λx27=>.bB 58 (decide (x27.2≠0)) λx28=>.az [58] x28 (.kI 65 3<|.kB 48 false<|.ret ((⟨x21.1,x24.1,x27.1⟩:bQ):bQ)))))) (λy2_1=>.ret ((y2_1:bQ),0))) q0)
def xW (n:Nat) (a1:List bQ):Option (bQ×Int):=(XW n a1).run
theorem AJ {n a1}:PZ (xW n a1) 173 [aG 3 bQ.av a1] (λr=>.aM [.agg (bQ.av r.1),int r.2]):=by
 refine wm Tryz.func173 ?_
 intro v2
 refine .mk ?_
 refine .mk ?_ ?_
 intro v3
 intro v4
 intro v5
 refine .mk ?_
 rintro ⟨y0_4,y0_5,y0_6,y0_7⟩ _
 refine .mk λx6=>?_
 refine .mk ?_ ?_
 refine .mk λx7 e7=>?_
 intro v8
 refine .mk ?_
 refine .mk (λH hH _=>aN (y:=aG 1 fI ([x7.dJ]:List Int)) (dY (ps:=[(0,_)]) (rows:=[[int x7.dJ]]) rfl Tryz.underlying23 kR (.cons rfl .nil) (by kernel_rfl) rfl rfl rfl) rfl) ?_
 refine .mk (λH hH _=>aN (y:=aG 1 fI ([x7.Value]:List Int)) (dY (ps:=[(0,_)]) (rows:=[[int x7.Value]]) rfl Tryz.underlying23 kR (.cons rfl .nil) (by kernel_rfl) rfl rfl rfl) rfl) ?_
 refine .mk (λH hH _=>aN (y:=aG 1 fI ([x7.gP]:List Int)) (dY (ps:=[(0,_)]) (rows:=[[int x7.gP]]) rfl Tryz.underlying23 kR (.cons rfl .nil) (by kernel_rfl) rfl rfl rfl) rfl) ?_
 refine .mk λx9 e9=>?_
 refine .mk λp10=>?_
 refine .mk _ ⟨λ_=>iP (g:=fI) (l:=y0_5) (m:=([x7.dJ]:List Int)) .any rfl Tryz.underlying23 kR oP rfl rfl rfl rfl rfl rfl rfl rfl rfl rfl (Eq.symm rfl) (.refl _) (λ_=>rfl) e9 p10,by rintro _ _ ⟨v11,-,rfl,rfl⟩;exact ⟨rfl,trivial⟩⟩ ?_
 rintro _ _ ⟨v11,-,rfl,rfl⟩
 refine .mk λx12 e12=>?_
 refine .mk λp13=>?_
 refine .mk _ ⟨λ_=>iP (g:=fI) (l:=y0_6) (m:=([x7.Value]:List Int)) .any rfl Tryz.underlying23 kR oP rfl rfl rfl rfl rfl rfl rfl rfl rfl rfl (Eq.symm rfl) (.refl _) (λ_=>rfl) e12 p13,by rintro _ _ ⟨v14,-,rfl,rfl⟩;exact ⟨rfl,trivial⟩⟩ ?_
 rintro _ _ ⟨v14,-,rfl,rfl⟩
 refine .mk λx15 e15=>?_
 refine .mk λp16=>?_
 refine .mk _ ⟨λ_=>iP (g:=fI) (l:=y0_7) (m:=([x7.gP]:List Int)) .any rfl Tryz.underlying23 kR oP rfl rfl rfl rfl rfl rfl rfl rfl rfl rfl (Eq.symm rfl) (.refl _) (λ_=>rfl) e15 p16,by rintro _ _ ⟨v17,-,rfl,rfl⟩;exact trivial⟩ ?_
 rintro _ _ ⟨v17,-,rfl,rfl⟩
 refine .mk λx18=>?_
 exact .mk
 exact .mk
 rintro ⟨y1_4,y1_5,y1_6⟩ u2
 intro v19
 refine .mk _ (aF (dY (ps:=[(0,_),(1,_),(2,_)]) (rows:=[[.pt 9 v19 0 0,.sl 6 (u2 6) 0 y1_4.length],[.pt 9 v19 0 1,.sl 7 (u2 7) 0 y1_5.length],[.pt 9 v19 0 2,.sl 8 (u2 8) 0 y1_6.length]]) rfl Tryz.underlying323 WC (.cons rfl (.cons rfl (.cons rfl .nil))) (by kernel_rfl) rfl rfl rfl)) ?_
 refine .mk ?_ ?_
 refine .mk ?_
 refine .mk _ (aF (dA (j:=0) rfl Tryz.underlying323 LG rfl rfl rfl (.list rfl))) ?_
 intro v20
 refine .mk (λx21 e21=>?_) rfl (by rintro _ rfl;exact (.cons (gB rfl rfl rfl rfl rfl (Eq.symm rfl)) .nil))
 refine .mk λx22=>?_
 refine .mk ?_
 refine .mk ?_
 refine .mk ?_
 refine .mk _ (aF (dA (j:=1) rfl Tryz.underlying323 LG rfl rfl rfl (.list rfl))) ?_
 intro v23
 refine .mk (λx24 e24=>?_) rfl (by rintro _ rfl;exact (.cons (gB rfl rfl rfl rfl rfl (Eq.symm rfl)) .nil))
 refine .mk λx25=>?_
 refine .mk ?_
 refine .mk ?_
 refine .mk ?_
 refine .mk _ (aF (dA (j:=2) rfl Tryz.underlying323 LG rfl rfl rfl (.list rfl))) ?_
 intro v26
 refine .mk (λx27 e27=>?_) rfl (by rintro _ rfl;exact (.cons (gB rfl rfl rfl rfl rfl (Eq.symm rfl)) .nil))
 refine .mk λx28=>?_
 refine .mk ?_
 refine .mk ?_
 refine .mk ?_
 exact .mk
 intro _ _
 exact .mk
def aLG (n:Nat) (a1:List bQ):WB (Bool) :=
 .ln 9 bQ.av a1<|.jn 0 [2] [] [3] (λu2 (a:(List Int))=>[(3,.sl 3 (u2 3) 0 a.length)]) (λ_ a=>[.nw 3 3 1 (a.map fI)]) (.no 3 3 3 1<|.lp [2,8,9] [] [3] (λu3 (a:Int×(List Int))=>[(3,.sl 3 (u3 3) 0 a.2.length),(10,int a.1)]) (λ_ a=>[.nw 3 3 1 (a.2.map fI)]) n ((0:Int),(([]:List Int):List Int)) (pw λy0_2 y0_3=>.bB 11 (decide (y0_2<(a1.length:Int))) λx3=>.ifs [11] x3 (.ix 12 bQ.av a1 y0_2 λx4=>.al 1<|.bI 19 (bL (0-x4.gP)) λx6=>.bl (if x6>x4.gP then x6 else x4.gP:Int) λx7=>.gv 20<|.to 21 (aG 1 fI ([x7]:List Int))<|.bl (y0_3++([x7]:List Int):List Int) λx8=>.as (x8.length<=68719476736) inferInstance<|.ge 22 0<|.bI 23 (bL (y0_2+1)) λx11=>.brk ((x11:Int),x8)) (.esc (.ret y0_3)))) (λy1_2=>.mW 26 (rH n y1_2) sO rM (λ_=>rfl) λx12=>.bB 30 (decide (x12.2=0)) λx13=>.ret ((x13:Bool)))
def VE (n:Nat) (a1:List bQ):Option (Bool):=(aLG n a1).run
theorem WI {n a1}:PZ (VE n a1) 182 [aG 3 bQ.av a1] aA:=wq Tryz.func182
def aER (n:Nat) (a1:List bQ):WB (Bool) :=
 .jn 1 [0,2] [] [] (λ_ (a:Bool)=>[(11,aA a)]) (λ_ _=>[]) (.ln 6 bQ.av a1<|.bB 7 (decide ((a1.length:Int)>30)) λx2=>.ifs [7] x2 (.ret true) (.inl 10 aMA Tryz.func180 [] [] (λ_ (a:Bool)=>aA a) (λ_ _=>[]) (.inl 7 aK6 Tryz.func220 [] [] (λ_ (a:Int)=>int a) (λ_ _=>[]) (.ln 7 bQ.av a1<|.jS 0 [4] [] [] (λ_ (a:Unit)=>[]) (λ_ _=>[]) (.lp [0,1,4,7] [] [] (λ_ (a:Int)=>[(8,int a)]) (λ_ _=>[]) n 0 (λy0_1=>.bB 9 (decide (y0_1<(a1.length:Int))) λx3=>.ifs [9] x3 (.ix 14 bQ.av a1 y0_1 λx4=>.cl 16 (PS x4) aGV YI λx5=>.ifs [16] x5 (.esc (.esc (.ret y0_1))) (.bI 18 (bL (y0_1+1)) λx6=>.brk x6)) (.esc (.brk ())))) (λ_=>.ret (-1))) (λy2_1=>.bB 8 (decide (y2_1>=0)) λx7=>.ret x7)) (λy3_1=>.ret y3_1))) (λy4_1=>.az [11] y4_1 (.cl 14 (xW n a1) C7 AJ λx8=>.al 1<|.jn 0 [] [] [] (λ_ (a:Bool)=>[(2,aA a)]) (λ_ _=>[]) (.bB 18 (decide (x8.2=0)) λx10=>.ifs [18] x10 (.cl 21 (VE n a1) aF1 WI λx11=>.ret x11) (.ret false)) (λy5_1=>.ret ((y5_1:Bool)))))
def yK (n:Nat) (a1:List bQ):Option (Bool):=(aER n a1).run
theorem DV {n a1}:PZ (yK n a1) 154 [aG 3 bQ.av a1] aA:=wq Tryz.func154
def aL8 (n:Nat) (a1:List bQ) (a2:bQ):WB ((List bQ)×Int) :=
 .al 1<|.as (a1.length<=68719476736) inferInstance<|.ge 8 2<|.jn 1 [0,3,4,5] [1,2] [] (λ_ (a:Bool)=>[(9,aA a)]) (λ_ _=>[]) (.bB 12 (decide (a2.dJ<1)) λx6=>.ifs [12] x6 (.ret true) (.bB 16 (decide (a2.Value<0)) λx7=>.ret x7)) (λy0_1=>.az [9] y0_1 (.bB 22 (decide ((a1.length:Int)>=30)) λx8=>.az [22] x8 (.dr [(2,[1])] [(4,[])] [1] [1,4] [0,2,3,1,4,5] (.to 27 (aG 3 bQ.av ([a2]:List bQ))<|.as (a1.length<=68719476736) inferInstance<|.ge 25 3<|.bl (a1++([a2]:List bQ):List bQ) λx11=>.as (x11.length<=68719476736) inferInstance<|.ge 28 0<|.mW 30 (yK n x11) AF DV (λ_=>rfl) λx14=>.bB 31 (!x14) λx15=>.az [31] x15 (.ret ((x11:List bQ),0))))))
def IW (n:Nat) (a1:List bQ) (a2:bQ):Option ((List bQ)×Int):=(aL8 n a1 a2).run
theorem NP {n a1 a2}:PZ (IW n a1 a2) 252 [aG 3 bQ.av a1,.agg (bQ.av a2)] (λr=>.aM [aG 3 bQ.av r.1,int r.2]):=by
 refine wm Tryz.func252 ?_
 intro v3
 refine .mk λp4=>?_
 refine .mk _ ⟨λ_=>aQ rfl rfl (.cons rfl .nil) FD (nU (FJ.pc (id:=2) (l:=a1) rfl p4) (.cons (.refl _) .nil)),λ_ _ _=>trivial⟩ ?_
 rintro _ _ ⟨v5,rfl,rfl⟩
 refine .mk ?_ ?_
 refine .mk λx6=>?_
 refine .mk .mk ?_
 refine .mk λx7=>?_
 exact .mk
 intro _ _
 refine .mk ?_
 refine .mk λx8=>?_
 refine .mk ?_
 refine .mk ?_
 refine .mk (λH hH _=>aN (y:=aG 3 bQ.av ([a2]:List bQ)) (dY (ps:=[(0,_)]) (rows:=[[int a2.dJ,int a2.Value,int a2.gP]]) rfl Tryz.underlying187 xV (.cons rfl .nil) (by kernel_rfl) rfl rfl rfl) rfl) ?_
 refine .mk λp9=>?_
 refine .mk _ ⟨λ_=>bW.jJ 2 rfl (aQ rfl rfl (.cons rfl .nil) FD (nU (FJ.pc (id:=3) (l:=a1) rfl p9) (.cons (gB rfl rfl rfl rfl rfl (Eq.symm rfl)) .nil))),by rintro _ _ ⟨v10,rfl,rfl⟩;exact ⟨rfl,trivial⟩⟩ ?_
 rintro _ _ ⟨v10,rfl,rfl⟩
 refine .mk λx11 e11=>?_
 refine .mk λp12=>?_
 refine .mk _ ⟨λ_=>iP (g:=bQ.av) (l:=a1) (m:=([a2]:List bQ)) .any rfl Tryz.underlying187 xV DW rfl rfl rfl rfl rfl rfl rfl rfl rfl rfl (Eq.symm rfl) (.refl _) (λ_=>rfl) e11 p12,by rintro _ _ ⟨v13,-,rfl,rfl⟩;exact trivial⟩ ?_
 rintro _ _ ⟨v13,-,rfl,rfl⟩
 refine .mk (λx14 e14=>?_) rfl (by rintro _ rfl;exact (.cons (gB rfl rfl rfl rfl rfl (Eq.symm rfl)) .nil))
 refine .mk λx15=>?_
 refine .mk ?_
 exact .mk (cO.aM (.cons (gB rfl rfl rfl rfl rfl (Eq.symm rfl)) (.cons (.refl _) .nil)))
def aBF (a1:aT) (a2:List bQ):WB (aT) :=
 .al 1<|.al 2<|.ret (((⟨a2,a1.dU⟩:aT):aT))
def EY (a1:aT) (a2:List bQ):Option (aT):=(aBF a1 a2).run
theorem VF {a1 a2}:PZ (EY a1 a2) 272 [.agg (aT.av a1),aG 3 bQ.av a2] (λr=>.agg (aT.av r)):=wq Tryz.func272
def aL9 (n:Nat) (a1:List bQ) (a2:bQ):WB ((List bQ)×Int) :=
 .al 1<|.dr [(3,[1])] [] [1] [0] [2,3,0,1,4,5,6,7,8,9] (.inl 10 MP Tryz.func221 [1] [] (λ_ (a:Unit)=>.agg [.fn (.func 252) [] [],.fn (.func 253) [] [],.fn (.func 173) [] []]) (λ_ _=>[]) (.al 2<|.ret ()) (λ_=>.cl 14 (IW n a1 a2) N7 NP λx5=>.bB 18 (decide (x5.2≠0)) λx6=>.ifs [18] x6 (.ret ((x5.1:List bQ),x5.2)) (.inl 22 MP Tryz.func221 [1] [] (λ_ (a:Unit)=>.agg [.fn (.func 252) [] [],.fn (.func 253) [] [],.fn (.func 173) [] []]) (λ_ _=>[]) (.al 3<|.ret ()) (λ_=>.cl 25 (xW n x5.1) C7 AJ λx8=>.al 4<|.bB 29 (decide (x8.2≠0)) λx10=>.ifs [29] x10 (.as (a1.length<=68719476736) inferInstance<|.ge 31 5<|.ret ((a1:List bQ),x8.2)) (.to 34 (aG 3 bQ.av ([x8.1]:List bQ))<|.ret ((([x8.1]:List bQ):List bQ),0))))))
def IX (n:Nat) (a1:List bQ) (a2:bQ):Option ((List bQ)×Int):=(aL9 n a1 a2).run
theorem VS {n a1 a2}:PZ (IX n a1 a2) 306 [aG 3 bQ.av a1,.agg (bQ.av a2)] (λr=>.aM [aG 3 bQ.av r.1,int r.2]):=wq Tryz.func306
def aFT (a1:aT) (a2:List bQ):WB (aT) :=
 .al 1<|.al 2<|.as (a2.length<=68719476736) inferInstance<|.ge 6 3<|.ret (((⟨a2,a1.dU⟩:aT):aT))
def RY (a1:aT) (a2:List bQ):Option (aT):=(aFT a1 a2).run
theorem aAU {a1 a2}:PZ (RY a1 a2) 184 [.agg (aT.av a1),aG 3 bQ.av a2] (λr=>.agg (aT.av r)):=wq Tryz.func184
def aE7 (n:Nat) (a1:aT) (a2:bQ):WB (aT×Int) :=
 .al 1<|.al 2<|.al 3<|.cl 12 (IX n a1.jA a2) LM VS λx6=>.cl 17 (RY a1 x6.1) aLS aAU λx7=>.ret ((x7:aT),x6.2)
def U5 (n:Nat) (a1:aT) (a2:bQ):Option (aT×Int):=(aE7 n a1 a2).run
theorem aBB {n a1 a2}:PZ (U5 n a1 a2) 309 [.agg (aT.av a1),.agg (bQ.av a2)] (λr=>.aM [.agg (aT.av r.1),int r.2]):=wq Tryz.func309
def aA5 (a1:aT):WB (aT) :=
 .al 1<|.al 2<|.dr [(0,[1]),(1,[1]),(2,[1])] [(4,[]),(5,[])] [1] [3,4,5] [0,1,2,3,4,5] (.as (a1.jA.length<=68719476736) inferInstance<|.ge 6 3<|.inl 7 KJ Tryz.func272 [1,2,3] [] (λu2 (a:Unit)=>.agg [.sl 3 (u2 3) 0 a1.jA.length,int a1.dU.a0,int a1.dU.a1,int a1.dU.a2]) (λ_ _=>[]) (.al 4<|.al 5<|.ret ()) (λ_=>.ret ((a1:aT))))
def U4 (a1:aT):Option (aT):=(aA5 a1).run
theorem Z6 {a1}:PZ (U4 a1) 259 [.agg (aT.av a1)] (λr=>.agg (aT.av r)):=wq Tryz.func259
def aFU (n:Nat) (a1:Int) (a2:Int) (a3:aT) (a4:bQ):WB (aT×Int×Int) :=
 .al 1<|.al 2<|.al 3<|.inl 17 MW Tryz.func153 [1,2,3] [] (B:=(Unit)⊕(Unit)⊕(Unit)⊕(Unit)) (λu2=>Sum.elim (λa=>.iG 277 (.agg [])) (Sum.elim (λa=>.iG 278 (.agg [])) (Sum.elim (λa=>.iG 279 (.agg [])) (λa=>.sc .nilIface)))) (λu2=>Sum.elim (λa=>[]) (Sum.elim (λa=>[]) (Sum.elim (λa=>[]) (λa=>[])))) (.bB 7 (decide (a1=1)) λx8=>.ifs [7] x8 (.gv 9<|.ret (.inl ())) (.bB 11 (decide (a1=2)) λx9=>.ifs [11] x9 (.gv 13<|.ret (.inr (.inl ()))) (.bB 15 (decide (a1=3)) λx10=>.ifs [15] x10 (.gv 17<|.ret (.inr (.inr (.inl ())))) (.bB 19 (decide (a1=4)) λx11=>.az [19] x11 (.ret (.inr (.inr (.inr ())))))))) (Sum.elim (λ_=>.gv 19<|.iv 26 aK3 aCM Tryz.func302 [1,2,3] [] (λ_ (a:aT×Int)=>.aM [.agg [aG 3 bQ.av a.1.jA,int a.1.dU.a0,int a.1.dU.a1,int a.1.dU.a2],int 0,int a.2]) (λ_ _=>[]) (.al 9<|.al 10<|.al 11<|.al 12<|.cl 15 (IW n a3.jA a4) N7 NP λx16=>.cl 20 (EY a3 x16.1) KJ VF λx17=>.ret ((x17:aT),x16.2)) (pw λy5_1 y5_2=>.al 8<|.bB 31 (decide (y5_2≠0)) λx19=>.az [31] x19 (.ret ((y5_1:aT),0,0)))) (Sum.elim (λ_=>.gv 19<|.iv 26 XA aAB Tryz.func304 [1,2,3] [] (λ_ (a:aT×Int)=>.aM [.agg [aG 3 bQ.av a.1.jA,int a.1.dU.a0,int a.1.dU.a1,int a.1.dU.a2],int 0,int a.2]) (λ_ _=>[]) (.al 17<|.al 18<|.al 19<|.al 20<|.cl 15 (IX n a3.jA a4) LM VS λx24=>.cl 20 (EY a3 x24.1) KJ VF λx25=>.ret ((x25:aT),x24.2)) (pw λy7_1 y7_2=>.al 8<|.bB 31 (decide (y7_2≠0)) λx27=>.az [31] x27 (.ret ((y7_1:aT),0,0)))) (Sum.elim (λ_=>.gv 19<|.iv 26 aD5 aGB Tryz.func307 [1,2,3] [] (λ_ (a:aT×Int)=>.aM [.agg [aG 3 bQ.av a.1.jA,int a.1.dU.a0,int a.1.dU.a1,int a.1.dU.a2],int 0,int a.2]) (λ_ _=>[]) (.al 25<|.al 26<|.al 27<|.al 28<|.cl 13 (U5 n a3 a4) WN aBB λx32=>.ret ((x32.1:aT),x32.2)) (pw λy9_1 y9_2=>.al 8<|.bB 31 (decide (y9_2≠0)) λx34=>.az [31] x34 (.ret ((y9_1:aT),0,0)))) (λ_=>.gv 19<|.cl 21 (U4 a3) aJT Z6 λx35=>.ret ((x35:aT),0,12)))))
def L6 (n:Nat) (a1:Int) (a2:Int) (a3:aT) (a4:bQ):Option (aT×Int×Int):=(aFU n a1 a2 a3 a4).run
theorem YE {n a1 a2 a3 a4}:PZ (L6 n a1 a2 a3 a4) 230 [int a1,int a2,.agg (aT.av a3),.agg (bQ.av a4)] (λr=>.aM [.agg (aT.av r.1),int r.2.1,int r.2.2]):=wq Tryz.func230
def X0 (a1:bF) (a2:Int) (a3:Int) (a4:Int):WB (aT) :=
 .al 1<|.al 2<|.cl 15 (IM a1 a2 a3 a4) OD TL λx7=>.bB 17 (decide (x7<0)) λx8=>.az [17] x8 (.lV 22 aH.av gE aH.gI a1.fO a2 λx9=>.ix 26 aT.av x9.gY x7 λx10=>.al 3<|.as (x10.jA.length<=68719476736) inferInstance<|.ge 30 4<|.ret ((x10:aT)))
def KQ (a1:bF) (a2:Int) (a3:Int) (a4:Int):Option (aT):=(X0 a1 a2 a3 a4).run
theorem TS {a1 a2 a3 a4}:PZ (KQ a1 a2 a3 a4) 174 [.agg (bF.av a1),int a2,int a3,int a4] (λr=>.agg (aT.av r)):=wq Tryz.func174
def aHN (n:Nat) (a1:bF) (a2:Int) (a3:Int):WB (bQ×Bool) :=
 .al 1<|.al 2<|.jn 2 [6,7] [2] [7,8,9] (λu2 (a:(List Int)×(List Int)×(List Int))=>[(8,.sl 7 (u2 7) 0 a.1.length),(9,.sl 8 (u2 8) 0 a.2.1.length),(10,.sl 9 (u2 9) 0 a.2.2.length)]) (λ_ a=>[.nw 7 3 1 (a.1.map fI),.nw 8 3 1 (a.2.1.map fI),.nw 9 3 1 (a.2.2.map fI)]) (.no 8 7 3 1<|.no 9 8 3 1<|.no 10 9 3 1<|.lp [1,2,3,6,7] [1,2] [7,8,9] (λu3 (a:Int×(List Int)×(List Int)×(List Int))=>[(8,.sl 7 (u3 7) 0 a.2.1.length),(9,.sl 8 (u3 8) 0 a.2.2.1.length),(10,.sl 9 (u3 9) 0 a.2.2.2.length),(20,int a.1)]) (λ_ a=>[.nw 7 3 1 (a.2.1.map fI),.nw 8 3 1 (a.2.2.1.map fI),.nw 9 3 1 (a.2.2.2.map fI)]) n ((0:Int),(([]:List Int):List Int),(([]:List Int):List Int),(([]:List Int):List Int)) (pw λy0_4 q0=>(pw λy0_5 q1=>(pw λy0_6 y0_7=>.bB 21 (decide (y0_4<2)) λx9=>.ifs [21] x9 (.cl 28 (KQ a1 a2 a3 y0_4) TE TS λx10=>.cl 30 (xW n x10.jA) C7 AJ λx11=>.al 3<|.dr [(1,[3]),(2,[3]),(6,[3]),(7,[3]),(11,[3]),(12,[3])] [(14,[])] [3] [4,9,14] [0,1,2,3,5,6,7,8,10,11,12,13,4,9,14,15,16,17] (.to 36 (aG 1 fI ([x11.1.dJ]:List Int))<|.to 41 (aG 1 fI ([x11.1.Value]:List Int))<|.to 46 (aG 1 fI ([x11.1.gP]:List Int))<|.bl (y0_5++([x11.1.dJ]:List Int):List Int) λx13=>.as (x13.length<=68719476736) inferInstance<|.ge 37 0<|.bl (y0_6++([x11.1.Value]:List Int):List Int) λx16=>.as (x16.length<=68719476736) inferInstance<|.ge 42 0<|.bl (y0_7++([x11.1.gP]:List Int):List Int) λx19=>.as (x19.length<=68719476736) inferInstance<|.ge 47 0<|.bI 48 (bL (y0_4+1)) λx22=>.brk ((x22:Int),x13,x16,x19))) (.esc (.ret ((y0_5:List Int),y0_6,y0_7)))) q1) q0)) (pw λy1_4 q0=>(pw λy1_5 y1_6=>.mW 51 (rH n y1_4) sO rM (λ_=>rfl) λx23=>.mW 56 (rH n y1_5) sO rM (λ_=>rfl) λx24=>.mW 61 (rH n y1_6) sO rM (λ_=>rfl) λx25=>.bl (if x25.2>(if x24.2>x23.2 then x24.2 else x23.2) then x25.2 else (if x24.2>x23.2 then x24.2 else x23.2):Int) λx26=>.gv 71<|.bB 72 (decide (x26=0)) λx27=>.ret (((⟨x23.1,x24.1,x25.1⟩:bQ):bQ),x27)) q0)
def QZ (n:Nat) (a1:bF) (a2:Int) (a3:Int):Option (bQ×Bool):=(aHN n a1 a2 a3).run
theorem aAK {n a1 a2 a3}:PZ (QZ n a1 a2 a3) 137 [.agg (bF.av a1),int a2,int a3] (λr=>.aM [.agg (bQ.av r.1),aA r.2]):=wq Tryz.func137
def aCP (n:Nat) (a1:bF) (a2:Int) (a3:Int):WB (Bool) :=
 .al 1<|.jn 2 [6] [] [4] (λu14 (a:(List Int))=>[(7,.sl 4 (u14 4) 0 a.length)]) (λ_ a=>[.nw 4 3 1 (a.map fI)]) (.no 7 4 3 1<|.lp [1,2,3,6] [1] [4] (λu18 (a:Int×(List Int))=>[(7,.sl 4 (u18 4) 0 a.2.length),(13,int a.1)]) (λ_ a=>[.nw 4 3 1 (a.2.map fI)]) n ((0:Int),(([]:List Int):List Int)) (pw λy0_2 y0_3=>.bB 14 (decide (y0_2<2)) λx6=>.ifs [14] x6 (.jn 1 [1,2,3,6,13] [1] [4] (λu21 (a:(List Int))=>[(7,.sl 4 (u21 4) 0 a.length)]) (λ_ a=>[.nw 4 3 1 (a.map fI)]) (.cl 20 (KQ a1 a2 a3 y0_2) TE TS λx7=>.ln 22 bQ.av x7.jA<|.jn 0 [1,2,3,6,13] [1] [4] (λu23 (a:(List Int))=>[(7,.sl 4 (u23 4) 0 a.length)]) (λ_ a=>[.nw 4 3 1 (a.map fI)]) (.lp [1,2,3,6,13,21,22] [1] [4] (λu24 (a:Int×(List Int))=>[(7,.sl 4 (u24 4) 0 a.2.length),(23,int a.1)]) (λ_ a=>[.nw 4 3 1 (a.2.map fI)]) n ((0:Int),y0_3) (pw λy1_2 y1_3=>.bB 24 (decide (y1_2<(x7.jA.length:Int))) λx8=>.ifs [24] x8 (.ix 25 bQ.av x7.jA y1_2 λx9=>.al 2<|.bI 32 (bL (0-x9.gP)) λx11=>.bl (if x11>x9.gP then x11 else x9.gP:Int) λx12=>.gv 33<|.to 34 (aG 1 fI ([x12]:List Int))<|.bl (y1_3++([x12]:List Int):List Int) λx13=>.as (x13.length<=68719476736) inferInstance<|.ge 35 0<|.bI 36 (bL (y1_2+1)) λx16=>.brk ((x16:Int),x13)) (.esc (.ret y1_3)))) (λy2_2=>.ret y2_2)) (λy3_2=>.bI 37 (bL (y0_2+1)) λx17=>.brk ((x17:Int),y3_2))) (.esc (.ret y0_3)))) (λy4_2=>.mW 40 (rH n y4_2) sO rM (λ_=>rfl) λx18=>.bB 44 (decide (x18.2=0)) λx19=>.ret ((x19:Bool)))
def UB (n:Nat) (a1:bF) (a2:Int) (a3:Int):Option (Bool):=(aCP n a1 a2 a3).run
theorem aDF {n a1 a2 a3}:PZ (UB n a1 a2 a3) 232 [.agg (bF.av a1),int a2,int a3] aA:=wq Tryz.func232
def aLT (n:Nat) (a1:bF) (a2:Int) (a3:Int) (a4:Int) (a5:bQ):WB (bF×Int×Int×Int) :=
 .al 1<|.al 2<|.al 3<|.cl 24 (IM a1 a2 a3 a4) OD TL λx9=>.bB 26 (decide (x9<0)) λx10=>.az [26] x10 (.dr [(0,[1]),(1,[1]),(2,[1]),(9,[1]),(10,[1]),(11,[1]),(18,[1]),(19,[1]),(27,[2])] [(34,[])] [1,2] [33,34] [0,1,2,3,4,5,6,7,8,9,10,11,12,13,14,15,16,17,18,19,20,21,22,23,24,25,26,27,28,29,30,31,32,33,34,35,36] (.ix 33 (fL 1 fI) a1.fJ.Methods a2 λx11=>.ix 36 fI x11 a3 λx12=>.ix 42 (fL 1 fI) a1.fJ.iF a2 λx13=>.ix 45 fI x13 a3 λx14=>.lV 50 aH.av gE aH.gI a1.fO a2 λx15=>.ix 54 aT.av x15.gY x9 λx16=>.cl 57 (L6 n x12 x14 x16 a5) ZK YE λx17=>.al 4<|.bB 62 (decide (x17.2.2≠0)) λx19=>.az [62] x19 (.al 5<|.inl 70 aI7 Tryz.func231 [1,2,3,4] [7,8] (λ_ (a:Int×Bool×(List Int)×(List bA)×(List Int)×(List Int)×(List aH)×(List aT))=>.aM []) (λu4 a=>[.kp 5 [[int a1.fJ.fT,int a1.fJ.iX,aG 1 fI a1.fJ.bC,aG 1 (fL 1 fI) a1.fJ.Methods,aG 1 (fL 1 fI) a1.fJ.iF,.sl 7 (u4 7) 0 a1.fO.length,aG 8 fP.av a1.jD,aG 9 gV.av a1.jP,aG 6 iD.av a1.jW,int a1.Done]],.nw 7 110 8 ((a1.fO.map aH.av).set (Int.toNat a2) [int a.1,aA a.2.1,.sl 8 (u4 8) 0 a.2.2.2.2.2.2.2.length,aG 1 fI a.2.2.1,aG 11 bA.av a.2.2.2.1,aG 1 fI a.2.2.2.2.1,aG 1 fI a.2.2.2.2.2.1,aG 8 aH.av a.2.2.2.2.2.2.1]),.nw 8 190 4 (a.2.2.2.2.2.2.2.map aT.av)]) (.al 6<|.inl 11 J2 Tryz.func189 [1,2,3,4,6] [7] (λu6 (a:Unit)=>.pt 7 (u6 7) (Int.toNat a2) 0) (λu6 _=>[.kp 5 [[int a1.fJ.fT,int a1.fJ.iX,aG 1 fI a1.fJ.bC,aG 1 (fL 1 fI) a1.fJ.Methods,aG 1 (fL 1 fI) a1.fJ.iF,.sl 7 (u6 7) 0 a1.fO.length,aG 8 fP.av a1.jD,aG 9 gV.av a1.jP,aG 6 iD.av a1.jW,int a1.Done]],.nw 7 110 8 (a1.fO.map aH.av)]) (.as (a1.fO.length<=68719476736) inferInstance<|.ge 11 7<|.bo (ix a1.fO a2) λx24=>.gv 21<|.ret ()) (λ_=>.bo (ix a1.fO a2) λx25=>.gv 14<|.gv 15<|.gv 16<|.as (x25.gY.length<=68719476736) inferInstance<|.ge 17 8<|.gv 18<|.gv 19<|.ge 1002008 0<|.dr [(1,[7]),(2,[7]),(3,[7]),(5,[6]),(6,[8])] [(7,[])] [6,7,8] [7] [0,1,2,3,4,5,6,7] (.gv 21<|.gv 22<|.gv 23<|.bo (ix x25.gY x9) λx28=>.gv 26<|.bl (x25.gY.set (Int.toNat x9) x17.1:List aT) λx29=>.ge 1003007 0<|.ret ((x25.jR:Int),(x25.Closed:Bool),(x25.jB:List Int),(x25.iI:List bA),(x25.iL:List Int),(x25.Down:List Int),(x25.iQ:List aH),x29)))) (pw λy1_2 q0=>(pw λy1_3 q1=>(pw λy1_5 q2=>(pw λy1_6 q3=>(pw λy1_7 q4=>(pw λy1_8 q5=>(pw λy1_9 y1_10=>.bo (ix a1.fO a2) λx30=>.mW 76 (QZ n (⟨a1.fJ,(a1.fO.set (Int.toNat a2) (⟨y1_2,y1_3,y1_10,y1_5,y1_6,y1_7,y1_8,y1_9⟩:aH)),a1.jD,a1.jP,a1.jW,a1.Done⟩:bF) a2 a3) aI8 aAK (λ_=>rfl) λx31=>.al 9<|.jn 0 [5,9,10,11,12,13,17] [1,2,3,5,7,8] [] (λ_ (a:Bool)=>[(88,aA a)]) (λ_ _=>[]) (.bB 80 (!x31.2) λx33=>.ifs [80] x33 (.ret true) (.mW 86 (UB n (⟨a1.fJ,(a1.fO.set (Int.toNat a2) (⟨y1_2,y1_3,y1_10,y1_5,y1_6,y1_7,y1_8,y1_9⟩:aH)),a1.jD,a1.jP,a1.jW,a1.Done⟩:bF) a2 a3) WM aDF (λ_=>rfl) λx34=>.bB 87 (!x34) λx35=>.ret x35)) (λy2_1=>.az [88] y2_1 (.dr [(0,[5]),(1,[5]),(2,[2]),(3,[2])] [(7,[2])] [2,5] [7] [0,1,2,3,4,5,6,7,8,9,10] (.bI 95 (bL (a5.Value-x17.2.1)) λx36=>.ret (((⟨a1.fJ,(a1.fO.set (Int.toNat a2) (⟨y1_2,y1_3,y1_10,y1_5,y1_6,y1_7,y1_8,y1_9⟩:aH)),a1.jD,a1.jP,a1.jW,a1.Done⟩:bF):bF),x36,x17.2.1,0))))) q5) q4) q3) q2) q1) q0))))
def QR (n:Nat) (a1:bF) (a2:Int) (a3:Int) (a4:Int) (a5:bQ):Option (bF×Int×Int×Int):=(aLT n a1 a2 a3 a4 a5).run
theorem aMF {n a1 a2 a3 a4 a5}:PZ (QR n a1 a2 a3 a4 a5) 199 [.agg (bF.av a1),int a2,int a3,int a4,.agg (bQ.av a5)] (λr=>.aM [.agg (bF.av r.1),int r.2.1,int r.2.2.1,int r.2.2.2]):=by
 refine wm Tryz.func199 ?_
 intro v6
 intro v7
 intro v8
 refine .mk λx9 e9=>?_
 refine .mk λx10=>?_
 refine .mk ?_
 refine .mk ?_
 refine .mk λx11 e11=>?_
 refine .mk λx12 e12=>?_
 refine .mk λx13 e13=>?_
 refine .mk λx14 e14=>?_
 refine .mk λx15 e15=>?_
 refine .mk λx16 e16=>?_
 refine .mk λx17 e17=>?_
 intro v18
 refine .mk λx19=>?_
 refine .mk ?_
 intro v20
 refine .mk ?_ ?_
 intro v21
 refine .mk ?_ ?_
 refine .mk λp22=>?_
 refine .mk _ ⟨λ_=>aQ rfl rfl (.cons rfl .nil) zM (nU (yC.pc (id:=7) (l:=a1.fO) rfl p22) (.cons (.refl _) .nil)),λ_ _ _=>trivial⟩ ?_
 rintro _ _ ⟨v23,rfl,rfl⟩
 refine .mk λx24 e24=>?_
 refine .mk _ (aF (iY rfl Tryz.underlying55 sQ rfl rfl rfl rfl rfl (Eq.symm rfl) (List.length_map _) e24)) ?_
 exact .mk
 intro _ _
 refine .mk trivial ?_
 refine .mk λx25 e25=>?_
 refine .mk _ (aF (bK rfl rfl (.pt rfl rfl (kG e25 (aH.gI _))))) ?_
 refine .mk _ (aF (dX rfl xM rfl (.pt rfl rfl (kG e25 (aH.gI _))) (.pt _ _ _ _ _))) ?_
 refine .mk _ (aF (fG rfl xR rfl (.pt rfl rfl (kG e25 (aH.gI _))) rfl)) ?_
 refine .mk λp26=>?_
 refine .mk _ ⟨λ_=>aQ rfl rfl (.cons rfl .nil) OB (nU (O9.pc (id:=8) (l:=x25.gY) rfl p26) (.cons (.refl _) .nil)),λ_ _ _=>trivial⟩ ?_
 rintro _ _ ⟨v27,rfl,rfl⟩
 refine .mk _ (aF (bK rfl rfl (.pt rfl rfl (kG e25 (aH.gI _))))) ?_
 refine .mk _ (aF (dX rfl xM rfl (.pt rfl rfl (kG e25 (aH.gI _))) (.pt _ _ _ _ _))) ?_
 refine .mk _ ⟨λ_=>bW.d9 (fH (ob':=(⟨110,8,true,true,_,(a1.fO.map aH.av).set (Int.toNat a2) [int x25.jR,aA x25.Closed,.sl 8 v27 0 x25.gY.length,aG 1 fI x25.jB,aG 11 bA.av x25.iI,aG 1 fI x25.iL,aG 1 fI x25.Down,aG 8 aH.av x25.iQ]⟩:aW)) (dZ rfl xR rfl rfl rfl rfl rfl (kG e25 (aH.gI _)) rfl rfl rfl) (fQ rfl)) (λ_ h=>h) (λ_ _=>trivial),λ_ _ _=>trivial⟩ ?_
 rintro _ _ ⟨rfl,rfl⟩
 refine .mk ?_
 refine .mk _ (λH hH _=>bK rfl rfl (.pt ((hH _ (by decide)).trans rfl) rfl (bY e25))) ?_
 refine .mk _ (λH hH _=>dX rfl xM rfl (.pt ((hH _ (by decide)).trans rfl) rfl (bY e25)) (.pt _ _ _ _ _)) ?_
 refine .mk _ (λH hH _=>fG rfl xR rfl (.pt ((hH _ (by decide)).trans rfl) rfl (bY e25)) rfl) ?_
 refine .mk λx28 e28=>?_
 refine .mk _ (λH hH _=>iY rfl Tryz.underlying107 yM rfl rfl ((hH _ (by decide)).trans rfl) rfl rfl (Eq.symm rfl) (List.length_map _) e28) ?_
 refine .mk λx29 e29=>?_
 have fx29:=gT e28 e29;have lx29:=gQ e29 (rfl:x25.gY.length=x25.gY.length)
 refine .mk _ ⟨λ_=>bW.d9 (fH (ob':=(⟨190,4,true,true,_,x29.map aT.av⟩:aW)) (dZ rfl yM rfl rfl rfl rfl rfl (bZ e28) rfl rfl rfl) (fQ (iE e29))) (λ_ h=>h) (λ_ _=>trivial),by rintro _ _ ⟨rfl,rfl⟩;exact trivial⟩ ?_
 rintro _ _ ⟨rfl,rfl⟩
 exact .mk rfl ⟨rfl,(by first | rfl | exact lx29 ▸ rfl),rfl,rfl,rfl,rfl,rfl,trivial⟩
 intro _ _
 refine .mk trivial ?_
 refine .mk λx30 e30=>?_
 refine .mk (λx31 e31=>?_) rfl (by rintro _ rfl;exact (.cons (cO.agg (.cons (.refl _) (.cons (.refl _) (.cons (.refl _) (.cons (.refl _) (.cons (.refl _) (.cons (vL rfl rfl rfl rfl rfl (Eq.symm rfl) e30 (rG (.cons (.refl _) (.cons (.refl _) (.cons (gB rfl rfl rfl rfl rfl (Eq.symm rfl)) (.cons (.refl _) (.cons (.refl _) (.cons (.refl _) (.cons (.refl _) (.cons (.refl _) .nil)))))))) (aH.gI _))) (.cons (.refl _) (.cons (.refl _) (.cons (.refl _) (.cons (.refl _) .nil))))))))))) (.cons (.refl _) (.cons (.refl _) .nil))))
 intro v32
 refine .mk ?_ ?_
 refine .mk λx33=>?_
 refine .mk .mk ?_
 refine .mk (λx34 e34=>?_) rfl (by rintro _ rfl;exact (.cons (cO.agg (.cons (.refl _) (.cons (.refl _) (.cons (.refl _) (.cons (.refl _) (.cons (.refl _) (.cons (vL rfl rfl rfl rfl rfl (Eq.symm rfl) e30 (rG (.cons (.refl _) (.cons (.refl _) (.cons (gB rfl rfl rfl rfl rfl (Eq.symm rfl)) (.cons (.refl _) (.cons (.refl _) (.cons (.refl _) (.cons (.refl _) (.cons (.refl _) .nil)))))))) (aH.gI _))) (.cons (.refl _) (.cons (.refl _) (.cons (.refl _) (.cons (.refl _) .nil))))))))))) (.cons (.refl _) (.cons (.refl _) .nil))))
 refine .mk λx35=>?_
 exact .mk
 intro _ _
 refine .mk ?_
 refine .mk ?_
 refine .mk λx36=>?_
 exact .mk (cO.aM (.cons (cO.agg (.cons (.refl _) (.cons (.refl _) (.cons (.refl _) (.cons (.refl _) (.cons (.refl _) (.cons (vL rfl rfl rfl rfl rfl (Eq.symm rfl) e30 (rG (.cons (.refl _) (.cons (.refl _) (.cons (gB rfl rfl rfl rfl rfl (Eq.symm rfl)) (.cons (.refl _) (.cons (.refl _) (.cons (.refl _) (.cons (.refl _) (.cons (.refl _) .nil)))))))) (aH.gI _))) (.cons (.refl _) (.cons (.refl _) (.cons (.refl _) (.cons (.refl _) .nil))))))))))) (.cons (.refl _) (.cons (.refl _) (.cons (.refl _) .nil)))))
end
end Go.Pv
