import Derived.Test.YtihfgehjjbnffaaGreatXUd
set_option linter.unusedVariables false
set_option linter.unusedSimpArgs false
namespace Go.Pv
open Go.Proofs
set_option maxRecDepth 100000
set_option maxHeartbeats 4000000
noncomputable section
def UZ (n:Nat) (a1:List aM):WB (aM×Int) :=
 .al 1<|.ln 15 aM.av a1<|.jn 0 [2,3] [1] [6,7,8] (λu2 (a:(List Int)×(List Int)×(List Int))=>[(4,.sl 6 (u2 6) 0 a.1.length),(5,.sl 7 (u2 7) 0 a.2.1.length),(6,.sl 8 (u2 8) 0 a.2.2.length)]) (λ_ a=>[.nw 6 3 1 (a.1.map fI),.nw 7 3 1 (a.2.1.map fI),.nw 8 3 1 (a.2.2.map fI)]) (.no 4 6 3 1<|.no 5 7 3 1<|.no 6 8 3 1<|.lp [2,3,14,15] [1] [6,7,8] (λu3 (a:Int×(List Int)×(List Int)×(List Int))=>[(4,.sl 6 (u3 6) 0 a.2.1.length),(5,.sl 7 (u3 7) 0 a.2.2.1.length),(6,.sl 8 (u3 8) 0 a.2.2.2.length),(16,int a.1)]) (λ_ a=>[.nw 6 3 1 (a.2.1.map fI),.nw 7 3 1 (a.2.2.1.map fI),.nw 8 3 1 (a.2.2.2.map fI)]) n ((0:Int),(([]:List Int):List Int),(([]:List Int):List Int),(([]:List Int):List Int)) (pw λy0_4 q0=>(pw λy0_5 q1=>(pw λy0_6 y0_7=>.bB 17 (decide (y0_4<(a1.length:Int))) λx6=>.ifs [17] x6 (.ix 18 aM.av a1 y0_4 λx7=>.al 2<|.dr [(1,[2]),(2,[2]),(6,[2]),(7,[2]),(11,[2]),(12,[2])] [(14,[])] [2] [4,9,14] [0,1,2,3,5,6,7,8,10,11,12,13,4,9,14,15,16,17] (.to 23 (aH 1 fI ([x7.aS]:List Int))<|.to 28 (aH 1 fI ([x7.Value]:List Int))<|.to 33 (aH 1 fI ([x7.bE]:List Int))<|.bl (y0_5++([x7.aS]:List Int):List Int) λx9=>.as (x9.length<=68719476736) inferInstance<|.ge 24 0<|.bl (y0_6++([x7.Value]:List Int):List Int) λx12=>.as (x12.length<=68719476736) inferInstance<|.ge 29 0<|.bl (y0_7++([x7.bE]:List Int):List Int) λx15=>.as (x15.length<=68719476736) inferInstance<|.ge 34 0<|.bI 35 (bA (y0_4+1)) λx18=>.brk ((x18:Int),x9,x12,x15))) (.esc (.ret ((y0_5:List Int),y0_6,y0_7)))) q1) q0)) (pw λy1_4 q0=>(pw λy1_5 y1_6=>.al 9<|.gv 45<|.dU 0 [2,3,9] [1] [] (λ_ (a:aM)=>[]) (λ_ a=>[.kp 9 [[int a.aS,int a.Value,int a.bE]]]) (.un 24 (.kB 48 true<|.gv 49<|.al 10<|.jF 54 (kN n y1_4) nM nO (λ_=>rfl) λx21=>.bB 58 (decide (x21.2≠0)) λx22=>.ifs [58] x22 (.esc (.ret (((⟨0,0,0⟩:aM):aM),x21.2))) (.kI 65 1<|.kB 48 true<|.gv 49<|.al 11<|.jF 54 (kN n y1_5) nM nO (λ_=>rfl) λx24=>.bB 58 (decide (x24.2≠0)) λx25=>.ifs [58] x25 (.esc (.ret (((⟨0,0,0⟩:aM):aM),x24.2))) (.kI 65 2<|.kB 48 true<|.gv 49<|.al 12<|.jF 54 (kN n y1_6) nM nO (λ_=>rfl) λx27=>.bB 58 (decide (x27.2≠0)) λx28=>.ifs [58] x28 (.esc (.ret (((⟨0,0,0⟩:aM):aM),x27.2))) (.kI 65 3<|.kB 48 false<|.brk ((⟨x21.1,x24.1,x27.1⟩:aM):aM)))))) (λy2_1=>.ret ((y2_1:aM),0))) q0)
def uR (n:Nat) (a1:List aM):Option (aM×Int):=(UZ n a1).run
theorem M5 {n a1}:PZ (uR n a1) 127 [aH 3 aM.av a1] (λr=>.bD [.agg (aM.av r.1),int r.2]):=by
 refine wm Tryz.func127 ?_
 intro v2
 refine .mk ?_
 refine .mk ?_ ?_
 intro v3
 intro v4
 intro v5
 refine .mk ?_
 rintro ⟨y0_4,y0_5,y0_6,y0_7⟩ _
 refine .mk λx6=>?_
 refine .mk ?_ ?_
 refine .mk λx7 e7=>?_
 intro v8
 refine .mk ?_
 refine .mk (λH hH _=>dK (y:=aH 1 fI ([x7.aS]:List Int)) (gM (ps:=[(0,_)]) (rows:=[[int x7.aS]]) rfl Tryz.underlying22 iH (.cons rfl .nil) (by kernel_rfl) rfl rfl rfl) rfl) ?_
 refine .mk (λH hH _=>dK (y:=aH 1 fI ([x7.Value]:List Int)) (gM (ps:=[(0,_)]) (rows:=[[int x7.Value]]) rfl Tryz.underlying22 iH (.cons rfl .nil) (by kernel_rfl) rfl rfl rfl) rfl) ?_
 refine .mk (λH hH _=>dK (y:=aH 1 fI ([x7.bE]:List Int)) (gM (ps:=[(0,_)]) (rows:=[[int x7.bE]]) rfl Tryz.underlying22 iH (.cons rfl .nil) (by kernel_rfl) rfl rfl rfl) rfl) ?_
 refine .mk λx9 e9=>?_
 refine .mk λp10=>?_
 refine .mk _ ⟨λ_=>kQ (g:=fI) (l:=y0_5) (m:=([x7.aS]:List Int)) .any rfl Tryz.underlying22 iH lT rfl rfl rfl rfl rfl rfl rfl rfl rfl rfl (Eq.symm rfl) (.refl _) (λ_=>rfl) e9 p10,by rintro _ _ ⟨v11,-,rfl,rfl⟩;exact ⟨rfl,trivial⟩⟩ ?_
 rintro _ _ ⟨v11,-,rfl,rfl⟩
 refine .mk λx12 e12=>?_
 refine .mk λp13=>?_
 refine .mk _ ⟨λ_=>kQ (g:=fI) (l:=y0_6) (m:=([x7.Value]:List Int)) .any rfl Tryz.underlying22 iH lT rfl rfl rfl rfl rfl rfl rfl rfl rfl rfl (Eq.symm rfl) (.refl _) (λ_=>rfl) e12 p13,by rintro _ _ ⟨v14,-,rfl,rfl⟩;exact ⟨rfl,trivial⟩⟩ ?_
 rintro _ _ ⟨v14,-,rfl,rfl⟩
 refine .mk λx15 e15=>?_
 refine .mk λp16=>?_
 refine .mk _ ⟨λ_=>kQ (g:=fI) (l:=y0_7) (m:=([x7.bE]:List Int)) .any rfl Tryz.underlying22 iH lT rfl rfl rfl rfl rfl rfl rfl rfl rfl rfl (Eq.symm rfl) (.refl _) (λ_=>rfl) e15 p16,by rintro _ _ ⟨v17,-,rfl,rfl⟩;exact trivial⟩ ?_
 rintro _ _ ⟨v17,-,rfl,rfl⟩
 refine .mk λx18=>?_
 exact .mk
 exact .mk
 rintro ⟨y1_4,y1_5,y1_6⟩ u2
 intro v19
 refine .mk _ (bK (gM (ps:=[(0,_),(1,_),(2,_)]) (rows:=[[.pt 9 v19 0 0,.sl 6 (u2 6) 0 y1_4.length],[.pt 9 v19 0 1,.sl 7 (u2 7) 0 y1_5.length],[.pt 9 v19 0 2,.sl 8 (u2 8) 0 y1_6.length]]) rfl Tryz.underlying253 aOM (.cons rfl (.cons rfl (.cons rfl .nil))) (by kernel_rfl) rfl rfl rfl)) ?_
 refine .mk ?_ ?_
 refine .mk ?_
 refine .mk _ (bK (lK (j:=0) rfl Tryz.underlying253 TX rfl rfl rfl (.list rfl))) ?_
 intro v20
 refine .mk (λx21 e21=>?_) rfl (by rintro _ rfl;exact (.cons (dZ rfl rfl rfl rfl rfl (Eq.symm rfl)) .nil))
 refine .mk λx22=>?_
 refine .mk .mk ?_
 refine .mk ?_
 refine .mk ?_
 refine .mk _ (bK (lK (j:=1) rfl Tryz.underlying253 TX rfl rfl rfl (.list rfl))) ?_
 intro v23
 refine .mk (λx24 e24=>?_) rfl (by rintro _ rfl;exact (.cons (dZ rfl rfl rfl rfl rfl (Eq.symm rfl)) .nil))
 refine .mk λx25=>?_
 refine .mk .mk ?_
 refine .mk ?_
 refine .mk ?_
 refine .mk _ (bK (lK (j:=2) rfl Tryz.underlying253 TX rfl rfl rfl (.list rfl))) ?_
 intro v26
 refine .mk (λx27 e27=>?_) rfl (by rintro _ rfl;exact (.cons (dZ rfl rfl rfl rfl rfl (Eq.symm rfl)) .nil))
 refine .mk λx28=>?_
 refine .mk .mk ?_
 refine .mk ?_
 refine .mk ?_
 exact .mk
 intro _ _
 exact .mk
def OX (n:Nat) (a1:List aM):WB (Bool) :=
 .ln 9 aM.av a1<|.jn 0 [2] [] [3] (λu2 (a:(List Int))=>[(3,.sl 3 (u2 3) 0 a.length)]) (λ_ a=>[.nw 3 3 1 (a.map fI)]) (.no 3 3 3 1<|.lp [2,8,9] [] [3] (λu3 (a:Int×(List Int))=>[(3,.sl 3 (u3 3) 0 a.2.length),(10,int a.1)]) (λ_ a=>[.nw 3 3 1 (a.2.map fI)]) n ((0:Int),(([]:List Int):List Int)) (pw λy0_2 y0_3=>.bB 11 (decide (y0_2<(a1.length:Int))) λx3=>.ifs [11] x3 (.ix 12 aM.av a1 y0_2 λx4=>.al 1<|.bI 19 (bA (0-x4.bE)) λx6=>.bl (if x6>x4.bE then x6 else x4.bE:Int) λx7=>.gv 20<|.to 21 (aH 1 fI ([x7]:List Int))<|.bl (y0_3++([x7]:List Int):List Int) λx8=>.as (x8.length<=68719476736) inferInstance<|.ge 22 0<|.bI 23 (bA (y0_2+1)) λx11=>.brk ((x11:Int),x8)) (.esc (.ret y0_3)))) (λy1_2=>.jF 26 (kN n y1_2) nM nO (λ_=>rfl) λx12=>.bB 30 (decide (x12.2=0)) λx13=>.ret ((x13:Bool)))
def EA (n:Nat) (a1:List aM):Option (Bool):=(OX n a1).run
theorem aMG {n a1}:PZ (EA n a1) 222 [aH 3 aM.av a1] aI:=wq Tryz.func222
def UM (n:Nat) (a1:List aM):WB (Bool) :=
 .jn 1 [0,2] [] [] (λ_ (a:Bool)=>[(11,aI a)]) (λ_ _=>[]) (.ln 6 aM.av a1<|.bB 7 (decide ((a1.length:Int)>30)) λx2=>.ifs [7] x2 (.ret true) (.inl 10 aJ6 Tryz.func220 [] [] (λ_ (a:Bool)=>aI a) (λ_ _=>[]) (.inl 7 aRS Tryz.func229 [] [] (λ_ (a:Int)=>int a) (λ_ _=>[]) (.ln 7 aM.av a1<|.dU 0 [4] [] [] (λ_ (a:Unit)=>[]) (λ_ _=>[]) (.lp [0,1,4,7] [] [] (λ_ (a:Int)=>[(8,int a)]) (λ_ _=>[]) n 0 (λy0_1=>.bB 9 (decide (y0_1<(a1.length:Int))) λx3=>.ifs [9] x3 (.ix 14 aM.av a1 y0_1 λx4=>.cl 16 (CF x4) aLQ aMP λx5=>.ifs [16] x5 (.esc (.esc (.ret y0_1))) (.bI 18 (bA (y0_1+1)) λx6=>.brk x6)) (.esc (.brk ())))) (λ_=>.ret (-1))) (λy2_1=>.bB 8 (decide (y2_1>=0)) λx7=>.ret x7)) (λy3_1=>.ret y3_1))) (λy4_1=>.ifs [11] y4_1 (.ret ((false:Bool))) (.cl 14 (uR n a1) NH M5 λx8=>.al 1<|.jn 0 [] [] [] (λ_ (a:Bool)=>[(2,aI a)]) (λ_ _=>[]) (.bB 18 (decide (x8.2=0)) λx10=>.ifs [18] x10 (.cl 21 (EA n a1) aJ0 aMG λx11=>.ret x11) (.ret false)) (λy5_1=>.ret ((y5_1:Bool)))))
def uL (n:Nat) (a1:List aM):Option (Bool):=(UM n a1).run
theorem GU {n a1}:PZ (uL n a1) 206 [aH 3 aM.av a1] aI:=wq Tryz.func206
def OU (n:Nat) (a1:List aM) (a2:aM):WB ((List aM)×Int) :=
 .al 1<|.as (a1.length<=68719476736) inferInstance<|.ge 8 2<|.jn 1 [0,3,4,5] [1,2] [] (λ_ (a:Bool)=>[(9,aI a)]) (λ_ _=>[]) (.bB 12 (decide (a2.aS<1)) λx6=>.ifs [12] x6 (.ret true) (.bB 16 (decide (a2.Value<0)) λx7=>.ret x7)) (λy0_1=>.ifs [9] y0_1 (.ret ((a1:List aM),1)) (.bB 22 (decide ((a1.length:Int)>=30)) λx8=>.ifs [22] x8 (.ret ((a1:List aM),6)) (.dr [(2,[1])] [(4,[])] [1] [1,4] [0,2,3,1,4,5] (.to 27 (aH 3 aM.av ([a2]:List aM))<|.as (a1.length<=68719476736) inferInstance<|.ge 25 3<|.bl (a1++([a2]:List aM):List aM) λx11=>.as (x11.length<=68719476736) inferInstance<|.ge 28 0<|.jF 30 (uL n x11) GN GU (λ_=>rfl) λx14=>.bB 31 (!x14) λx15=>.ifs [31] x15 (.ret ((a1:List aM),2)) (.ret ((x11:List aM),0))))))
def xK (n:Nat) (a1:List aM) (a2:aM):Option ((List aM)×Int):=(OU n a1 a2).run
theorem Z8 {n a1 a2}:PZ (xK n a1 a2) 193 [aH 3 aM.av a1,.agg (aM.av a2)] (λr=>.bD [aH 3 aM.av r.1,int r.2]):=by
 refine wm Tryz.func193 ?_
 intro v3
 refine .mk λp4=>?_
 refine .mk _ ⟨λ_=>eO rfl rfl (.cons rfl .nil) xI (jD (yA.pc (id:=2) (l:=a1) rfl p4) (.cons (.refl _) .nil)),λ_ _ _=>trivial⟩ ?_
 rintro _ _ ⟨v5,rfl,rfl⟩
 refine .mk ?_ ?_
 refine .mk λx6=>?_
 refine .mk .mk ?_
 refine .mk λx7=>?_
 exact .mk
 intro _ _
 refine .mk ?_ ?_
 exact .mk (bT.bD (.cons (dZ rfl rfl rfl rfl rfl (Eq.symm rfl)) (.cons (.refl _) .nil)))
 refine .mk λx8=>?_
 refine .mk ?_ ?_
 exact .mk (bT.bD (.cons (dZ rfl rfl rfl rfl rfl (Eq.symm rfl)) (.cons (.refl _) .nil)))
 refine .mk ?_
 refine .mk (λH hH _=>dK (y:=aH 3 aM.av ([a2]:List aM)) (gM (ps:=[(0,_)]) (rows:=[[int a2.aS,int a2.Value,int a2.bE]]) rfl Tryz.underlying57 OD (.cons rfl .nil) (by kernel_rfl) rfl rfl rfl) rfl) ?_
 refine .mk λp9=>?_
 refine .mk _ ⟨λ_=>bY.jK 2 rfl (eO rfl rfl (.cons rfl .nil) xI (jD (yA.pc (id:=3) (l:=a1) rfl p9) (.cons (dZ rfl rfl rfl rfl rfl (Eq.symm rfl)) .nil))),by rintro _ _ ⟨v10,rfl,rfl⟩;exact ⟨rfl,trivial⟩⟩ ?_
 rintro _ _ ⟨v10,rfl,rfl⟩
 refine .mk λx11 e11=>?_
 refine .mk λp12=>?_
 refine .mk _ ⟨λ_=>kQ (g:=aM.av) (l:=a1) (m:=([a2]:List aM)) .any rfl Tryz.underlying57 OD aCF rfl rfl rfl rfl rfl rfl rfl rfl rfl rfl (Eq.symm rfl) (.refl _) (λ_=>rfl) e11 p12,by rintro _ _ ⟨v13,-,rfl,rfl⟩;exact trivial⟩ ?_
 rintro _ _ ⟨v13,-,rfl,rfl⟩
 refine .mk (λx14 e14=>?_) rfl (by rintro _ rfl;exact (.cons (dZ rfl rfl rfl rfl rfl (Eq.symm rfl)) .nil))
 refine .mk λx15=>?_
 refine .mk ?_ ?_
 exact .mk (bT.bD (.cons (dZ rfl rfl rfl rfl rfl (Eq.symm rfl)) (.cons (.refl _) .nil)))
 exact .mk (bT.bD (.cons (dZ rfl rfl rfl rfl rfl (Eq.symm rfl)) (.cons (.refl _) .nil)))
def PI (n:Nat) (a1:List aM) (a2:aM):WB ((List aM)×Int) :=
 .al 1<|.dr [(3,[1])] [] [1] [0] [2,3,0,1,4,5,6,7,8,9] (.inl 10 KY Tryz.func149 [1] [] (λ_ (a:Unit)=>.agg [.fn (.func 193) [] [],.fn (.func 194) [] [],.fn (.func 127) [] []]) (λ_ _=>[]) (.al 2<|.ret ()) (λ_=>.cl 14 (xK n a1 a2) ZX Z8 λx5=>.bB 18 (decide (x5.2≠0)) λx6=>.ifs [18] x6 (.ret ((x5.1:List aM),x5.2)) (.inl 22 KY Tryz.func149 [1] [] (λ_ (a:Unit)=>.agg [.fn (.func 193) [] [],.fn (.func 194) [] [],.fn (.func 127) [] []]) (λ_ _=>[]) (.al 3<|.ret ()) (λ_=>.cl 25 (uR n x5.1) NH M5 λx8=>.al 4<|.bB 29 (decide (x8.2≠0)) λx10=>.ifs [29] x10 (.as (a1.length<=68719476736) inferInstance<|.ge 31 5<|.ret ((a1:List aM),x8.2)) (.to 34 (aH 3 aM.av ([x8.1]:List aM))<|.ret ((([x8.1]:List aM):List aM),0))))))
def xH (n:Nat) (a1:List aM) (a2:aM):Option ((List aM)×Int):=(PI n a1 a2).run
theorem Q4 {n a1 a2}:PZ (xH n a1 a2) 252 [aH 3 aM.av a1,.agg (aM.av a2)] (λr=>.bD [aH 3 aM.av r.1,int r.2]):=wq Tryz.func252
def V6 (n:Nat) (a1:aT) (a2:aM):WB (aT×Int) :=
 .al 1<|.al 2<|.al 3<|.cl 12 (xH n a1.bJ a2) UE Q4 λx6=>.cl 17 (rM a1 x6.1) zX AB λx7=>.ret ((x7:aT),x6.2)
def BO (n:Nat) (a1:aT) (a2:aM):Option (aT×Int):=(V6 n a1 a2).run
theorem aQ1 {n a1 a2}:PZ (BO n a1 a2) 255 [.agg (aT.av a1),.agg (aM.av a2)] (λr=>.bD [.agg (aT.av r.1),int r.2]):=wq Tryz.func255
def aE4 (n:Nat) (a1:List aM) (a2:aM) (a3:Int):WB ((List aM)×Int×Int) :=
 .al 1<|.as (a1.length<=68719476736) inferInstance<|.ge 16 2<|.jn 1 [0,2,4,6,7,8,10] [1,2] [] (λ_ (a:Bool)=>[(30,aI a)]) (λ_ _=>[]) (.cl 19 (C6 a3) TA O0 λx7=>.bB 20 (!x7) λx8=>.ifs [20] x8 (.ret true) (.bB 24 (decide (a2.aS<1)) λx9=>.ifs [24] x9 (.ret true) (.bB 29 (decide (a2.Value<0)) λx10=>.ret x10))) (λy0_1=>.ifs [30] y0_1 (.ret ((a1:List aM),0,1)) (.cl 37 (AU n a3 a2.aS) VQ RJ λx11=>.jn 0 [0,4,6,7,8,11] [1,2] [] (λ_ (a:Bool)=>[(46,aI a)]) (λ_ _=>[]) (.bB 41 (decide (x11.2≠0)) λx12=>.ifs [41] x12 (.ret true) (.bB 45 (decide (a2.Value>288230376151711744)) λx13=>.ret x13)) (λy1_1=>.ifs [46] y1_1 (.ret ((a1:List aM),0,2)) (.bI 51 (bA (a2.Value-x11.1)) λx14=>.jK 2<|.cl 57 (xH n a1 (⟨a2.aS,x11.1,a2.bE⟩:aM)) UE Q4 λx15=>.bB 61 (decide (x15.2≠0)) λx16=>.ifs [61] x16 (.ret ((a1:List aM),0,x15.2)) (.ret ((x15.1:List aM),x14,0))))))
def IC (n:Nat) (a1:List aM) (a2:aM) (a3:Int):Option ((List aM)×Int×Int):=(aE4 n a1 a2 a3).run
theorem aWU {n a1 a2 a3}:PZ (IC n a1 a2 a3) 259 [aH 3 aM.av a1,.agg (aM.av a2),int a3] (λr=>.bD [aH 3 aM.av r.1,int r.2.1,int r.2.2]):=wq Tryz.func259
def O4 (n:Nat) (a1:Int) (a2:Int) (a3:aT) (a4:aM):WB (aT×Int×Int) :=
 .al 1<|.al 2<|.al 3<|.inl 17 V8 Tryz.func34 [1,2,3] [] (B:=(Unit)⊕(Unit)⊕(Unit)⊕(Unit)⊕(Unit)) (λu2=>Sum.elim (λa=>.gB 156 (.agg [])) (Sum.elim (λa=>.gB 157 (.agg [])) (Sum.elim (λa=>.gB 158 (.agg [])) (Sum.elim (λa=>.gB 160 (.agg [int a2])) (λa=>.sc .nilIface))))) (λu2=>Sum.elim (λa=>[]) (Sum.elim (λa=>[]) (Sum.elim (λa=>[]) (Sum.elim (λa=>[]) (λa=>[]))))) (.bB 7 (decide (a1=1)) λx8=>.ifs [7] x8 (.gv 9<|.ret (.inl ())) (.bB 11 (decide (a1=2)) λx9=>.ifs [11] x9 (.gv 13<|.ret (.inr (.inl ()))) (.bB 15 (decide (a1=3)) λx10=>.ifs [15] x10 (.gv 17<|.ret (.inr (.inr (.inl ())))) (.bB 19 (decide (a1=4)) λx11=>.ifs [19] x11 (.gv 22<|.ret (.inr (.inr (.inr (.inl ()))))) (.ret (.inr (.inr (.inr (.inr ()))))))))) (Sum.elim (λ_=>.gv 19<|.iv 26 aLW aMV Tryz.func248 [1,2,3] [] (λ_ (a:aT×Int)=>.bD [.agg [aH 3 aM.av a.1.bJ,int a.1.bR.a0,int a.1.bR.a1,int a.1.bR.a2],int 0,int a.2]) (λ_ _=>[]) (.al 9<|.al 10<|.al 11<|.al 12<|.cl 15 (xK n a3.bJ a4) ZX Z8 λx16=>.cl 20 (sZ a3 x16.1) vL DT λx17=>.ret ((x17:aT),x16.2)) (pw λy6_1 y6_2=>.al 8<|.bB 31 (decide (y6_2≠0)) λx19=>.ifs [31] x19 (.cl 33 (mH a3) pF qK λx20=>.ret ((x20:aT),0,y6_2)) (.ret ((y6_1:aT),0,0)))) (Sum.elim (λ_=>.gv 19<|.iv 26 aW9 aOB Tryz.func250 [1,2,3] [] (λ_ (a:aT×Int)=>.bD [.agg [aH 3 aM.av a.1.bJ,int a.1.bR.a0,int a.1.bR.a1,int a.1.bR.a2],int 0,int a.2]) (λ_ _=>[]) (.al 17<|.al 18<|.al 19<|.al 20<|.cl 15 (xH n a3.bJ a4) UE Q4 λx25=>.cl 20 (sZ a3 x25.1) vL DT λx26=>.ret ((x26:aT),x25.2)) (pw λy8_1 y8_2=>.al 8<|.bB 31 (decide (y8_2≠0)) λx28=>.ifs [31] x28 (.cl 33 (mH a3) pF qK λx29=>.ret ((x29:aT),0,y8_2)) (.ret ((y8_1:aT),0,0)))) (Sum.elim (λ_=>.gv 19<|.iv 26 aLO aOF Tryz.func253 [1,2,3] [] (λ_ (a:aT×Int)=>.bD [.agg [aH 3 aM.av a.1.bJ,int a.1.bR.a0,int a.1.bR.a1,int a.1.bR.a2],int 0,int a.2]) (λ_ _=>[]) (.al 25<|.al 26<|.al 27<|.al 28<|.cl 13 (BO n a3 a4) aQ8 aQ1 λx34=>.ret ((x34.1:aT),x34.2)) (pw λy10_1 y10_2=>.al 8<|.bB 31 (decide (y10_2≠0)) λx36=>.ifs [31] x36 (.cl 33 (mH a3) pF qK λx37=>.ret ((x37:aT),0,y10_2)) (.ret ((y10_1:aT),0,0)))) (Sum.elim (λ_=>.gv 19<|.iv 26 aQQ aMM Tryz.func257 [1,2,3] [] (λ_ (a:aT×Int×Int)=>.bD [.agg [aH 3 aM.av a.1.bJ,int a.1.bR.a0,int a.1.bR.a1,int a.1.bR.a2],int a.2.1,int a.2.2]) (λ_ _=>[]) (.al 33<|.al 34<|.al 35<|.al 36<|.cl 18 (IC n a3.bJ a4 a2) aJQ aWU λx42=>.cl 24 (sZ a3 x42.1) vL DT λx43=>.ret ((x43:aT),x42.2.1,x42.2.2)) (pw λy12_1 q0=>(pw λy12_2 y12_3=>.al 8<|.bB 31 (decide (y12_3≠0)) λx45=>.ifs [31] x45 (.cl 33 (mH a3) pF qK λx46=>.ret ((x46:aT),0,y12_3)) (.ret ((y12_1:aT),y12_2,0))) q0)) (λ_=>.gv 19<|.cl 21 (mH a3) pF qK λx47=>.ret ((x47:aT),0,12))))))
def z8 (n:Nat) (a1:Int) (a2:Int) (a3:aT) (a4:aM):Option (aT×Int×Int):=(O4 n a1 a2 a3 a4).run
theorem aIR {n a1 a2 a3 a4}:PZ (z8 n a1 a2 a3 a4) 174 [int a1,int a2,.agg (aT.av a3),.agg (aM.av a4)] (λr=>.bD [.agg (aT.av r.1),int r.2.1,int r.2.2]):=wq Tryz.func174
def PW (a1:aA) (a2:Int) (a3:Int) (a4:Int):WB (aT) :=
 .al 1<|.al 2<|.cl 15 (xG a1 a2 a3 a4) SC QW λx7=>.bB 17 (decide (x7<0)) λx8=>.ifs [17] x8 (.ret (((⟨[],(⟨0,0,0⟩:jE)⟩:aT):aT))) (.iF 22 aP.av gE aP.dA a1.aW a2 λx9=>.ix 26 aT.av x9.cK x7 λx10=>.al 3<|.as (x10.bJ.length<=68719476736) inferInstance<|.ge 30 4<|.ret ((x10:aT)))
def uQ (a1:aA) (a2:Int) (a3:Int) (a4:Int):Option (aT):=(PW a1 a2 a3 a4).run
theorem EI {a1 a2 a3 a4}:PZ (uQ a1 a2 a3 a4) 128 [.agg (aA.av a1),int a2,int a3,int a4] (λr=>.agg (aT.av r)):=wq Tryz.func128
def UL (n:Nat) (a1:aA) (a2:Int) (a3:Int):WB (aM×Bool) :=
 .al 1<|.al 2<|.jn 2 [6,7] [2] [7,8,9] (λu2 (a:(List Int)×(List Int)×(List Int))=>[(8,.sl 7 (u2 7) 0 a.1.length),(9,.sl 8 (u2 8) 0 a.2.1.length),(10,.sl 9 (u2 9) 0 a.2.2.length)]) (λ_ a=>[.nw 7 3 1 (a.1.map fI),.nw 8 3 1 (a.2.1.map fI),.nw 9 3 1 (a.2.2.map fI)]) (.no 8 7 3 1<|.no 9 8 3 1<|.no 10 9 3 1<|.lp [1,2,3,6,7] [1,2] [7,8,9] (λu3 (a:Int×(List Int)×(List Int)×(List Int))=>[(8,.sl 7 (u3 7) 0 a.2.1.length),(9,.sl 8 (u3 8) 0 a.2.2.1.length),(10,.sl 9 (u3 9) 0 a.2.2.2.length),(20,int a.1)]) (λ_ a=>[.nw 7 3 1 (a.2.1.map fI),.nw 8 3 1 (a.2.2.1.map fI),.nw 9 3 1 (a.2.2.2.map fI)]) n ((0:Int),(([]:List Int):List Int),(([]:List Int):List Int),(([]:List Int):List Int)) (pw λy0_4 q0=>(pw λy0_5 q1=>(pw λy0_6 y0_7=>.bB 21 (decide (y0_4<2)) λx9=>.ifs [21] x9 (.cl 28 (uQ a1 a2 a3 y0_4) G8 EI λx10=>.cl 30 (uR n x10.bJ) NH M5 λx11=>.al 3<|.dr [(1,[3]),(2,[3]),(6,[3]),(7,[3]),(11,[3]),(12,[3])] [(14,[])] [3] [4,9,14] [0,1,2,3,5,6,7,8,10,11,12,13,4,9,14,15,16,17] (.to 36 (aH 1 fI ([x11.1.aS]:List Int))<|.to 41 (aH 1 fI ([x11.1.Value]:List Int))<|.to 46 (aH 1 fI ([x11.1.bE]:List Int))<|.bl (y0_5++([x11.1.aS]:List Int):List Int) λx13=>.as (x13.length<=68719476736) inferInstance<|.ge 37 0<|.bl (y0_6++([x11.1.Value]:List Int):List Int) λx16=>.as (x16.length<=68719476736) inferInstance<|.ge 42 0<|.bl (y0_7++([x11.1.bE]:List Int):List Int) λx19=>.as (x19.length<=68719476736) inferInstance<|.ge 47 0<|.bI 48 (bA (y0_4+1)) λx22=>.brk ((x22:Int),x13,x16,x19))) (.esc (.ret ((y0_5:List Int),y0_6,y0_7)))) q1) q0)) (pw λy1_4 q0=>(pw λy1_5 y1_6=>.jF 51 (kN n y1_4) nM nO (λ_=>rfl) λx23=>.jF 56 (kN n y1_5) nM nO (λ_=>rfl) λx24=>.jF 61 (kN n y1_6) nM nO (λ_=>rfl) λx25=>.bl (if x25.2>(if x24.2>x23.2 then x24.2 else x23.2) then x25.2 else (if x24.2>x23.2 then x24.2 else x23.2):Int) λx26=>.gv 71<|.bB 72 (decide (x26=0)) λx27=>.ret (((⟨x23.1,x24.1,x25.1⟩:aM):aM),x27)) q0)
def AL (n:Nat) (a1:aA) (a2:Int) (a3:Int):Option (aM×Bool):=(UL n a1 a2 a3).run
theorem aD1 {n a1 a2 a3}:PZ (AL n a1 a2 a3) 86 [.agg (aA.av a1),int a2,int a3] (λr=>.bD [.agg (aM.av r.1),aI r.2]):=wq Tryz.func86
def aG7 (n:Nat) (a1:aA) (a2:Int) (a3:Int):WB (Bool) :=
 .al 1<|.jn 2 [6] [] [4] (λu14 (a:(List Int))=>[(7,.sl 4 (u14 4) 0 a.length)]) (λ_ a=>[.nw 4 3 1 (a.map fI)]) (.no 7 4 3 1<|.lp [1,2,3,6] [1] [4] (λu18 (a:Int×(List Int))=>[(7,.sl 4 (u18 4) 0 a.2.length),(13,int a.1)]) (λ_ a=>[.nw 4 3 1 (a.2.map fI)]) n ((0:Int),(([]:List Int):List Int)) (pw λy0_2 y0_3=>.bB 14 (decide (y0_2<2)) λx6=>.ifs [14] x6 (.jn 1 [1,2,3,6,13] [1] [4] (λu21 (a:(List Int))=>[(7,.sl 4 (u21 4) 0 a.length)]) (λ_ a=>[.nw 4 3 1 (a.map fI)]) (.cl 20 (uQ a1 a2 a3 y0_2) G8 EI λx7=>.ln 22 aM.av x7.bJ<|.jn 0 [1,2,3,6,13] [1] [4] (λu23 (a:(List Int))=>[(7,.sl 4 (u23 4) 0 a.length)]) (λ_ a=>[.nw 4 3 1 (a.map fI)]) (.lp [1,2,3,6,13,21,22] [1] [4] (λu24 (a:Int×(List Int))=>[(7,.sl 4 (u24 4) 0 a.2.length),(23,int a.1)]) (λ_ a=>[.nw 4 3 1 (a.2.map fI)]) n ((0:Int),y0_3) (pw λy1_2 y1_3=>.bB 24 (decide (y1_2<(x7.bJ.length:Int))) λx8=>.ifs [24] x8 (.ix 25 aM.av x7.bJ y1_2 λx9=>.al 2<|.bI 32 (bA (0-x9.bE)) λx11=>.bl (if x11>x9.bE then x11 else x9.bE:Int) λx12=>.gv 33<|.to 34 (aH 1 fI ([x12]:List Int))<|.bl (y1_3++([x12]:List Int):List Int) λx13=>.as (x13.length<=68719476736) inferInstance<|.ge 35 0<|.bI 36 (bA (y1_2+1)) λx16=>.brk ((x16:Int),x13)) (.esc (.ret y1_3)))) (λy2_2=>.ret y2_2)) (λy3_2=>.bI 37 (bA (y0_2+1)) λx17=>.brk ((x17:Int),y3_2))) (.esc (.ret y0_3)))) (λy4_2=>.jF 40 (kN n y4_2) nM nO (λ_=>rfl) λx18=>.bB 44 (decide (x18.2=0)) λx19=>.ret ((x19:Bool)))
def J5 (n:Nat) (a1:aA) (a2:Int) (a3:Int):Option (Bool):=(aG7 n a1 a2 a3).run
theorem aJ4 {n a1 a2 a3}:PZ (J5 n a1 a2 a3) 175 [.agg (aA.av a1),int a2,int a3] aI:=wq Tryz.func175
def RX (n:Nat) (a1:aA) (a2:Int) (a3:Int) (a4:Int) (a5:aM):WB (aA×Int×Int×Int) :=
 .al 1<|.al 2<|.al 3<|.cl 24 (xG a1 a2 a3 a4) SC QW λx9=>.bB 26 (decide (x9<0)) λx10=>.ifs [26] x10 (.ret ((a1:aA),0,0,4)) (.dr [(0,[1]),(1,[1]),(2,[1]),(9,[1]),(10,[1]),(11,[1]),(18,[1]),(19,[1]),(27,[2])] [(34,[])] [1,2] [33,34] [0,1,2,3,4,5,6,7,8,9,10,11,12,13,14,15,16,17,18,19,20,21,22,23,24,25,26,27,28,29,30,31,32,33,34,35,36] (.ix 33 (fL 1 fI) a1.bF.Methods a2 λx11=>.ix 36 fI x11 a3 λx12=>.ix 42 (fL 1 fI) a1.bF.fM a2 λx13=>.ix 45 fI x13 a3 λx14=>.iF 50 aP.av gE aP.dA a1.aW a2 λx15=>.ix 54 aT.av x15.cK x9 λx16=>.cl 57 (z8 n x12 x14 x16 a5) aWD aIR λx17=>.al 4<|.bB 62 (decide (x17.2.2≠0)) λx19=>.ifs [62] x19 (.ret ((a1:aA),0,0,x17.2.2)) (.al 5<|.inl 70 aBF Tryz.func15 [1,2,3,4] [7,8] (λ_ (a:Int×Bool×(List Int)×(List dL)×(List Int)×(List Int)×(List aP)×(List aT))=>.bD []) (λu4 a=>[.kp 5 [[int a1.bF.fO,int a1.bF.iB,aH 1 fI a1.bF.bN,aH 1 (fL 1 fI) a1.bF.Methods,aH 1 (fL 1 fI) a1.bF.fM,.sl 7 (u4 7) 0 a1.aW.length,aH 8 dH.av a1.dG,aH 9 dV.av a1.dO,aH 6 dD.av a1.bL,int a1.Done]],.nw 7 66 8 ((a1.aW.map aP.av).set (Int.toNat a2) [int a.1,aI a.2.1,.sl 8 (u4 8) 0 a.2.2.2.2.2.2.2.length,aH 1 fI a.2.2.1,aH 11 dL.av a.2.2.2.1,aH 1 fI a.2.2.2.2.1,aH 1 fI a.2.2.2.2.2.1,aH 8 aP.av a.2.2.2.2.2.2.1]),.nw 8 60 4 (a.2.2.2.2.2.2.2.map aT.av)]) (.al 6<|.inl 11 JA Tryz.func38 [1,2,3,4,6] [7] (λu6 (a:Unit)=>.pt 7 (u6 7) (Int.toNat a2) 0) (λu6 _=>[.kp 5 [[int a1.bF.fO,int a1.bF.iB,aH 1 fI a1.bF.bN,aH 1 (fL 1 fI) a1.bF.Methods,aH 1 (fL 1 fI) a1.bF.fM,.sl 7 (u6 7) 0 a1.aW.length,aH 8 dH.av a1.dG,aH 9 dV.av a1.dO,aH 6 dD.av a1.bL,int a1.Done]],.nw 7 66 8 (a1.aW.map aP.av)]) (.as (a1.aW.length<=68719476736) inferInstance<|.ge 11 7<|.bo (ix a1.aW a2) λx24=>.gv 21<|.ret ()) (λ_=>.bo (ix a1.aW a2) λx25=>.gv 14<|.gv 15<|.gv 16<|.as (x25.cK.length<=68719476736) inferInstance<|.ge 17 8<|.gv 18<|.gv 19<|.ge 1002008 0<|.dr [(1,[7]),(2,[7]),(3,[7]),(5,[6]),(6,[8])] [(7,[])] [6,7,8] [7] [0,1,2,3,4,5,6,7] (.gv 21<|.gv 22<|.gv 23<|.bo (ix x25.cK x9) λx28=>.gv 26<|.bl (x25.cK.set (Int.toNat x9) x17.1:List aT) λx29=>.ge 1003007 0<|.ret ((x25.fD:Int),(x25.Closed:Bool),(x25.dM:List Int),(x25.d9:List dL),(x25.eH:List Int),(x25.Down:List Int),(x25.gK:List aP),x29)))) (pw λy1_2 q0=>(pw λy1_3 q1=>(pw λy1_5 q2=>(pw λy1_6 q3=>(pw λy1_7 q4=>(pw λy1_8 q5=>(pw λy1_9 y1_10=>.bo (ix a1.aW a2) λx30=>.jF 76 (AL n (⟨a1.bF,(a1.aW.set (Int.toNat a2) (⟨y1_2,y1_3,y1_10,y1_5,y1_6,y1_7,y1_8,y1_9⟩:aP)),a1.dG,a1.dO,a1.bL,a1.Done⟩:aA) a2 a3) aCG aD1 (λ_=>rfl) λx31=>.al 9<|.jn 0 [5,9,10,11,12,13,17] [1,2,3,5,7,8] [] (λ_ (a:Bool)=>[(88,aI a)]) (λ_ _=>[]) (.bB 80 (!x31.2) λx33=>.ifs [80] x33 (.ret true) (.jF 86 (J5 n (⟨a1.bF,(a1.aW.set (Int.toNat a2) (⟨y1_2,y1_3,y1_10,y1_5,y1_6,y1_7,y1_8,y1_9⟩:aP)),a1.dG,a1.dO,a1.bL,a1.Done⟩:aA) a2 a3) aQ3 aJ4 (λ_=>rfl) λx34=>.bB 87 (!x34) λx35=>.ret x35)) (λy2_1=>.ifs [88] y2_1 (.ret ((a1:aA),0,0,2)) (.dr [(0,[5]),(1,[5]),(2,[2]),(3,[2])] [(7,[2])] [2,5] [7] [0,1,2,3,4,5,6,7,8,9,10] (.bI 95 (bA (a5.Value-x17.2.1)) λx36=>.ret (((⟨a1.bF,(a1.aW.set (Int.toNat a2) (⟨y1_2,y1_3,y1_10,y1_5,y1_6,y1_7,y1_8,y1_9⟩:aP)),a1.dG,a1.dO,a1.bL,a1.Done⟩:aA):aA),x36,x17.2.1,0))))) q5) q4) q3) q2) q1) q0))))
def uZ (n:Nat) (a1:aA) (a2:Int) (a3:Int) (a4:Int) (a5:aM):Option (aA×Int×Int×Int):=(RX n a1 a2 a3 a4 a5).run
theorem FT {n a1 a2 a3 a4 a5}:PZ (uZ n a1 a2 a3 a4 a5) 133 [.agg (aA.av a1),int a2,int a3,int a4,.agg (aM.av a5)] (λr=>.bD [.agg (aA.av r.1),int r.2.1,int r.2.2.1,int r.2.2.2]):=by
 refine wm Tryz.func133 ?_
 intro v6
 intro v7
 intro v8
 refine .mk λx9 e9=>?_
 refine .mk λx10=>?_
 refine .mk .mk ?_
 refine .mk ?_
 refine .mk λx11 e11=>?_
 refine .mk λx12 e12=>?_
 refine .mk λx13 e13=>?_
 refine .mk λx14 e14=>?_
 refine .mk λx15 e15=>?_
 refine .mk λx16 e16=>?_
 refine .mk λx17 e17=>?_
 intro v18
 refine .mk λx19=>?_
 refine .mk .mk ?_
 intro v20
 refine .mk ?_ ?_
 intro v21
 refine .mk ?_ ?_
 refine .mk λp22=>?_
 refine .mk _ ⟨λ_=>eO rfl rfl (.cons rfl .nil) wT (jD (wB.pc (id:=7) (l:=a1.aW) rfl p22) (.cons (.refl _) .nil)),λ_ _ _=>trivial⟩ ?_
 rintro _ _ ⟨v23,rfl,rfl⟩
 refine .mk λx24 e24=>?_
 refine .mk _ (bK (eY rfl Tryz.underlying28 o8 rfl rfl rfl rfl rfl (Eq.symm rfl) (List.length_map _) e24)) ?_
 exact .mk
 intro _ _
 refine .mk trivial ?_
 refine .mk λx25 e25=>?_
 refine .mk _ (bK (mY rfl rfl (.pt rfl rfl (gN e25 (aP.dA _))))) ?_
 refine .mk _ (bK (fZ rfl vV rfl (.pt rfl rfl (gN e25 (aP.dA _))) (.pt _ _ _ _ _))) ?_
 refine .mk _ (bK (fU rfl vZ rfl (.pt rfl rfl (gN e25 (aP.dA _))) rfl)) ?_
 refine .mk λp26=>?_
 refine .mk _ ⟨λ_=>eO rfl rfl (.cons rfl .nil) IN (jD (N7.pc (id:=8) (l:=x25.cK) rfl p26) (.cons (.refl _) .nil)),λ_ _ _=>trivial⟩ ?_
 rintro _ _ ⟨v27,rfl,rfl⟩
 refine .mk _ (bK (mY rfl rfl (.pt rfl rfl (gN e25 (aP.dA _))))) ?_
 refine .mk _ (bK (fZ rfl vV rfl (.pt rfl rfl (gN e25 (aP.dA _))) (.pt _ _ _ _ _))) ?_
 refine .mk _ ⟨λ_=>bY.eX (fH (ob':=(⟨66,8,true,true,_,(a1.aW.map aP.av).set (Int.toNat a2) [int x25.fD,aI x25.Closed,.sl 8 v27 0 x25.cK.length,aH 1 fI x25.dM,aH 11 dL.av x25.d9,aH 1 fI x25.eH,aH 1 fI x25.Down,aH 8 aP.av x25.gK]⟩:bH)) (fC rfl vZ rfl rfl rfl rfl rfl (gN e25 (aP.dA _)) rfl rfl rfl) (iC rfl)) (λ_ h=>h) (λ_ _=>trivial),λ_ _ _=>trivial⟩ ?_
 rintro _ _ ⟨rfl,rfl⟩
 refine .mk ?_
 refine .mk _ (λH hH _=>mY rfl rfl (.pt ((hH _ (by decide)).trans rfl) rfl (lD e25))) ?_
 refine .mk _ (λH hH _=>fZ rfl vV rfl (.pt ((hH _ (by decide)).trans rfl) rfl (lD e25)) (.pt _ _ _ _ _)) ?_
 refine .mk _ (λH hH _=>fU rfl vZ rfl (.pt ((hH _ (by decide)).trans rfl) rfl (lD e25)) rfl) ?_
 refine .mk λx28 e28=>?_
 refine .mk _ (λH hH _=>eY rfl Tryz.underlying63 wG rfl rfl ((hH _ (by decide)).trans rfl) rfl rfl (Eq.symm rfl) (List.length_map _) e28) ?_
 refine .mk λx29 e29=>?_
 have fx29:=iE e28 e29;have lx29:=iD e29 (rfl:x25.cK.length=x25.cK.length)
 refine .mk _ ⟨λ_=>bY.eX (fH (ob':=(⟨60,4,true,true,_,x29.map aT.av⟩:bH)) (fC rfl wG rfl rfl rfl rfl rfl (dN e28) rfl rfl rfl) (iC (jB e29))) (λ_ h=>h) (λ_ _=>trivial),by rintro _ _ ⟨rfl,rfl⟩;exact trivial⟩ ?_
 rintro _ _ ⟨rfl,rfl⟩
 exact .mk rfl ⟨rfl,(by first | rfl | exact lx29 ▸ rfl),rfl,rfl,rfl,rfl,rfl,trivial⟩
 intro _ _
 refine .mk trivial ?_
 refine .mk λx30 e30=>?_
 refine .mk (λx31 e31=>?_) rfl (by rintro _ rfl;exact (.cons (bT.agg (.cons (.refl _) (.cons (.refl _) (.cons (.refl _) (.cons (.refl _) (.cons (.refl _) (.cons (qI rfl rfl rfl rfl rfl (Eq.symm rfl) e30 (pZ (.cons (.refl _) (.cons (.refl _) (.cons (dZ rfl rfl rfl rfl rfl (Eq.symm rfl)) (.cons (.refl _) (.cons (.refl _) (.cons (.refl _) (.cons (.refl _) (.cons (.refl _) .nil)))))))) (aP.dA _))) (.cons (.refl _) (.cons (.refl _) (.cons (.refl _) (.cons (.refl _) .nil))))))))))) (.cons (.refl _) (.cons (.refl _) .nil))))
 intro v32
 refine .mk ?_ ?_
 refine .mk λx33=>?_
 refine .mk .mk ?_
 refine .mk (λx34 e34=>?_) rfl (by rintro _ rfl;exact (.cons (bT.agg (.cons (.refl _) (.cons (.refl _) (.cons (.refl _) (.cons (.refl _) (.cons (.refl _) (.cons (qI rfl rfl rfl rfl rfl (Eq.symm rfl) e30 (pZ (.cons (.refl _) (.cons (.refl _) (.cons (dZ rfl rfl rfl rfl rfl (Eq.symm rfl)) (.cons (.refl _) (.cons (.refl _) (.cons (.refl _) (.cons (.refl _) (.cons (.refl _) .nil)))))))) (aP.dA _))) (.cons (.refl _) (.cons (.refl _) (.cons (.refl _) (.cons (.refl _) .nil))))))))))) (.cons (.refl _) (.cons (.refl _) .nil))))
 refine .mk λx35=>?_
 exact .mk
 intro _ _
 refine .mk .mk ?_
 refine .mk ?_
 refine .mk λx36=>?_
 exact .mk (bT.bD (.cons (bT.agg (.cons (.refl _) (.cons (.refl _) (.cons (.refl _) (.cons (.refl _) (.cons (.refl _) (.cons (qI rfl rfl rfl rfl rfl (Eq.symm rfl) e30 (pZ (.cons (.refl _) (.cons (.refl _) (.cons (dZ rfl rfl rfl rfl rfl (Eq.symm rfl)) (.cons (.refl _) (.cons (.refl _) (.cons (.refl _) (.cons (.refl _) (.cons (.refl _) .nil)))))))) (aP.dA _))) (.cons (.refl _) (.cons (.refl _) (.cons (.refl _) (.cons (.refl _) .nil))))))))))) (.cons (.refl _) (.cons (.refl _) (.cons (.refl _) .nil)))))
def aPD (n:Nat) (a1:aA) (a2:bQ):WB (aA×Int) :=
 .al 1<|.al 2<|.al 3<|.cl 21 (o5 n a1 a2.E a2.Item a2.Loc 3 a2.aS) yP zU λx6=>.al 4<|.bB 27 (decide (x6.2.2.2≠0)) λx8=>.ifs [27] x8 (.ret ((x6.1:aA),x6.2.2.2)) (.cl 39 (uZ n x6.1 a2.E a2.Item a2.To x6.2.1) EZ FT λx9=>.bB 45 (decide (x9.2.2.2≠0)) λx10=>.ifs [45] x10 (.ret ((x9.1:aA),x9.2.2.2)) (.dr [(0,[1]),(1,[2]),(3,[4]),(4,[4]),(8,[4]),(9,[4])] [(18,[])] [1,2,4] [18] [0,1,2,3,4,5,6,7,8,9,10,11,12,13,14,15,16,17,18,19] (.bI 53 (bA (x9.2.1-x6.2.1.Value)) λx11=>.bI 58 (bA (x9.2.1-x6.2.1.Value)) λx12=>.cl 59 (qH 0 x12) sG uD λx13=>.cl 61 (qH 6 x9.2.2.1) sG uD λx14=>.to 62 (aH 2 aQ.av ([x13,x14]:List aQ))<|.cl 63 (zY n x9.1 a2 (⟨0,0,0,0,0,0,0,0,0,0,x11⟩:dL) ([x13,x14]:List aQ)) F3 GA λx15=>.ret ((x15.1:aA),x15.2))))
def Q9 (n:Nat) (a1:aA) (a2:bQ):Option (aA×Int):=(aPD n a1 a2).run
theorem WM {n a1 a2}:PZ (Q9 n a1 a2) 182 [.agg (aA.av a1),.agg (bQ.av a2)] (λr=>.bD [.agg (aA.av r.1),int r.2]):=wq Tryz.func182
def aVX (n:Nat) (a1:aT):WB (aM) :=
 .al 1<|.al 2<|.cl 8 (uR n a1.bJ) NH M5 λx4=>.al 3<|.ret ((x4.1:aM))
def vM (n:Nat) (a1:aT):Option (aM):=(aVX n a1).run
theorem yL {n a1}:PZ (vM n a1) 188 [.agg (aT.av a1)] (λr=>.agg (aM.av r)):=wq Tryz.func188
def aRB (n:Nat) (a1:Int) (a2:aT):WB (Int) :=
 .al 1<|.bB 6 (decide (a1=3)) λx4=>.ifs [6] x4 (.cl 8 (BY n a2) UP UX λx5=>.ret ((x5:Int))) (.cl 10 (vM n a2) yG yL λx6=>.ret ((x6.aS:Int)))
def aDC (n:Nat) (a1:Int) (a2:aT):Option (Int):=(aRB n a1 a2).run
theorem aRH {n a1 a2}:PZ (aDC n a1 a2) 210 [int a1,.agg (aT.av a2)] int:=wq Tryz.func210
def aVD (n:Nat) (a1:aA) (a2:bQ):WB (aA×Int) :=
 .al 1<|.al 2<|.al 3<|.dr [(0,[1]),(1,[1]),(2,[1]),(3,[2]),(4,[2]),(7,[2]),(8,[2]),(11,[1]),(12,[1]),(13,[1]),(14,[2]),(15,[2]),(18,[2]),(19,[2])] [] [1,2] [] [0,1,2,3,4,5,6,7,8,9,10,11,12,13,14,15,16,17,18,19,20,21,22,23] (.ix 24 (fL 1 fI) a1.bF.Methods a2.E λx6=>.ix 28 fI x6 a2.Item λx7=>.ix 35 (fL 1 fI) a1.bF.fM a2.E λx8=>.ix 39 fI x8 a2.Item λx9=>.cl 48 (uQ a1 a2.E a2.Item a2.Loc) G8 EI λx10=>.al 4<|.dr [(0,[2]),(1,[2]),(3,[4])] [] [2,4] [] [0,1,2,3,4,5,6] (.cl 53 (aDC n x7 x10) aPZ aRH λx12=>.bI 54 (bA (a2.aS-x12)) λx13=>.bB 57 (decide (x13=0)) λx14=>.ifs [57] x14 (.ret ((a1:aA),0)) (.bB 61 (decide (x13<0)) λx15=>.ifs [61] x15 (.bI 71 (bA (0-x13)) λx16=>.cl 72 (o5 n a1 a2.E a2.Item a2.Loc 2 x16) yP zU λx17=>.al 5<|.al 6<|.bB 78 (decide (x17.2.2.2≠0)) λx20=>.ifs [78] x20 (.ret ((x17.1:aA),x17.2.2.2)) (.dr [(0,[5]),(1,[2]),(2,[6]),(3,[6]),(5,[6]),(6,[6]),(8,[6]),(9,[6])] [(16,[])] [2,5,6] [16] [0,1,2,3,4,5,6,7,8,9,10,11,12,13,14,15,16,17] (.cl 88 (qH 8 x17.2.1.Value) sG uD λx21=>.bI 91 (bA (0-x17.2.1.Value)) λx22=>.cl 92 (qH 0 x22) sG uD λx23=>.to 93 (aH 2 aQ.av ([x21,x23]:List aQ))<|.cl 94 (zY n x17.1 a2 (⟨0,0,0,0,0,0,0,0,0,x17.2.1.Value,0⟩:dL) ([x21,x23]:List aQ)) F3 GA λx24=>.ret ((x24.1:aA),x24.2)))) (.cl 98 (vM n x10) yG yL λx25=>.al 7<|.bB 100 (decide (x7=4)) λx27=>.jn 0 [2,3,4,5,9] [1,2,3] [] (λ_ (a:Int×Int)=>[(14,int a.1),(15,int a.2)]) (λ_ _=>[]) (.ifs [100] x27 (.cl 104 (vJ n x13 x9 1) BX CU λx28=>.ret ((x28.1:Int),x28.2.2)) (.bB 110 (decide (x25.aS>0)) λx29=>.ifs [110] x29 (.cl 117 (vJ n x25.Value x13 x25.aS) BX CU λx30=>.ret ((x30.1:Int),x30.2.2)) (.ret ((0:Int),0)))) (pw λy0_1 y0_2=>.bB 122 (decide (y0_2≠0)) λx31=>.ifs [122] x31 (.ret ((a1:aA),y0_2)) (.cl 136 (uZ n a1 a2.E a2.Item a2.Loc (⟨x13,y0_1,0⟩:aM)) EZ FT λx32=>.bB 142 (decide (x32.2.2.2≠0)) λx33=>.ifs [142] x33 (.ret ((x32.1:aA),x32.2.2.2)) (.dr [(0,[1]),(1,[2])] [(16,[])] [1,2] [16] [0,1,2,3,4,5,6,7,8,9,10,11,12,13,14,15,16,17] (.bI 148 (bA (0-x32.2.1)) λx34=>.cl 151 (qH 0 x32.2.1) sG uD λx35=>.cl 153 (qH 6 x32.2.2.1) sG uD λx36=>.bI 155 (bA (0-y0_1)) λx37=>.cl 156 (qH 8 x37) sG uD λx38=>.to 157 (aH 2 aQ.av ([x35,x36,x38]:List aQ))<|.cl 158 (zY n x32.1 a2 (⟨0,0,0,0,0,0,0,0,0,x34,0⟩:dL) ([x35,x36,x38]:List aQ)) F3 GA λx39=>.ret ((x39.1:aA),x39.2)))))))))
def N9 (n:Nat) (a1:aA) (a2:bQ):Option (aA×Int):=(aVD n a1 a2).run
theorem aDJ {n a1 a2}:PZ (N9 n a1 a2) 181 [.agg (aA.av a1),.agg (bQ.av a2)] (λr=>.bD [.agg (aA.av r.1),int r.2]):=wq Tryz.func181
def aEF (n:Nat) (a1:aA) (a2:bQ):WB (aA×Int) :=
 .al 1<|.al 2<|.al 3<|.cl 19 (o5 n a1 a2.E a2.Item a2.Loc 1 a2.aS) yP zU λx6=>.al 4<|.bB 25 (decide (x6.2.2.2≠0)) λx8=>.ifs [25] x8 (.ret ((x6.1:aA),x6.2.2.2)) (.dr [(0,[1]),(1,[2]),(2,[4]),(3,[4]),(5,[4]),(6,[4]),(8,[4]),(9,[4])] [(16,[])] [1,2,4] [16] [0,1,2,3,4,5,6,7,8,9,10,11,12,13,14,15,16,17] (.cl 35 (qH 7 x6.2.1.Value) sG uD λx9=>.bI 38 (bA (0-x6.2.1.Value)) λx10=>.cl 39 (qH 0 x10) sG uD λx11=>.to 40 (aH 2 aQ.av ([x9,x11]:List aQ))<|.cl 41 (zY n x6.1 a2 (⟨0,0,0,0,0,0,0,0,x6.2.1.Value,0,0⟩:dL) ([x9,x11]:List aQ)) F3 GA λx12=>.ret ((x12.1:aA),x12.2)))
def MN (n:Nat) (a1:aA) (a2:bQ):Option (aA×Int):=(aEF n a1 a2).run
theorem aBU {n a1 a2}:PZ (MN n a1 a2) 180 [.agg (aA.av a1),.agg (bQ.av a2)] (λr=>.bD [.agg (aA.av r.1),int r.2]):=wq Tryz.func180
def U2 (n:Nat) (a1:aA) (a2:bQ):WB (aA×Int) :=
 .al 1<|.al 2<|.al 3<|.dr [(1,[2]),(2,[2])] [(8,[])] [2] [7,8] [0,1,2,3,4,5,6,7,8,9] (.gv 12<|.wt 14<|.sp [14] a2.Kind 6 (.gv 15<|.al 4<|.cl 26 (nW a1 a2.E a2.Item) pE pG λx26=>.bB 28 (decide (x26≠0)) λx27=>.ifs [28] x27 (.ret ((a1:aA),x26)) (.cl 36 (MN n a1 a2) aB5 aBU λx28=>.al 5<|.bB 40 (decide (x28.2≠0)) λx30=>.ifs [40] x30 (.ret ((a1:aA),x28.2)) (.ret ((x28.1:aA),0)))) (.sp [14] a2.Kind 7 (.gv 15<|.al 4<|.cl 26 (nW a1 a2.E a2.Item) pE pG λx20=>.bB 28 (decide (x20≠0)) λx21=>.ifs [28] x21 (.ret ((a1:aA),x20)) (.cl 36 (N9 n a1 a2) ZU aDJ λx22=>.al 5<|.bB 40 (decide (x22.2≠0)) λx24=>.ifs [40] x24 (.ret ((a1:aA),x22.2)) (.ret ((x22.1:aA),0)))) (.sp [14] a2.Kind 8 (.gv 15<|.al 4<|.cl 26 (nW a1 a2.E a2.Item) pE pG λx14=>.bB 28 (decide (x14≠0)) λx15=>.ifs [28] x15 (.ret ((a1:aA),x14)) (.cl 36 (Q9 n a1 a2) aGD WM λx16=>.al 5<|.bB 40 (decide (x16.2≠0)) λx18=>.ifs [40] x18 (.ret ((a1:aA),x16.2)) (.ret ((x16.1:aA),0)))) (.sp [14] a2.Kind 9 (.gv 15<|.al 4<|.cl 26 (nW a1 a2.E a2.Item) pE pG λx8=>.bB 28 (decide (x8≠0)) λx9=>.ifs [28] x9 (.ret ((a1:aA),x8)) (.cl 36 (OK n a1 a2) aBJ ZD λx10=>.al 5<|.bB 40 (decide (x10.2≠0)) λx12=>.ifs [40] x12 (.ret ((a1:aA),x10.2)) (.ret ((x10.1:aA),0)))) (.as (a2.Kind≠6/\a2.Kind≠7/\a2.Kind≠8/\a2.Kind≠9) inferInstance<|.gv 15<|.al 4<|.ret ((a1:aA),1))))))
def B4 (n:Nat) (a1:aA) (a2:bQ):Option (aA×Int):=(U2 n a1 a2).run
def XF (a1:Int) (a2:Int):WB (Int) :=
 .as (a2≠0) inferInstance<|.bl (a1.tmod a2:Int) λx4=>.gv 8<|.bB 10 (decide (x4<0)) λx5=>.jn 0 [4] [] [] (λ_ (a:Int)=>[(5,int a)]) (λ_ _=>[]) (.ifs [10] x5 (.bI 13 (bA (x4+a2)) λx6=>.ret x6) (.ret x4)) (λy0_1=>.ret ((y0_1:Int)))
def GI (a1:Int) (a2:Int):Option (Int):=(XF a1 a2).run
theorem aE5 {a1 a2}:PZ (GI a1 a2) 5 [int a1,int a2] int:=wq Tryz.func5
def aIF (n:Nat) (a1:Int) (a2:Int):WB (gD) :=
 .al 1<|.to 8 (aH 1 fI ([1]:List Int))<|.al 2<|.jn 1 [4,5] [1] [5,6] (λ_ (a:(List (List Int))×(List (List Int)))=>[]) (λu2 a=>[.kp 2 [[int a1,int 4,aH 1 fI ([1]:List Int),.sl 5 (u2 5) 0 a.1.length,.sl 6 (u2 6) 0 a.2.length]],.nw 5 22 1 (a.1.map (fL 1 fI)),.nw 6 22 1 (a.2.map (fL 1 fI))]) (.nc 2 0 3 5 22 1<|.nc 2 0 4 6 22 1<|.lp [0,1,4,5] [1] [5,6] (λ_ (a:Int×(List (List Int))×(List (List Int)))=>[(6,int a.1)]) (λu3 a=>[.kp 2 [[int a1,int 4,aH 1 fI ([1]:List Int),.sl 5 (u3 5) 0 a.2.1.length,.sl 6 (u3 6) 0 a.2.2.length]],.nw 5 22 1 (a.2.1.map (fL 1 fI)),.nw 6 22 1 (a.2.2.map (fL 1 fI))]) n ((0:Int),(([]:List (List Int)):List (List Int)),(([]:List (List Int)):List (List Int))) (pw λy0_1 q0=>(pw λy0_4 y0_5=>.bB 12 (decide (y0_1<a1)) λx7=>.ifs [12] x7 (.dr [(0,[2]),(1,[2]),(6,[2]),(7,[2]),(11,[2]),(13,[2])] [(12,[]),(14,[])] [2] [5,10,12,14] [0,1,2,3,4,6,7,8,9,5,11,10,12,13,14] (.to 18 (aH 1 fI ([a2]:List Int))<|.to 19 (aH 1 (fL 1 fI) ([([a2]:List Int)]:List (List Int)))<|.to 23 (aH 1 fI ([10]:List Int))<|.to 24 (aH 1 (fL 1 fI) ([([10]:List Int)]:List (List Int)))<|.bl (y0_4++([([a2]:List Int)]:List (List Int)):List (List Int)) λx8=>.as (x8.length<=68719476736) inferInstance<|.ge 20 0<|.bl (y0_5++([([10]:List Int)]:List (List Int)):List (List Int)) λx11=>.as (x11.length<=68719476736) inferInstance<|.ge 25 0<|.bI 14 (bA (y0_1+1)) λx14=>.brk ((x14:Int),(x8:List (List Int)),(x11:List (List Int))))) (.esc (.ret ((y0_4:List (List Int)),(y0_5:List (List Int)))))) q0)) (pw λy1_3 y1_4=>.ret (((⟨a1,4,([1]:List Int),y1_3,y1_4⟩:gD):gD)))
def CZ (n:Nat) (a1:Int) (a2:Int):Option (gD):=(aIF n a1 a2).run
theorem aC5 {n a1 a2}:PZ (CZ n a1 a2) 4 [int a1,int a2] (λr=>.agg (gD.av r)):=wq Tryz.func4
def aM3 (n:Nat) (a1:List Int) (a2:Int) (a3:Int) (a4:Int):WB (Bool) :=
 .ln 11 fI a1<|.bB 13 (decide ((a1.length:Int)≠a2)) λx5=>.ifs [13] x5 (.ret ((false:Bool))) (.dU 2 [8] [] [] (λ_ (a:Unit)=>[]) (λ_ _=>[]) (.lp [0,1,2,3,8] [] [] (λ_ (a:Int)=>[(9,int a)]) (λ_ _=>[]) n 0 (λy0_1=>.bB 16 (decide (y0_1<a2)) λx6=>.ifs [16] x6 (.jn 2 [0,1,2,3,8,9] [] [] (λ_ (a:Bool)=>[(32,aI a)]) (λ_ _=>[]) (.ix 21 fI a1 y0_1 λx7=>.bB 24 (decide (x7<a3)) λx8=>.ifs [24] x8 (.ret true) (.ix 28 fI a1 y0_1 λx9=>.bB 31 (decide (x9>a4)) λx10=>.ret x10)) (λy1_1=>.ifs [32] y1_1 (.esc (.esc (.ret ((false:Bool))))) (.bI 18 (bA (y0_1+1)) λx11=>.brk x11))) (.esc (.brk ())))) (λ_=>.ret ((true:Bool))))
def LZ (n:Nat) (a1:List Int) (a2:Int) (a3:Int) (a4:Int):Option (Bool):=(aM3 n a1 a2 a3 a4).run
theorem P8 {n a1 a2 a3 a4}:PZ (LZ n a1 a2 a3 a4) 79 [aH 1 fI a1,int a2,int a3,int a4] aI:=wq Tryz.func79
def aQY (n:Nat) (a1:gD):WB (Bool) :=
 .al 1<|.ln 7 fI a1.bN<|.jn 0 [1,2,3] [1] [] (λ_ (a:Bool)=>[(56,aI a)]) (λ_ _=>[]) (.bB 10 (decide (a1.fO<1)) λx3=>.ifs [10] x3 (.ret true) (.bB 14 (decide (a1.fO>4)) λx4=>.ifs [14] x4 (.ret true) (.bB 19 (decide (a1.iB<1)) λx5=>.ifs [19] x5 (.ret true) (.bB 24 (decide (a1.iB>12)) λx6=>.ifs [24] x6 (.ret true) (.bB 28 (decide ((a1.bN.length:Int)<1)) λx7=>.ifs [28] x7 (.ret true) (.bB 32 (decide ((a1.bN.length:Int)>5)) λx8=>.ifs [32] x8 (.ret true) (.cl 38 (LZ n a1.bN (a1.bN.length:Int) 0 1073741824) WH P8 λx9=>.bB 39 (!x9) λx10=>.ifs [39] x10 (.ret true) (.ln 44 (fL 1 fI) a1.Methods<|.bB 47 (decide ((a1.Methods.length:Int)≠a1.fO)) λx11=>.ifs [47] x11 (.ret true) (.ln 52 (fL 1 fI) a1.fM<|.bB 55 (decide ((a1.fM.length:Int)≠a1.fO)) λx12=>.ret x12))))))))) (λy0_1=>.ifs [56] y0_1 (.ret ((false:Bool))) (.dU 2 [2] [] [] (λ_ (a:Unit)=>[]) (λ_ _=>[]) (.lp [1,2,3] [1] [] (λ_ (a:Int)=>[(4,int a)]) (λ_ _=>[]) n 0 (λy1_1=>.bB 60 (decide (y1_1<a1.fO)) λx13=>.ifs [60] x13 (.jn 2 [1,2,3,4] [1] [] (λ_ (a:Bool)=>[(80,aI a)]) (λ_ _=>[]) (.ix 66 (fL 1 fI) a1.Methods y1_1 λx14=>.cl 69 (LZ n x14 (a1.bN.length:Int) 1 4) WH P8 λx15=>.bB 70 (!x15) λx16=>.ifs [70] x16 (.ret true) (.ix 75 (fL 1 fI) a1.fM y1_1 λx17=>.cl 78 (LZ n x17 (a1.bN.length:Int) 0 1073741824) WH P8 λx18=>.bB 79 (!x18) λx19=>.ret x19)) (λy2_1=>.ifs [80] y2_1 (.esc (.esc (.ret ((false:Bool))))) (.bI 62 (bA (y1_1+1)) λx20=>.brk x20))) (.esc (.brk ())))) (λ_=>.ret ((true:Bool)))))
def aEK (n:Nat) (a1:gD):Option (Bool):=(aQY n a1).run
theorem aRZ {n a1}:PZ (aEK n a1) 31 [.agg (gD.av a1)] aI:=wq Tryz.func31
end
end Go.Pv
