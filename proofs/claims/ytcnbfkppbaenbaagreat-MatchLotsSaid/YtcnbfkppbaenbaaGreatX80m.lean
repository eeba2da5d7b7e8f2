import Derived.Test.YtcnbfkppbaenbaaGreatX80l
set_option linter.unusedVariables false
set_option linter.unusedSimpArgs false
namespace Go.Pv
open Go.Proofs
set_option maxRecDepth 100000
set_option maxHeartbeats 4000000
noncomputable section
def VJ (n:Nat) (a1:List aB):WT Tryz.prog (.b (aB×Int)) :=
 .al 1<|.ln 15 aB.av a1<|.jn 0 [2,3] [1] [6,7,8] (λu2 (a:(List Int)×(List Int)×(List Int))=>[(4,.sl 6 (u2 6) 0 a.1.length),(5,.sl 7 (u2 7) 0 a.2.1.length),(6,.sl 8 (u2 8) 0 a.2.2.length)]) (λ_ a=>[.nw 6 3 1 (a.1.map fI),.nw 7 3 1 (a.2.1.map fI),.nw 8 3 1 (a.2.2.map fI)]) (.no 4 6 3 1<|.no 5 7 3 1<|.no 6 8 3 1<|.lp [2,3,14,15] [1] [6,7,8] (λu3 (a:Int×(List Int)×(List Int)×(List Int))=>[(4,.sl 6 (u3 6) 0 a.2.1.length),(5,.sl 7 (u3 7) 0 a.2.2.1.length),(6,.sl 8 (u3 8) 0 a.2.2.2.length),(16,int a.1)]) (λ_ a=>[.nw 6 3 1 (a.2.1.map fI),.nw 7 3 1 (a.2.2.1.map fI),.nw 8 3 1 (a.2.2.2.map fI)]) n ((0:Int),(([]:List Int):List Int),(([]:List Int):List Int),(([]:List Int):List Int)) (pw λy0_4 q0=>(pw λy0_5 q1=>(pw λy0_6 y0_7=>.bB 17 (decide (y0_4<(a1.length:Int))) λx6=>.ifs [17] x6 (.ix 18 aB.av a1 y0_4 λx7=>.al 2<|.dr [(1,[2]),(2,[2]),(6,[2]),(7,[2]),(11,[2]),(12,[2])] [(14,[])] [2] [4,9,14] [0,1,2,3,5,6,7,8,10,11,12,13,4,9,14,15,16,17] (.to 23 (aP 1 fI ([x7.aG]:List Int))<|.to 28 (aP 1 fI ([x7.Value]:List Int))<|.to 33 (aP 1 fI ([x7.bO]:List Int))<|.bl (y0_5++([x7.aG]:List Int):List Int) λx9=>.as (x9.length<=68719476736) inferInstance<|.ge 24 0<|.bl (y0_6++([x7.Value]:List Int):List Int) λx12=>.as (x12.length<=68719476736) inferInstance<|.ge 29 0<|.bl (y0_7++([x7.bO]:List Int):List Int) λx15=>.as (x15.length<=68719476736) inferInstance<|.ge 34 0<|.bI 35 (bA (y0_4+1)) λx18=>.brk ((x18:Int),x9,x12,x15))) (.esc (.ret ((y0_5:List Int),y0_6,y0_7)))) q1) q0)) (pw λy1_4 q0=>(pw λy1_5 y1_6=>.al 9<|.gv 45<|.fD 0 [2,3,9] [1] [] (λ_ (a:aB)=>[]) (λ_ a=>[.kp 9 [[int a.aG,int a.Value,int a.bO]]]) (.un 24 (.kB 48 true<|.gv 49<|.al 10<|.kS 54 (uD n y1_4) CQ FD (λ_=>rfl) λx21=>.bB 58 (decide (x21.2≠0)) λx22=>.ifs [58] x22 (.esc (.ret (((⟨0,0,0⟩:aB):aB),x21.2))) (.kI 65 1<|.kB 48 true<|.gv 49<|.al 11<|.kS 54 (uD n y1_5) CQ FD (λ_=>rfl) λx24=>.bB 58 (decide (x24.2≠0)) λx25=>.ifs [58] x25 (.esc (.ret (((⟨0,0,0⟩:aB):aB),x24.2))) (.kI 65 2<|.kB 48 true<|.gv 49<|.al 12<|.kS 54 (uD n y1_6) CQ FD (λ_=>rfl) λx27=>.bB 58 (decide (x27.2≠0)) λx28=>.ifs [58] x28 (.esc (.ret (((⟨0,0,0⟩:aB):aB),x27.2))) (.kI 65 3<|.kB 48 false<|.brk ((⟨x21.1,x24.1,x27.1⟩:aB):aB)))))) (λy2_1=>.ret ((y2_1:aB),0))) q0)
def AA (n:Nat) (a1:List aB):Option (aB×Int):=(VJ n a1).run
theorem aAO {n:Nat} {a1:List aB} {r:aB×Int} (h0:AA n a1=some r):PP Tryz.prog 220 [aP 3 aB.av a1] (λy=>y=.bC [.agg (aB.av r.1),int r.2]):=by
 refine bU mixed bR (λ(r:aB×Int)=>.bC [.agg (aB.av r.1),int r.2]) h0 Tryz.func220 (λr=>.bC (gD ((λ(a:aB)=>PV.agg (aB.dH a)) (r.1)) (bT (r.2)))) 100000 ?_
 intro v2
 refine .mk ?_
 refine .mk ?_ ?_
 intro v3
 intro v4
 intro v5
 refine .mk ?_
 rintro ⟨y0_4,y0_5,y0_6,y0_7⟩ _
 refine .mk λx6=>?_
 refine .mk ?_ ?_
 refine .mk λx7 e7=>?_
 intro v8
 refine .mk ?_
 refine .mk (λH hH _=>iH (y:=aP 1 fI ([x7.aG]:List Int)) (jK (ps:=[(0,_)]) (rows:=[[int x7.aG]]) rfl Tryz.underlying22 kD (.cons rfl .nil) (by kernel_rfl) rfl rfl rfl) rfl) ?_
 refine .mk (λH hH _=>iH (y:=aP 1 fI ([x7.Value]:List Int)) (jK (ps:=[(0,_)]) (rows:=[[int x7.Value]]) rfl Tryz.underlying22 kD (.cons rfl .nil) (by kernel_rfl) rfl rfl rfl) rfl) ?_
 refine .mk (λH hH _=>iH (y:=aP 1 fI ([x7.bO]:List Int)) (jK (ps:=[(0,_)]) (rows:=[[int x7.bO]]) rfl Tryz.underlying22 kD (.cons rfl .nil) (by kernel_rfl) rfl rfl rfl) rfl) ?_
 refine .mk λx9 e9=>?_
 refine .mk λuS=>?_
 refine .mk _ ⟨λ_=>kY (g:=fI) (l:=y0_5) (m:=([x7.aG]:List Int)) .any rfl Tryz.underlying22 kD nR rfl rfl rfl rfl rfl rfl rfl rfl rfl rfl (Eq.symm rfl) (.refl _) (λ_=>rfl) e9 uS,by rintro _ _ ⟨v11,-,rfl,rfl⟩;exact ⟨rfl,trivial⟩⟩ ?_
 rintro _ _ ⟨v11,-,rfl,rfl⟩
 refine .mk λx12 e12=>?_
 refine .mk λZY=>?_
 refine .mk _ ⟨λ_=>kY (g:=fI) (l:=y0_6) (m:=([x7.Value]:List Int)) .any rfl Tryz.underlying22 kD nR rfl rfl rfl rfl rfl rfl rfl rfl rfl rfl (Eq.symm rfl) (.refl _) (λ_=>rfl) e12 ZY,by rintro _ _ ⟨v14,-,rfl,rfl⟩;exact ⟨rfl,trivial⟩⟩ ?_
 rintro _ _ ⟨v14,-,rfl,rfl⟩
 refine .mk λx15 e15=>?_
 refine .mk λp16=>?_
 refine .mk _ ⟨λ_=>kY (g:=fI) (l:=y0_7) (m:=([x7.bO]:List Int)) .any rfl Tryz.underlying22 kD nR rfl rfl rfl rfl rfl rfl rfl rfl rfl rfl (Eq.symm rfl) (.refl _) (λ_=>rfl) e15 p16,by rintro _ _ ⟨v17,-,rfl,rfl⟩;exact trivial⟩ ?_
 rintro _ _ ⟨v17,-,rfl,rfl⟩
 refine .mk λx18=>?_
 exact .mk
 exact .mk
 rintro ⟨y1_4,y1_5,y1_6⟩ u2
 intro v19
 refine .mk _ (eH (jK (ps:=[(0,_),(1,_),(2,_)]) (rows:=[[.pt 9 v19 0 0,.sl 6 (u2 6) 0 y1_4.length],[.pt 9 v19 0 1,.sl 7 (u2 7) 0 y1_5.length],[.pt 9 v19 0 2,.sl 8 (u2 8) 0 y1_6.length]]) rfl Tryz.underlying254 aKH (.cons rfl (.cons rfl (.cons rfl .nil))) (by kernel_rfl) rfl rfl rfl)) ?_
 refine .mk ?_ ?_
 refine .mk ?_
 refine .mk _ (eH (mQ (j:=0) rfl Tryz.underlying254 RU rfl rfl rfl (.list rfl))) ?_
 intro v20
 refine .mk (λx21 e21=>?_) rfl (by rintro _ rfl;exact (.cons (gJ rfl rfl rfl rfl rfl (Eq.symm rfl)) .nil))
 refine .mk λx22=>?_
 refine .mk .mk ?_
 refine .mk ?_
 refine .mk ?_
 refine .mk _ (eH (mQ (j:=1) rfl Tryz.underlying254 RU rfl rfl rfl (.list rfl))) ?_
 intro v23
 refine .mk (λx24 e24=>?_) rfl (by rintro _ rfl;exact (.cons (gJ rfl rfl rfl rfl rfl (Eq.symm rfl)) .nil))
 refine .mk λx25=>?_
 refine .mk .mk ?_
 refine .mk ?_
 refine .mk ?_
 refine .mk _ (eH (mQ (j:=2) rfl Tryz.underlying254 RU rfl rfl rfl (.list rfl))) ?_
 intro v26
 refine .mk (λx27 e27=>?_) rfl (by rintro _ rfl;exact (.cons (gJ rfl rfl rfl rfl rfl (Eq.symm rfl)) .nil))
 refine .mk λx28=>?_
 refine .mk .mk ?_
 refine .mk ?_
 refine .mk ?_
 exact .mk
 intro _ _
 exact .mk
def T8 (n:Nat) (a1:List aB):WT Tryz.prog (.b (Bool)) :=
 .ln 9 aB.av a1<|.jn 0 [2] [] [3] (λu2 (a:(List Int))=>[(3,.sl 3 (u2 3) 0 a.length)]) (λ_ a=>[.nw 3 3 1 (a.map fI)]) (.no 3 3 3 1<|.lp [2,8,9] [] [3] (λu3 (a:Int×(List Int))=>[(3,.sl 3 (u3 3) 0 a.2.length),(10,int a.1)]) (λ_ a=>[.nw 3 3 1 (a.2.map fI)]) n ((0:Int),(([]:List Int):List Int)) (pw λy0_2 y0_3=>.bB 11 (decide (y0_2<(a1.length:Int))) λx3=>.ifs [11] x3 (.ix 12 aB.av a1 y0_2 λx4=>.al 1<|.bI 19 (bA (0-x4.bO)) λx6=>.bl (if x6>x4.bO then x6 else x4.bO:Int) λx7=>.gv 20<|.to 21 (aP 1 fI ([x7]:List Int))<|.bl (y0_3++([x7]:List Int):List Int) λx8=>.as (x8.length<=68719476736) inferInstance<|.ge 22 0<|.bI 23 (bA (y0_2+1)) λx11=>.brk ((x11:Int),x8)) (.esc (.ret y0_3)))) (λy1_2=>.kS 26 (uD n y1_2) CQ FD (λ_=>rfl) λx12=>.bB 30 (decide (x12.2=0)) λx13=>.ret ((x13:Bool)))
def DV (n:Nat) (a1:List aB):Option (Bool):=(T8 n a1).run
theorem aJ9 {n a1 r} (h0:DV n a1=some r):PP Tryz.prog 278 [aP 3 aB.av a1] (λy=>y=aT r) :=
 bU mixed bR (λr:Bool=>aT r) h0 Tryz.func278 (λr=>gF r) 100000 au
def aFC (n:Nat) (a1:List aB):WT Tryz.prog (.b (Bool)) :=
 .jn 1 [0,2] [] [] (λ_ (a:Bool)=>[(11,aT a)]) (λ_ _=>[]) (.ln 6 aB.av a1<|.bB 7 (decide ((a1.length:Int)>30)) λx2=>.ifs [7] x2 (.ret true) (.inl 10 aLA Tryz.func276 [] [] (λ_ (a:Bool)=>aT a) (λ_ _=>[]) (.inl 7 aRI Tryz.func279 [] [] (λ_ (a:Int)=>int a) (λ_ _=>[]) (.ln 7 aB.av a1<|.fD 0 [4] [] [] (λ_ (a:Unit)=>[]) (λ_ _=>[]) (.lp [0,1,4,7] [] [] (λ_ (a:Int)=>[(8,int a)]) (λ_ _=>[]) n 0 (λy0_1=>.bB 9 (decide (y0_1<(a1.length:Int))) λx3=>.ifs [9] x3 (.ix 14 aB.av a1 y0_1 λx4=>.cl 16 (KO x4) aK1 aVU λx5=>.ifs [16] x5 (.esc (.esc (.ret y0_1))) (.bI 18 (bA (y0_1+1)) λx6=>.brk x6)) (.esc (.brk ())))) (λ_=>.ret (-1))) (λy2_1=>.bB 8 (decide (y2_1>=0)) λx7=>.ret x7)) (λy3_1=>.ret y3_1))) (λy4_1=>.ifs [11] y4_1 (.ret ((false:Bool))) (.cl 14 (AA n a1) V4 aAO λx8=>.al 1<|.jn 0 [] [] [] (λ_ (a:Bool)=>[(2,aT a)]) (λ_ _=>[]) (.bB 18 (decide (x8.2=0)) λx10=>.ifs [18] x10 (.cl 21 (DV n a1) aUV aJ9 λx11=>.ret x11) (.ret false)) (λy5_1=>.ret ((y5_1:Bool)))))
def MY (n:Nat) (a1:List aB):Option (Bool):=(aFC n a1).run
theorem aU4 {n a1 r} (h0:MY n a1=some r):PP Tryz.prog 274 [aP 3 aB.av a1] (λy=>y=aT r) :=
 bU mixed bR (λr:Bool=>aT r) h0 Tryz.func274 (λr=>gF r) 100000 au
def aE7 (n:Nat) (a1:List aB) (a2:aB):WT Tryz.prog (.b ((List aB)×Int)) :=
 .al 1<|.as (a1.length<=68719476736) inferInstance<|.ge 8 2<|.jn 1 [0,3,4,5] [1,2] [] (λ_ (a:Bool)=>[(9,aT a)]) (λ_ _=>[]) (.bB 12 (decide (a2.aG<1)) λx6=>.ifs [12] x6 (.ret true) (.bB 16 (decide (a2.Value<0)) λx7=>.ret x7)) (λy0_1=>.ifs [9] y0_1 (.ret ((a1:List aB),1)) (.bB 22 (decide ((a1.length:Int)>=30)) λx8=>.ifs [22] x8 (.ret ((a1:List aB),6)) (.dr [(2,[1])] [(4,[])] [1] [1,4] [0,2,3,1,4,5] (.to 27 (aP 3 aB.av ([a2]:List aB))<|.as (a1.length<=68719476736) inferInstance<|.ge 25 3<|.bl (a1++([a2]:List aB):List aB) λx11=>.as (x11.length<=68719476736) inferInstance<|.ge 28 0<|.kS 30 (MY n x11) aXC aU4 (λ_=>rfl) λx14=>.bB 31 (!x14) λx15=>.ifs [31] x15 (.ret ((a1:List aB),2)) (.ret ((x11:List aB),0))))))
def DO (n:Nat) (a1:List aB) (a2:aB):Option ((List aB)×Int):=(aE7 n a1 a2).run
theorem VO {n:Nat} {a1:List aB} {a2:aB} {r:(List aB)×Int} (h0:DO n a1 a2=some r):PP Tryz.prog 272 [aP 3 aB.av a1,.agg (aB.av a2)] (λy=>y=.bC [aP 3 aB.av r.1,int r.2]):=by
 refine bU mixed bR (λ(r:(List aB)×Int)=>.bC [aP 3 aB.av r.1,int r.2]) h0 Tryz.func272 (λr=>.bC (gD ((iJ aB.dH) (r.1)) (bT (r.2)))) 100000 ?_
 intro v3
 refine .mk λp4=>?_
 refine .mk _ ⟨λ_=>mM rfl rfl (.cons rfl .nil) wZ (nC (yL (id:=2) (l:=a1) rfl p4) (.cons (.refl _) .nil)),λ_ _ _=>trivial⟩ ?_
 rintro _ _ ⟨v5,rfl,rfl⟩
 refine .mk ?_ ?_
 refine .mk λx6=>?_
 refine .mk .mk ?_
 refine .mk λx7=>?_
 exact .mk
 intro _ _
 refine .mk ?_ ?_
 exact .mk (dX.bC (.cons (gJ rfl rfl rfl rfl rfl (Eq.symm rfl)) (.cons (.refl _) .nil)))
 refine .mk λx8=>?_
 refine .mk ?_ ?_
 exact .mk (dX.bC (.cons (gJ rfl rfl rfl rfl rfl (Eq.symm rfl)) (.cons (.refl _) .nil)))
 refine .mk ?_
 refine .mk (λH hH _=>iH (y:=aP 3 aB.av ([a2]:List aB)) (jK (ps:=[(0,_)]) (rows:=[[int a2.aG,int a2.Value,int a2.bO]]) rfl Tryz.underlying121 BX (.cons rfl .nil) (by kernel_rfl) rfl rfl rfl) rfl) ?_
 refine .mk λp9=>?_
 refine .mk _ ⟨λ_=>eO.j5 2 rfl (mM rfl rfl (.cons rfl .nil) wZ (nC (yL (id:=3) (l:=a1) rfl p9) (.cons (gJ rfl rfl rfl rfl rfl (Eq.symm rfl)) .nil))),by rintro _ _ ⟨v10,rfl,rfl⟩;exact ⟨rfl,trivial⟩⟩ ?_
 rintro _ _ ⟨v10,rfl,rfl⟩
 refine .mk λx11 e11=>?_
 refine .mk λrR=>?_
 refine .mk _ ⟨λ_=>kY (g:=aB.av) (l:=a1) (m:=([a2]:List aB)) .any rfl Tryz.underlying121 BX SI rfl rfl rfl rfl rfl rfl rfl rfl rfl rfl (Eq.symm rfl) (.refl _) (λ_=>rfl) e11 rR,by rintro _ _ ⟨v13,-,rfl,rfl⟩;exact trivial⟩ ?_
 rintro _ _ ⟨v13,-,rfl,rfl⟩
 refine .mk (λx14 e14=>?_) rfl (by rintro _ rfl;exact (.cons (gJ rfl rfl rfl rfl rfl (Eq.symm rfl)) .nil))
 refine .mk λx15=>?_
 refine .mk ?_ ?_
 exact .mk (dX.bC (.cons (gJ rfl rfl rfl rfl rfl (Eq.symm rfl)) (.cons (.refl _) .nil)))
 exact .mk (dX.bC (.cons (gJ rfl rfl rfl rfl rfl (Eq.symm rfl)) (.cons (.refl _) .nil)))
def UC (n:Nat) (a1:List aB) (a2:aB):WT Tryz.prog (.b ((List aB)×Int)) :=
 .al 1<|.dr [(3,[1])] [] [1] [0] [2,3,0,1,4,5,6,7,8,9] (.inl 10 ID Tryz.func284 [1] [] (λ_ (a:Unit)=>.agg [.fn (.func 272) [] [],.fn (.func 273) [] [],.fn (.func 220) [] []]) (λ_ _=>[]) (.al 2<|.ret ()) (λ_=>.cl 14 (DO n a1 a2) aFF VO λx5=>.bB 18 (decide (x5.2≠0)) λx6=>.ifs [18] x6 (.ret ((x5.1:List aB),x5.2)) (.inl 22 ID Tryz.func284 [1] [] (λ_ (a:Unit)=>.agg [.fn (.func 272) [] [],.fn (.func 273) [] [],.fn (.func 220) [] []]) (λ_ _=>[]) (.al 3<|.ret ()) (λ_=>.cl 25 (AA n x5.1) V4 aAO λx8=>.al 4<|.bB 29 (decide (x8.2≠0)) λx10=>.ifs [29] x10 (.as (a1.length<=68719476736) inferInstance<|.ge 31 5<|.ret ((a1:List aB),x8.2)) (.to 34 (aP 3 aB.av ([x8.1]:List aB))<|.ret ((([x8.1]:List aB):List aB),0))))))
def AJ (n:Nat) (a1:List aB) (a2:aB):Option ((List aB)×Int):=(UC n a1 a2).run
theorem O5 {n a1 a2 r} (h0:AJ n a1 a2=some r):PP Tryz.prog 282 [aP 3 aB.av a1,.agg (aB.av a2)] (λy=>y=.bC [aP 3 aB.av r.1,int r.2]) :=
 bU mixed bR (λr:(List aB)×Int=>.bC [aP 3 aB.av r.1,int r.2]) h0 Tryz.func282 (λr=>.bC (gD ((iJ aB.dH) (r.1)) (bT (r.2)))) 100000 au
def aGH (n:Nat) (a1:aH) (a2:aB):WT Tryz.prog (.b (aH×Int)) :=
 .al 1<|.al 2<|.al 3<|.cl 12 (AJ n a1.aW a2) RF O5 λx6=>.cl 17 (uN a1 x6.1) ED EP λx7=>.ret ((x7:aH),x6.2)
def JG (n:Nat) (a1:aH) (a2:aB):Option (aH×Int):=(aGH n a1 a2).run
theorem aQ5 {n a1 a2 r} (h0:JG n a1 a2=some r):PP Tryz.prog 287 [.agg (aH.av a1),.agg (aB.av a2)] (λy=>y=.bC [.agg (aH.av r.1),int r.2]) :=
 bU mixed bR (λr:aH×Int=>.bC [.agg (aH.av r.1),int r.2]) h0 Tryz.func287 (λr=>.bC (gD ((λ(a:aH)=>PV.agg (aH.dH a)) (r.1)) (bT (r.2)))) 100000 au
def aES (n:Nat) (a1:List aB) (a2:aB) (a3:Int):WT Tryz.prog (.b ((List aB)×Int×Int)) :=
 .al 1<|.as (a1.length<=68719476736) inferInstance<|.ge 16 2<|.jn 1 [0,2,4,6,7,8,10] [1,2] [] (λ_ (a:Bool)=>[(30,aT a)]) (λ_ _=>[]) (.cl 19 (EA a3) WX VS λx7=>.bB 20 (!x7) λx8=>.ifs [20] x8 (.ret true) (.bB 24 (decide (a2.aG<1)) λx9=>.ifs [24] x9 (.ret true) (.bB 29 (decide (a2.Value<0)) λx10=>.ret x10))) (λy0_1=>.ifs [30] y0_1 (.ret ((a1:List aB),0,1)) (.cl 37 (DC n a3 a2.aG) aA7 aE5 λx11=>.jn 0 [0,4,6,7,8,11] [1,2] [] (λ_ (a:Bool)=>[(46,aT a)]) (λ_ _=>[]) (.bB 41 (decide (x11.2≠0)) λx12=>.ifs [41] x12 (.ret true) (.bB 45 (decide (a2.Value>288230376151711744)) λx13=>.ret x13)) (λy1_1=>.ifs [46] y1_1 (.ret ((a1:List aB),0,2)) (.bI 51 (bA (a2.Value-x11.1)) λx14=>.j5 2<|.cl 57 (AJ n a1 (⟨a2.aG,x11.1,a2.bO⟩:aB)) RF O5 λx15=>.bB 61 (decide (x15.2≠0)) λx16=>.ifs [61] x16 (.ret ((a1:List aB),0,x15.2)) (.ret ((x15.1:List aB),x14,0))))))
def MO (n:Nat) (a1:List aB) (a2:aB) (a3:Int):Option ((List aB)×Int×Int):=(aES n a1 a2 a3).run
theorem aVH {n:Nat} {a1:List aB} {a2:aB} {a3:Int} {r:(List aB)×Int×Int} (h0:MO n a1 a2 a3=some r):PP Tryz.prog 291 [aP 3 aB.av a1,.agg (aB.av a2),int a3] (λy=>y=.bC [aP 3 aB.av r.1,int r.2.1,int r.2.2]):=by
 refine bU mixed bR (λ(r:(List aB)×Int×Int)=>.bC [aP 3 aB.av r.1,int r.2.1,int r.2.2]) h0 Tryz.func291 (λr=>.bC (nM ((iJ aB.dH) (r.1)) (bT (r.2.1)) (bT (r.2.2)))) 100000 ?_
 intro v4
 refine .mk λp5=>?_
 refine .mk _ ⟨λ_=>mM rfl rfl (.cons rfl .nil) wZ (nC (yL (id:=2) (l:=a1) rfl p5) (.cons (.refl _) .nil)),λ_ _ _=>trivial⟩ ?_
 rintro _ _ ⟨v6,rfl,rfl⟩
 refine .mk ?_ ?_
 refine .mk λx7 e7=>?_
 refine .mk λx8=>?_
 refine .mk .mk ?_
 refine .mk λx9=>?_
 refine .mk .mk ?_
 refine .mk λx10=>?_
 exact .mk
 intro _ _
 refine .mk ?_ ?_
 exact .mk (dX.bC (.cons (gJ rfl rfl rfl rfl rfl (Eq.symm rfl)) (.cons (.refl _) (.cons (.refl _) .nil))))
 refine .mk λx11 e11=>?_
 refine .mk ?_ ?_
 refine .mk λx12=>?_
 refine .mk .mk ?_
 refine .mk λx13=>?_
 exact .mk
 intro _ _
 refine .mk ?_ ?_
 exact .mk (dX.bC (.cons (gJ rfl rfl rfl rfl rfl (Eq.symm rfl)) (.cons (.refl _) (.cons (.refl _) .nil))))
 refine .mk λx14=>?_
 refine .mk (λx15 e15=>?_) rfl (by rintro _ rfl;exact (.cons (gJ rfl rfl rfl rfl rfl (Eq.symm rfl)) (.cons (.refl _) .nil)))
 refine .mk λx16=>?_
 refine .mk ?_ ?_
 exact .mk (dX.bC (.cons (gJ rfl rfl rfl rfl rfl (Eq.symm rfl)) (.cons (.refl _) (.cons (.refl _) .nil))))
 exact .mk
def aGB (n:Nat) (a1:Int) (a2:Int) (a3:aH) (a4:aB):WT Tryz.prog (.b (aH×Int×Int)) :=
 .al 1<|.al 2<|.al 3<|.inl 17 ZH Tryz.func213 [1,2,3] [] (B:=(Unit)⊕(Unit)⊕(Unit)⊕(Unit)⊕(Unit)) (λu2=>Sum.elim (λa=>.iM 243 (.agg [])) (Sum.elim (λa=>.iM 244 (.agg [])) (Sum.elim (λa=>.iM 245 (.agg [])) (Sum.elim (λa=>.iM 247 (.agg [int a2])) (λa=>.sc .nilIface))))) (λu2=>Sum.elim (λa=>[]) (Sum.elim (λa=>[]) (Sum.elim (λa=>[]) (Sum.elim (λa=>[]) (λa=>[]))))) (.bB 7 (decide (a1=1)) λx8=>.ifs [7] x8 (.gv 9<|.ret (.inl ())) (.bB 11 (decide (a1=2)) λx9=>.ifs [11] x9 (.gv 13<|.ret (.inr (.inl ()))) (.bB 15 (decide (a1=3)) λx10=>.ifs [15] x10 (.gv 17<|.ret (.inr (.inr (.inl ())))) (.bB 19 (decide (a1=4)) λx11=>.ifs [19] x11 (.gv 22<|.ret (.inr (.inr (.inr (.inl ()))))) (.ret (.inr (.inr (.inr (.inr ()))))))))) (Sum.elim (λ_=>.gv 19<|.iv 26 aOD aS1 Tryz.func270 [1,2,3] [] (λ_ (a:aH×Int)=>.bC [.agg [aP 3 aB.av a.1.aW,int a.1.bN.a0,int a.1.bN.a1,int a.1.bN.a2],int 0,int a.2]) (λ_ _=>[]) (.al 9<|.al 10<|.al 11<|.al 12<|.cl 15 (DO n a3.aW a4) aFF VO λx16=>.cl 20 (wL a3 x16.1) xE yT λx17=>.ret ((x17:aH),x16.2)) (pw λy6_1 y6_2=>.al 8<|.bB 31 (decide (y6_2≠0)) λx19=>.ifs [31] x19 (.cl 33 (nD a3) oH oU λx20=>.ret ((x20:aH),0,y6_2)) (.ret ((y6_1:aH),0,0)))) (Sum.elim (λ_=>.gv 19<|.iv 26 aUE aS0 Tryz.func280 [1,2,3] [] (λ_ (a:aH×Int)=>.bC [.agg [aP 3 aB.av a.1.aW,int a.1.bN.a0,int a.1.bN.a1,int a.1.bN.a2],int 0,int a.2]) (λ_ _=>[]) (.al 17<|.al 18<|.al 19<|.al 20<|.cl 15 (AJ n a3.aW a4) RF O5 λx25=>.cl 20 (wL a3 x25.1) xE yT λx26=>.ret ((x26:aH),x25.2)) (pw λy8_1 y8_2=>.al 8<|.bB 31 (decide (y8_2≠0)) λx28=>.ifs [31] x28 (.cl 33 (nD a3) oH oU λx29=>.ret ((x29:aH),0,y8_2)) (.ret ((y8_1:aH),0,0)))) (Sum.elim (λ_=>.gv 19<|.iv 26 aTQ aOH Tryz.func285 [1,2,3] [] (λ_ (a:aH×Int)=>.bC [.agg [aP 3 aB.av a.1.aW,int a.1.bN.a0,int a.1.bN.a1,int a.1.bN.a2],int 0,int a.2]) (λ_ _=>[]) (.al 25<|.al 26<|.al 27<|.al 28<|.cl 13 (JG n a3 a4) aSR aQ5 λx34=>.ret ((x34.1:aH),x34.2)) (pw λy10_1 y10_2=>.al 8<|.bB 31 (decide (y10_2≠0)) λx36=>.ifs [31] x36 (.cl 33 (nD a3) oH oU λx37=>.ret ((x37:aH),0,y10_2)) (.ret ((y10_1:aH),0,0)))) (Sum.elim (λ_=>.gv 19<|.iv 26 aMU aWO Tryz.func289 [1,2,3] [] (λ_ (a:aH×Int×Int)=>.bC [.agg [aP 3 aB.av a.1.aW,int a.1.bN.a0,int a.1.bN.a1,int a.1.bN.a2],int a.2.1,int a.2.2]) (λ_ _=>[]) (.al 33<|.al 34<|.al 35<|.al 36<|.cl 18 (MO n a3.aW a4 a2) aG0 aVH λx42=>.cl 24 (wL a3 x42.1) xE yT λx43=>.ret ((x43:aH),x42.2.1,x42.2.2)) (pw λy12_1 q0=>(pw λy12_2 y12_3=>.al 8<|.bB 31 (decide (y12_3≠0)) λx45=>.ifs [31] x45 (.cl 33 (nD a3) oH oU λx46=>.ret ((x46:aH),0,y12_3)) (.ret ((y12_1:aH),y12_2,0))) q0)) (λ_=>.gv 19<|.cl 21 (nD a3) oH oU λx47=>.ret ((x47:aH),0,12))))))
def aDJ (n:Nat) (a1:Int) (a2:Int) (a3:aH) (a4:aB):Option (aH×Int×Int):=(aGB n a1 a2 a3 a4).run
end
end Go.Pv
