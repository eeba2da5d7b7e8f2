import Derived.Test.YtidcjedeacampaaGreatX80h
set_option linter.unusedVariables false
set_option linter.unusedSimpArgs false
namespace Go.Pv
open Go.Proofs
set_option maxRecDepth 100000
set_option maxHeartbeats 4000000
noncomputable section
def aA9 (n:Nat) (a1:Int) (a2:Int):WT Tryz.prog (.b (Int×Int)) :=
 .bl (if 0>a2 then 0 else a2:Int) λx3=>.gv 11<|.cl 13 (BA n x3 a1 1) aJF aHA λx4=>.ret ((x4.1:Int),x4.2.2)
def MM (n:Nat) (a1:Int) (a2:Int):Option (Int×Int):=(aA9 n a1 a2).run
theorem aH7 {n a1 a2 r} (h0:MM n a1 a2=some r):PP Tryz.prog 234 [int a1,int a2] (λy=>y=.bD [int r.1,int r.2]) :=
 bY mixed aA (λr:Int×Int=>.bD [int r.1,int r.2]) h0 Tryz.func234 (λr=>.bD (gK (bQ (r.1)) (bQ (r.2)))) 100000 au
def V5 (a1:aF):WT Tryz.prog (.b (Bool)) :=
 .al 1<|.jn 0 [] [] [] (λ_ (a:Bool)=>[(2,aZ a)]) (λ_ _=>[]) (.bB 5 (decide (a1.aT<1)) λx3=>.ifs [5] x3 (.ret true) (.bB 9 (decide (a1.aT>288230376151711744)) λx4=>.ifs [9] x4 (.ret true) (.bB 14 (decide (a1.Value<0)) λx5=>.ifs [14] x5 (.ret true) (.bB 19 (decide (a1.Value>288230376151711744)) λx6=>.ifs [19] x6 (.ret true) (.bB 24 (decide (a1.bO<(-288230376151711744))) λx7=>.ifs [24] x7 (.ret true) (.bB 29 (decide (a1.bO>288230376151711744)) λx8=>.ret x8)))))) (λy0_1=>.ret ((y0_1:Bool)))
def JC (a1:aF):Option (Bool):=(V5 a1).run
theorem aKJ {a1 r} (h0:JC a1=some r):PP Tryz.prog 211 [.agg (aF.av a1)] (λy=>y=aZ r) :=
 bY mixed aA (λr:Bool=>aZ r) h0 Tryz.func211 (λr=>gT r) 100000 au
def ZY (a1:Int):WT Tryz.prog (.b (Bool)) :=
 .jn 1 [] [] [] (λ_ (a:Bool)=>[(2,aZ a)]) (λ_ _=>[]) (.bB 4 (decide (a1>=(-288230376151711744))) λx2=>.ifs [4] x2 (.bB 7 (decide (a1<=288230376151711744)) λx3=>.ret x3) (.ret false)) (λy0_1=>.ret ((y0_1:Bool)))
def BQ (a1:Int):Option (Bool):=(ZY a1).run
theorem QA {a1 r} (h0:BQ a1=some r):PP Tryz.prog 126 [int a1] (λy=>y=aZ r) :=
 bY mixed aA (λr:Bool=>aZ r) h0 Tryz.func126 (λr=>gT r) 100000 au
def aEO (a1:Int) (a2:Int):WT Tryz.prog (.b (Int×Int)) :=
 .jn 1 [0,1,4,5] [] [] (λ_ (a:Bool)=>[(20,aZ a)]) (λ_ _=>[]) (.cl 7 (BQ a1) RD QA λx3=>.bB 8 (!x3) λx4=>.ifs [8] x4 (.ret true) (.cl 11 (BQ a2) RD QA λx5=>.bB 12 (!x5) λx6=>.ifs [12] x6 (.ret true) (.bI 17 (bE (a1+a2)) λx7=>.cl 18 (BQ x7) RD QA λx8=>.bB 19 (!x8) λx9=>.ret x9))) (λy0_1=>.ifs [20] y0_1 (.ret ((0:Int),2)) (.bI 23 (bE (a1+a2)) λx10=>.ret ((x10:Int),0)))
def oH (a1:Int) (a2:Int):Option (Int×Int):=(aEO a1 a2).run
theorem pQ {a1 a2 r} (h0:oH a1 a2=some r):PP Tryz.prog 74 [int a1,int a2] (λy=>y=.bD [int r.1,int r.2]) :=
 bY mixed aA (λr:Int×Int=>.bD [int r.1,int r.2]) h0 Tryz.func74 (λr=>.bD (gK (bQ (r.1)) (bQ (r.2)))) 100000 au
def aES (n:Nat) (a1:List Int):WT Tryz.prog (.b (Int×Int)) :=
 .ln 9 fI a1<|.fH 0 [2,3] [] [] (λ_ (a:Int)=>[(4,int a)]) (λ_ _=>[]) (.lp [2,3,8,9] [] [] (λ_ (a:Int×Int)=>[(4,int a.1),(10,int a.2)]) (λ_ _=>[]) n ((0:Int),0) (pw λy0_1 y0_2=>.bB 11 (decide (y0_2<(a1.length:Int))) λx2=>.ifs [11] x2 (.ix 12 fI a1 y0_2 λx3=>.cl 17 (oH y0_1 x3) pV pQ λx4=>.bB 21 (decide (x4.2≠0)) λx5=>.ifs [21] x5 (.esc (.esc (.ret ((0:Int),x4.2)))) (.bI 23 (bE (y0_2+1)) λx6=>.brk ((x4.1:Int),x6))) (.esc (.brk y0_1)))) (λy1_1=>.ret ((y1_1:Int),0))
def qP (n:Nat) (a1:List Int):Option (Int×Int):=(aES n a1).run
theorem wG {n a1 r} (h0:qP n a1=some r):PP Tryz.prog 112 [aH 1 fI a1] (λy=>y=.bD [int r.1,int r.2]) :=
 bY mixed aA (λr:Int×Int=>.bD [int r.1,int r.2]) h0 Tryz.func112 (λr=>.bD (gK (bQ (r.1)) (bQ (r.2)))) 100000 au
def X4 (n:Nat) (a1:List aF):WT Tryz.prog (.b (aF×Int)) :=
 .al 1<|.ln 15 aF.av a1<|.jn 0 [2,3] [1] [6,7,8] (λu2 (a:(List Int)×(List Int)×(List Int))=>[(4,.sl 6 (u2 6) 0 a.1.length),(5,.sl 7 (u2 7) 0 a.2.1.length),(6,.sl 8 (u2 8) 0 a.2.2.length)]) (λ_ a=>[.nw 6 3 1 (a.1.map fI),.nw 7 3 1 (a.2.1.map fI),.nw 8 3 1 (a.2.2.map fI)]) (.no 4 6 3 1<|.no 5 7 3 1<|.no 6 8 3 1<|.lp [2,3,14,15] [1] [6,7,8] (λu3 (a:Int×(List Int)×(List Int)×(List Int))=>[(4,.sl 6 (u3 6) 0 a.2.1.length),(5,.sl 7 (u3 7) 0 a.2.2.1.length),(6,.sl 8 (u3 8) 0 a.2.2.2.length),(16,int a.1)]) (λ_ a=>[.nw 6 3 1 (a.2.1.map fI),.nw 7 3 1 (a.2.2.1.map fI),.nw 8 3 1 (a.2.2.2.map fI)]) n ((0:Int),(([]:List Int):List Int),(([]:List Int):List Int),(([]:List Int):List Int)) (pw λy0_4 q0=>(pw λy0_5 q1=>(pw λy0_6 y0_7=>.bB 17 (decide (y0_4<(a1.length:Int))) λx6=>.ifs [17] x6 (.ix 18 aF.av a1 y0_4 λx7=>.al 2<|.dr [(1,[2]),(2,[2]),(6,[2]),(7,[2]),(11,[2]),(12,[2])] [(14,[])] [2] [4,9,14] [0,1,2,3,5,6,7,8,10,11,12,13,4,9,14,15,16,17] (.to 23 (aH 1 fI ([x7.aT]:List Int))<|.to 28 (aH 1 fI ([x7.Value]:List Int))<|.to 33 (aH 1 fI ([x7.bO]:List Int))<|.bl (y0_5++([x7.aT]:List Int):List Int) λx9=>.as (x9.length<=68719476736) inferInstance<|.ge 24 0<|.bl (y0_6++([x7.Value]:List Int):List Int) λx12=>.as (x12.length<=68719476736) inferInstance<|.ge 29 0<|.bl (y0_7++([x7.bO]:List Int):List Int) λx15=>.as (x15.length<=68719476736) inferInstance<|.ge 34 0<|.bI 35 (bE (y0_4+1)) λx18=>.brk ((x18:Int),x9,x12,x15))) (.esc (.ret ((y0_5:List Int),y0_6,y0_7)))) q1) q0)) (pw λy1_4 q0=>(pw λy1_5 y1_6=>.al 9<|.gv 45<|.fH 0 [2,3,9] [1] [] (λ_ (a:aF)=>[]) (λ_ a=>[.kp 9 [[int a.aT,int a.Value,int a.bO]]]) (.un 24 (.kB 48 true<|.gv 49<|.al 10<|.kZ 54 (qP n y1_4) wF wG (λ_=>rfl) λx21=>.bB 58 (decide (x21.2≠0)) λx22=>.ifs [58] x22 (.esc (.ret (((⟨0,0,0⟩:aF):aF),x21.2))) (.kI 65 1<|.kB 48 true<|.gv 49<|.al 11<|.kZ 54 (qP n y1_5) wF wG (λ_=>rfl) λx24=>.bB 58 (decide (x24.2≠0)) λx25=>.ifs [58] x25 (.esc (.ret (((⟨0,0,0⟩:aF):aF),x24.2))) (.kI 65 2<|.kB 48 true<|.gv 49<|.al 12<|.kZ 54 (qP n y1_6) wF wG (λ_=>rfl) λx27=>.bB 58 (decide (x27.2≠0)) λx28=>.ifs [58] x28 (.esc (.ret (((⟨0,0,0⟩:aF):aF),x27.2))) (.kI 65 3<|.kB 48 false<|.brk ((⟨x21.1,x24.1,x27.1⟩:aF):aF)))))) (λy2_1=>.ret ((y2_1:aF),0))) q0)
def AJ (n:Nat) (a1:List aF):Option (aF×Int):=(X4 n a1).run
theorem NY {n:Nat} {a1:List aF} {r:aF×Int} (h0:AJ n a1=some r):PP Tryz.prog 110 [aH 3 aF.av a1] (λy=>y=.bD [.agg (aF.av r.1),int r.2]):=by
 refine bY mixed aA (λ(r:aF×Int)=>.bD [.agg (aF.av r.1),int r.2]) h0 Tryz.func110 (λr=>.bD (gK ((λ(a:aF)=>PV.agg (aF.dR a)) (r.1)) (bQ (r.2)))) 100000 ?_
 intro v2
 refine .mk ?_
 refine .mk ?_ ?_
 intro v3
 intro v4
 intro v5
 refine .mk ?_
 rintro ⟨y0_4,y0_5,y0_6,y0_7⟩ _
 refine .mk λx6=>?_
 refine .mk ?_ ?_
 refine .mk λx7 e7=>?_
 intro v8
 refine .mk ?_
 refine .mk (λH hH _=>fT (y:=aH 1 fI ([x7.aT]:List Int)) (jP (ps:=[(0,_)]) (rows:=[[int x7.aT]]) rfl Tryz.underlying22 kC (.cons rfl .nil) (by kernel_rfl) rfl rfl rfl) rfl) ?_
 refine .mk (λH hH _=>fT (y:=aH 1 fI ([x7.Value]:List Int)) (jP (ps:=[(0,_)]) (rows:=[[int x7.Value]]) rfl Tryz.underlying22 kC (.cons rfl .nil) (by kernel_rfl) rfl rfl rfl) rfl) ?_
 refine .mk (λH hH _=>fT (y:=aH 1 fI ([x7.bO]:List Int)) (jP (ps:=[(0,_)]) (rows:=[[int x7.bO]]) rfl Tryz.underlying22 kC (.cons rfl .nil) (by kernel_rfl) rfl rfl rfl) rfl) ?_
 refine .mk λx9 e9=>?_
 refine .mk λwB=>?_
 refine .mk _ ⟨λ_=>lV (g:=fI) (l:=y0_5) (m:=([x7.aT]:List Int)) .any rfl Tryz.underlying22 kC nK rfl rfl rfl rfl rfl rfl rfl rfl rfl rfl (Eq.symm rfl) (.refl _) (λ_=>rfl) e9 wB,by rintro _ _ ⟨v11,-,rfl,rfl⟩;exact ⟨rfl,trivial⟩⟩ ?_
 rintro _ _ ⟨v11,-,rfl,rfl⟩
 refine .mk λx12 e12=>?_
 refine .mk λAA=>?_
 refine .mk _ ⟨λ_=>lV (g:=fI) (l:=y0_6) (m:=([x7.Value]:List Int)) .any rfl Tryz.underlying22 kC nK rfl rfl rfl rfl rfl rfl rfl rfl rfl rfl (Eq.symm rfl) (.refl _) (λ_=>rfl) e12 AA,by rintro _ _ ⟨v14,-,rfl,rfl⟩;exact ⟨rfl,trivial⟩⟩ ?_
 rintro _ _ ⟨v14,-,rfl,rfl⟩
 refine .mk λx15 e15=>?_
 refine .mk λp16=>?_
 refine .mk _ ⟨λ_=>lV (g:=fI) (l:=y0_7) (m:=([x7.bO]:List Int)) .any rfl Tryz.underlying22 kC nK rfl rfl rfl rfl rfl rfl rfl rfl rfl rfl (Eq.symm rfl) (.refl _) (λ_=>rfl) e15 p16,by rintro _ _ ⟨v17,-,rfl,rfl⟩;exact trivial⟩ ?_
 rintro _ _ ⟨v17,-,rfl,rfl⟩
 refine .mk λx18=>?_
 exact .mk
 exact .mk
 rintro ⟨y1_4,y1_5,y1_6⟩ u2
 intro v19
 refine .mk _ (fK (jP (ps:=[(0,_),(1,_),(2,_)]) (rows:=[[.pt 9 v19 0 0,.sl 6 (u2 6) 0 y1_4.length],[.pt 9 v19 0 1,.sl 7 (u2 7) 0 y1_5.length],[.pt 9 v19 0 2,.sl 8 (u2 8) 0 y1_6.length]]) rfl Tryz.underlying195 aOB (.cons rfl (.cons rfl (.cons rfl .nil))) (by kernel_rfl) rfl rfl rfl)) ?_
 refine .mk ?_ ?_
 refine .mk ?_
 refine .mk _ (fK (mD (j:=0) rfl Tryz.underlying195 N7 rfl rfl rfl (.list rfl))) ?_
 intro v20
 refine .mk (λx21 e21=>?_) rfl (by rintro _ rfl;exact (.cons (gY rfl rfl rfl rfl rfl (Eq.symm rfl)) .nil))
 refine .mk λx22=>?_
 refine .mk .mk ?_
 refine .mk ?_
 refine .mk ?_
 refine .mk _ (fK (mD (j:=1) rfl Tryz.underlying195 N7 rfl rfl rfl (.list rfl))) ?_
 intro v23
 refine .mk (λx24 e24=>?_) rfl (by rintro _ rfl;exact (.cons (gY rfl rfl rfl rfl rfl (Eq.symm rfl)) .nil))
 refine .mk λx25=>?_
 refine .mk .mk ?_
 refine .mk ?_
 refine .mk ?_
 refine .mk _ (fK (mD (j:=2) rfl Tryz.underlying195 N7 rfl rfl rfl (.list rfl))) ?_
 intro v26
 refine .mk (λx27 e27=>?_) rfl (by rintro _ rfl;exact (.cons (gY rfl rfl rfl rfl rfl (Eq.symm rfl)) .nil))
 refine .mk λx28=>?_
 refine .mk .mk ?_
 refine .mk ?_
 refine .mk ?_
 exact .mk
 intro _ _
 exact .mk
def aC0 (n:Nat) (a1:List aF):WT Tryz.prog (.b (Bool)) :=
 .ln 9 aF.av a1<|.jn 0 [2] [] [3] (λu2 (a:(List Int))=>[(3,.sl 3 (u2 3) 0 a.length)]) (λ_ a=>[.nw 3 3 1 (a.map fI)]) (.no 3 3 3 1<|.lp [2,8,9] [] [3] (λu3 (a:Int×(List Int))=>[(3,.sl 3 (u3 3) 0 a.2.length),(10,int a.1)]) (λ_ a=>[.nw 3 3 1 (a.2.map fI)]) n ((0:Int),(([]:List Int):List Int)) (pw λy0_2 y0_3=>.bB 11 (decide (y0_2<(a1.length:Int))) λx3=>.ifs [11] x3 (.ix 12 aF.av a1 y0_2 λx4=>.al 1<|.bI 19 (bE (0-x4.bO)) λx6=>.bl (if x6>x4.bO then x6 else x4.bO:Int) λx7=>.gv 20<|.to 21 (aH 1 fI ([x7]:List Int))<|.bl (y0_3++([x7]:List Int):List Int) λx8=>.as (x8.length<=68719476736) inferInstance<|.ge 22 0<|.bI 23 (bE (y0_2+1)) λx11=>.brk ((x11:Int),x8)) (.esc (.ret y0_3)))) (λy1_2=>.kZ 26 (qP n y1_2) wF wG (λ_=>rfl) λx12=>.bB 30 (decide (x12.2=0)) λx13=>.ret ((x13:Bool)))
def GU (n:Nat) (a1:List aF):Option (Bool):=(aC0 n a1).run
theorem aIH {n a1 r} (h0:GU n a1=some r):PP Tryz.prog 212 [aH 3 aF.av a1] (λy=>y=aZ r) :=
 bY mixed aA (λr:Bool=>aZ r) h0 Tryz.func212 (λr=>gT r) 100000 au
def aDR (n:Nat) (a1:List aF):WT Tryz.prog (.b (Bool)) :=
 .jn 1 [0,2] [] [] (λ_ (a:Bool)=>[(11,aZ a)]) (λ_ _=>[]) (.ln 6 aF.av a1<|.bB 7 (decide ((a1.length:Int)>30)) λx2=>.ifs [7] x2 (.ret true) (.inl 10 aRK Tryz.func210 [] [] (λ_ (a:Bool)=>aZ a) (λ_ _=>[]) (.inl 7 aMB Tryz.func213 [] [] (λ_ (a:Int)=>int a) (λ_ _=>[]) (.ln 7 aF.av a1<|.fH 0 [4] [] [] (λ_ (a:Unit)=>[]) (λ_ _=>[]) (.lp [0,1,4,7] [] [] (λ_ (a:Int)=>[(8,int a)]) (λ_ _=>[]) n 0 (λy0_1=>.bB 9 (decide (y0_1<(a1.length:Int))) λx3=>.ifs [9] x3 (.ix 14 aF.av a1 y0_1 λx4=>.cl 16 (JC x4) aML aKJ λx5=>.ifs [16] x5 (.esc (.esc (.ret y0_1))) (.bI 18 (bE (y0_1+1)) λx6=>.brk x6)) (.esc (.brk ())))) (λ_=>.ret (-1))) (λy2_1=>.bB 8 (decide (y2_1>=0)) λx7=>.ret x7)) (λy3_1=>.ret y3_1))) (λy4_1=>.ifs [11] y4_1 (.ret ((false:Bool))) (.cl 14 (AJ n a1) QN NY λx8=>.al 1<|.jn 0 [] [] [] (λ_ (a:Bool)=>[(2,aZ a)]) (λ_ _=>[]) (.bB 18 (decide (x8.2=0)) λx10=>.ifs [18] x10 (.cl 21 (GU n a1) aFV aIH λx11=>.ret x11) (.ret false)) (λy5_1=>.ret ((y5_1:Bool)))))
def LD (n:Nat) (a1:List aF):Option (Bool):=(aDR n a1).run
theorem aQ6 {n a1 r} (h0:LD n a1=some r):PP Tryz.prog 209 [aH 3 aF.av a1] (λy=>y=aZ r) :=
 bY mixed aA (λr:Bool=>aZ r) h0 Tryz.func209 (λr=>gT r) 100000 au
def VN (n:Nat) (a1:List aF) (a2:aF):WT Tryz.prog (.b ((List aF)×Int)) :=
 .al 1<|.as (a1.length<=68719476736) inferInstance<|.ge 8 2<|.jn 1 [0,3,4,5] [1,2] [] (λ_ (a:Bool)=>[(9,aZ a)]) (λ_ _=>[]) (.bB 12 (decide (a2.aT<1)) λx6=>.ifs [12] x6 (.ret true) (.bB 16 (decide (a2.Value<0)) λx7=>.ret x7)) (λy0_1=>.ifs [9] y0_1 (.ret ((a1:List aF),1)) (.bB 22 (decide ((a1.length:Int)>=30)) λx8=>.ifs [22] x8 (.ret ((a1:List aF),6)) (.dr [(2,[1])] [(4,[])] [1] [1,4] [0,2,3,1,4,5] (.to 27 (aH 3 aF.av ([a2]:List aF))<|.as (a1.length<=68719476736) inferInstance<|.ge 25 3<|.bl (a1++([a2]:List aF):List aF) λx11=>.as (x11.length<=68719476736) inferInstance<|.ge 28 0<|.kZ 30 (LD n x11) aH4 aQ6 (λ_=>rfl) λx14=>.bB 31 (!x14) λx15=>.ifs [31] x15 (.ret ((a1:List aF),2)) (.ret ((x11:List aF),0))))))
def GC (n:Nat) (a1:List aF) (a2:aF):Option ((List aF)×Int):=(VN n a1 a2).run
theorem Y2 {n:Nat} {a1:List aF} {a2:aF} {r:(List aF)×Int} (h0:GC n a1 a2=some r):PP Tryz.prog 208 [aH 3 aF.av a1,.agg (aF.av a2)] (λy=>y=.bD [aH 3 aF.av r.1,int r.2]):=by
 refine bY mixed aA (λ(r:(List aF)×Int)=>.bD [aH 3 aF.av r.1,int r.2]) h0 Tryz.func208 (λr=>.bD (gK ((jD aF.dR) (r.1)) (bQ (r.2)))) 100000 ?_
 intro v3
 refine .mk λp4=>?_
 refine .mk _ ⟨λ_=>nC rfl rfl (.cons rfl .nil) E7 (qB (GD (id:=2) (l:=a1) rfl p4) (.cons (.refl _) .nil)),λ_ _ _=>trivial⟩ ?_
 rintro _ _ ⟨v5,rfl,rfl⟩
 refine .mk ?_ ?_
 refine .mk λx6=>?_
 refine .mk .mk ?_
 refine .mk λx7=>?_
 exact .mk
 intro _ _
 refine .mk ?_ ?_
 exact .mk (dG.bD (.cons (gY rfl rfl rfl rfl rfl (Eq.symm rfl)) (.cons (.refl _) .nil)))
 refine .mk λx8=>?_
 refine .mk ?_ ?_
 exact .mk (dG.bD (.cons (gY rfl rfl rfl rfl rfl (Eq.symm rfl)) (.cons (.refl _) .nil)))
 refine .mk ?_
 refine .mk (λH hH _=>fT (y:=aH 3 aF.av ([a2]:List aF)) (jP (ps:=[(0,_)]) (rows:=[[int a2.aT,int a2.Value,int a2.bO]]) rfl Tryz.underlying96 F6 (.cons rfl .nil) (by kernel_rfl) rfl rfl rfl) rfl) ?_
 refine .mk λp9=>?_
 refine .mk _ ⟨λ_=>eG.kS 2 rfl (nC rfl rfl (.cons rfl .nil) E7 (qB (GD (id:=3) (l:=a1) rfl p9) (.cons (gY rfl rfl rfl rfl rfl (Eq.symm rfl)) .nil))),by rintro _ _ ⟨v10,rfl,rfl⟩;exact ⟨rfl,trivial⟩⟩ ?_
 rintro _ _ ⟨v10,rfl,rfl⟩
 refine .mk λx11 e11=>?_
 refine .mk λwN=>?_
 refine .mk _ ⟨λ_=>lV (g:=aF.av) (l:=a1) (m:=([a2]:List aF)) .any rfl Tryz.underlying96 F6 P6 rfl rfl rfl rfl rfl rfl rfl rfl rfl rfl (Eq.symm rfl) (.refl _) (λ_=>rfl) e11 wN,by rintro _ _ ⟨v13,-,rfl,rfl⟩;exact trivial⟩ ?_
 rintro _ _ ⟨v13,-,rfl,rfl⟩
 refine .mk (λx14 e14=>?_) rfl (by rintro _ rfl;exact (.cons (gY rfl rfl rfl rfl rfl (Eq.symm rfl)) .nil))
 refine .mk λx15=>?_
 refine .mk ?_ ?_
 exact .mk (dG.bD (.cons (gY rfl rfl rfl rfl rfl (Eq.symm rfl)) (.cons (.refl _) .nil)))
 exact .mk (dG.bD (.cons (gY rfl rfl rfl rfl rfl (Eq.symm rfl)) (.cons (.refl _) .nil)))
def aCG (n:Nat) (a1:List aF) (a2:aF):WT Tryz.prog (.b ((List aF)×Int)) :=
 .al 1<|.dr [(3,[1])] [] [1] [0] [2,3,0,1,4,5,6,7,8,9] (.inl 10 aDE Tryz.func217 [1] [] (λ_ (a:Unit)=>.agg [.fn (.func 208) [] [],.fn (.func 218) [] [],.fn (.func 110) [] []]) (λ_ _=>[]) (.al 2<|.ret ()) (λ_=>.cl 14 (GC n a1 a2) YC Y2 λx5=>.bB 18 (decide (x5.2≠0)) λx6=>.ifs [18] x6 (.ret ((x5.1:List aF),x5.2)) (.inl 22 aDE Tryz.func217 [1] [] (λ_ (a:Unit)=>.agg [.fn (.func 208) [] [],.fn (.func 218) [] [],.fn (.func 110) [] []]) (λ_ _=>[]) (.al 3<|.ret ()) (λ_=>.cl 25 (AJ n x5.1) QN NY λx8=>.al 4<|.bB 29 (decide (x8.2≠0)) λx10=>.ifs [29] x10 (.as (a1.length<=68719476736) inferInstance<|.ge 31 5<|.ret ((a1:List aF),x8.2)) (.to 34 (aH 3 aF.av ([x8.1]:List aF))<|.ret ((([x8.1]:List aF):List aF),0))))))
def B9 (n:Nat) (a1:List aF) (a2:aF):Option ((List aF)×Int):=(aCG n a1 a2).run
theorem SO {n a1 a2 r} (h0:B9 n a1 a2=some r):PP Tryz.prog 216 [aH 3 aF.av a1,.agg (aF.av a2)] (λy=>y=.bD [aH 3 aF.av r.1,int r.2]) :=
 bY mixed aA (λr:(List aF)×Int=>.bD [aH 3 aF.av r.1,int r.2]) h0 Tryz.func216 (λr=>.bD (gK ((jD aF.dR) (r.1)) (bQ (r.2)))) 100000 au
def YH (n:Nat) (a1:List aF) (a2:aF) (a3:Int):WT Tryz.prog (.b ((List aF)×Int×Int)) :=
 .al 1<|.as (a1.length<=68719476736) inferInstance<|.ge 16 2<|.jn 1 [0,2,4,6,7,8,10] [1,2] [] (λ_ (a:Bool)=>[(30,aZ a)]) (λ_ _=>[]) (.cl 19 (M7 a3) aQT aMZ λx7=>.bB 20 (!x7) λx8=>.ifs [20] x8 (.ret true) (.bB 24 (decide (a2.aT<1)) λx9=>.ifs [24] x9 (.ret true) (.bB 29 (decide (a2.Value<0)) λx10=>.ret x10))) (λy0_1=>.ifs [30] y0_1 (.ret ((a1:List aF),0,1)) (.cl 37 (MM n a3 a2.aT) aIZ aH7 λx11=>.jn 0 [0,4,6,7,8,11] [1,2] [] (λ_ (a:Bool)=>[(46,aZ a)]) (λ_ _=>[]) (.bB 41 (decide (x11.2≠0)) λx12=>.ifs [41] x12 (.ret true) (.bB 45 (decide (a2.Value>288230376151711744)) λx13=>.ret x13)) (λy1_1=>.ifs [46] y1_1 (.ret ((a1:List aF),0,2)) (.bI 51 (bE (a2.Value-x11.1)) λx14=>.kS 2<|.cl 57 (B9 n a1 (⟨a2.aT,x11.1,a2.bO⟩:aF)) S7 SO λx15=>.bB 61 (decide (x15.2≠0)) λx16=>.ifs [61] x16 (.ret ((a1:List aF),0,x15.2)) (.ret ((x15.1:List aF),x14,0))))))
def MR (n:Nat) (a1:List aF) (a2:aF) (a3:Int):Option ((List aF)×Int×Int):=(YH n a1 a2 a3).run
theorem aR7 {n:Nat} {a1:List aF} {a2:aF} {a3:Int} {r:(List aF)×Int×Int} (h0:MR n a1 a2 a3=some r):PP Tryz.prog 232 [aH 3 aF.av a1,.agg (aF.av a2),int a3] (λy=>y=.bD [aH 3 aF.av r.1,int r.2.1,int r.2.2]):=by
 refine bY mixed aA (λ(r:(List aF)×Int×Int)=>.bD [aH 3 aF.av r.1,int r.2.1,int r.2.2]) h0 Tryz.func232 (λr=>.bD (qN ((jD aF.dR) (r.1)) (bQ (r.2.1)) (bQ (r.2.2)))) 100000 ?_
 intro v4
 refine .mk λp5=>?_
 refine .mk _ ⟨λ_=>nC rfl rfl (.cons rfl .nil) E7 (qB (GD (id:=2) (l:=a1) rfl p5) (.cons (.refl _) .nil)),λ_ _ _=>trivial⟩ ?_
 rintro _ _ ⟨v6,rfl,rfl⟩
 refine .mk ?_ ?_
 refine .mk λx7 e7=>?_
 refine .mk λx8=>?_
 refine .mk .mk ?_
 refine .mk λx9=>?_
 refine .mk .mk ?_
 refine .mk λx10=>?_
 exact .mk
 intro _ _
 refine .mk ?_ ?_
 exact .mk (dG.bD (.cons (gY rfl rfl rfl rfl rfl (Eq.symm rfl)) (.cons (.refl _) (.cons (.refl _) .nil))))
 refine .mk λx11 e11=>?_
 refine .mk ?_ ?_
 refine .mk λx12=>?_
 refine .mk .mk ?_
 refine .mk λx13=>?_
 exact .mk
 intro _ _
 refine .mk ?_ ?_
 exact .mk (dG.bD (.cons (gY rfl rfl rfl rfl rfl (Eq.symm rfl)) (.cons (.refl _) (.cons (.refl _) .nil))))
 refine .mk λx14=>?_
 refine .mk (λx15 e15=>?_) rfl (by rintro _ rfl;exact (.cons (gY rfl rfl rfl rfl rfl (Eq.symm rfl)) (.cons (.refl _) .nil)))
 refine .mk λx16=>?_
 refine .mk ?_ ?_
 exact .mk (dG.bD (.cons (gY rfl rfl rfl rfl rfl (Eq.symm rfl)) (.cons (.refl _) (.cons (.refl _) .nil))))
 exact .mk
def UK (a1:aS) (a2:List aF):WT Tryz.prog (.b (aS)) :=
 .al 1<|.al 2<|.as (a2.length<=68719476736) inferInstance<|.ge 6 3<|.ret (((⟨a2,a1.bC⟩:aS):aS))
def QU (a1:aS) (a2:List aF):Option (aS):=(UK a1 a2).run
theorem aG1 {a1 a2 r} (h0:QU a1 a2=some r):PP Tryz.prog 229 [.agg (aS.av a1),aH 3 aF.av a2] (λy=>y=.agg (aS.av r)) :=
 bY mixed aA (λr:aS=>.agg (aS.av r)) h0 Tryz.func229 (λr=>(λ(a:aS)=>PV.agg (aS.dR a)) r) 100000 au
def aCF (n:Nat) (a1:aS) (a2:aF):WT Tryz.prog (.b (aS×Int)) :=
 .al 1<|.al 2<|.al 3<|.cl 12 (B9 n a1.aI a2) S7 SO λx6=>.cl 17 (QU a1 x6.1) aNR aG1 λx7=>.ret ((x7:aS),x6.2)
def IM (n:Nat) (a1:aS) (a2:aF):Option (aS×Int):=(aCF n a1 a2).run
theorem aNP {n a1 a2 r} (h0:IM n a1 a2=some r):PP Tryz.prog 228 [.agg (aS.av a1),.agg (aF.av a2)] (λy=>y=.bD [.agg (aS.av r.1),int r.2]) :=
 bY mixed aA (λr:aS×Int=>.bD [.agg (aS.av r.1),int r.2]) h0 Tryz.func228 (λr=>.bD (gK ((λ(a:aS)=>PV.agg (aS.dR a)) (r.1)) (bQ (r.2)))) 100000 au
def D5 (n:Nat) (a1:Int) (a2:Int) (a3:aS) (a4:aF):Option (aS×Int×Int) :=
(show Option ((Unit)⊕(Unit)⊕(Unit)⊕(Unit)⊕(Unit)) from
bnd (decide (a1=1)) λx9 =>
cond x9 (some (.inr (.inr (.inr (.inr ()))))) (bnd (decide (a1=2)) λx10 =>
cond x10 (some (.inr (.inr (.inr (.inl ()))))) (bnd (decide (a1=3)) λx11 =>
cond x11 (some (.inr (.inr (.inl ())))) (bnd (decide (a1=4)) λx12 =>
cond x12 (some (.inr (.inl ()))) (some (.inl ())))))).bind <| qG (λ_ =>
(yC a3).bind λx13 =>
some ((x13:aS),(0:Int),(12:Int))) <| qG (λ_ =>
(show Option ((aS×Int×Int)) from
(MR n a3.aI a4 a2).bind λx19 =>
(GB a3 x19.1).bind λx20 =>
some ((x20:aS),(x19.2.1:Int),(x19.2.2:Int))).bind <| p2 λ(y6_1:aS) (q0:Int×Int)=>(p2 λ(y6_2:Int) (y6_3:Int) =>
bnd (decide (y6_3≠0)) λx22 =>
cond x22 ((yC a3).bind λx23 =>
some ((x23:aS),(0:Int),(y6_3:Int))) (some ((y6_1:aS),(y6_2:Int),(0:Int)))) q0) <| qG (λ_ =>
(show Option ((aS×Int)) from
(IM n a3 a4).bind λx29 =>
some ((x29.1:aS),(x29.2:Int))).bind <| p2 λ(y8_1:aS) (y8_2:Int) =>
bnd (decide (y8_2≠0)) λx31 =>
cond x31 ((yC a3).bind λx32 =>
some ((x32:aS),(0:Int),(y8_2:Int))) (some ((y8_1:aS),(0:Int),(0:Int)))) <| qG (λ_ =>
(show Option ((aS×Int)) from
(B9 n a3.aI a4).bind λx38 =>
(GB a3 x38.1).bind λx39 =>
some ((x39:aS),(x38.2:Int))).bind <| p2 λ(y10_1:aS) (y10_2:Int) =>
bnd (decide (y10_2≠0)) λx41 =>
cond x41 ((yC a3).bind λx42 =>
some ((x42:aS),(0:Int),(y10_2:Int))) (some ((y10_1:aS),(0:Int),(0:Int)))) <| λ_ =>
(show Option ((aS×Int)) from
(GC n a3.aI a4).bind λx48 =>
(GB a3 x48.1).bind λx49 =>
some ((x49:aS),(x48.2:Int))).bind <| p2 λ(y12_1:aS) (y12_2:Int) =>
bnd (decide (y12_2≠0)) λx51 =>
cond x51 ((yC a3).bind λx52 =>
some ((x52:aS),(0:Int),(y12_2:Int))) (some ((y12_1:aS),(0:Int),(0:Int)))
theorem aHW {n:Nat} {a1:Int} {a2:Int} {a3:aS} {a4:aF} {r:aS×Int×Int} (h0:D5 n a1 a2 a3 a4=some r):PP Tryz.prog 65 [int a1,int a2,.agg (aS.av a3),.agg (aF.av a4)] (λy=>y=.bD [.agg (aS.av r.1),int r.2.1,int r.2.2]):=by
  unfold D5 at h0
  refine oN (R0:=λy H=>Cv (lH H) y (.bD [.agg (aS.av r.1),int r.2.1,int r.2.2])) ?_ (λy H hc=>⟨_,rfl,.bD (qN ((λ(a:aS)=>PV.agg (aS.dR a)) (r.1)) (bQ (r.2.1)) (bQ (r.2.2))),hc⟩)
  refine lN (c:=_) Tryz.func65 rfl rfl ?_;intro Q hret hnorm
  refine tc aA 2 (.mk ?_)
  refine sB 1 λv5=>?_
  refine sB 2 λv6=>?_
  refine sA 3 qE λv7=>?_
  refine tr aA 7 (.mk ?_)
  obtain ⟨j8,h1,h0⟩:=fE h0
  refine oJ (Out:=λy H'=>(∃ (a:Unit) (k:Unit),(.inl a)=j8/\y=.sc .nilIface/\H'=hk [(1,⟨99,4,true,true,v5,[[aH 3 aF.av a3.aI,int a3.bC.a0,int a3.bC.a1,int a3.bC.a2]]⟩),(2,⟨69,3,true,true,v6,[[int a4.aT,int a4.Value,int a4.bO]]⟩),(3,⟨99,4,true,true,v7,[[.sc (.slice none 0 0),int 0,int 0,int 0]]⟩)])\/(∃ (a:Unit) (k:Unit),(.inr (.inl a))=j8/\y=.kN 191 (.agg [int a2])/\H'=hk [(1,⟨99,4,true,true,v5,[[aH 3 aF.av a3.aI,int a3.bC.a0,int a3.bC.a1,int a3.bC.a2]]⟩),(2,⟨69,3,true,true,v6,[[int a4.aT,int a4.Value,int a4.bO]]⟩),(3,⟨99,4,true,true,v7,[[.sc (.slice none 0 0),int 0,int 0,int 0]]⟩)])\/(∃ (a:Unit) (k:Unit),(.inr (.inr (.inl a)))=j8/\y=.kN 189 (.agg [])/\H'=hk [(1,⟨99,4,true,true,v5,[[aH 3 aF.av a3.aI,int a3.bC.a0,int a3.bC.a1,int a3.bC.a2]]⟩),(2,⟨69,3,true,true,v6,[[int a4.aT,int a4.Value,int a4.bO]]⟩),(3,⟨99,4,true,true,v7,[[.sc (.slice none 0 0),int 0,int 0,int 0]]⟩)])\/(∃ (a:Unit) (k:Unit),(.inr (.inr (.inr (.inl a))))=j8/\y=.kN 188 (.agg [])/\H'=hk [(1,⟨99,4,true,true,v5,[[aH 3 aF.av a3.aI,int a3.bC.a0,int a3.bC.a1,int a3.bC.a2]]⟩),(2,⟨69,3,true,true,v6,[[int a4.aT,int a4.Value,int a4.bO]]⟩),(3,⟨99,4,true,true,v7,[[.sc (.slice none 0 0),int 0,int 0,int 0]]⟩)])\/(∃ (a:Unit) (k:Unit),(.inr (.inr (.inr (.inr a))))=j8/\y=.kN 187 (.agg [])/\H'=hk [(1,⟨99,4,true,true,v5,[[aH 3 aF.av a3.aI,int a3.bC.a0,int a3.bC.a1,int a3.bC.a2]]⟩),(2,⟨69,3,true,true,v6,[[int a4.aT,int a4.Value,int a4.bO]]⟩),(3,⟨99,4,true,true,v7,[[.sc (.slice none 0 0),int 0,int 0,int 0]]⟩)])) rfl rfl rfl (nC rfl rfl (.cons rfl (.cons rfl .nil)) aFW ?_) ?_
  refine lN (c:=_) Tryz.func107 rfl rfl ?_;intro Q hret hnorm
  refine tc aA 12 (.mk ?_)
  refine nb aA h1 λx9 h1=>?_
  refine tr aA 2 (.mk ?_)
  cases x9
  replace h1:=cf h1
  refine tc aA 3 (.mk ?_)
  refine nb aA h1 λx10 h1=>?_
  refine tr aA 2 (.mk ?_)
  cases x10
  replace h1:=cf h1
  refine tc aA 3 (.mk ?_)
  refine nb aA h1 λx11 h1=>?_
  refine tr aA 2 (.mk ?_)
  cases x11
  replace h1:=cf h1
  refine tc aA 3 (.mk ?_)
  refine nb aA h1 λx12 h1=>?_
  refine tr aA 2 (.mk ?_)
  cases x12
  replace h1:=cf h1
  refine tc aA 7 (.mk ?_)
  obtain rfl:=fV h1
  refine o7 (hret _ _ (hk [(1,⟨99,4,true,true,v5,[[aH 3 aF.av a3.aI,int a3.bC.a0,int a3.bC.a1,int a3.bC.a2]]⟩),(2,⟨69,3,true,true,v6,[[int a4.aT,int a4.Value,int a4.bO]]⟩),(3,⟨99,4,true,true,v7,[[.sc (.slice none 0 0),int 0,int 0,int 0]]⟩)]) (.tmp rfl .nil) (HK.le ⟨rfl,rfl,rfl,trivial⟩) ?_)
  exact (.inl ⟨(),(),rfl,rfl,rfl⟩)
  replace h1:=ct h1
  refine tc aA 5 (.mk ?_)
  refine sY (M3 rfl Tryz.underlying191 (by intro _ h;cases h) rfl) ?_
  refine tr aA 2 (.mk ?_)
  obtain rfl:=fV h1
  refine o7 (hret _ _ (hk [(1,⟨99,4,true,true,v5,[[aH 3 aF.av a3.aI,int a3.bC.a0,int a3.bC.a1,int a3.bC.a2]]⟩),(2,⟨69,3,true,true,v6,[[int a4.aT,int a4.Value,int a4.bO]]⟩),(3,⟨99,4,true,true,v7,[[.sc (.slice none 0 0),int 0,int 0,int 0]]⟩)]) (.tmp rfl .nil) (HK.le ⟨rfl,rfl,rfl,trivial⟩) ?_)
  exact (.inr (.inl ⟨(),(),rfl,rfl,rfl⟩))
  replace h1:=ct h1
  refine tc aA 4 (.mk ?_)
  refine sY (M3 rfl Tryz.underlying189 (by intro _ h;cases h) rfl) ?_
  refine tr aA 2 (.mk ?_)
  obtain rfl:=fV h1
  refine o7 (hret _ _ (hk [(1,⟨99,4,true,true,v5,[[aH 3 aF.av a3.aI,int a3.bC.a0,int a3.bC.a1,int a3.bC.a2]]⟩),(2,⟨69,3,true,true,v6,[[int a4.aT,int a4.Value,int a4.bO]]⟩),(3,⟨99,4,true,true,v7,[[.sc (.slice none 0 0),int 0,int 0,int 0]]⟩)]) (.tmp rfl .nil) (HK.le ⟨rfl,rfl,rfl,trivial⟩) ?_)
  exact (.inr (.inr (.inl ⟨(),(),rfl,rfl,rfl⟩)))
  replace h1:=ct h1
  refine tc aA 4 (.mk ?_)
  refine sY (M3 rfl Tryz.underlying188 (by intro _ h;cases h) rfl) ?_
  refine tr aA 2 (.mk ?_)
  obtain rfl:=fV h1
  refine o7 (hret _ _ (hk [(1,⟨99,4,true,true,v5,[[aH 3 aF.av a3.aI,int a3.bC.a0,int a3.bC.a1,int a3.bC.a2]]⟩),(2,⟨69,3,true,true,v6,[[int a4.aT,int a4.Value,int a4.bO]]⟩),(3,⟨99,4,true,true,v7,[[.sc (.slice none 0 0),int 0,int 0,int 0]]⟩)]) (.tmp rfl .nil) (HK.le ⟨rfl,rfl,rfl,trivial⟩) ?_)
  exact (.inr (.inr (.inr (.inl ⟨(),(),rfl,rfl,rfl⟩))))
  replace h1:=ct h1
  refine tc aA 4 (.mk ?_)
  refine sY (M3 rfl Tryz.underlying187 (by intro _ h;cases h) rfl) ?_
  refine tr aA 2 (.mk ?_)
  obtain rfl:=fV h1
  refine o7 (hret _ _ (hk [(1,⟨99,4,true,true,v5,[[aH 3 aF.av a3.aI,int a3.bC.a0,int a3.bC.a1,int a3.bC.a2]]⟩),(2,⟨69,3,true,true,v6,[[int a4.aT,int a4.Value,int a4.bO]]⟩),(3,⟨99,4,true,true,v7,[[.sc (.slice none 0 0),int 0,int 0,int 0]]⟩)]) (.tmp rfl .nil) (HK.le ⟨rfl,rfl,rfl,trivial⟩) ?_)
  exact (.inr (.inr (.inr (.inr ⟨(),(),rfl,rfl,rfl⟩))))
  rintro y _ (⟨_,_,rfl,hc,rfl⟩ | ⟨_,_,rfl,hc,rfl⟩ | ⟨_,_,rfl,hc,rfl⟩ | ⟨_,_,rfl,hc,rfl⟩ | ⟨_,_,rfl,hc,rfl⟩)
  replace h0:=F4 h0
  subst hc
  refine tr aA 6 (.mk ?_)
  refine sY (aJY rfl Tryz.underlying146 rfl rfl) ?_
  refine tr aA 5 (.mk ?_)
  obtain ⟨x13,e13,h0⟩:=fE h0
  refine sC E5 (D9 e13) ?_
  refine sS ⟨99,4,true,true,v7,[[aH 3 aF.av x13.aI,int x13.bC.a0,int x13.bC.a1,int x13.bC.a2]]⟩ gL ?_
  refine tr aA 3 (.mk ?_)
  obtain rfl:=fV h0
  refine wR hret (rC gL (rT (rT .nil))) ?_
  exact .refl _
  replace h0:=uF h0
  replace h0:=F4 h0
  subst hc
  refine tr aA 6 (.mk ?_)
  refine sY (I7 rfl Tryz.underlying146 rfl rfl) ?_
  refine tr aA 8 (.mk ?_)
  obtain ⟨j14,h1,h0⟩:=fE h0
  refine oJ (Out:=λy H'=>(∃ (a:aS×Int×Int) (k:Unit),a=j14/\y=.bD [.agg [aH 3 aF.av a.1.aI,int a.1.bC.a0,int a.1.bC.a1,int a.1.bC.a2],int a.2.1,int a.2.2]/\H'=hk [(1,⟨99,4,true,true,v5,[[aH 3 aF.av a3.aI,int a3.bC.a0,int a3.bC.a1,int a3.bC.a2]]⟩),(2,⟨69,3,true,true,v6,[[int a4.aT,int a4.Value,int a4.bO]]⟩),(3,⟨99,4,true,true,v7,[[.sc (.slice none 0 0),int 0,int 0,int 0]]⟩)])) rfl rfl rfl (I5 rfl rfl aMF (.cons rfl (.cons rfl .nil)) aRU ?_) ?_
  refine lN (c:=_) Tryz.func230 rfl rfl ?_;intro Q hret hnorm
  refine tc aA 2 (.mk ?_)
  refine sB 9 λv15=>?_
  refine sB 10 λv16=>?_
  refine sB 11 λv17=>?_
  refine sA 12 qE λv18=>?_
  refine tr aA 10 (.mk ?_)
  obtain ⟨x19,e19,h1⟩:=fE h1
  refine sC aHK (aR7 e19) ?_
  refine tr aA 12 (.mk ?_)
  obtain ⟨x20,e20,h1⟩:=fE h1
  refine sC I6 (PM e20) ?_
  refine tr aA 2 (.mk ?_)
  refine sS ⟨99,4,true,true,v18,[[aH 3 aF.av x20.aI,int x20.bC.a0,int x20.bC.a1,int x20.bC.a2]]⟩ gL ?_
  refine tr aA 3 (.mk ?_)
  obtain rfl:=fV h1
  refine o7 (hret _ _ (hk [(1,⟨99,4,true,true,v5,[[aH 3 aF.av a3.aI,int a3.bC.a0,int a3.bC.a1,int a3.bC.a2]]⟩),(2,⟨69,3,true,true,v6,[[int a4.aT,int a4.Value,int a4.bO]]⟩),(3,⟨99,4,true,true,v7,[[.sc (.slice none 0 0),int 0,int 0,int 0]]⟩)]) (.cell rfl (.pt rfl rfl rfl) gL rfl (.tmp rfl (.tmp rfl .nil))) (HK.le ⟨rfl,rfl,rfl,trivial⟩) ?_)
  exact ⟨(x20,x19.2.1,x19.2.2),(),rfl,rfl,rfl⟩
  rintro y _ ⟨⟨y6_1,y6_2,y6_3⟩,_,rfl,hc,rfl⟩
  replace h0:=mZ h0
  replace h0:=mZ h0
  subst hc
  refine tr aA 4 (.mk ?_)
  refine sA 8 qE λv21=>?_
  refine sS ⟨99,4,true,true,v21,[[aH 3 aF.av y6_1.aI,int y6_1.bC.a0,int y6_1.bC.a1,int y6_1.bC.a2]]⟩ gL ?_
  refine tr aA 7 (.mk ?_)
  refine nb aA h0 λx22 h0=>?_
  refine tr aA 1 (.mk ?_)
  cases x22
  replace h0:=cf h0
  refine tc aA 6 (.mk ?_)
  refine sS ⟨99,4,true,true,v7,[[aH 3 aF.av y6_1.aI,int y6_1.bC.a0,int y6_1.bC.a1,int y6_1.bC.a2]]⟩ gL ?_
  refine tr aA 3 (.mk ?_)
  obtain rfl:=fV h0
  refine wR hret (rC gL (rT (rT .nil))) ?_
  exact .refl _
  replace h0:=ct h0
  refine tc aA 4 (.mk ?_)
  obtain ⟨x23,e23,h0⟩:=fE h0
  refine sC E5 (D9 e23) ?_
  refine tr aA 1 (.mk ?_)
  refine sS ⟨99,4,true,true,v7,[[aH 3 aF.av x23.aI,int x23.bC.a0,int x23.bC.a1,int x23.bC.a2]]⟩ gL ?_
  refine tr aA 3 (.mk ?_)
  obtain rfl:=fV h0
  refine wR hret (rC gL (rT (rT .nil))) ?_
  exact .refl _
  replace h0:=uF h0
  replace h0:=uF h0
  replace h0:=F4 h0
  subst hc
  refine tr aA 6 (.mk ?_)
  refine sY (I7 rfl Tryz.underlying146 rfl rfl) ?_
  refine tr aA 8 (.mk ?_)
  obtain ⟨j24,h1,h0⟩:=fE h0
  refine oJ (Out:=λy H'=>(∃ (a:aS×Int) (k:Unit),a=j24/\y=.bD [.agg [aH 3 aF.av a.1.aI,int a.1.bC.a0,int a.1.bC.a1,int a.1.bC.a2],int 0,int a.2]/\H'=hk [(1,⟨99,4,true,true,v5,[[aH 3 aF.av a3.aI,int a3.bC.a0,int a3.bC.a1,int a3.bC.a2]]⟩),(2,⟨69,3,true,true,v6,[[int a4.aT,int a4.Value,int a4.bO]]⟩),(3,⟨99,4,true,true,v7,[[.sc (.slice none 0 0),int 0,int 0,int 0]]⟩)])) rfl rfl rfl (I5 rfl rfl aK0 (.cons rfl (.cons rfl .nil)) aFI ?_) ?_
  refine lN (c:=_) Tryz.func226 rfl rfl ?_;intro Q hret hnorm
  refine tc aA 2 (.mk ?_)
  refine sB 17 λv25=>?_
  refine sB 18 λv26=>?_
  refine sB 19 λv27=>?_
  refine sA 20 qE λv28=>?_
  refine tr aA 7 (.mk ?_)
  obtain ⟨x29,e29,h1⟩:=fE h1
  refine sC aRM (aNP e29) ?_
  refine tr aA 3 (.mk ?_)
  refine sS ⟨99,4,true,true,v26,[[aH 3 aF.av x29.1.aI,int x29.1.bC.a0,int x29.1.bC.a1,int x29.1.bC.a2]]⟩ gL ?_
  refine tr aA 6 (.mk ?_)
  refine sS ⟨99,4,true,true,v28,[[aH 3 aF.av x29.1.aI,int x29.1.bC.a0,int x29.1.bC.a1,int x29.1.bC.a2]]⟩ gL ?_
  refine tr aA 3 (.mk ?_)
  obtain rfl:=fV h1
  refine o7 (hret _ _ (hk [(1,⟨99,4,true,true,v5,[[aH 3 aF.av a3.aI,int a3.bC.a0,int a3.bC.a1,int a3.bC.a2]]⟩),(2,⟨69,3,true,true,v6,[[int a4.aT,int a4.Value,int a4.bO]]⟩),(3,⟨99,4,true,true,v7,[[.sc (.slice none 0 0),int 0,int 0,int 0]]⟩)]) (.cell rfl (.pt rfl rfl rfl) gL rfl (.tmp rfl (.tmp rfl .nil))) (HK.le ⟨rfl,rfl,rfl,trivial⟩) ?_)
  exact ⟨(x29.1,x29.2),(),rfl,rfl,rfl⟩
  rintro y _ ⟨⟨y8_1,y8_2⟩,_,rfl,hc,rfl⟩
  replace h0:=mZ h0
  subst hc
  refine tr aA 4 (.mk ?_)
  refine sA 8 qE λv30=>?_
  refine sS ⟨99,4,true,true,v30,[[aH 3 aF.av y8_1.aI,int y8_1.bC.a0,int y8_1.bC.a1,int y8_1.bC.a2]]⟩ gL ?_
  refine tr aA 7 (.mk ?_)
  refine nb aA h0 λx31 h0=>?_
  refine tr aA 1 (.mk ?_)
  cases x31
  replace h0:=cf h0
  refine tc aA 6 (.mk ?_)
  refine sS ⟨99,4,true,true,v7,[[aH 3 aF.av y8_1.aI,int y8_1.bC.a0,int y8_1.bC.a1,int y8_1.bC.a2]]⟩ gL ?_
  refine tr aA 3 (.mk ?_)
  obtain rfl:=fV h0
  refine wR hret (rC gL (rT (rT .nil))) ?_
  exact .refl _
  replace h0:=ct h0
  refine tc aA 4 (.mk ?_)
  obtain ⟨x32,e32,h0⟩:=fE h0
  refine sC E5 (D9 e32) ?_
  refine tr aA 1 (.mk ?_)
  refine sS ⟨99,4,true,true,v7,[[aH 3 aF.av x32.aI,int x32.bC.a0,int x32.bC.a1,int x32.bC.a2]]⟩ gL ?_
  refine tr aA 3 (.mk ?_)
  obtain rfl:=fV h0
  refine wR hret (rC gL (rT (rT .nil))) ?_
  exact .refl _
  replace h0:=uF h0
  replace h0:=uF h0
  replace h0:=uF h0
  replace h0:=F4 h0
  subst hc
  refine tr aA 6 (.mk ?_)
  refine sY (I7 rfl Tryz.underlying146 rfl rfl) ?_
  refine tr aA 8 (.mk ?_)
  obtain ⟨j33,h1,h0⟩:=fE h0
  refine oJ (Out:=λy H'=>(∃ (a:aS×Int) (k:Unit),a=j33/\y=.bD [.agg [aH 3 aF.av a.1.aI,int a.1.bC.a0,int a.1.bC.a1,int a.1.bC.a2],int 0,int a.2]/\H'=hk [(1,⟨99,4,true,true,v5,[[aH 3 aF.av a3.aI,int a3.bC.a0,int a3.bC.a1,int a3.bC.a2]]⟩),(2,⟨69,3,true,true,v6,[[int a4.aT,int a4.Value,int a4.bO]]⟩),(3,⟨99,4,true,true,v7,[[.sc (.slice none 0 0),int 0,int 0,int 0]]⟩)])) rfl rfl rfl (I5 rfl rfl aIF (.cons rfl (.cons rfl .nil)) aTV ?_) ?_
  refine lN (c:=_) Tryz.func214 rfl rfl ?_;intro Q hret hnorm
  refine tc aA 2 (.mk ?_)
  refine sB 25 λv34=>?_
  refine sB 26 λv35=>?_
  refine sB 27 λv36=>?_
  refine sA 28 qE λv37=>?_
  refine tr aA 8 (.mk ?_)
  obtain ⟨x38,e38,h1⟩:=fE h1
  refine sC S7 (SO e38) ?_
  refine tr aA 10 (.mk ?_)
  obtain ⟨x39,e39,h1⟩:=fE h1
  refine sC I6 (PM e39) ?_
  refine tr aA 1 (.mk ?_)
  refine sS ⟨99,4,true,true,v37,[[aH 3 aF.av x39.aI,int x39.bC.a0,int x39.bC.a1,int x39.bC.a2]]⟩ gL ?_
  refine tr aA 3 (.mk ?_)
  obtain rfl:=fV h1
  refine o7 (hret _ _ (hk [(1,⟨99,4,true,true,v5,[[aH 3 aF.av a3.aI,int a3.bC.a0,int a3.bC.a1,int a3.bC.a2]]⟩),(2,⟨69,3,true,true,v6,[[int a4.aT,int a4.Value,int a4.bO]]⟩),(3,⟨99,4,true,true,v7,[[.sc (.slice none 0 0),int 0,int 0,int 0]]⟩)]) (.cell rfl (.pt rfl rfl rfl) gL rfl (.tmp rfl (.tmp rfl .nil))) (HK.le ⟨rfl,rfl,rfl,trivial⟩) ?_)
  exact ⟨(x39,x38.2),(),rfl,rfl,rfl⟩
  rintro y _ ⟨⟨y10_1,y10_2⟩,_,rfl,hc,rfl⟩
  replace h0:=mZ h0
  subst hc
  refine tr aA 4 (.mk ?_)
  refine sA 8 qE λv40=>?_
  refine sS ⟨99,4,true,true,v40,[[aH 3 aF.av y10_1.aI,int y10_1.bC.a0,int y10_1.bC.a1,int y10_1.bC.a2]]⟩ gL ?_
  refine tr aA 7 (.mk ?_)
  refine nb aA h0 λx41 h0=>?_
  refine tr aA 1 (.mk ?_)
  cases x41
  replace h0:=cf h0
  refine tc aA 6 (.mk ?_)
  refine sS ⟨99,4,true,true,v7,[[aH 3 aF.av y10_1.aI,int y10_1.bC.a0,int y10_1.bC.a1,int y10_1.bC.a2]]⟩ gL ?_
  refine tr aA 3 (.mk ?_)
  obtain rfl:=fV h0
  refine wR hret (rC gL (rT (rT .nil))) ?_
  exact .refl _
  replace h0:=ct h0
  refine tc aA 4 (.mk ?_)
  obtain ⟨x42,e42,h0⟩:=fE h0
  refine sC E5 (D9 e42) ?_
  refine tr aA 1 (.mk ?_)
  refine sS ⟨99,4,true,true,v7,[[aH 3 aF.av x42.aI,int x42.bC.a0,int x42.bC.a1,int x42.bC.a2]]⟩ gL ?_
  refine tr aA 3 (.mk ?_)
  obtain rfl:=fV h0
  refine wR hret (rC gL (rT (rT .nil))) ?_
  exact .refl _
  replace h0:=uF h0
  replace h0:=uF h0
  replace h0:=uF h0
  replace h0:=uF h0
  subst hc
  refine tr aA 6 (.mk ?_)
  refine sY (I7 rfl Tryz.underlying146 rfl rfl) ?_
  refine tr aA 8 (.mk ?_)
  obtain ⟨j43,h1,h0⟩:=fE h0
  refine oJ (Out:=λy H'=>(∃ (a:aS×Int) (k:Unit),a=j43/\y=.bD [.agg [aH 3 aF.av a.1.aI,int a.1.bC.a0,int a.1.bC.a1,int a.1.bC.a2],int 0,int a.2]/\H'=hk [(1,⟨99,4,true,true,v5,[[aH 3 aF.av a3.aI,int a3.bC.a0,int a3.bC.a1,int a3.bC.a2]]⟩),(2,⟨69,3,true,true,v6,[[int a4.aT,int a4.Value,int a4.bO]]⟩),(3,⟨99,4,true,true,v7,[[.sc (.slice none 0 0),int 0,int 0,int 0]]⟩)])) rfl rfl rfl (I5 rfl rfl aIN (.cons rfl (.cons rfl .nil)) aK8 ?_) ?_
  refine lN (c:=_) Tryz.func206 rfl rfl ?_;intro Q hret hnorm
  refine tc aA 2 (.mk ?_)
  refine sB 33 λv44=>?_
  refine sB 34 λv45=>?_
  refine sB 35 λv46=>?_
  refine sA 36 qE λv47=>?_
  refine tr aA 8 (.mk ?_)
  obtain ⟨x48,e48,h1⟩:=fE h1
  refine sC YC (Y2 e48) ?_
  refine tr aA 10 (.mk ?_)
  obtain ⟨x49,e49,h1⟩:=fE h1
  refine sC I6 (PM e49) ?_
  refine tr aA 1 (.mk ?_)
  refine sS ⟨99,4,true,true,v47,[[aH 3 aF.av x49.aI,int x49.bC.a0,int x49.bC.a1,int x49.bC.a2]]⟩ gL ?_
  refine tr aA 3 (.mk ?_)
  obtain rfl:=fV h1
  refine o7 (hret _ _ (hk [(1,⟨99,4,true,true,v5,[[aH 3 aF.av a3.aI,int a3.bC.a0,int a3.bC.a1,int a3.bC.a2]]⟩),(2,⟨69,3,true,true,v6,[[int a4.aT,int a4.Value,int a4.bO]]⟩),(3,⟨99,4,true,true,v7,[[.sc (.slice none 0 0),int 0,int 0,int 0]]⟩)]) (.cell rfl (.pt rfl rfl rfl) gL rfl (.tmp rfl (.tmp rfl .nil))) (HK.le ⟨rfl,rfl,rfl,trivial⟩) ?_)
  exact ⟨(x49,x48.2),(),rfl,rfl,rfl⟩
  rintro y _ ⟨⟨y12_1,y12_2⟩,_,rfl,hc,rfl⟩
  replace h0:=mZ h0
  subst hc
  refine tr aA 4 (.mk ?_)
  refine sA 8 qE λv50=>?_
  refine sS ⟨99,4,true,true,v50,[[aH 3 aF.av y12_1.aI,int y12_1.bC.a0,int y12_1.bC.a1,int y12_1.bC.a2]]⟩ gL ?_
  refine tr aA 7 (.mk ?_)
  refine nb aA h0 λx51 h0=>?_
  refine tr aA 1 (.mk ?_)
  cases x51
  replace h0:=cf h0
  refine tc aA 6 (.mk ?_)
  refine sS ⟨99,4,true,true,v7,[[aH 3 aF.av y12_1.aI,int y12_1.bC.a0,int y12_1.bC.a1,int y12_1.bC.a2]]⟩ gL ?_
  refine tr aA 3 (.mk ?_)
  obtain rfl:=fV h0
  refine wR hret (rC gL (rT (rT .nil))) ?_
  exact .refl _
  replace h0:=ct h0
  refine tc aA 4 (.mk ?_)
  obtain ⟨x52,e52,h0⟩:=fE h0
  refine sC E5 (D9 e52) ?_
  refine tr aA 1 (.mk ?_)
  refine sS ⟨99,4,true,true,v7,[[aH 3 aF.av x52.aI,int x52.bC.a0,int x52.bC.a1,int x52.bC.a2]]⟩ gL ?_
  refine tr aA 3 (.mk ?_)
  obtain rfl:=fV h0
  refine wR hret (rC gL (rT (rT .nil))) ?_
  exact .refl _
def aAC (a1:aB) (a2:Int) (a3:Int) (a4:Int):WT Tryz.prog (.b (aS)) :=
 .al 1<|.al 2<|.cl 15 (E4 a1 a2 a3 a4) YD YE λx7=>.bB 17 (decide (x7<0)) λx8=>.ifs [17] x8 (.ret (((⟨[],(⟨0,0,0⟩:l9)⟩:aS):aS))) (.jC 22 aP.av gE aP.fB a1.bA a2 λx9=>.ix 26 aS.av x9.bR x7 λx10=>.al 3<|.as (x10.aI.length<=68719476736) inferInstance<|.ge 30 4<|.ret ((x10:aS)))
def FL (a1:aB) (a2:Int) (a3:Int) (a4:Int):Option (aS):=(aAC a1 a2 a3 a4).run
theorem WZ {a1:aB} {a2:Int} {a3:Int} {a4:Int} {r:aS} (h0:FL a1 a2 a3 a4=some r):PP Tryz.prog 111 [.agg (aB.av a1),int a2,int a3,int a4] (λy=>y=.agg (aS.av r)):=by
 refine bY mixed aA (λ(r:aS)=>.agg (aS.av r)) h0 Tryz.func111 (λr=>(λ(a:aS)=>PV.agg (aS.dR a)) r) 100000 ?_
 intro v5
 intro v6
 refine .mk λx7 e7=>?_
 refine .mk λx8=>?_
 refine .mk ?_ ?_
 exact .mk (dG.agg (.cons (.nil _) (.cons (.refl _) (.cons (.refl _) (.cons (.refl _) .nil)))))
 refine .mk λx9 e9=>?_
 refine .mk λx10 e10=>?_
 intro v11
 refine .mk λwN=>?_
 refine .mk _ ⟨λ_=>nC rfl rfl (.cons rfl .nil) E7 (qB (GD (id:=4) (l:=x10.aI) rfl wN) (.cons (.refl _) .nil)),λ_ _ _=>trivial⟩ ?_
 rintro _ _ ⟨v13,rfl,rfl⟩
 exact .mk (dG.agg (.cons (gY rfl rfl rfl rfl rfl (Eq.symm rfl)) (.cons (.refl _) (.cons (.refl _) (.cons (.refl _) .nil)))))
def aB1 (n:Nat) (a1:aB) (a2:Int) (a3:Int):WT Tryz.prog (.b (aF×Bool)) :=
 .al 1<|.al 2<|.jn 2 [6,7] [2] [7,8,9] (λu2 (a:(List Int)×(List Int)×(List Int))=>[(8,.sl 7 (u2 7) 0 a.1.length),(9,.sl 8 (u2 8) 0 a.2.1.length),(10,.sl 9 (u2 9) 0 a.2.2.length)]) (λ_ a=>[.nw 7 3 1 (a.1.map fI),.nw 8 3 1 (a.2.1.map fI),.nw 9 3 1 (a.2.2.map fI)]) (.no 8 7 3 1<|.no 9 8 3 1<|.no 10 9 3 1<|.lp [1,2,3,6,7] [1,2] [7,8,9] (λu3 (a:Int×(List Int)×(List Int)×(List Int))=>[(8,.sl 7 (u3 7) 0 a.2.1.length),(9,.sl 8 (u3 8) 0 a.2.2.1.length),(10,.sl 9 (u3 9) 0 a.2.2.2.length),(20,int a.1)]) (λ_ a=>[.nw 7 3 1 (a.2.1.map fI),.nw 8 3 1 (a.2.2.1.map fI),.nw 9 3 1 (a.2.2.2.map fI)]) n ((0:Int),(([]:List Int):List Int),(([]:List Int):List Int),(([]:List Int):List Int)) (pw λy0_4 q0=>(pw λy0_5 q1=>(pw λy0_6 y0_7=>.bB 21 (decide (y0_4<2)) λx9=>.ifs [21] x9 (.cl 28 (FL a1 a2 a3 y0_4) VD WZ λx10=>.cl 30 (AJ n x10.aI) QN NY λx11=>.al 3<|.dr [(1,[3]),(2,[3]),(6,[3]),(7,[3]),(11,[3]),(12,[3])] [(14,[])] [3] [4,9,14] [0,1,2,3,5,6,7,8,10,11,12,13,4,9,14,15,16,17] (.to 36 (aH 1 fI ([x11.1.aT]:List Int))<|.to 41 (aH 1 fI ([x11.1.Value]:List Int))<|.to 46 (aH 1 fI ([x11.1.bO]:List Int))<|.bl (y0_5++([x11.1.aT]:List Int):List Int) λx13=>.as (x13.length<=68719476736) inferInstance<|.ge 37 0<|.bl (y0_6++([x11.1.Value]:List Int):List Int) λx16=>.as (x16.length<=68719476736) inferInstance<|.ge 42 0<|.bl (y0_7++([x11.1.bO]:List Int):List Int) λx19=>.as (x19.length<=68719476736) inferInstance<|.ge 47 0<|.bI 48 (bE (y0_4+1)) λx22=>.brk ((x22:Int),x13,x16,x19))) (.esc (.ret ((y0_5:List Int),y0_6,y0_7)))) q1) q0)) (pw λy1_4 q0=>(pw λy1_5 y1_6=>.kZ 51 (qP n y1_4) wF wG (λ_=>rfl) λx23=>.kZ 56 (qP n y1_5) wF wG (λ_=>rfl) λx24=>.kZ 61 (qP n y1_6) wF wG (λ_=>rfl) λx25=>.bl (if x25.2>(if x24.2>x23.2 then x24.2 else x23.2) then x25.2 else (if x24.2>x23.2 then x24.2 else x23.2):Int) λx26=>.gv 71<|.bB 72 (decide (x26=0)) λx27=>.ret (((⟨x23.1,x24.1,x25.1⟩:aF):aF),x27)) q0)
def IF (n:Nat) (a1:aB) (a2:Int) (a3:Int):Option (aF×Bool):=(aB1 n a1 a2 a3).run
theorem aTO {n a1 a2 a3 r} (h0:IF n a1 a2 a3=some r):PP Tryz.prog 67 [.agg (aB.av a1),int a2,int a3] (λy=>y=.bD [.agg (aF.av r.1),aZ r.2]) :=
 bY mixed aA (λr:aF×Bool=>.bD [.agg (aF.av r.1),aZ r.2]) h0 Tryz.func67 (λr=>.bD (gK ((λ(a:aF)=>PV.agg (aF.dR a)) (r.1)) (gT (r.2)))) 100000 au
def aBE (n:Nat) (a1:aB) (a2:Int) (a3:Int):WT Tryz.prog (.b (Bool)) :=
 .al 1<|.jn 2 [6] [] [4] (λu14 (a:(List Int))=>[(7,.sl 4 (u14 4) 0 a.length)]) (λ_ a=>[.nw 4 3 1 (a.map fI)]) (.no 7 4 3 1<|.lp [1,2,3,6] [1] [4] (λu18 (a:Int×(List Int))=>[(7,.sl 4 (u18 4) 0 a.2.length),(13,int a.1)]) (λ_ a=>[.nw 4 3 1 (a.2.map fI)]) n ((0:Int),(([]:List Int):List Int)) (pw λy0_2 y0_3=>.bB 14 (decide (y0_2<2)) λx6=>.ifs [14] x6 (.jn 1 [1,2,3,6,13] [1] [4] (λu21 (a:(List Int))=>[(7,.sl 4 (u21 4) 0 a.length)]) (λ_ a=>[.nw 4 3 1 (a.map fI)]) (.cl 20 (FL a1 a2 a3 y0_2) VD WZ λx7=>.ln 22 aF.av x7.aI<|.jn 0 [1,2,3,6,13] [1] [4] (λu23 (a:(List Int))=>[(7,.sl 4 (u23 4) 0 a.length)]) (λ_ a=>[.nw 4 3 1 (a.map fI)]) (.lp [1,2,3,6,13,21,22] [1] [4] (λu24 (a:Int×(List Int))=>[(7,.sl 4 (u24 4) 0 a.2.length),(23,int a.1)]) (λ_ a=>[.nw 4 3 1 (a.2.map fI)]) n ((0:Int),y0_3) (pw λy1_2 y1_3=>.bB 24 (decide (y1_2<(x7.aI.length:Int))) λx8=>.ifs [24] x8 (.ix 25 aF.av x7.aI y1_2 λx9=>.al 2<|.bI 32 (bE (0-x9.bO)) λx11=>.bl (if x11>x9.bO then x11 else x9.bO:Int) λx12=>.gv 33<|.to 34 (aH 1 fI ([x12]:List Int))<|.bl (y1_3++([x12]:List Int):List Int) λx13=>.as (x13.length<=68719476736) inferInstance<|.ge 35 0<|.bI 36 (bE (y1_2+1)) λx16=>.brk ((x16:Int),x13)) (.esc (.ret y1_3)))) (λy2_2=>.ret y2_2)) (λy3_2=>.bI 37 (bE (y0_2+1)) λx17=>.brk ((x17:Int),y3_2))) (.esc (.ret y0_3)))) (λy4_2=>.kZ 40 (qP n y4_2) wF wG (λ_=>rfl) λx18=>.bB 44 (decide (x18.2=0)) λx19=>.ret ((x19:Bool)))
def JL (n:Nat) (a1:aB) (a2:Int) (a3:Int):Option (Bool):=(aBE n a1 a2 a3).run
theorem aN1 {n a1 a2 a3 r} (h0:JL n a1 a2 a3=some r):PP Tryz.prog 68 [.agg (aB.av a1),int a2,int a3] (λy=>y=aZ r) :=
 bY mixed aA (λr:Bool=>aZ r) h0 Tryz.func68 (λr=>gT r) 100000 au
end
end Go.Pv
