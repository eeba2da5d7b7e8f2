import Derived.Test.YtcnbfkppbaenbaaGreatX80j
set_option linter.unusedVariables false
set_option linter.unusedSimpArgs false
namespace Go.Pv
open Go.Proofs
set_option maxRecDepth 100000
set_option maxHeartbeats 4000000
noncomputable section
def TV (n:Nat) (a1:List (List Int)) (a2:List (List Int)):WT Tryz.prog (.b (Bool)) :=
 .ln 7 (fL 1 fI) a1<|.ln 9 (fL 1 fI) a2<|.bB 10 (decide ((a1.length:Int)≠(a2.length:Int))) λx3=>.ifs [10] x3 (.ret ((false:Bool))) (.fD 2 [4] [] [] (λ_ (a:Unit)=>[]) (λ_ _=>[]) (.lp [0,1,4] [] [] (λ_ (a:Int)=>[(5,int a)]) (λ_ _=>[]) n 0 (λy0_1=>.ln 13 (fL 1 fI) a1<|.bB 14 (decide (y0_1<(a1.length:Int))) λx4=>.ifs [14] x4 (.dr [] [] [] [] [0,1,2,3,4,5,6,7,8,9] (.ix 19 (fL 1 fI) a1 y0_1 λx5=>.ix 23 (fL 1 fI) a2 y0_1 λx6=>.cl 25 (rD n x5 x6) zC zZ λx7=>.bB 26 (!x7) λx8=>.ifs [26] x8 (.esc (.esc (.ret ((false:Bool))))) (.bI 16 (bA (y0_1+1)) λx9=>.brk x9))) (.esc (.brk ())))) (λ_=>.ret ((true:Bool))))
def DX (n:Nat) (a1:List (List Int)) (a2:List (List Int)):Option (Bool):=(TV n a1 a2).run
theorem YM {n a1 a2 r} (h0:DX n a1 a2=some r):PP Tryz.prog 133 [aP 1 (fL 1 fI) a1,aP 1 (fL 1 fI) a2] (λy=>y=aT r) :=
 bU mixed bR (λr:Bool=>aT r) h0 Tryz.func133 (λr=>gF r) 100000 au
def U1 (n:Nat) (a1:fC) (a2:fC):WT Tryz.prog (.b (Bool)) :=
 .al 1<|.al 2<|.jn 0 [] [] [] (λ_ (a:Bool)=>[(4,aT a)]) (λ_ _=>[]) (.bB 9 (decide (a1.gG=a2.gG)) λx5=>.ifs [9] x5 (.bB 15 (decide (a1.gQ=a2.gQ)) λx6=>.ifs [15] x6 (.cl 22 (rD n a1.bZ a2.bZ) zC zZ λx7=>.ifs [22] x7 (.cl 29 (DX n a1.Methods a2.Methods) aAN YM λx8=>.ifs [29] x8 (.cl 36 (DX n a1.gL a2.gL) aAN YM λx9=>.ret x9) (.ret false)) (.ret false)) (.ret false)) (.ret false)) (λy0_1=>.ret ((y0_1:Bool)))
def KR (n:Nat) (a1:fC) (a2:fC):Option (Bool):=(U1 n a1 a2).run
theorem aMJ {n a1 a2 r} (h0:KR n a1 a2=some r):PP Tryz.prog 75 [.agg (fC.av a1),.agg (fC.av a2)] (λy=>y=aT r) :=
 bU mixed bR (λr:Bool=>aT r) h0 Tryz.func75 (λr=>gF r) 100000 au
def ZW (n:Nat) (a1:aA) (a2:aA):WT Tryz.prog (.b (Bool)) :=
 .al 1<|.al 2<|.jn 0 [2,3,4] [1,2] [] (λ_ (a:Bool)=>[(32,aT a)]) (λ_ _=>[]) (.ln 10 dG.av a1.bY<|.ln 13 dG.av a2.bY<|.bB 14 (decide ((a1.bY.length:Int)≠(a2.bY.length:Int))) λx5=>.ifs [14] x5 (.ret true) (.ln 18 eZ.av a1.eF<|.ln 21 eZ.av a2.eF<|.bB 22 (decide ((a1.eF.length:Int)≠(a2.eF.length:Int))) λx6=>.ifs [22] x6 (.ret true) (.ln 27 fT.av a1.dL<|.ln 30 fT.av a2.dL<|.bB 31 (decide ((a1.dL.length:Int)≠(a2.dL.length:Int))) λx7=>.ret x7))) (λy0_1=>.ifs [32] y0_1 (.ret ((false:Bool))) (.fD 2 [2,3,4] [1,2] [] (λ_ (a:Unit)=>[]) (λ_ _=>[]) (.lp [2,3,4] [1,2] [] (λ_ (a:Int)=>[(5,int a)]) (λ_ _=>[]) n 0 (λy1_1=>.ln 36 dG.av a1.bY<|.bB 37 (decide (y1_1<(a1.bY.length:Int))) λx8=>.ifs [37] x8 (.dr [(0,[1]),(1,[1]),(5,[2]),(6,[2])] [] [1,2] [] [0,1,2,3,4,5,6,7,8,9,10] (.ix 43 dG.av a1.bY y1_1 λx9=>.ix 48 dG.av a2.bY y1_1 λx10=>.bl (!decide ((x9:dG)=x10):Bool) λx11=>.gv 50<|.ifs [50] x11 (.esc (.esc (.ret ((false:Bool))))) (.bI 39 (bA (y1_1+1)) λx12=>.brk x12))) (.esc (.brk ())))) (λ_=>.fD 1 [2,3,4] [1,2] [] (λ_ (a:Unit)=>[]) (λ_ _=>[]) (.lp [2,3,4] [1,2] [] (λ_ (a:Int)=>[(6,int a)]) (λ_ _=>[]) n 0 (λy3_1=>.ln 54 eZ.av a1.eF<|.bB 55 (decide (y3_1<(a1.eF.length:Int))) λx13=>.ifs [55] x13 (.dr [(0,[1]),(1,[1]),(5,[2]),(6,[2])] [] [1,2] [] [0,1,2,3,4,5,6,7,8,9,10] (.ix 61 eZ.av a1.eF y3_1 λx14=>.ix 66 eZ.av a2.eF y3_1 λx15=>.bl (!decide ((x14:eZ)=x15):Bool) λx16=>.gv 68<|.ifs [68] x16 (.esc (.esc (.ret ((false:Bool))))) (.bI 57 (bA (y3_1+1)) λx17=>.brk x17))) (.esc (.brk ())))) (λ_=>.fD 1 [4] [] [] (λ_ (a:Unit)=>[]) (λ_ _=>[]) (.lp [2,3,4] [1,2] [] (λ_ (a:Int)=>[(7,int a)]) (λ_ _=>[]) n 0 (λy5_1=>.ln 72 fT.av a1.dL<|.bB 73 (decide (y5_1<(a1.dL.length:Int))) λx18=>.ifs [73] x18 (.dr [(0,[1]),(1,[1]),(5,[2]),(6,[2])] [] [1,2] [] [0,1,2,3,4,5,6,7,8,9,10] (.ix 79 fT.av a1.dL y5_1 λx19=>.ix 84 fT.av a2.dL y5_1 λx20=>.bl (!decide ((x19:fT)=x20):Bool) λx21=>.gv 86<|.ifs [86] x21 (.esc (.esc (.ret ((false:Bool))))) (.bI 75 (bA (y5_1+1)) λx22=>.brk x22))) (.esc (.brk ())))) (λ_=>.ret ((true:Bool)))))))
def IA (n:Nat) (a1:aA) (a2:aA):Option (Bool):=(ZW n a1 a2).run
theorem aJ8 {n:Nat} {a1:aA} {a2:aA} {r:Bool} (h0:IA n a1 a2=some r):PP Tryz.prog 76 [.agg (aA.av a1),.agg (aA.av a2)] (λy=>y=aT r):=by
 refine bU mixed bR (λ(r:Bool)=>aT r) h0 Tryz.func76 (λr=>gF r) 100000 ?_
 intro v3
 intro v4
 refine .mk ?_ ?_
 refine .mk ?_
 refine .mk ?_
 refine .mk λx5=>?_
 refine .mk .mk ?_
 refine .mk ?_
 refine .mk ?_
 refine .mk λx6=>?_
 refine .mk .mk ?_
 refine .mk ?_
 refine .mk ?_
 refine .mk λx7=>?_
 exact .mk
 intro _ _
 refine .mk .mk ?_
 refine .mk ?_ ?_
 refine .mk ?_
 intro _ _
 refine .mk ?_
 refine .mk λx8=>?_
 refine .mk ?_ ?_
 refine .mk ?_
 refine .mk λx9 e9=>?_
 refine .mk λx10 e10=>?_
 refine .mk λx11 e11=>?_
 refine .mk _ (λH hH _=>QI (r':=x11) rfl aLH rfl rfl (.cons (.int Tryz.underlying3) fO (.cons (.int Tryz.underlying3) fO (.cons (.int Tryz.underlying3) fO (.cons (.int Tryz.underlying3) fO (.cons (.int Tryz.underlying3) fO (.cons (.int Tryz.underlying3) fO (.cons (.int Tryz.underlying3) fO (.cons (.int Tryz.underlying3) fO (.nil _))))))))) ((congrArg Bool.not (dG.eqv (x9:dG) (x10:dG))).trans e11)) ?_
 refine .mk .mk ?_
 refine .mk λx12=>?_
 exact .mk
 exact .mk
 intro _ _
 refine .mk ?_ ?_
 refine .mk ?_
 intro _ _
 refine .mk ?_
 refine .mk λx13=>?_
 refine .mk ?_ ?_
 refine .mk ?_
 refine .mk λx14 e14=>?_
 refine .mk λx15 e15=>?_
 refine .mk λx16 e16=>?_
 refine .mk _ (λH hH _=>QI (r':=x16) rfl aRN rfl rfl (.cons (.int Tryz.underlying3) fO (.cons (.int Tryz.underlying3) fO (.cons (.int Tryz.underlying3) fO (.cons (.int Tryz.underlying3) fO (.cons (.int Tryz.underlying3) fO (.cons (.int Tryz.underlying3) fO (.cons (.int Tryz.underlying3) fO (.cons (.int Tryz.underlying3) fO (.cons (.bool Tryz.underlying4) sh4 (.nil _)))))))))) ((congrArg Bool.not (eZ.eqv (x14:eZ) (x15:eZ))).trans e16)) ?_
 refine .mk .mk ?_
 refine .mk λx17=>?_
 exact .mk
 exact .mk
 intro _ _
 refine .mk ?_ ?_
 refine .mk ?_
 intro _ _
 refine .mk ?_
 refine .mk λx18=>?_
 refine .mk ?_ ?_
 refine .mk ?_
 refine .mk λx19 e19=>?_
 refine .mk λx20 e20=>?_
 refine .mk λx21 e21=>?_
 refine .mk _ (λH hH _=>QI (r':=x21) rfl aRP rfl rfl (.cons (.int Tryz.underlying3) fO (.cons (.int Tryz.underlying3) fO (.cons (.int Tryz.underlying3) fO (.cons (.int Tryz.underlying3) fO (.cons (.int Tryz.underlying3) fO (.cons (.int Tryz.underlying3) fO (.nil _))))))) ((congrArg Bool.not (fT.eqv (x19:fT) (x20:fT))).trans e21)) ?_
 refine .mk .mk ?_
 refine .mk λx22=>?_
 exact .mk
 exact .mk
 intro _ _
 exact .mk
def aAP (a1:aB) (a2:aB):WT Tryz.prog (.b (Bool)) :=
 .al 1<|.al 2<|.jn 0 [] [] [] (λ_ (a:Bool)=>[(4,aT a)]) (λ_ _=>[]) (.bB 9 (decide (a1.aG=a2.aG)) λx5=>.ifs [9] x5 (.bB 15 (decide (a1.Value=a2.Value)) λx6=>.ifs [15] x6 (.bB 22 (decide (a1.bO=a2.bO)) λx7=>.ret x7) (.ret false)) (.ret false)) (λy0_1=>.ret ((y0_1:Bool)))
def LK (a1:aB) (a2:aB):Option (Bool):=(aAP a1 a2).run
theorem aIV {a1 a2 r} (h0:LK a1 a2=some r):PP Tryz.prog 237 [.agg (aB.av a1),.agg (aB.av a2)] (λy=>y=aT r) :=
 bU mixed bR (λr:Bool=>aT r) h0 Tryz.func237 (λr=>gF r) 100000 au
def aD7 (n:Nat) (a1:List aB) (a2:List aB):WT Tryz.prog (.b (Bool)) :=
 .ln 7 aB.av a1<|.ln 9 aB.av a2<|.bB 10 (decide ((a1.length:Int)≠(a2.length:Int))) λx3=>.ifs [10] x3 (.ret ((false:Bool))) (.fD 2 [4] [] [] (λ_ (a:Unit)=>[]) (λ_ _=>[]) (.lp [0,1,4] [] [] (λ_ (a:Int)=>[(5,int a)]) (λ_ _=>[]) n 0 (λy0_1=>.ln 13 aB.av a1<|.bB 14 (decide (y0_1<(a1.length:Int))) λx4=>.ifs [14] x4 (.dr [] [] [] [] [0,1,2,3,4,5,6,7,8,9] (.ix 19 aB.av a1 y0_1 λx5=>.ix 23 aB.av a2 y0_1 λx6=>.cl 25 (LK x5 x6) aUA aIV λx7=>.bB 26 (!x7) λx8=>.ifs [26] x8 (.esc (.esc (.ret ((false:Bool))))) (.bI 16 (bA (y0_1+1)) λx9=>.brk x9))) (.esc (.brk ())))) (λ_=>.ret ((true:Bool))))
def GY (n:Nat) (a1:List aB) (a2:List aB):Option (Bool):=(aD7 n a1 a2).run
theorem aM9 {n a1 a2 r} (h0:GY n a1 a2=some r):PP Tryz.prog 190 [aP 3 aB.av a1,aP 3 aB.av a2] (λy=>y=aT r) :=
 bU mixed bR (λr:Bool=>aT r) h0 Tryz.func190 (λr=>gF r) 100000 au
def aDS (n:Nat) (a1:aH) (a2:aH):WT Tryz.prog (.b (Bool)) :=
 .al 1<|.al 2<|.jn 0 [] [] [] (λ_ (a:Bool)=>[(4,aT a)]) (λ_ _=>[]) (.cl 9 (GY n a1.aW a2.aW) aSE aM9 λx5=>.ifs [9] x5 (.gv 12<|.gv 15<|.bB 17 (decide (a1.bN.a0=a2.bN.a0)) λx6=>.ifs [17] x6 (.gv 21<|.gv 24<|.bB 26 (decide (a1.bN.a1=a2.bN.a1)) λx7=>.ifs [26] x7 (.gv 30<|.gv 33<|.bB 35 (decide (a1.bN.a2=a2.bN.a2)) λx8=>.ret x8) (.ret false)) (.ret false)) (.ret false)) (λy0_1=>.ret ((y0_1:Bool)))
def L6 (n:Nat) (a1:aH) (a2:aH):Option (Bool):=(aDS n a1 a2).run
theorem aMV {n a1 a2 r} (h0:L6 n a1 a2=some r):PP Tryz.prog 134 [.agg (aH.av a1),.agg (aH.av a2)] (λy=>y=aT r) :=
 bU mixed bR (λr:Bool=>aT r) h0 Tryz.func134 (λr=>gF r) 100000 au
def N9 (F:aQ->aQ->Option (Bool)) (hF:∀ {a1:aQ} {a2:aQ} {r:Bool},F a1 a2=some r->PP Tryz.prog 77 [.agg [int a1.fU,aT a1.Closed,aP 4 aH.av a1.bX,aP 1 fI a1.dR,aP 11 cO.av a1.dQ,aP 1 fI a1.gI,aP 1 fI a1.Down,aP 8 aQ.av a1.fV],.agg [int a2.fU,aT a2.Closed,aP 4 aH.av a2.bX,aP 1 fI a2.dR,aP 11 cO.av a2.dQ,aP 1 fI a2.gI,aP 1 fI a2.Down,aP 8 aQ.av a2.fV]] (λy=>y=aT r)) (n:Nat) (a1:aQ) (a2:aQ):WT Tryz.prog (.b (Bool)) :=
 .al 1<|.al 2<|.jn 0 [2,3,4] [1,2] [] (λ_ (a:Bool)=>[(46,aT a)]) (λ_ _=>[]) (.bB 12 (decide (a1.fU≠a2.fU)) λx5=>.ifs [12] x5 (.ret true) (.bl (decide (a1.Closed≠a2.Closed):Bool) λx6=>.gv 18<|.ifs [18] x6 (.ret true) (.ln 23 aH.av a1.bX<|.ln 26 aH.av a2.bX<|.bB 27 (decide ((a1.bX.length:Int)≠(a2.bX.length:Int))) λx7=>.ifs [27] x7 (.ret true) (.ln 32 cO.av a1.dQ<|.ln 35 cO.av a2.dQ<|.bB 36 (decide ((a1.dQ.length:Int)≠(a2.dQ.length:Int))) λx8=>.ifs [36] x8 (.ret true) (.ln 41 aQ.av a1.fV<|.ln 44 aQ.av a2.fV<|.bB 45 (decide ((a1.fV.length:Int)≠(a2.fV.length:Int))) λx9=>.ret x9))))) (λy0_1=>.ifs [46] y0_1 (.ret ((false:Bool))) (.fD 2 [2,3,4] [1,2] [] (λ_ (a:Unit)=>[]) (λ_ _=>[]) (.lp [2,3,4] [1,2] [] (λ_ (a:Int)=>[(5,int a)]) (λ_ _=>[]) n 0 (λy1_1=>.ln 50 aH.av a1.bX<|.bB 51 (decide (y1_1<(a1.bX.length:Int))) λx10=>.ifs [51] x10 (.dr [(0,[1]),(1,[1]),(5,[2]),(6,[2])] [] [1,2] [] [0,1,2,3,4,5,6,7,8,9,10,11] (.ix 57 aH.av a1.bX y1_1 λx11=>.ix 62 aH.av a2.bX y1_1 λx12=>.cl 64 (L6 n x11 x12) aSU aMV λx13=>.bB 65 (!x13) λx14=>.ifs [65] x14 (.esc (.esc (.ret ((false:Bool))))) (.bI 53 (bA (y1_1+1)) λx15=>.brk x15))) (.esc (.brk ())))) (λ_=>.fD 1 [2,3,4] [1,2] [] (λ_ (a:Unit)=>[]) (λ_ _=>[]) (.lp [2,3,4] [1,2] [] (λ_ (a:Int)=>[(6,int a)]) (λ_ _=>[]) n 0 (λy3_1=>.ln 69 cO.av a1.dQ<|.bB 70 (decide (y3_1<(a1.dQ.length:Int))) λx16=>.ifs [70] x16 (.dr [(0,[1]),(1,[1]),(6,[2]),(7,[2])] [] [1,2] [] [0,1,2,3,4,5,6,7,8,9,10,11,12] (.ix 76 cO.av a1.dQ y3_1 λx17=>.cl 78 (vM x17) DF FO λx18=>.ix 82 cO.av a2.dQ y3_1 λx19=>.cl 84 (vM x19) DF FO λx20=>.bl (!decide ((x18:jQ)=(x20:jQ)):Bool) λx21=>.gv 85<|.ifs [85] x21 (.esc (.esc (.ret ((false:Bool))))) (.bI 72 (bA (y3_1+1)) λx22=>.brk x22))) (.esc (.brk ())))) (λ_=>.fD 1 [2,3,4] [1,2] [] (λ_ (a:Unit)=>[]) (λ_ _=>[]) (.lp [2,3,4] [1,2] [] (λ_ (a:Int)=>[(7,int a)]) (λ_ _=>[]) n 0 (λy5_1=>.ln 89 aQ.av a1.fV<|.bB 90 (decide (y5_1<(a1.fV.length:Int))) λx23=>.ifs [90] x23 (.dr [(0,[1]),(1,[1]),(5,[2]),(6,[2])] [] [1,2] [] [0,1,2,3,4,5,6,7,8,9,10,11] (.iF 96 aQ.av gE aQ.fF a1.fV y5_1 λx24=>.iF 101 aQ.av gE aQ.fF a2.fV y5_1 λx25=>.cl 103 (F x24 x25) V8 hF λx26=>.bB 104 (!x26) λx27=>.ifs [104] x27 (.esc (.esc (.ret ((false:Bool))))) (.bI 92 (bA (y5_1+1)) λx28=>.brk x28))) (.esc (.brk ())))) (λ_=>.jn 0 [] [] [] (λ_ (a:Bool)=>[(4,aT a)]) (λ_ _=>[]) (.cl 109 (rD n a1.dR a2.dR) zC zZ λx29=>.ifs [109] x29 (.cl 115 (rD n a1.gI a2.gI) zC zZ λx30=>.ifs [115] x30 (.cl 122 (rD n a1.Down a2.Down) zC zZ λx31=>.ret x31) (.ret false)) (.ret false)) (λy7_1=>.ret ((y7_1:Bool))))))))
noncomputable def MH:Nat->{ F:aQ->aQ->Option (Bool) // ∀ {a1:aQ} {a2:aQ} {r:Bool},F a1 a2=some r->PP Tryz.prog 77 [.agg [int a1.fU,aT a1.Closed,aP 4 aH.av a1.bX,aP 1 fI a1.dR,aP 11 cO.av a1.dQ,aP 1 fI a1.gI,aP 1 fI a1.Down,aP 8 aQ.av a1.fV],.agg [int a2.fU,aT a2.Closed,aP 4 aH.av a2.bX,aP 1 fI a2.dR,aP 11 cO.av a2.dQ,aP 1 fI a2.gI,aP 1 fI a2.Down,aP 8 aQ.av a2.fV]] (λy=>y=aT r) }
 | 0=>⟨λ_ _=>none,λh=>nomatch h⟩
 | n+1=>⟨λa1 a2=>(N9 (MH n).1 (MH n).2 n a1 a2).run,λh0 =>
 bU mixed bR (λr:Bool=>aT r) h0 Tryz.func77 (λr=>gF r) 100000 au⟩
noncomputable def wQ (n:Nat) (a1:aQ) (a2:aQ):Option (Bool):=(MH n).1 a1 a2
theorem ZN {n a1 a2 r} (h0:wQ n a1 a2=some r):PP Tryz.prog 77 [.agg [int a1.fU,aT a1.Closed,aP 4 aH.av a1.bX,aP 1 fI a1.dR,aP 11 cO.av a1.dQ,aP 1 fI a1.gI,aP 1 fI a1.Down,aP 8 aQ.av a1.fV],.agg [int a2.fU,aT a2.Closed,aP 4 aH.av a2.bX,aP 1 fI a2.dR,aP 11 cO.av a2.dQ,aP 1 fI a2.gI,aP 1 fI a2.Down,aP 8 aQ.av a2.fV]] (λy=>y=aT r):=(MH n).2 h0
theorem aSS {n:Nat} {a1:aQ} {a2:aQ}:wQ (n+1) a1 a2=(N9 (wQ n) ZN n a1 a2).run:=rfl
def aEH (n:Nat) (a1:aA) (a2:aA):WT Tryz.prog (.b (Bool)) :=
 .al 1<|.al 2<|.jn 0 [2,3,4] [1,2] [] (λ_ (a:Bool)=>[(33,aT a)]) (λ_ _=>[]) (.cl 10 (KR n a1.bH a2.bH) aMK aMJ λx5=>.bB 11 (!x5) λx6=>.ifs [11] x6 (.ret true) (.ln 15 aQ.av a1.bD<|.ln 18 aQ.av a2.bD<|.bB 19 (decide ((a1.bD.length:Int)≠(a2.bD.length:Int))) λx7=>.ifs [19] x7 (.ret true) (.bB 26 (decide (a1.Done≠a2.Done)) λx8=>.ifs [26] x8 (.ret true) (.cl 31 (IA n a1 a2) aIU aJ8 λx9=>.bB 32 (!x9) λx10=>.ret x10)))) (λy0_1=>.ifs [33] y0_1 (.ret ((false:Bool))) (.fD 2 [4] [] [] (λ_ (a:Unit)=>[]) (λ_ _=>[]) (.lp [2,3,4] [1,2] [] (λ_ (a:Int)=>[(5,int a)]) (λ_ _=>[]) n 0 (λy1_1=>.ln 37 aQ.av a1.bD<|.bB 38 (decide (y1_1<(a1.bD.length:Int))) λx11=>.ifs [38] x11 (.dr [(0,[1]),(1,[1]),(5,[2]),(6,[2])] [] [1,2] [] [0,1,2,3,4,5,6,7,8,9,10,11] (.iF 44 aQ.av gE aQ.fF a1.bD y1_1 λx12=>.iF 49 aQ.av gE aQ.fF a2.bD y1_1 λx13=>.cl 51 (wQ n x12 x13) V8 ZN λx14=>.bB 52 (!x14) λx15=>.ifs [52] x15 (.esc (.esc (.ret ((false:Bool))))) (.bI 40 (bA (y1_1+1)) λx16=>.brk x16))) (.esc (.brk ())))) (λ_=>.ret ((true:Bool)))))
def yZ (n:Nat) (a1:aA) (a2:aA):Option (Bool):=(aEH n a1 a2).run
theorem aFD {n a1 a2 r} (h0:yZ n a1 a2=some r):PP Tryz.prog 42 [.agg (aA.av a1),.agg (aA.av a2)] (λy=>y=aT r) :=
 bU mixed bR (λr:Bool=>aT r) h0 Tryz.func42 (λr=>gF r) 100000 au
def aAM (n:Nat) (a1:aA):WT Tryz.prog (.b (Bool)) :=
 .al 1<|.dr [(0,[1]),(1,[1]),(2,[1]),(4,[1]),(5,[1]),(6,[1])] [] [1] [] [0,1,2,3,4,5,6,7,8,9,10] (.bI 14 (bA (a1.bH.gG-1)) λx3=>.ln 18 fI a1.bH.bZ<|.bI 19 (bA ((a1.bH.bZ.length:Int)-1)) λx4=>.fD 1 [1,2,3,4] [1] [] (λ_ (a:Unit)=>[]) (λ_ _=>[]) (.lp [1,2,3,4] [1] [] (λ_ (a:Int)=>[(5,int a)]) (λ_ _=>[]) n 0 (λy0_1=>.ln 23 dG.av a1.bY<|.bB 24 (decide (y0_1<(a1.bY.length:Int))) λx5=>.ifs [24] x5 (.ix 30 dG.av a1.bY y0_1 λx6=>.al 2<|.jn 0 [1,2,3,4,5] [1] [] (λ_ (a:Bool)=>[(83,aT a)]) (λ_ _=>[]) (.cl 35 (jO x6.eY x3) kE kG λx8=>.bB 36 (!x8) λx9=>.ifs [36] x9 (.ret true) (.cl 41 (jO x6.Item x4) kE kG λx10=>.bB 42 (!x10) λx11=>.ifs [42] x11 (.ret true) (.cl 47 (jO x6.Loc 1) kE kG λx12=>.bB 48 (!x12) λx13=>.ifs [48] x13 (.ret true) (.cl 53 (jO x6.aG 288230376151711744) kE kG λx14=>.bB 54 (!x14) λx15=>.ifs [54] x15 (.ret true) (.cl 59 (jO x6.Value 288230376151711744) kE kG λx16=>.bB 60 (!x16) λx17=>.ifs [60] x17 (.ret true) (.cl 67 (jO x6.Open x6.aG) kE kG λx18=>.bB 68 (!x18) λx19=>.ifs [68] x19 (.ret true) (.cl 73 (jO x6.gW 288230376151711744) kE kG λx20=>.bB 74 (!x20) λx21=>.ifs [74] x21 (.ret true) (.cl 81 (jO x6.gP x6.aG) kE kG λx22=>.bB 82 (!x22) λx23=>.ret x23)))))))) (λy1_1=>.ifs [83] y1_1 (.esc (.esc (.ret ((false:Bool))))) (.bI 26 (bA (y0_1+1)) λx24=>.brk x24))) (.esc (.brk ())))) (λ_=>.fD 1 [1,2,3,4] [1] [] (λ_ (a:Unit)=>[]) (λ_ _=>[]) (.lp [1,2,3,4] [1] [] (λ_ (a:Int)=>[(7,int a)]) (λ_ _=>[]) n 0 (λy3_1=>.ln 87 eZ.av a1.eF<|.bB 88 (decide (y3_1<(a1.eF.length:Int))) λx25=>.ifs [88] x25 (.ix 94 eZ.av a1.eF y3_1 λx26=>.al 3<|.jn 0 [1,2,3,4,7] [1] [] (λ_ (a:Bool)=>[(146,aT a)]) (λ_ _=>[]) (.cl 99 (jO x26.eY x3) kE kG λx28=>.bB 100 (!x28) λx29=>.ifs [100] x29 (.ret true) (.cl 105 (jO x26.Item x4) kE kG λx30=>.bB 106 (!x30) λx31=>.ifs [106] x31 (.ret true) (.cl 111 (jO x26.Loc 1) kE kG λx32=>.bB 112 (!x32) λx33=>.ifs [112] x33 (.ret true) (.cl 117 (jO x26.aG 288230376151711744) kE kG λx34=>.bB 118 (!x34) λx35=>.ifs [118] x35 (.ret true) (.cl 125 (jO x26.gP x26.aG) kE kG λx36=>.bB 126 (!x36) λx37=>.ifs [126] x37 (.ret true) (.cl 131 (jO x26.pR 288230376151711744) kE kG λx38=>.bB 132 (!x38) λx39=>.ifs [132] x39 (.ret true) (.cl 137 (nU x26.bO) qV rF λx40=>.bB 138 (!x40) λx41=>.ifs [138] x41 (.ret true) (.bI 143 (bA (x26.nG-1)) λx42=>.cl 144 (jO x42 11) kE kG λx43=>.bB 145 (!x43) λx44=>.ret x44)))))))) (λy4_1=>.ifs [146] y4_1 (.esc (.esc (.ret ((false:Bool))))) (.bI 90 (bA (y3_1+1)) λx45=>.brk x45))) (.esc (.brk ())))) (λ_=>.fD 1 [1,2] [1] [] (λ_ (a:Unit)=>[]) (λ_ _=>[]) (.lp [1,2,3,4] [1] [] (λ_ (a:Int)=>[(9,int a)]) (λ_ _=>[]) n 0 (λy6_1=>.ln 150 fT.av a1.dL<|.bB 151 (decide (y6_1<(a1.dL.length:Int))) λx46=>.ifs [151] x46 (.ix 157 fT.av a1.dL y6_1 λx47=>.al 4<|.jn 0 [1,2,3,4,9] [1] [] (λ_ (a:Bool)=>[(195,aT a)]) (λ_ _=>[]) (.cl 162 (jO x47.rZ x3) kE kG λx49=>.bB 163 (!x49) λx50=>.ifs [163] x50 (.ret true) (.cl 168 (jO x47.To x3) kE kG λx51=>.bB 169 (!x51) λx52=>.ifs [169] x52 (.ret true) (.cl 175 (jO x47.Item x4) kE kG λx53=>.bB 176 (!x53) λx54=>.ifs [176] x54 (.ret true) (.cl 181 (jO x47.aG 288230376151711744) kE kG λx55=>.bB 182 (!x55) λx56=>.ifs [182] x56 (.ret true) (.cl 187 (jO x47.Value 288230376151711744) kE kG λx57=>.bB 188 (!x57) λx58=>.ifs [188] x58 (.ret true) (.cl 193 (nU x47.bO) qV rF λx59=>.bB 194 (!x59) λx60=>.ret x60)))))) (λy7_1=>.ifs [195] y7_1 (.esc (.esc (.ret ((false:Bool))))) (.bI 153 (bA (y6_1+1)) λx61=>.brk x61))) (.esc (.brk ())))) (λ_=>.jn 0 [] [] [] (λ_ (a:Bool)=>[(2,aT a)]) (λ_ _=>[]) (.ln 198 dG.av a1.bY<|.bB 199 (decide ((a1.bY.length:Int)<=40)) λx62=>.ifs [199] x62 (.ln 203 eZ.av a1.eF<|.bB 204 (decide ((a1.eF.length:Int)<=40)) λx63=>.ifs [204] x63 (.ln 209 fT.av a1.dL<|.bB 210 (decide ((a1.dL.length:Int)<=40)) λx64=>.ret x64) (.ret false)) (.ret false)) (λy9_1=>.ret ((y9_1:Bool)))))))
def LH (n:Nat) (a1:aA):Option (Bool):=(aAM n a1).run
theorem aWL {n a1 r} (h0:LH n a1=some r):PP Tryz.prog 137 [.agg (aA.av a1)] (λy=>y=aT r) :=
 bU mixed bR (λr:Bool=>aT r) h0 Tryz.func137 (λr=>gF r) 100000 au
def ZS (n:Nat) (a1:List Int) (a2:Int) (a3:Int):WT Tryz.prog (.b (Bool)) :=
 .ln 9 fI a1<|.bB 11 (decide ((a1.length:Int)≠a2)) λx4=>.ifs [11] x4 (.ret ((false:Bool))) (.fD 2 [6] [] [] (λ_ (a:Unit)=>[]) (λ_ _=>[]) (.lp [0,1,2,6] [] [] (λ_ (a:Int)=>[(7,int a)]) (λ_ _=>[]) n 0 (λy0_1=>.bB 14 (decide (y0_1<a2)) λx5=>.ifs [14] x5 (.jn 2 [0,1,2,6,7] [] [] (λ_ (a:Bool)=>[(29,aT a)]) (λ_ _=>[]) (.ix 19 fI a1 y0_1 λx6=>.bB 22 (decide (x6<a3)) λx7=>.ifs [22] x7 (.ret true) (.ix 26 fI a1 y0_1 λx8=>.bB 28 (decide (x8>288230376151711744)) λx9=>.ret x9)) (λy1_1=>.ifs [29] y1_1 (.esc (.esc (.ret ((false:Bool))))) (.bI 16 (bA (y0_1+1)) λx10=>.brk x10))) (.esc (.brk ())))) (λ_=>.ret ((true:Bool))))
def BA (n:Nat) (a1:List Int) (a2:Int) (a3:Int):Option (Bool):=(ZS n a1 a2 a3).run
theorem Q8 {n a1 a2 a3 r} (h0:BA n a1 a2 a3=some r):PP Tryz.prog 191 [aP 1 fI a1,int a2,int a3] (λy=>y=aT r) :=
 bU mixed bR (λr:Bool=>aT r) h0 Tryz.func191 (λr=>gF r) 100000 au
def aE4 (n:Nat) (a1:Int) (a2:aH):WT Tryz.prog (.b (Bool)) :=
 .al 1<|.jn 0 [0,3,4] [1] [] (λ_ (a:Bool)=>[(28,aT a)]) (λ_ _=>[]) (.bB 8 (decide (a1<1)) λx4=>.ifs [8] x4 (.ret true) (.bB 11 (decide (a1>4)) λx5=>.ifs [11] x5 (.ret true) (.cl 16 (yG n a2.aW) JC GN λx6=>.bB 17 (!x6) λx7=>.ifs [17] x7 (.ret true) (.bB 21 (decide (a1≠1)) λx8=>.ifs [21] x8 (.ln 25 aB.av a2.aW<|.bB 26 (decide ((a2.aW.length:Int)>1)) λx9=>.ret x9) (.ret false))))) (λy0_1=>.ifs [28] y0_1 (.ret ((false:Bool))) (.cl 30 (uX n a2) AU AR λx10=>.fD 1 [4] [] [] (λ_ (a:Unit)=>[]) (λ_ _=>[]) (.lp [0,3,4] [1] [] (λ_ (a:Int×Int)=>[(5,int a.1),(6,int a.2)]) (λ_ _=>[]) n ((x10.aG:Int),0) (pw λy1_1 y1_2=>.bB 33 (decide (y1_2<3)) λx11=>.ifs [33] x11 (.fD 1 [0,3,4] [1] [] (λ_ (a:Int×Int)=>[(5,int a.1),(6,int a.2)]) (λ_ _=>[]) (.jn 1 [0,3,4,5] [1] [] (λ_ (a:Int×Bool)=>[(6,int a.1),(59,aT a.2)]) (λ_ _=>[]) (.sp [6,32] y1_2 0 (.gv 38<|.bB 40 (decide (a2.bN.a0<0)) λx20=>.ifs [40] x20 (.ret ((0:Int),true)) (.gv 44<|.bB 47 (decide (a2.bN.a0>y1_1)) λx21=>.ifs [47] x21 (.ret ((0:Int),true)) (.bB 51 (decide (a1≠3)) λx22=>.ifs [51] x22 (.gv 55<|.bB 57 (decide (a2.bN.a0≠0)) λx23=>.ret ((0:Int),x23)) (.ret ((0:Int),false))))) (.sp [6,32] y1_2 1 (.gv 38<|.bB 40 (decide (a2.bN.a1<0)) λx16=>.ifs [40] x16 (.ret ((1:Int),true)) (.gv 44<|.bB 47 (decide (a2.bN.a1>y1_1)) λx17=>.ifs [47] x17 (.ret ((1:Int),true)) (.bB 51 (decide (a1≠3)) λx18=>.ifs [51] x18 (.gv 55<|.bB 57 (decide (a2.bN.a1≠0)) λx19=>.ret ((1:Int),x19)) (.ret ((1:Int),false))))) (.sa [6,32] y1_2 2 (.gv 38<|.bB 40 (decide (a2.bN.a2<0)) λx12=>.ifs [40] x12 (.ret ((2:Int),true)) (.gv 44<|.bB 47 (decide (a2.bN.a2>y1_1)) λx13=>.ifs [47] x13 (.ret ((2:Int),true)) (.bB 51 (decide (a1≠3)) λx14=>.ifs [51] x14 (.gv 55<|.bB 57 (decide (a2.bN.a2≠0)) λx15=>.ret ((2:Int),x15)) (.ret ((2:Int),false)))))))) (pw λy2_1 y2_2=>.ifs [59] y2_2 (.esc (.esc (.esc (.ret ((false:Bool)))))) (.sp [6] y2_1 0 (.gv 63<|.bI 65 (bA (y1_1-a2.bN.a0)) λx26=>.brk ((x26:Int),0)) (.sp [6] y2_1 1 (.gv 63<|.bI 65 (bA (y1_1-a2.bN.a1)) λx25=>.brk ((x25:Int),1)) (.sa [6] y2_1 2 (.gv 63<|.bI 65 (bA (y1_1-a2.bN.a2)) λx24=>.brk ((x24:Int),2))))))) (pw λy3_1 y3_2=>.bI 35 (bA (y3_2+1)) λx27=>.brk ((y3_1:Int),x27))) (.esc (.brk ())))) (λ_=>.ret ((true:Bool)))))
def LZ (n:Nat) (a1:Int) (a2:aH):Option (Bool):=(aE4 n a1 a2).run
theorem aLK {n a1 a2 r} (h0:LZ n a1 a2=some r):PP Tryz.prog 192 [int a1,.agg (aH.av a2)] (λy=>y=aT r) :=
 bU mixed bR (λr:Bool=>aT r) h0 Tryz.func192 (λr=>gF r) 100000 au
def PG (F:fC->Int->aQ->Bool->Option (Bool)) (hF:∀ {a1:fC} {a2:Int} {a3:aQ} {a4:Bool} {r:Bool},F a1 a2 a3 a4=some r->PP Tryz.prog 138 [.agg (fC.av a1),int a2,.agg [int a3.fU,aT a3.Closed,aP 4 aH.av a3.bX,aP 1 fI a3.dR,aP 11 cO.av a3.dQ,aP 1 fI a3.gI,aP 1 fI a3.Down,aP 8 aQ.av a3.fV],aT a4] (λy=>y=aT r)) (n:Nat) (a1:fC) (a2:Int) (a3:aQ) (a4:Bool):WT Tryz.prog (.b (Bool)) :=
 .al 1<|.al 2<|.ln 16 fI a1.bZ<|.jn 0 [1,3,4,6,8,9] [1,2] [] (λ_ (a:Bool)=>[(61,aT a)]) (λ_ _=>[]) (.bB 19 (decide (a3.fU<1)) λx7=>.ifs [19] x7 (.ret true) (.bB 25 (decide (a3.fU>a1.gQ)) λx8=>.ifs [25] x8 (.ret true) (.ln 30 aH.av a3.bX<|.bI 32 (bA ((a1.bZ.length:Int)*2)) λx9=>.bB 33 (decide ((a3.bX.length:Int)≠x9)) λx10=>.ifs [33] x10 (.ret true) (.ln 38 cO.av a3.dQ<|.bB 40 (decide ((a3.dQ.length:Int)≠(a1.bZ.length:Int))) λx11=>.ifs [40] x11 (.ret true) (.cl 45 (BA n a3.dR 17 (-288230376151711744)) R4 Q8 λx12=>.bB 46 (!x12) λx13=>.ifs [46] x13 (.ret true) (.cl 52 (BA n a3.gI (a1.bZ.length:Int) (-1)) R4 Q8 λx14=>.bB 53 (!x14) λx15=>.ifs [53] x15 (.ret true) (.cl 59 (BA n a3.Down (a1.bZ.length:Int) 0) R4 Q8 λx16=>.bB 60 (!x16) λx17=>.ret x17))))))) (λy0_1=>.ifs [61] y0_1 (.ret ((false:Bool))) (.fD 2 [1,3,4,6,8,9] [1,2] [] (λ_ (a:Unit)=>[]) (λ_ _=>[]) (.lp [1,3,4,6,8,9] [1,2] [] (λ_ (a:Int)=>[(10,int a)]) (λ_ _=>[]) n 0 (λy1_1=>.ln 65 aH.av a3.bX<|.bB 66 (decide (y1_1<(a3.bX.length:Int))) λx18=>.ifs [66] x18 (.dr [(0,[1]),(1,[1]),(9,[2]),(10,[2])] [] [1,2] [] [0,1,2,3,4,5,6,7,8,9,10,11,12,13,14,15] (.ix 72 (fL 1 fI) a1.Methods a2 λx19=>.bI 75 (bA (y1_1.tdiv 2)) λx20=>.ix 76 fI x19 x20 λx21=>.ix 81 aH.av a3.bX y1_1 λx22=>.cl 83 (LZ n x21 x22) aQS aLK λx23=>.bB 84 (!x23) λx24=>.ifs [84] x24 (.esc (.esc (.ret ((false:Bool))))) (.bI 68 (bA (y1_1+1)) λx25=>.brk x25))) (.esc (.brk ())))) (λ_=>.fD 1 [1,3,4,6,8] [1,2] [] (λ_ (a:Unit)=>[]) (λ_ _=>[]) (.lp [1,3,4,6,8,9] [1,2] [] (λ_ (a:Int)=>[(11,int a)]) (λ_ _=>[]) n 0 (λy3_1=>.bB 87 (decide (y3_1<(a1.bZ.length:Int))) λx26=>.ifs [87] x26 (.fD 1 [1,3,4,6,8,9,11] [1,2] [] (λ_ (a:Unit)=>[]) (λ_ _=>[]) (.ix 93 cO.av a3.dQ y3_1 λx27=>.cl 95 (vM x27) DF FO λx28=>.al 3<|.fD 1 [1,3,4,6,8,9,11] [1,2] [] (λ_ (a:Unit)=>[]) (λ_ _=>[]) (.lp [1,3,4,6,8,9,11,12] [1,2,3] [] (λ_ (a:Int)=>[(13,int a)]) (λ_ _=>[]) n 0 (λy4_1=>.bB 97 (decide (y4_1<11)) λx30=>.ifs [97] x30 (.as ((0:Int)<=y4_1/\y4_1<11) inferInstance<|.bo (ix ([x28.a0,x28.a1,x28.a2,x28.a3,x28.a4,x28.a5,x28.a6,x28.a7,x28.a8,x28.a9,x28.l6]:List Int) y4_1) λx32=>.gv 101<|.gv 102<|.cl 103 (nU x32) qV rF λx33=>.bB 104 (!x33) λx34=>.ifs [104] x34 (.esc (.esc (.esc (.esc (.esc (.ret ((false:Bool)))))))) (.bI 99 (bA (y4_1+1)) λx35=>.brk x35)) (.esc (.brk ())))) (λ_=>.brk ())) (λ_=>.bI 89 (bA (y3_1+1)) λx36=>.brk x36)) (.esc (.brk ())))) (λ_=>.ln 107 aQ.av a3.fV<|.bB 108 (decide ((a3.fV.length:Int)=0)) λx37=>.ifs [108] x37 (.bB 111 (!a3.Closed) λx38=>.ret ((x38:Bool))) (.jn 1 [] [] [] (λ_ (a:Bool)=>[(8,aT a)]) (λ_ _=>[]) (.dr [(2,[2]),(3,[2]),(6,[2]),(7,[2]),(12,[1]),(14,[2]),(15,[2])] [] [1,2] [] [0,1,2,3,4,5,6,7,8,9,10,11,12,13,14,15,16,17,18,19,20] (.ifs [3] a4 (.bB 117 (a3.Closed) λx39=>.ifs [117] x39 (.ln 120 aQ.av a3.fV<|.bB 121 (decide ((a3.fV.length:Int)=1)) λx40=>.ifs [121] x40 (.iF 128 aQ.av gE aQ.fF a3.fV 0 λx41=>.cl 130 (F a1 a2 x41 false) aA3 hF λx42=>.ret x42) (.ret false)) (.ret false)) (.ret false))) (λy8_1=>.ret ((y8_1:Bool))))))))
noncomputable def KP:Nat->{ F:fC->Int->aQ->Bool->Option (Bool) // ∀ {a1:fC} {a2:Int} {a3:aQ} {a4:Bool} {r:Bool},F a1 a2 a3 a4=some r->PP Tryz.prog 138 [.agg (fC.av a1),int a2,.agg [int a3.fU,aT a3.Closed,aP 4 aH.av a3.bX,aP 1 fI a3.dR,aP 11 cO.av a3.dQ,aP 1 fI a3.gI,aP 1 fI a3.Down,aP 8 aQ.av a3.fV],aT a4] (λy=>y=aT r) }
 | 0=>⟨λ_ _ _ _=>none,λh=>nomatch h⟩
 | n+1=>⟨λa1 a2 a3 a4=>(PG (KP n).1 (KP n).2 n a1 a2 a3 a4).run,λh0 =>
 bU mixed bR (λr:Bool=>aT r) h0 Tryz.func138 (λr=>gF r) 100000 au⟩
noncomputable def yM (n:Nat) (a1:fC) (a2:Int) (a3:aQ) (a4:Bool):Option (Bool):=(KP n).1 a1 a2 a3 a4
theorem aFU {n a1 a2 a3 a4 r} (h0:yM n a1 a2 a3 a4=some r):PP Tryz.prog 138 [.agg (fC.av a1),int a2,.agg [int a3.fU,aT a3.Closed,aP 4 aH.av a3.bX,aP 1 fI a3.dR,aP 11 cO.av a3.dQ,aP 1 fI a3.gI,aP 1 fI a3.Down,aP 8 aQ.av a3.fV],aT a4] (λy=>y=aT r):=(KP n).2 h0
theorem aTI {n:Nat} {a1:fC} {a2:Int} {a3:aQ} {a4:Bool}:yM (n+1) a1 a2 a3 a4=(PG (yM n) aFU n a1 a2 a3 a4).run:=rfl
def aGA (n:Nat) (a1:aA):WT Tryz.prog (.b (Bool)) :=
 .al 1<|.jn 0 [1,2] [1] [] (λ_ (a:Bool)=>[(27,aT a)]) (λ_ _=>[]) (.cl 6 (FC n a1.bH) aBN aF5 λx3=>.bB 7 (!x3) λx4=>.ifs [7] x4 (.ret true) (.ln 11 aQ.av a1.bD<|.bB 15 (decide ((a1.bD.length:Int)≠a1.bH.gG)) λx5=>.ifs [15] x5 (.ret true) (.cl 20 (jO a1.Done 288230376151711744) kE kG λx6=>.bB 21 (!x6) λx7=>.ifs [21] x7 (.ret true) (.cl 25 (LH n a1) aIL aWL λx8=>.bB 26 (!x8) λx9=>.ret x9)))) (λy0_1=>.ifs [27] y0_1 (.ret ((false:Bool))) (.fD 2 [2] [] [] (λ_ (a:Unit)=>[]) (λ_ _=>[]) (.lp [1,2] [1] [] (λ_ (a:Int)=>[(3,int a)]) (λ_ _=>[]) n 0 (λy1_1=>.ln 31 aQ.av a1.bD<|.bB 32 (decide (y1_1<(a1.bD.length:Int))) λx10=>.ifs [32] x10 (.dr [(0,[1]),(1,[1]),(3,[1]),(4,[1])] [] [1] [] [0,1,2,3,4,5,6,7,8,9] (.iF 41 aQ.av gE aQ.fF a1.bD y1_1 λx11=>.cl 43 (yM n a1.bH y1_1 x11 true) aA3 aFU λx12=>.bB 44 (!x12) λx13=>.ifs [44] x13 (.esc (.esc (.ret ((false:Bool))))) (.bI 34 (bA (y1_1+1)) λx14=>.brk x14))) (.esc (.brk ())))) (λ_=>.ret ((true:Bool)))))
def F7 (n:Nat) (a1:aA):Option (Bool):=(aGA n a1).run
theorem aWU {n a1 r} (h0:F7 n a1=some r):PP Tryz.prog 78 [.agg (aA.av a1)] (λy=>y=aT r) :=
 bU mixed bR (λr:Bool=>aT r) h0 Tryz.func78 (λr=>gF r) 100000 au
def aB2 (n:Nat) (a1:aA):WT Tryz.prog (.b (Bool)) :=
 .al 1<|.jn 2 [2] [] [] (λ_ (a:Int)=>[(3,int a)]) (λ_ _=>[]) (.lp [1,2] [1] [] (λ_ (a:Int×Int)=>[(3,int a.1),(4,int a.2)]) (λ_ _=>[]) n ((0:Int),0) (pw λy0_1 y0_2=>.ln 8 aQ.av a1.bD<|.bB 9 (decide (y0_2<(a1.bD.length:Int))) λx3=>.ifs [9] x3 (.dr [(1,[1]),(2,[1]),(10,[1]),(11,[1])] [] [1] [] [0,1,2,3,4,5,6,7,8,9,10,11,12,13,14,15,16,17,18,19] (.iF 16 aQ.av gE aQ.fF a1.bD y0_2 λx4=>.ix 19 fI x4.dR 13 λx5=>.bI 21 (bA (y0_1+x5)) λx6=>.iF 25 aQ.av gE aQ.fF a1.bD y0_2 λx7=>.ix 28 fI x7.dR 14 λx8=>.bI 30 (bA (x6+x8)) λx9=>.bI 11 (bA (y0_2+1)) λx10=>.brk ((x9:Int),x10))) (.esc (.ret y0_1)))) (λy1_1=>.bB 32 (decide (y1_1=0)) λx11=>.ret ((x11:Bool)))
def CW (n:Nat) (a1:aA):Option (Bool):=(aB2 n a1).run
theorem aXT {n a1 r} (h0:CW n a1=some r):PP Tryz.prog 79 [.agg (aA.av a1)] (λy=>y=aT r) :=
 bU mixed bR (λr:Bool=>aT r) h0 Tryz.func79 (λr=>gF r) 100000 au
def UK (a1:aA) (a2:Int):WT Tryz.prog (.b (Bool)) :=
 .al 1<|.jn 0 [] [] [] (λ_ (a:Bool)=>[(4,aT a)]) (λ_ _=>[]) (.bB 6 (decide (a2>=0)) λx4=>.ifs [6] x4 (.ln 11 aQ.av a1.bD<|.bB 12 (decide (a2<(a1.bD.length:Int))) λx5=>.ret x5) (.ret false)) (λy0_1=>.ret ((y0_1:Bool)))
def tY (a1:aA) (a2:Int):Option (Bool):=(UK a1 a2).run
theorem BC {a1 a2 r} (h0:tY a1 a2=some r):PP Tryz.prog 139 [.agg (aA.av a1),int a2] (λy=>y=aT r) :=
 bU mixed bR (λr:Bool=>aT r) h0 Tryz.func139 (λr=>gF r) 100000 au
end
end Go.Pv
