import Derived.Test.YtcnbfkppbaenbaaGreatX80k
set_option linter.unusedVariables false
set_option linter.unusedSimpArgs false
namespace Go.Pv
open Go.Proofs
set_option maxRecDepth 100000
set_option maxHeartbeats 4000000
noncomputable section
def T4 (n:Nat) (a1:aA) (a2:Int):WT Tryz.prog (.b (Int)) :=
 .al 1<|.jn 2 [4] [] [3] (λu2 (a:(List Int))=>[(5,.sl 3 (u2 3) 0 a.length)]) (λ_ a=>[.nw 3 3 1 (a.map fI)]) (.no 5 3 3 1<|.lp [1,2,4] [1] [3] (λu3 (a:Int×(List Int))=>[(5,.sl 3 (u3 3) 0 a.2.length),(6,int a.1)]) (λ_ a=>[.nw 3 3 1 (a.2.map fI)]) n ((0:Int),(([]:List Int):List Int)) (pw λy0_2 y0_3=>.ln 13 fI a1.bH.bZ<|.bB 14 (decide (y0_2<(a1.bH.bZ.length:Int))) λx5=>.ifs [14] x5 (.cl 21 (wF n a1 a2 y0_2) KM LG λx6=>.to 23 (aP 1 fI ([x6.Value]:List Int))<|.bl (y0_3++([x6.Value]:List Int):List Int) λx7=>.as (x7.length<=68719476736) inferInstance<|.ge 24 0<|.bI 16 (bA (y0_2+1)) λx10=>.brk ((x10:Int),x7)) (.esc (.ret y0_3)))) (λy1_2=>.kS 27 (nI n y1_2) rH qP (λ_=>rfl) λx11=>.ret ((x11.1:Int)))
def M9 (n:Nat) (a1:aA) (a2:Int):Option (Int):=(T4 n a1 a2).run
theorem aXH {n a1 a2 r} (h0:M9 n a1 a2=some r):PP Tryz.prog 140 [.agg (aA.av a1),int a2] (λy=>y=int r) :=
 bU mixed bR (λr:Int=>int r) h0 Tryz.func140 (λr=>bT r) 100000 au
def aBV (n:Nat) (a1:aA) (a2:Int):WT Tryz.prog (.b (Bool)) :=
 .al 1<|.jn 0 [] [] [] (λ_ (a:Bool)=>[(4,aT a)]) (λ_ _=>[]) (.dr [(0,[1]),(4,[1]),(7,[1]),(8,[1])] [] [1] [] [0,1,2,3,4,5,6,7,8,9,10,11,12,13,14,15,16,17] (.cl 7 (tY a1 a2) zK BC λx4=>.ifs [7] x4 (.cl 11 (M9 n a1 a2) aLZ aXH λx5=>.iF 15 aQ.av gE aQ.fF a1.bD a2 λx6=>.ix 18 fI x6.dR 0 λx7=>.bB 20 (decide (x5=x7)) λx8=>.ret x8) (.ret false))) (λy0_1=>.ret ((y0_1:Bool)))
def EZ (n:Nat) (a1:aA) (a2:Int):Option (Bool):=(aBV n a1 a2).run
theorem aKI {n a1 a2 r} (h0:EZ n a1 a2=some r):PP Tryz.prog 80 [.agg (aA.av a1),int a2] (λy=>y=aT r) :=
 bU mixed bR (λr:Bool=>aT r) h0 Tryz.func80 (λr=>gF r) 100000 au
def TZ (n:Nat) (a1:aA) (a2:Int):WT Tryz.prog (.b (Bool)) :=
 .al 1<|.jn 2 [1,2,4] [1] [3] (λu6 (a:(List Int))=>[(5,.sl 3 (u6 3) 0 a.length)]) (λ_ a=>[.nw 3 3 1 (a.map fI)]) (.no 5 3 3 1<|.lp [1,2,4] [1] [3] (λu10 (a:Int×(List Int))=>[(5,.sl 3 (u10 3) 0 a.2.length),(6,int a.1)]) (λ_ a=>[.nw 3 3 1 (a.2.map fI)]) n ((0:Int),(([]:List Int):List Int)) (pw λy0_2 y0_3=>.ln 12 dG.av a1.bY<|.bB 13 (decide (y0_2<(a1.bY.length:Int))) λx5=>.ifs [13] x5 (.jn 1 [1,2,4,6] [1] [3] (λu11 (a:(List Int))=>[(5,.sl 3 (u11 3) 0 a.length)]) (λ_ a=>[.nw 3 3 1 (a.map fI)]) (.ix 19 dG.av a1.bY y0_2 λx6=>.bB 23 (decide (x6.eY=a2)) λx7=>.ifs [23] x7 (.ix 28 dG.av a1.bY y0_2 λx8=>.to 31 (aP 1 fI ([x8.gW]:List Int))<|.bl (y0_3++([x8.gW]:List Int):List Int) λx9=>.as (x9.length<=68719476736) inferInstance<|.ge 32 0<|.ret x9) (.ret y0_3)) (λy1_2=>.bI 15 (bA (y0_2+1)) λx12=>.brk ((x12:Int),y1_2))) (.esc (.ret y0_3)))) (λy2_2=>.kS 35 (nI n y2_2) rH qP (λ_=>rfl) λx13=>.jn 0 [] [] [] (λ_ (a:Bool)=>[(4,aT a)]) (λ_ _=>[]) (.cl 40 (tY a1 a2) zK BC λx14=>.ifs [40] x14 (.bB 43 (decide (x13.2=0)) λx15=>.ifs [43] x15 (.iF 50 aQ.av gE aQ.fF a1.bD a2 λx16=>.ix 53 fI x16.dR 1 λx17=>.bI 55 (bA (0-x17)) λx18=>.bB 56 (decide (x13.1=x18)) λx19=>.ret x19) (.ret false)) (.ret false)) (λy3_1=>.ret ((y3_1:Bool))))
def DR (n:Nat) (a1:aA) (a2:Int):Option (Bool):=(TZ n a1 a2).run
theorem aN1 {n a1 a2 r} (h0:DR n a1 a2=some r):PP Tryz.prog 81 [.agg (aA.av a1),int a2] (λy=>y=aT r) :=
 bU mixed bR (λr:Bool=>aT r) h0 Tryz.func81 (λr=>gF r) 100000 au
def aFP (n:Nat) (a1:aA) (a2:Int):WT Tryz.prog (.b (Bool)) :=
 .al 1<|.jn 2 [1,2,4] [1] [3] (λu6 (a:(List Int))=>[(5,.sl 3 (u6 3) 0 a.length)]) (λ_ a=>[.nw 3 3 1 (a.map fI)]) (.no 5 3 3 1<|.lp [1,2,4] [1] [3] (λu10 (a:Int×(List Int))=>[(5,.sl 3 (u10 3) 0 a.2.length),(6,int a.1)]) (λ_ a=>[.nw 3 3 1 (a.2.map fI)]) n ((0:Int),(([]:List Int):List Int)) (pw λy0_2 y0_3=>.ln 12 fT.av a1.dL<|.bB 13 (decide (y0_2<(a1.dL.length:Int))) λx5=>.ifs [13] x5 (.jn 1 [1,2,4,6] [1] [3] (λu11 (a:(List Int))=>[(5,.sl 3 (u11 3) 0 a.length)]) (λ_ a=>[.nw 3 3 1 (a.map fI)]) (.ix 19 fT.av a1.dL y0_2 λx6=>.bB 23 (decide (x6.To=a2)) λx7=>.ifs [23] x7 (.ix 28 fT.av a1.dL y0_2 λx8=>.to 31 (aP 1 fI ([x8.Value]:List Int))<|.bl (y0_3++([x8.Value]:List Int):List Int) λx9=>.as (x9.length<=68719476736) inferInstance<|.ge 32 0<|.ret x9) (.ret y0_3)) (λy1_2=>.bI 15 (bA (y0_2+1)) λx12=>.brk ((x12:Int),y1_2))) (.esc (.ret y0_3)))) (λy2_2=>.kS 35 (nI n y2_2) rH qP (λ_=>rfl) λx13=>.jn 0 [] [] [] (λ_ (a:Bool)=>[(4,aT a)]) (λ_ _=>[]) (.cl 40 (tY a1 a2) zK BC λx14=>.ifs [40] x14 (.bB 43 (decide (x13.2=0)) λx15=>.ifs [43] x15 (.iF 50 aQ.av gE aQ.fF a1.bD a2 λx16=>.ix 53 fI x16.dR 12 λx17=>.bB 55 (decide (x13.1=x17)) λx18=>.ret x18) (.ret false)) (.ret false)) (λy3_1=>.ret ((y3_1:Bool))))
def EF (n:Nat) (a1:aA) (a2:Int):Option (Bool):=(aFP n a1 a2).run
theorem aOK {n a1 a2 r} (h0:EF n a1 a2=some r):PP Tryz.prog 82 [.agg (aA.av a1),int a2] (λy=>y=aT r) :=
 bU mixed bR (λr:Bool=>aT r) h0 Tryz.func82 (λr=>gF r) 100000 au
def aBA (n:Nat) (a1:aA) (a2:Int):WT Tryz.prog (.b (Bool)) :=
 .al 1<|.cl 9 (tY a1 a2) zK BC λx4=>.bB 10 (!x4) λx5=>.ifs [10] x5 (.ret ((false:Bool))) (.iF 15 aQ.av gE aQ.fF a1.bD a2 λx6=>.cl 18 (nI n x6.Down) rH qP λx7=>.jn 0 [] [] [] (λ_ (a:Bool)=>[(4,aT a)]) (λ_ _=>[]) (.bB 22 (decide (x7.2=0)) λx8=>.ifs [22] x8 (.iF 28 aQ.av gE aQ.fF a1.bD a2 λx9=>.ix 31 fI x9.dR 11 λx10=>.bI 33 (bA (0-x10)) λx11=>.bB 34 (decide (x7.1=x11)) λx12=>.ret x12) (.ret false)) (λy0_1=>.ret ((y0_1:Bool))))
def DU (n:Nat) (a1:aA) (a2:Int):Option (Bool):=(aBA n a1 a2).run
theorem aKU {n a1 a2 r} (h0:DU n a1 a2=some r):PP Tryz.prog 83 [.agg (aA.av a1),int a2] (λy=>y=aT r) :=
 bU mixed bR (λr:Bool=>aT r) h0 Tryz.func83 (λr=>gF r) 100000 au
def U5 (n:Nat) (a1:List Int):WT Tryz.prog (.b (Int×Int×Int)) :=
 .ln 9 fI a1<|.bB 10 (decide ((a1.length:Int)≠17)) λx2=>.ifs [10] x2 (.ret ((0:Int),0,1)) (.fD 3 [2,3,4] [] [] (λ_ (a:Int×Int)=>[(5,int a.1),(6,int a.2)]) (λ_ _=>[]) (.lp [0,2,3,4] [] [] (λ_ (a:Int×Int×Int)=>[(5,int a.1),(6,int a.2.1),(7,int a.2.2)]) (λ_ _=>[]) n ((0:Int),0,0) (pw λy0_1 q0=>(pw λy0_2 y0_3=>.ln 13 fI a1<|.bB 14 (decide (y0_3<(a1.length:Int))) λx3=>.ifs [14] x3 (.fD 1 [0,2,3,4,7] [] [] (λ_ (a:Int×Int)=>[(5,int a.1),(6,int a.2)]) (λ_ _=>[]) (.ix 26 fI a1 y0_3 λx4=>.cl 28 (nU x4) qV rF λx5=>.bB 29 (!x5) λx6=>.ifs [29] x6 (.esc (.esc (.esc (.ret ((0:Int),0,2))))) (.ix 33 fI a1 y0_3 λx7=>.bB 35 (decide (x7>0)) λx8=>.ifs [35] x8 (.ix 39 fI a1 y0_3 λx9=>.bI 41 (bA (y0_1+x9)) λx10=>.brk ((x10:Int),y0_2)) (.ix 20 fI a1 y0_3 λx11=>.bI 22 (bA (y0_2-x11)) λx12=>.brk ((y0_1:Int),x12)))) (pw λy1_1 y1_2=>.bI 16 (bA (y0_3+1)) λx13=>.brk ((y1_1:Int),y1_2,x13))) (.esc (.brk ((y0_1:Int),y0_2)))) q0)) (pw λy2_1 y2_2=>.ret ((y2_1:Int),y2_2,0)))
def ME (n:Nat) (a1:List Int):Option (Int×Int×Int):=(U5 n a1).run
theorem aVQ {n a1 r} (h0:ME n a1=some r):PP Tryz.prog 142 [aP 1 fI a1] (λy=>y=.bC [int r.1,int r.2.1,int r.2.2]) :=
 bU mixed bR (λr:Int×Int×Int=>.bC [int r.1,int r.2.1,int r.2.2]) h0 Tryz.func142 (λr=>.bC (nM (bT (r.1)) (bT (r.2.1)) (bT (r.2.2)))) 100000 au
def aB9 (n:Nat) (a1:aA) (a2:Int):WT Tryz.prog (.b (Bool)) :=
 .al 1<|.cl 10 (tY a1 a2) zK BC λx4=>.bB 11 (!x4) λx5=>.ifs [11] x5 (.ret ((false:Bool))) (.iF 16 aQ.av gE aQ.fF a1.bD a2 λx6=>.cl 19 (ME n x6.dR) aOU aVQ λx7=>.jn 0 [] [] [] (λ_ (a:Bool)=>[(4,aT a)]) (λ_ _=>[]) (.bB 24 (decide (x7.2.2=0)) λx8=>.ifs [24] x8 (.bB 28 (decide (x7.1=x7.2.1)) λx9=>.ret x9) (.ret false)) (λy0_1=>.ret ((y0_1:Bool))))
def E8 (n:Nat) (a1:aA) (a2:Int):Option (Bool):=(aB9 n a1 a2).run
theorem aHV {n a1 a2 r} (h0:E8 n a1 a2=some r):PP Tryz.prog 84 [.agg (aA.av a1),int a2] (λy=>y=aT r) :=
 bU mixed bR (λr:Bool=>aT r) h0 Tryz.func84 (λr=>gF r) 100000 au
def YU (n:Nat) (a1:aA) (a2:Int) (a3:Int):WT Tryz.prog (.b (Bool)) :=
 .al 1<|.jn 0 [1,2,3,6] [1] [] (λ_ (a:Bool)=>[(28,aT a)]) (λ_ _=>[]) (.cl 12 (tY a1 a2) zK BC λx5=>.bB 13 (!x5) λx6=>.ifs [13] x6 (.ret true) (.bB 16 (decide (a3<0)) λx7=>.ifs [16] x7 (.ret true) (.iF 23 aQ.av gE aQ.fF a1.bD a2 λx8=>.ln 26 cO.av x8.dQ<|.bB 27 (decide (a3>=(x8.dQ.length:Int))) λx9=>.ret x9))) (λy0_1=>.ifs [28] y0_1 (.ret ((false:Bool))) (.iF 32 aQ.av gE aQ.fF a1.bD a2 λx10=>.ix 36 cO.av x10.dQ a3 λx11=>.al 2<|.bI 42 (bA (x11.Open+x11.iW)) λx13=>.bI 45 (bA (x13+x11.jH)) λx14=>.bI 48 (bA (x14+x11.jG)) λx15=>.bI 51 (bA (x15+x11.iY)) λx16=>.bI 54 (bA (x16+x11.jB)) λx17=>.bI 59 (bA (x11.jF+x11.jE)) λx18=>.bI 62 (bA (x18+x11.iX)) λx19=>.bI 65 (bA (x19+x11.jC)) λx20=>.bI 68 (bA (x20+x11.jD)) λx21=>.bI 71 (bA (x17-x21)) λx22=>.cl 75 (wF n a1 a2 a3) KM LG λx23=>.bB 77 (decide (x22=x23.Value)) λx24=>.ret ((x24:Bool))))
def DN (n:Nat) (a1:aA) (a2:Int) (a3:Int):Option (Bool):=(YU n a1 a2 a3).run
theorem aXD {n a1 a2 a3 r} (h0:DN n a1 a2 a3=some r):PP Tryz.prog 85 [.agg (aA.av a1),int a2,int a3] (λy=>y=aT r) :=
 bU mixed bR (λr:Bool=>aT r) h0 Tryz.func85 (λr=>gF r) 100000 au
def TX (n:Nat) (a1:aA):WT Tryz.prog (.b (Bool)) :=
 .al 1<|.jn 0 [1,2] [1] [] (λ_ (a:Bool)=>[(12,aT a)]) (λ_ _=>[]) (.cl 6 (F7 n a1) aU0 aWU λx3=>.bB 7 (!x3) λx4=>.ifs [7] x4 (.ret true) (.cl 10 (CW n a1) aTN aXT λx5=>.bB 11 (!x5) λx6=>.ret x6)) (λy0_1=>.ifs [12] y0_1 (.ret ((false:Bool))) (.fD 2 [2] [] [] (λ_ (a:Unit)=>[]) (λ_ _=>[]) (.lp [1,2] [1] [] (λ_ (a:Int)=>[(3,int a)]) (λ_ _=>[]) n 0 (λy1_1=>.ln 16 aQ.av a1.bD<|.bB 17 (decide (y1_1<(a1.bD.length:Int))) λx7=>.ifs [17] x7 (.fD 1 [1,2,3] [1] [] (λ_ (a:Unit)=>[]) (λ_ _=>[]) (.jn 1 [1,2,3] [1] [] (λ_ (a:Bool)=>[(47,aT a)]) (λ_ _=>[]) (.cl 22 (EZ n a1 y1_1) aPC aKI λx8=>.bB 23 (!x8) λx9=>.ifs [23] x9 (.ret true) (.cl 27 (DR n a1 y1_1) aG2 aN1 λx10=>.bB 28 (!x10) λx11=>.ifs [28] x11 (.ret true) (.cl 33 (EF n a1 y1_1) aVR aOK λx12=>.bB 34 (!x12) λx13=>.ifs [34] x13 (.ret true) (.cl 39 (DU n a1 y1_1) aLX aKU λx14=>.bB 40 (!x14) λx15=>.ifs [40] x15 (.ret true) (.cl 45 (E8 n a1 y1_1) aO2 aHV λx16=>.bB 46 (!x16) λx17=>.ret x17))))) (λy2_1=>.ifs [47] y2_1 (.esc (.esc (.esc (.ret ((false:Bool)))))) (.fD 2 [1,2,3] [1] [] (λ_ (a:Unit)=>[]) (λ_ _=>[]) (.lp [1,2,3] [1] [] (λ_ (a:Int)=>[(4,int a)]) (λ_ _=>[]) n 0 (λy3_1=>.ln 52 fI a1.bH.bZ<|.bB 53 (decide (y3_1<(a1.bH.bZ.length:Int))) λx18=>.ifs [53] x18 (.cl 59 (DN n a1 y1_1 y3_1) aK5 aXD λx19=>.bB 60 (!x19) λx20=>.ifs [60] x20 (.esc (.esc (.esc (.esc (.esc (.ret ((false:Bool)))))))) (.bI 55 (bA (y3_1+1)) λx21=>.brk x21)) (.esc (.brk ())))) (λ_=>.brk ())))) (λ_=>.bI 19 (bA (y1_1+1)) λx22=>.brk x22)) (.esc (.brk ())))) (λ_=>.ret ((true:Bool)))))
def B8 (n:Nat) (a1:aA):Option (Bool):=(TX n a1).run
theorem UJ {n a1 r} (h0:B8 n a1=some r):PP Tryz.prog 43 [.agg (aA.av a1)] (λy=>y=aT r) :=
 bU mixed bR (λr:Bool=>aT r) h0 Tryz.func43 (λr=>gF r) 100000 au
def aYG (a1:aA) (a2:Int) (a3:Int) (a4:Int):WT Tryz.prog (.b (aH)) :=
 .al 1<|.al 2<|.cl 15 (J8 a1 a2 a3 a4) aUB aXE λx7=>.bB 17 (decide (x7<0)) λx8=>.ifs [17] x8 (.ret (((⟨[],(⟨0,0,0⟩:kU)⟩:aH):aH))) (.iF 22 aQ.av gE aQ.fF a1.bD a2 λx9=>.ix 26 aH.av x9.bX x7 λx10=>.al 3<|.as (x10.aW.length<=68719476736) inferInstance<|.ge 30 4<|.ret ((x10:aH)))
def aFH (a1:aA) (a2:Int) (a3:Int) (a4:Int):Option (aH):=(aYG a1 a2 a3 a4).run
theorem aWD {a1:aA} {a2:Int} {a3:Int} {a4:Int} {r:aH} (h0:aFH a1 a2 a3 a4=some r):PP Tryz.prog 111 [.agg (aA.av a1),int a2,int a3,int a4] (λy=>y=.agg (aH.av r)):=by
 refine bU mixed bR (λ(r:aH)=>.agg (aH.av r)) h0 Tryz.func111 (λr=>(λ(a:aH)=>PV.agg (aH.dH a)) r) 100000 ?_
 intro v5
 intro v6
 refine .mk λx7 e7=>?_
 refine .mk λx8=>?_
 refine .mk ?_ ?_
 exact .mk (dX.agg (.cons (.nil _) (.cons (.refl _) (.cons (.refl _) (.cons (.refl _) .nil)))))
 refine .mk λx9 e9=>?_
 refine .mk λx10 e10=>?_
 intro v11
 refine .mk λrR=>?_
 refine .mk _ ⟨λ_=>mM rfl rfl (.cons rfl .nil) wZ (nC (yL (id:=4) (l:=x10.aW) rfl rR) (.cons (.refl _) .nil)),λ_ _ _=>trivial⟩ ?_
 rintro _ _ ⟨v13,rfl,rfl⟩
 exact .mk (dX.agg (.cons (gJ rfl rfl rfl rfl rfl (Eq.symm rfl)) (.cons (.refl _) (.cons (.refl _) (.cons (.refl _) .nil)))))
def aA9 (a1:aB):WT Tryz.prog (.b (Bool)) :=
 .al 1<|.jn 0 [] [] [] (λ_ (a:Bool)=>[(2,aT a)]) (λ_ _=>[]) (.bB 5 (decide (a1.aG<1)) λx3=>.ifs [5] x3 (.ret true) (.bB 9 (decide (a1.aG>288230376151711744)) λx4=>.ifs [9] x4 (.ret true) (.bB 14 (decide (a1.Value<0)) λx5=>.ifs [14] x5 (.ret true) (.bB 19 (decide (a1.Value>288230376151711744)) λx6=>.ifs [19] x6 (.ret true) (.bB 24 (decide (a1.bO<(-288230376151711744))) λx7=>.ifs [24] x7 (.ret true) (.bB 29 (decide (a1.bO>288230376151711744)) λx8=>.ret x8)))))) (λy0_1=>.ret ((y0_1:Bool)))
def KO (a1:aB):Option (Bool):=(aA9 a1).run
theorem aVU {a1 r} (h0:KO a1=some r):PP Tryz.prog 277 [.agg (aB.av a1)] (λy=>y=aT r) :=
 bU mixed bR (λr:Bool=>aT r) h0 Tryz.func277 (λr=>gF r) 100000 au
end
open Go.Proofs
set_option maxRecDepth 100000
set_option maxHeartbeats 4000000
noncomputable section
def VJ (n:Nat) (a1:List aB):WT Tryz.prog (.b (aB×Int)) :=
 .al 1<|.ln 15 aB.av a1<|.jn 0 [2,3] [1] [6,7,8] (λu2 (a:(List Int)×(List Int)×(List Int))=>[(4,.sl 6 (u2 6) 0 a.1.length),(5,.sl 7 (u2 7) 0 a.2.1.length),(6,.sl 8 (u2 8) 0 a.2.2.length)]) (λ_ a=>[.nw 6 3 1 (a.1.map fI),.nw 7 3 1 (a.2.1.map fI),.nw 8 3 1 (a.2.2.map fI)]) (.no 4 6 3 1<|.no 5 7 3 1<|.no 6 8 3 1<|.lp [2,3,14,15] [1] [6,7,8] (λu3 (a:Int×(List Int)×(List Int)×(List Int))=>[(4,.sl 6 (u3 6) 0 a.2.1.length),(5,.sl 7 (u3 7) 0 a.2.2.1.length),(6,.sl 8 (u3 8) 0 a.2.2.2.length),(16,int a.1)]) (λ_ a=>[.nw 6 3 1 (a.2.1.map fI),.nw 7 3 1 (a.2.2.1.map fI),.nw 8 3 1 (a.2.2.2.map fI)]) n ((0:Int),(([]:List Int):List Int),(([]:List Int):List Int),(([]:List Int):List Int)) (pw λy0_4 q0=>(pw λy0_5 q1=>(pw λy0_6 y0_7=>.bB 17 (decide (y0_4<(a1.length:Int))) λx6=>.ifs [17] x6 (.ix 18 aB.av a1 y0_4 λx7=>.al 2<|.dr [(1,[2]),(2,[2]),(6,[2]),(7,[2]),(11,[2]),(12,[2])] [(14,[])] [2] [4,9,14] [0,1,2,3,5,6,7,8,10,11,12,13,4,9,14,15,16,17] (.to 23 (aP 1 fI ([x7.aG]:List Int))<|.to 28 (aP 1 fI ([x7.Value]:List Int))<|.to 33 (aP 1 fI ([x7.bO]:List Int))<|.bl (y0_5++([x7.aG]:List Int):List Int) λx9=>.as (x9.length<=68719476736) inferInstance<|.ge 24 0<|.bl (y0_6++([x7.Value]:List Int):List Int) λx12=>.as (x12.length<=68719476736) inferInstance<|.ge 29 0<|.bl (y0_7++([x7.bO]:List Int):List Int) λx15=>.as (x15.length<=68719476736) inferInstance<|.ge 34 0<|.bI 35 (bA (y0_4+1)) λx18=>.brk ((x18:Int),x9,x12,x15))) (.esc (.ret ((y0_5:List Int),y0_6,y0_7)))) q1) q0)) (pw λy1_4 q0=>(pw λy1_5 y1_6=>.al 9<|.gv 45<|.fD 0 [2,3,9] [1] [] (λ_ (a:aB)=>[]) (λ_ a=>[.kp 9 [[int a.aG,int a.Value,int a.bO]]]) (.un 24 (.kB 48 true<|.gv 49<|.al 10<|.kS 54 (uD n y1_4) CQ FD (λ_=>rfl) λx21=>.bB 58 (decide (x21.2≠0)) λx22=>.ifs [58] x22 (.esc (.ret (((⟨0,0,0⟩:aB):aB),x21.2))) (.kI 65 1<|.kB 48 true<|.gv 49<|.al 11<|.kS 54 (uD n y1_5) CQ FD (λ_=>rfl) λx24=>.bB 58 (decide (x24.2≠0)) λx25=>.ifs [58] x25 (.esc (.ret (((⟨0,0,0⟩:aB):aB),x24.2))) (.kI 65 2<|.kB 48 true<|.gv 49<|.al 12<|.kS 54 (uD n y1_6) CQ FD (λ_=>rfl) λx27=>.bB 58 (decide (x27.2≠0)) λx28=>.ifs [58] x28 (.esc (.ret (((⟨0,0,0⟩:aB):aB),x27.2))) (.kI 65 3<|.kB 48 false<|.brk ((⟨x21.1,x24.1,x27.1⟩:aB):aB)))))) (λy2_1=>.ret ((y2_1:aB),0))) q0)
def AA (n:Nat) (a1:List aB):Option (aB×Int):=(VJ n a1).run
theorem aAO {n:Nat} {a1:List aB} {r:aB×Int} (h0:AA n a1=some r):PP Tryz.prog 220 [aP 3 aB.av a1] (λy=>y=.bC [.agg (aB.av r.1),int r.2]):=by
 refine bU mixed bR (λ(r:aB×Int)=>.bC [.agg (aB.av r.1),int r.2]) h0 Tryz.func220 (λr=>.bC (gD ((λ(a:aB)=>PV.agg (aB.dH a)) (r.1)) (bT (r.2)))) 100000 ?_
 intro v2
 refine .mk ?_
 refine .mk ?_ ?_
 intro v3
 intro v4
 intro v5
 refine .mk ?_
 rintro ⟨y0_4,y0_5,y0_6,y0_7⟩ _
 refine .mk λx6=>?_
 refine .mk ?_ ?_
 refine .mk λx7 e7=>?_
 intro v8
 refine .mk ?_
 refine .mk (λH hH _=>iH (y:=aP 1 fI ([x7.aG]:List Int)) (jK (ps:=[(0,_)]) (rows:=[[int x7.aG]]) rfl Tryz.underlying22 kD (.cons rfl .nil) (by kernel_rfl) rfl rfl rfl) rfl) ?_
 refine .mk (λH hH _=>iH (y:=aP 1 fI ([x7.Value]:List Int)) (jK (ps:=[(0,_)]) (rows:=[[int x7.Value]]) rfl Tryz.underlying22 kD (.cons rfl .nil) (by kernel_rfl) rfl rfl rfl) rfl) ?_
 refine .mk (λH hH _=>iH (y:=aP 1 fI ([x7.bO]:List Int)) (jK (ps:=[(0,_)]) (rows:=[[int x7.bO]]) rfl Tryz.underlying22 kD (.cons rfl .nil) (by kernel_rfl) rfl rfl rfl) rfl) ?_
 refine .mk λx9 e9=>?_
 refine .mk λuS=>?_
 refine .mk _ ⟨λ_=>kY (g:=fI) (l:=y0_5) (m:=([x7.aG]:List Int)) .any rfl Tryz.underlying22 kD nR rfl rfl rfl rfl rfl rfl rfl rfl rfl rfl (Eq.symm rfl) (.refl _) (λ_=>rfl) e9 uS,by rintro _ _ ⟨v11,-,rfl,rfl⟩;exact ⟨rfl,trivial⟩⟩ ?_
 rintro _ _ ⟨v11,-,rfl,rfl⟩
 refine .mk λx12 e12=>?_
 refine .mk λZY=>?_
 refine .mk _ ⟨λ_=>kY (g:=fI) (l:=y0_6) (m:=([x7.Value]:List Int)) .any rfl Tryz.underlying22 kD nR rfl rfl rfl rfl rfl rfl rfl rfl rfl rfl (Eq.symm rfl) (.refl _) (λ_=>rfl) e12 ZY,by rintro _ _ ⟨v14,-,rfl,rfl⟩;exact ⟨rfl,trivial⟩⟩ ?_
 rintro _ _ ⟨v14,-,rfl,rfl⟩
 refine .mk λx15 e15=>?_
 refine .mk λp16=>?_
 refine .mk _ ⟨λ_=>kY (g:=fI) (l:=y0_7) (m:=([x7.bO]:List Int)) .any rfl Tryz.underlying22 kD nR rfl rfl rfl rfl rfl rfl rfl rfl rfl rfl (Eq.symm rfl) (.refl _) (λ_=>rfl) e15 p16,by rintro _ _ ⟨v17,-,rfl,rfl⟩;exact trivial⟩ ?_
 rintro _ _ ⟨v17,-,rfl,rfl⟩
 refine .mk λx18=>?_
 exact .mk
 exact .mk
 rintro ⟨y1_4,y1_5,y1_6⟩ u2
 intro v19
 refine .mk _ (eH (jK (ps:=[(0,_),(1,_),(2,_)]) (rows:=[[.pt 9 v19 0 0,.sl 6 (u2 6) 0 y1_4.length],[.pt 9 v19 0 1,.sl 7 (u2 7) 0 y1_5.length],[.pt 9 v19 0 2,.sl 8 (u2 8) 0 y1_6.length]]) rfl Tryz.underlying254 aKH (.cons rfl (.cons rfl (.cons rfl .nil))) (by kernel_rfl) rfl rfl rfl)) ?_
 refine .mk ?_ ?_
 refine .mk ?_
 refine .mk _ (eH (mQ (j:=0) rfl Tryz.underlying254 RU rfl rfl rfl (.list rfl))) ?_
 intro v20
 refine .mk (λx21 e21=>?_) rfl (by rintro _ rfl;exact (.cons (gJ rfl rfl rfl rfl rfl (Eq.symm rfl)) .nil))
 refine .mk λx22=>?_
 refine .mk .mk ?_
 refine .mk ?_
 refine .mk ?_
 refine .mk _ (eH (mQ (j:=1) rfl Tryz.underlying254 RU rfl rfl rfl (.list rfl))) ?_
 intro v23
 refine .mk (λx24 e24=>?_) rfl (by rintro _ rfl;exact (.cons (gJ rfl rfl rfl rfl rfl (Eq.symm rfl)) .nil))
 refine .mk λx25=>?_
 refine .mk .mk ?_
 refine .mk ?_
 refine .mk ?_
 refine .mk _ (eH (mQ (j:=2) rfl Tryz.underlying254 RU rfl rfl rfl (.list rfl))) ?_
 intro v26
 refine .mk (λx27 e27=>?_) rfl (by rintro _ rfl;exact (.cons (gJ rfl rfl rfl rfl rfl (Eq.symm rfl)) .nil))
 refine .mk λx28=>?_
 refine .mk .mk ?_
 refine .mk ?_
 refine .mk ?_
 exact .mk
 intro _ _
 exact .mk
def T8 (n:Nat) (a1:List aB):WT Tryz.prog (.b (Bool)) :=
 .ln 9 aB.av a1<|.jn 0 [2] [] [3] (λu2 (a:(List Int))=>[(3,.sl 3 (u2 3) 0 a.length)]) (λ_ a=>[.nw 3 3 1 (a.map fI)]) (.no 3 3 3 1<|.lp [2,8,9] [] [3] (λu3 (a:Int×(List Int))=>[(3,.sl 3 (u3 3) 0 a.2.length),(10,int a.1)]) (λ_ a=>[.nw 3 3 1 (a.2.map fI)]) n ((0:Int),(([]:List Int):List Int)) (pw λy0_2 y0_3=>.bB 11 (decide (y0_2<(a1.length:Int))) λx3=>.ifs [11] x3 (.ix 12 aB.av a1 y0_2 λx4=>.al 1<|.bI 19 (bA (0-x4.bO)) λx6=>.bl (if x6>x4.bO then x6 else x4.bO:Int) λx7=>.gv 20<|.to 21 (aP 1 fI ([x7]:List Int))<|.bl (y0_3++([x7]:List Int):List Int) λx8=>.as (x8.length<=68719476736) inferInstance<|.ge 22 0<|.bI 23 (bA (y0_2+1)) λx11=>.brk ((x11:Int),x8)) (.esc (.ret y0_3)))) (λy1_2=>.kS 26 (uD n y1_2) CQ FD (λ_=>rfl) λx12=>.bB 30 (decide (x12.2=0)) λx13=>.ret ((x13:Bool)))
def DV (n:Nat) (a1:List aB):Option (Bool):=(T8 n a1).run
theorem aJ9 {n a1 r} (h0:DV n a1=some r):PP Tryz.prog 278 [aP 3 aB.av a1] (λy=>y=aT r) :=
 bU mixed bR (λr:Bool=>aT r) h0 Tryz.func278 (λr=>gF r) 100000 au
def aFC (n:Nat) (a1:List aB):WT Tryz.prog (.b (Bool)) :=
 .jn 1 [0,2] [] [] (λ_ (a:Bool)=>[(11,aT a)]) (λ_ _=>[]) (.ln 6 aB.av a1<|.bB 7 (decide ((a1.length:Int)>30)) λx2=>.ifs [7] x2 (.ret true) (.inl 10 aLA Tryz.func276 [] [] (λ_ (a:Bool)=>aT a) (λ_ _=>[]) (.inl 7 aRI Tryz.func279 [] [] (λ_ (a:Int)=>int a) (λ_ _=>[]) (.ln 7 aB.av a1<|.fD 0 [4] [] [] (λ_ (a:Unit)=>[]) (λ_ _=>[]) (.lp [0,1,4,7] [] [] (λ_ (a:Int)=>[(8,int a)]) (λ_ _=>[]) n 0 (λy0_1=>.bB 9 (decide (y0_1<(a1.length:Int))) λx3=>.ifs [9] x3 (.ix 14 aB.av a1 y0_1 λx4=>.cl 16 (KO x4) aK1 aVU λx5=>.ifs [16] x5 (.esc (.esc (.ret y0_1))) (.bI 18 (bA (y0_1+1)) λx6=>.brk x6)) (.esc (.brk ())))) (λ_=>.ret (-1))) (λy2_1=>.bB 8 (decide (y2_1>=0)) λx7=>.ret x7)) (λy3_1=>.ret y3_1))) (λy4_1=>.ifs [11] y4_1 (.ret ((false:Bool))) (.cl 14 (AA n a1) V4 aAO λx8=>.al 1<|.jn 0 [] [] [] (λ_ (a:Bool)=>[(2,aT a)]) (λ_ _=>[]) (.bB 18 (decide (x8.2=0)) λx10=>.ifs [18] x10 (.cl 21 (DV n a1) aUV aJ9 λx11=>.ret x11) (.ret false)) (λy5_1=>.ret ((y5_1:Bool)))))
def MY (n:Nat) (a1:List aB):Option (Bool):=(aFC n a1).run
theorem aU4 {n a1 r} (h0:MY n a1=some r):PP Tryz.prog 274 [aP 3 aB.av a1] (λy=>y=aT r) :=
 bU mixed bR (λr:Bool=>aT r) h0 Tryz.func274 (λr=>gF r) 100000 au
def aE7 (n:Nat) (a1:List aB) (a2:aB):WT Tryz.prog (.b ((List aB)×Int)) :=
 .al 1<|.as (a1.length<=68719476736) inferInstance<|.ge 8 2<|.jn 1 [0,3,4,5] [1,2] [] (λ_ (a:Bool)=>[(9,aT a)]) (λ_ _=>[]) (.bB 12 (decide (a2.aG<1)) λx6=>.ifs [12] x6 (.ret true) (.bB 16 (decide (a2.Value<0)) λx7=>.ret x7)) (λy0_1=>.ifs [9] y0_1 (.ret ((a1:List aB),1)) (.bB 22 (decide ((a1.length:Int)>=30)) λx8=>.ifs [22] x8 (.ret ((a1:List aB),6)) (.dr [(2,[1])] [(4,[])] [1] [1,4] [0,2,3,1,4,5] (.to 27 (aP 3 aB.av ([a2]:List aB))<|.as (a1.length<=68719476736) inferInstance<|.ge 25 3<|.bl (a1++([a2]:List aB):List aB) λx11=>.as (x11.length<=68719476736) inferInstance<|.ge 28 0<|.kS 30 (MY n x11) aXC aU4 (λ_=>rfl) λx14=>.bB 31 (!x14) λx15=>.ifs [31] x15 (.ret ((a1:List aB),2)) (.ret ((x11:List aB),0))))))
def DO (n:Nat) (a1:List aB) (a2:aB):Option ((List aB)×Int):=(aE7 n a1 a2).run
theorem VO {n:Nat} {a1:List aB} {a2:aB} {r:(List aB)×Int} (h0:DO n a1 a2=some r):PP Tryz.prog 272 [aP 3 aB.av a1,.agg (aB.av a2)] (λy=>y=.bC [aP 3 aB.av r.1,int r.2]):=by
 refine bU mixed bR (λ(r:(List aB)×Int)=>.bC [aP 3 aB.av r.1,int r.2]) h0 Tryz.func272 (λr=>.bC (gD ((iJ aB.dH) (r.1)) (bT (r.2)))) 100000 ?_
 intro v3
 refine .mk λp4=>?_
 refine .mk _ ⟨λ_=>mM rfl rfl (.cons rfl .nil) wZ (nC (yL (id:=2) (l:=a1) rfl p4) (.cons (.refl _) .nil)),λ_ _ _=>trivial⟩ ?_
 rintro _ _ ⟨v5,rfl,rfl⟩
 refine .mk ?_ ?_
 refine .mk λx6=>?_
 refine .mk .mk ?_
 refine .mk λx7=>?_
 exact .mk
 intro _ _
 refine .mk ?_ ?_
 exact .mk (dX.bC (.cons (gJ rfl rfl rfl rfl rfl (Eq.symm rfl)) (.cons (.refl _) .nil)))
 refine .mk λx8=>?_
 refine .mk ?_ ?_
 exact .mk (dX.bC (.cons (gJ rfl rfl rfl rfl rfl (Eq.symm rfl)) (.cons (.refl _) .nil)))
 refine .mk ?_
 refine .mk (λH hH _=>iH (y:=aP 3 aB.av ([a2]:List aB)) (jK (ps:=[(0,_)]) (rows:=[[int a2.aG,int a2.Value,int a2.bO]]) rfl Tryz.underlying121 BX (.cons rfl .nil) (by kernel_rfl) rfl rfl rfl) rfl) ?_
 refine .mk λp9=>?_
 refine .mk _ ⟨λ_=>eO.j5 2 rfl (mM rfl rfl (.cons rfl .nil) wZ (nC (yL (id:=3) (l:=a1) rfl p9) (.cons (gJ rfl rfl rfl rfl rfl (Eq.symm rfl)) .nil))),by rintro _ _ ⟨v10,rfl,rfl⟩;exact ⟨rfl,trivial⟩⟩ ?_
 rintro _ _ ⟨v10,rfl,rfl⟩
 refine .mk λx11 e11=>?_
 refine .mk λrR=>?_
 refine .mk _ ⟨λ_=>kY (g:=aB.av) (l:=a1) (m:=([a2]:List aB)) .any rfl Tryz.underlying121 BX SI rfl rfl rfl rfl rfl rfl rfl rfl rfl rfl (Eq.symm rfl) (.refl _) (λ_=>rfl) e11 rR,by rintro _ _ ⟨v13,-,rfl,rfl⟩;exact trivial⟩ ?_
 rintro _ _ ⟨v13,-,rfl,rfl⟩
 refine .mk (λx14 e14=>?_) rfl (by rintro _ rfl;exact (.cons (gJ rfl rfl rfl rfl rfl (Eq.symm rfl)) .nil))
 refine .mk λx15=>?_
 refine .mk ?_ ?_
 exact .mk (dX.bC (.cons (gJ rfl rfl rfl rfl rfl (Eq.symm rfl)) (.cons (.refl _) .nil)))
 exact .mk (dX.bC (.cons (gJ rfl rfl rfl rfl rfl (Eq.symm rfl)) (.cons (.refl _) .nil)))
def UC (n:Nat) (a1:List aB) (a2:aB):WT Tryz.prog (.b ((List aB)×Int)) :=
 .al 1<|.dr [(3,[1])] [] [1] [0] [2,3,0,1,4,5,6,7,8,9] (.inl 10 ID Tryz.func284 [1] [] (λ_ (a:Unit)=>.agg [.fn (.func 272) [] [],.fn (.func 273) [] [],.fn (.func 220) [] []]) (λ_ _=>[]) (.al 2<|.ret ()) (λ_=>.cl 14 (DO n a1 a2) aFF VO λx5=>.bB 18 (decide (x5.2≠0)) λx6=>.ifs [18] x6 (.ret ((x5.1:List aB),x5.2)) (.inl 22 ID Tryz.func284 [1] [] (λ_ (a:Unit)=>.agg [.fn (.func 272) [] [],.fn (.func 273) [] [],.fn (.func 220) [] []]) (λ_ _=>[]) (.al 3<|.ret ()) (λ_=>.cl 25 (AA n x5.1) V4 aAO λx8=>.al 4<|.bB 29 (decide (x8.2≠0)) λx10=>.ifs [29] x10 (.as (a1.length<=68719476736) inferInstance<|.ge 31 5<|.ret ((a1:List aB),x8.2)) (.to 34 (aP 3 aB.av ([x8.1]:List aB))<|.ret ((([x8.1]:List aB):List aB),0))))))
def AJ (n:Nat) (a1:List aB) (a2:aB):Option ((List aB)×Int):=(UC n a1 a2).run
theorem O5 {n a1 a2 r} (h0:AJ n a1 a2=some r):PP Tryz.prog 282 [aP 3 aB.av a1,.agg (aB.av a2)] (λy=>y=.bC [aP 3 aB.av r.1,int r.2]) :=
 bU mixed bR (λr:(List aB)×Int=>.bC [aP 3 aB.av r.1,int r.2]) h0 Tryz.func282 (λr=>.bC (gD ((iJ aB.dH) (r.1)) (bT (r.2)))) 100000 au
def aGH (n:Nat) (a1:aH) (a2:aB):WT Tryz.prog (.b (aH×Int)) :=
 .al 1<|.al 2<|.al 3<|.cl 12 (AJ n a1.aW a2) RF O5 λx6=>.cl 17 (uN a1 x6.1) ED EP λx7=>.ret ((x7:aH),x6.2)
def JG (n:Nat) (a1:aH) (a2:aB):Option (aH×Int):=(aGH n a1 a2).run
theorem aQ5 {n a1 a2 r} (h0:JG n a1 a2=some r):PP Tryz.prog 287 [.agg (aH.av a1),.agg (aB.av a2)] (λy=>y=.bC [.agg (aH.av r.1),int r.2]) :=
 bU mixed bR (λr:aH×Int=>.bC [.agg (aH.av r.1),int r.2]) h0 Tryz.func287 (λr=>.bC (gD ((λ(a:aH)=>PV.agg (aH.dH a)) (r.1)) (bT (r.2)))) 100000 au
def aES (n:Nat) (a1:List aB) (a2:aB) (a3:Int):WT Tryz.prog (.b ((List aB)×Int×Int)) :=
 .al 1<|.as (a1.length<=68719476736) inferInstance<|.ge 16 2<|.jn 1 [0,2,4,6,7,8,10] [1,2] [] (λ_ (a:Bool)=>[(30,aT a)]) (λ_ _=>[]) (.cl 19 (EA a3) WX VS λx7=>.bB 20 (!x7) λx8=>.ifs [20] x8 (.ret true) (.bB 24 (decide (a2.aG<1)) λx9=>.ifs [24] x9 (.ret true) (.bB 29 (decide (a2.Value<0)) λx10=>.ret x10))) (λy0_1=>.ifs [30] y0_1 (.ret ((a1:List aB),0,1)) (.cl 37 (DC n a3 a2.aG) aA7 aE5 λx11=>.jn 0 [0,4,6,7,8,11] [1,2] [] (λ_ (a:Bool)=>[(46,aT a)]) (λ_ _=>[]) (.bB 41 (decide (x11.2≠0)) λx12=>.ifs [41] x12 (.ret true) (.bB 45 (decide (a2.Value>288230376151711744)) λx13=>.ret x13)) (λy1_1=>.ifs [46] y1_1 (.ret ((a1:List aB),0,2)) (.bI 51 (bA (a2.Value-x11.1)) λx14=>.j5 2<|.cl 57 (AJ n a1 (⟨a2.aG,x11.1,a2.bO⟩:aB)) RF O5 λx15=>.bB 61 (decide (x15.2≠0)) λx16=>.ifs [61] x16 (.ret ((a1:List aB),0,x15.2)) (.ret ((x15.1:List aB),x14,0))))))
def MO (n:Nat) (a1:List aB) (a2:aB) (a3:Int):Option ((List aB)×Int×Int):=(aES n a1 a2 a3).run
theorem aVH {n:Nat} {a1:List aB} {a2:aB} {a3:Int} {r:(List aB)×Int×Int} (h0:MO n a1 a2 a3=some r):PP Tryz.prog 291 [aP 3 aB.av a1,.agg (aB.av a2),int a3] (λy=>y=.bC [aP 3 aB.av r.1,int r.2.1,int r.2.2]):=by
 refine bU mixed bR (λ(r:(List aB)×Int×Int)=>.bC [aP 3 aB.av r.1,int r.2.1,int r.2.2]) h0 Tryz.func291 (λr=>.bC (nM ((iJ aB.dH) (r.1)) (bT (r.2.1)) (bT (r.2.2)))) 100000 ?_
 intro v4
 refine .mk λp5=>?_
 refine .mk _ ⟨λ_=>mM rfl rfl (.cons rfl .nil) wZ (nC (yL (id:=2) (l:=a1) rfl p5) (.cons (.refl _) .nil)),λ_ _ _=>trivial⟩ ?_
 rintro _ _ ⟨v6,rfl,rfl⟩
 refine .mk ?_ ?_
 refine .mk λx7 e7=>?_
 refine .mk λx8=>?_
 refine .mk .mk ?_
 refine .mk λx9=>?_
 refine .mk .mk ?_
 refine .mk λx10=>?_
 exact .mk
 intro _ _
 refine .mk ?_ ?_
 exact .mk (dX.bC (.cons (gJ rfl rfl rfl rfl rfl (Eq.symm rfl)) (.cons (.refl _) (.cons (.refl _) .nil))))
 refine .mk λx11 e11=>?_
 refine .mk ?_ ?_
 refine .mk λx12=>?_
 refine .mk .mk ?_
 refine .mk λx13=>?_
 exact .mk
 intro _ _
 refine .mk ?_ ?_
 exact .mk (dX.bC (.cons (gJ rfl rfl rfl rfl rfl (Eq.symm rfl)) (.cons (.refl _) (.cons (.refl _) .nil))))
 refine .mk λx14=>?_
 refine .mk (λx15 e15=>?_) rfl (by rintro _ rfl;exact (.cons (gJ rfl rfl rfl rfl rfl (Eq.symm rfl)) (.cons (.refl _) .nil)))
 refine .mk λx16=>?_
 refine .mk ?_ ?_
 exact .mk (dX.bC (.cons (gJ rfl rfl rfl rfl rfl (Eq.symm rfl)) (.cons (.refl _) (.cons (.refl _) .nil))))
 exact .mk
def aGB (n:Nat) (a1:Int) (a2:Int) (a3:aH) (a4:aB):WT Tryz.prog (.b (aH×Int×Int)) :=
 .al 1<|.al 2<|.al 3<|.inl 17 ZH Tryz.func213 [1,2,3] [] (B:=(Unit)⊕(Unit)⊕(Unit)⊕(Unit)⊕(Unit)) (λu2=>Sum.elim (λa=>.iM 243 (.agg [])) (Sum.elim (λa=>.iM 244 (.agg [])) (Sum.elim (λa=>.iM 245 (.agg [])) (Sum.elim (λa=>.iM 247 (.agg [int a2])) (λa=>.sc .nilIface))))) (λu2=>Sum.elim (λa=>[]) (Sum.elim (λa=>[]) (Sum.elim (λa=>[]) (Sum.elim (λa=>[]) (λa=>[]))))) (.bB 7 (decide (a1=1)) λx8=>.ifs [7] x8 (.gv 9<|.ret (.inl ())) (.bB 11 (decide (a1=2)) λx9=>.ifs [11] x9 (.gv 13<|.ret (.inr (.inl ()))) (.bB 15 (decide (a1=3)) λx10=>.ifs [15] x10 (.gv 17<|.ret (.inr (.inr (.inl ())))) (.bB 19 (decide (a1=4)) λx11=>.ifs [19] x11 (.gv 22<|.ret (.inr (.inr (.inr (.inl ()))))) (.ret (.inr (.inr (.inr (.inr ()))))))))) (Sum.elim (λ_=>.gv 19<|.iv 26 aOD aS1 Tryz.func270 [1,2,3] [] (λ_ (a:aH×Int)=>.bC [.agg [aP 3 aB.av a.1.aW,int a.1.bN.a0,int a.1.bN.a1,int a.1.bN.a2],int 0,int a.2]) (λ_ _=>[]) (.al 9<|.al 10<|.al 11<|.al 12<|.cl 15 (DO n a3.aW a4) aFF VO λx16=>.cl 20 (wL a3 x16.1) xE yT λx17=>.ret ((x17:aH),x16.2)) (pw λy6_1 y6_2=>.al 8<|.bB 31 (decide (y6_2≠0)) λx19=>.ifs [31] x19 (.cl 33 (nD a3) oH oU λx20=>.ret ((x20:aH),0,y6_2)) (.ret ((y6_1:aH),0,0)))) (Sum.elim (λ_=>.gv 19<|.iv 26 aUE aS0 Tryz.func280 [1,2,3] [] (λ_ (a:aH×Int)=>.bC [.agg [aP 3 aB.av a.1.aW,int a.1.bN.a0,int a.1.bN.a1,int a.1.bN.a2],int 0,int a.2]) (λ_ _=>[]) (.al 17<|.al 18<|.al 19<|.al 20<|.cl 15 (AJ n a3.aW a4) RF O5 λx25=>.cl 20 (wL a3 x25.1) xE yT λx26=>.ret ((x26:aH),x25.2)) (pw λy8_1 y8_2=>.al 8<|.bB 31 (decide (y8_2≠0)) λx28=>.ifs [31] x28 (.cl 33 (nD a3) oH oU λx29=>.ret ((x29:aH),0,y8_2)) (.ret ((y8_1:aH),0,0)))) (Sum.elim (λ_=>.gv 19<|.iv 26 aTQ aOH Tryz.func285 [1,2,3] [] (λ_ (a:aH×Int)=>.bC [.agg [aP 3 aB.av a.1.aW,int a.1.bN.a0,int a.1.bN.a1,int a.1.bN.a2],int 0,int a.2]) (λ_ _=>[]) (.al 25<|.al 26<|.al 27<|.al 28<|.cl 13 (JG n a3 a4) aSR aQ5 λx34=>.ret ((x34.1:aH),x34.2)) (pw λy10_1 y10_2=>.al 8<|.bB 31 (decide (y10_2≠0)) λx36=>.ifs [31] x36 (.cl 33 (nD a3) oH oU λx37=>.ret ((x37:aH),0,y10_2)) (.ret ((y10_1:aH),0,0)))) (Sum.elim (λ_=>.gv 19<|.iv 26 aMU aWO Tryz.func289 [1,2,3] [] (λ_ (a:aH×Int×Int)=>.bC [.agg [aP 3 aB.av a.1.aW,int a.1.bN.a0,int a.1.bN.a1,int a.1.bN.a2],int a.2.1,int a.2.2]) (λ_ _=>[]) (.al 33<|.al 34<|.al 35<|.al 36<|.cl 18 (MO n a3.aW a4 a2) aG0 aVH λx42=>.cl 24 (wL a3 x42.1) xE yT λx43=>.ret ((x43:aH),x42.2.1,x42.2.2)) (pw λy12_1 q0=>(pw λy12_2 y12_3=>.al 8<|.bB 31 (decide (y12_3≠0)) λx45=>.ifs [31] x45 (.cl 33 (nD a3) oH oU λx46=>.ret ((x46:aH),0,y12_3)) (.ret ((y12_1:aH),y12_2,0))) q0)) (λ_=>.gv 19<|.cl 21 (nD a3) oH oU λx47=>.ret ((x47:aH),0,12))))))
def aDJ (n:Nat) (a1:Int) (a2:Int) (a3:aH) (a4:aB):Option (aH×Int×Int):=(aGB n a1 a2 a3 a4).run
theorem aY8 {n a1 a2 a3 a4 r} (h0:aDJ n a1 a2 a3 a4=some r):PP Tryz.prog 164 [int a1,int a2,.agg (aH.av a3),.agg (aB.av a4)] (λy=>y=.bC [.agg (aH.av r.1),int r.2.1,int r.2.2]) :=
 bU mixed bR (λr:aH×Int×Int=>.bC [.agg (aH.av r.1),int r.2.1,int r.2.2]) h0 Tryz.func164 (λr=>.bC (nM ((λ(a:aH)=>PV.agg (aH.dH a)) (r.1)) (bT (r.2.1)) (bT (r.2.2)))) 100000 au
def aY5 (n:Nat) (a1:aA) (a2:Int) (a3:Int):WT Tryz.prog (.b (aB×Bool)) :=
 .al 1<|.al 2<|.jn 2 [6,7] [2] [7,8,9] (λu2 (a:(List Int)×(List Int)×(List Int))=>[(8,.sl 7 (u2 7) 0 a.1.length),(9,.sl 8 (u2 8) 0 a.2.1.length),(10,.sl 9 (u2 9) 0 a.2.2.length)]) (λ_ a=>[.nw 7 3 1 (a.1.map fI),.nw 8 3 1 (a.2.1.map fI),.nw 9 3 1 (a.2.2.map fI)]) (.no 8 7 3 1<|.no 9 8 3 1<|.no 10 9 3 1<|.lp [1,2,3,6,7] [1,2] [7,8,9] (λu3 (a:Int×(List Int)×(List Int)×(List Int))=>[(8,.sl 7 (u3 7) 0 a.2.1.length),(9,.sl 8 (u3 8) 0 a.2.2.1.length),(10,.sl 9 (u3 9) 0 a.2.2.2.length),(20,int a.1)]) (λ_ a=>[.nw 7 3 1 (a.2.1.map fI),.nw 8 3 1 (a.2.2.1.map fI),.nw 9 3 1 (a.2.2.2.map fI)]) n ((0:Int),(([]:List Int):List Int),(([]:List Int):List Int),(([]:List Int):List Int)) (pw λy0_4 q0=>(pw λy0_5 q1=>(pw λy0_6 y0_7=>.bB 21 (decide (y0_4<2)) λx9=>.ifs [21] x9 (.cl 28 (aFH a1 a2 a3 y0_4) aX0 aWD λx10=>.cl 30 (AA n x10.aW) V4 aAO λx11=>.al 3<|.dr [(1,[3]),(2,[3]),(6,[3]),(7,[3]),(11,[3]),(12,[3])] [(14,[])] [3] [4,9,14] [0,1,2,3,5,6,7,8,10,11,12,13,4,9,14,15,16,17] (.to 36 (aP 1 fI ([x11.1.aG]:List Int))<|.to 41 (aP 1 fI ([x11.1.Value]:List Int))<|.to 46 (aP 1 fI ([x11.1.bO]:List Int))<|.bl (y0_5++([x11.1.aG]:List Int):List Int) λx13=>.as (x13.length<=68719476736) inferInstance<|.ge 37 0<|.bl (y0_6++([x11.1.Value]:List Int):List Int) λx16=>.as (x16.length<=68719476736) inferInstance<|.ge 42 0<|.bl (y0_7++([x11.1.bO]:List Int):List Int) λx19=>.as (x19.length<=68719476736) inferInstance<|.ge 47 0<|.bI 48 (bA (y0_4+1)) λx22=>.brk ((x22:Int),x13,x16,x19))) (.esc (.ret ((y0_5:List Int),y0_6,y0_7)))) q1) q0)) (pw λy1_4 q0=>(pw λy1_5 y1_6=>.kS 51 (uD n y1_4) CQ FD (λ_=>rfl) λx23=>.kS 56 (uD n y1_5) CQ FD (λ_=>rfl) λx24=>.kS 61 (uD n y1_6) CQ FD (λ_=>rfl) λx25=>.bl (if x25.2>(if x24.2>x23.2 then x24.2 else x23.2) then x25.2 else (if x24.2>x23.2 then x24.2 else x23.2):Int) λx26=>.gv 71<|.bB 72 (decide (x26=0)) λx27=>.ret (((⟨x23.1,x24.1,x25.1⟩:aB):aB),x27)) q0)
def aPI (n:Nat) (a1:aA) (a2:Int) (a3:Int):Option (aB×Bool):=(aY5 n a1 a2 a3).run
theorem aZS {n a1 a2 a3 r} (h0:aPI n a1 a2 a3=some r):PP Tryz.prog 165 [.agg (aA.av a1),int a2,int a3] (λy=>y=.bC [.agg (aB.av r.1),aT r.2]) :=
 bU mixed bR (λr:aB×Bool=>.bC [.agg (aB.av r.1),aT r.2]) h0 Tryz.func165 (λr=>.bC (gD ((λ(a:aB)=>PV.agg (aB.dH a)) (r.1)) (gF (r.2)))) 100000 au
def aY2 (n:Nat) (a1:aA) (a2:Int) (a3:Int):WT Tryz.prog (.b (Bool)) :=
 .al 1<|.jn 2 [6] [] [4] (λu14 (a:(List Int))=>[(7,.sl 4 (u14 4) 0 a.length)]) (λ_ a=>[.nw 4 3 1 (a.map fI)]) (.no 7 4 3 1<|.lp [1,2,3,6] [1] [4] (λu18 (a:Int×(List Int))=>[(7,.sl 4 (u18 4) 0 a.2.length),(13,int a.1)]) (λ_ a=>[.nw 4 3 1 (a.2.map fI)]) n ((0:Int),(([]:List Int):List Int)) (pw λy0_2 y0_3=>.bB 14 (decide (y0_2<2)) λx6=>.ifs [14] x6 (.jn 1 [1,2,3,6,13] [1] [4] (λu21 (a:(List Int))=>[(7,.sl 4 (u21 4) 0 a.length)]) (λ_ a=>[.nw 4 3 1 (a.map fI)]) (.cl 20 (aFH a1 a2 a3 y0_2) aX0 aWD λx7=>.ln 22 aB.av x7.aW<|.jn 0 [1,2,3,6,13] [1] [4] (λu23 (a:(List Int))=>[(7,.sl 4 (u23 4) 0 a.length)]) (λ_ a=>[.nw 4 3 1 (a.map fI)]) (.lp [1,2,3,6,13,21,22] [1] [4] (λu24 (a:Int×(List Int))=>[(7,.sl 4 (u24 4) 0 a.2.length),(23,int a.1)]) (λ_ a=>[.nw 4 3 1 (a.2.map fI)]) n ((0:Int),y0_3) (pw λy1_2 y1_3=>.bB 24 (decide (y1_2<(x7.aW.length:Int))) λx8=>.ifs [24] x8 (.ix 25 aB.av x7.aW y1_2 λx9=>.al 2<|.bI 32 (bA (0-x9.bO)) λx11=>.bl (if x11>x9.bO then x11 else x9.bO:Int) λx12=>.gv 33<|.to 34 (aP 1 fI ([x12]:List Int))<|.bl (y1_3++([x12]:List Int):List Int) λx13=>.as (x13.length<=68719476736) inferInstance<|.ge 35 0<|.bI 36 (bA (y1_2+1)) λx16=>.brk ((x16:Int),x13)) (.esc (.ret y1_3)))) (λy2_2=>.ret y2_2)) (λy3_2=>.bI 37 (bA (y0_2+1)) λx17=>.brk ((x17:Int),y3_2))) (.esc (.ret y0_3)))) (λy4_2=>.kS 40 (uD n y4_2) CQ FD (λ_=>rfl) λx18=>.bB 44 (decide (x18.2=0)) λx19=>.ret ((x19:Bool)))
def aPB (n:Nat) (a1:aA) (a2:Int) (a3:Int):Option (Bool):=(aY2 n a1 a2 a3).run
theorem a0M {n a1 a2 a3 r} (h0:aPB n a1 a2 a3=some r):PP Tryz.prog 166 [.agg (aA.av a1),int a2,int a3] (λy=>y=aT r) :=
 bU mixed bR (λr:Bool=>aT r) h0 Tryz.func166 (λr=>gF r) 100000 au
def aUT (n:Nat) (a1:aA) (a2:Int) (a3:Int) (a4:Int) (a5:aB):WT Tryz.prog (.b (aA×Int×Int×Int)) :=
 .al 1<|.al 2<|.al 3<|.cl 24 (J8 a1 a2 a3 a4) aUB aXE λx9=>.bB 26 (decide (x9<0)) λx10=>.ifs [26] x10 (.ret ((a1:aA),0,0,4)) (.dr [(0,[1]),(1,[1]),(2,[1]),(9,[1]),(10,[1]),(11,[1]),(18,[1]),(19,[1]),(27,[2])] [(34,[])] [1,2] [33,34] [0,1,2,3,4,5,6,7,8,9,10,11,12,13,14,15,16,17,18,19,20,21,22,23,24,25,26,27,28,29,30,31,32,33,34,35,36] (.ix 33 (fL 1 fI) a1.bH.Methods a2 λx11=>.ix 36 fI x11 a3 λx12=>.ix 42 (fL 1 fI) a1.bH.gL a2 λx13=>.ix 45 fI x13 a3 λx14=>.iF 50 aQ.av gE aQ.fF a1.bD a2 λx15=>.ix 54 aH.av x15.bX x9 λx16=>.cl 57 (aDJ n x12 x14 x16 a5) aZT aY8 λx17=>.al 4<|.bB 62 (decide (x17.2.2≠0)) λx19=>.ifs [62] x19 (.ret ((a1:aA),0,0,x17.2.2)) (.al 5<|.inl 70 aRV Tryz.func155 [1,2,3,4] [7,8] (λ_ (a:Int×Bool×(List Int)×(List cO)×(List Int)×(List Int)×(List aQ)×(List aH))=>.bC []) (λu4 a=>[.kp 5 [[int a1.bH.gG,int a1.bH.gQ,aP 1 fI a1.bH.bZ,aP 1 (fL 1 fI) a1.bH.Methods,aP 1 (fL 1 fI) a1.bH.gL,.sl 7 (u4 7) 0 a1.bD.length,aP 8 dG.av a1.bY,aP 9 eZ.av a1.eF,aP 6 fT.av a1.dL,int a1.Done]],.nw 7 60 8 ((a1.bD.map aQ.av).set (Int.toNat a2) [int a.1,aT a.2.1,.sl 8 (u4 8) 0 a.2.2.2.2.2.2.2.length,aP 1 fI a.2.2.1,aP 11 cO.av a.2.2.2.1,aP 1 fI a.2.2.2.2.1,aP 1 fI a.2.2.2.2.2.1,aP 8 aQ.av a.2.2.2.2.2.2.1]),.nw 8 124 4 (a.2.2.2.2.2.2.2.map aH.av)]) (.al 6<|.inl 11 QO Tryz.func152 [1,2,3,4,6] [7] (λu6 (a:Unit)=>.pt 7 (u6 7) (Int.toNat a2) 0) (λu6 _=>[.kp 5 [[int a1.bH.gG,int a1.bH.gQ,aP 1 fI a1.bH.bZ,aP 1 (fL 1 fI) a1.bH.Methods,aP 1 (fL 1 fI) a1.bH.gL,.sl 7 (u6 7) 0 a1.bD.length,aP 8 dG.av a1.bY,aP 9 eZ.av a1.eF,aP 6 fT.av a1.dL,int a1.Done]],.nw 7 60 8 (a1.bD.map aQ.av)]) (.as (a1.bD.length<=68719476736) inferInstance<|.ge 11 7<|.bo (ix a1.bD a2) λx24=>.gv 21<|.ret ()) (λ_=>.bo (ix a1.bD a2) λx25=>.gv 14<|.gv 15<|.gv 16<|.as (x25.bX.length<=68719476736) inferInstance<|.ge 17 8<|.gv 18<|.gv 19<|.ge 1002008 0<|.dr [(1,[7]),(2,[7]),(3,[7]),(5,[6]),(6,[8])] [(7,[])] [6,7,8] [7] [0,1,2,3,4,5,6,7] (.gv 21<|.gv 22<|.gv 23<|.bo (ix x25.bX x9) λx28=>.gv 26<|.bl (x25.bX.set (Int.toNat x9) x17.1:List aH) λx29=>.ge 1003007 0<|.ret ((x25.fU:Int),(x25.Closed:Bool),(x25.dR:List Int),(x25.dQ:List cO),(x25.gI:List Int),(x25.Down:List Int),(x25.fV:List aQ),x29)))) (pw λy1_2 q0=>(pw λy1_3 q1=>(pw λy1_5 q2=>(pw λy1_6 q3=>(pw λy1_7 q4=>(pw λy1_8 q5=>(pw λy1_9 y1_10=>.bo (ix a1.bD a2) λx30=>.kS 76 (aPI n (⟨a1.bH,(a1.bD.set (Int.toNat a2) (⟨y1_2,y1_3,y1_10,y1_5,y1_6,y1_7,y1_8,y1_9⟩:aQ)),a1.bY,a1.eF,a1.dL,a1.Done⟩:aA) a2 a3) aZ6 aZS (λ_=>rfl) λx31=>.al 9<|.jn 0 [5,9,10,11,12,13,17] [1,2,3,5,7,8] [] (λ_ (a:Bool)=>[(88,aT a)]) (λ_ _=>[]) (.bB 80 (!x31.2) λx33=>.ifs [80] x33 (.ret true) (.kS 86 (aPB n (⟨a1.bH,(a1.bD.set (Int.toNat a2) (⟨y1_2,y1_3,y1_10,y1_5,y1_6,y1_7,y1_8,y1_9⟩:aQ)),a1.bY,a1.eF,a1.dL,a1.Done⟩:aA) a2 a3) a0U a0M (λ_=>rfl) λx34=>.bB 87 (!x34) λx35=>.ret x35)) (λy2_1=>.ifs [88] y2_1 (.ret ((a1:aA),0,0,2)) (.dr [(0,[5]),(1,[5]),(2,[2]),(3,[2])] [(7,[2])] [2,5] [7] [0,1,2,3,4,5,6,7,8,9,10] (.bI 95 (bA (a5.Value-x17.2.1)) λx36=>.ret (((⟨a1.bH,(a1.bD.set (Int.toNat a2) (⟨y1_2,y1_3,y1_10,y1_5,y1_6,y1_7,y1_8,y1_9⟩:aQ)),a1.bY,a1.eF,a1.dL,a1.Done⟩:aA):aA),x36,x17.2.1,0))))) q5) q4) q3) q2) q1) q0))))
def aD3 (n:Nat) (a1:aA) (a2:Int) (a3:Int) (a4:Int) (a5:aB):Option (aA×Int×Int×Int):=(aUT n a1 a2 a3 a4 a5).run
theorem aZQ {n:Nat} {a1:aA} {a2:Int} {a3:Int} {a4:Int} {a5:aB} {r:aA×Int×Int×Int} (h0:aD3 n a1 a2 a3 a4 a5=some r):PP Tryz.prog 104 [.agg (aA.av a1),int a2,int a3,int a4,.agg (aB.av a5)] (λy=>y=.bC [.agg (aA.av r.1),int r.2.1,int r.2.2.1,int r.2.2.2]):=by
 refine bU mixed bR (λ(r:aA×Int×Int×Int)=>.bC [.agg (aA.av r.1),int r.2.1,int r.2.2.1,int r.2.2.2]) h0 Tryz.func104 (λr=>.bC (FI ((λ(a:aA)=>PV.agg (aA.dH a)) (r.1)) (bT (r.2.1)) (bT (r.2.2.1)) (bT (r.2.2.2)))) 100000 ?_
 intro v6
 intro v7
 intro v8
 refine .mk λx9 e9=>?_
 refine .mk λx10=>?_
 refine .mk .mk ?_
 refine .mk ?_
 refine .mk λx11 e11=>?_
 refine .mk λx12 e12=>?_
 refine .mk λx13 e13=>?_
 refine .mk λx14 e14=>?_
 refine .mk λx15 e15=>?_
 refine .mk λx16 e16=>?_
 refine .mk λx17 e17=>?_
 intro v18
 refine .mk λx19=>?_
 refine .mk .mk ?_
 intro v20
 refine .mk ?_ ?_
 intro v21
 refine .mk ?_ ?_
 refine .mk λp22=>?_
 refine .mk _ ⟨λ_=>mM rfl rfl (.cons rfl .nil) SA (nC (QV (id:=7) (l:=a1.bD) rfl p22) (.cons (.refl _) .nil)),λ_ _ _=>trivial⟩ ?_
 rintro _ _ ⟨v23,rfl,rfl⟩
 refine .mk λx24 e24=>?_
 refine .mk _ (eH (iL rfl Tryz.underlying27 qY rfl rfl rfl rfl rfl (Eq.symm rfl) (List.length_map _) e24)) ?_
 exact .mk
 intro _ _
 refine .mk trivial ?_
 refine .mk λx25 e25=>?_
 refine .mk _ (eH (lJ rfl rfl (.pt rfl rfl (jL e25 (aQ.fF _))))) ?_
 refine .mk _ (eH (gN rfl FM rfl (.pt rfl rfl (jL e25 (aQ.fF _))) (.pt _ _ _ _ _))) ?_
 refine .mk _ (eH (iK rfl E7 rfl (.pt rfl rfl (jL e25 (aQ.fF _))) rfl)) ?_
 refine .mk λp26=>?_
 refine .mk _ ⟨λ_=>mM rfl rfl (.cons rfl .nil) aSO (nC (aPW (id:=8) (l:=x25.bX) rfl p26) (.cons (.refl _) .nil)),λ_ _ _=>trivial⟩ ?_
 rintro _ _ ⟨v27,rfl,rfl⟩
 refine .mk _ (eH (lJ rfl rfl (.pt rfl rfl (jL e25 (aQ.fF _))))) ?_
 refine .mk _ (eH (gN rfl FM rfl (.pt rfl rfl (jL e25 (aQ.fF _))) (.pt _ _ _ _ _))) ?_
 refine .mk _ ⟨λ_=>eO.gK (iQ (ob':=(⟨60,8,true,true,_,(a1.bD.map aQ.av).set (Int.toNat a2) [int x25.fU,aT x25.Closed,.sl 8 v27 0 x25.bX.length,aP 1 fI x25.dR,aP 11 cO.av x25.dQ,aP 1 fI x25.gI,aP 1 fI x25.Down,aP 8 aQ.av x25.fV]⟩:cB)) (iG rfl E7 rfl rfl rfl rfl rfl (jL e25 (aQ.fF _)) rfl rfl rfl) (jJ rfl)) (λ_ h=>h) (λ_ _=>trivial),λ_ _ _=>trivial⟩ ?_
 rintro _ _ ⟨rfl,rfl⟩
 refine .mk ?_
 refine .mk _ (λH hH _=>lJ rfl rfl (.pt ((hH _ (by decide)).trans rfl) rfl (jV e25))) ?_
 refine .mk _ (λH hH _=>gN rfl FM rfl (.pt ((hH _ (by decide)).trans rfl) rfl (jV e25)) (.pt _ _ _ _ _)) ?_
 refine .mk _ (λH hH _=>iK rfl E7 rfl (.pt ((hH _ (by decide)).trans rfl) rfl (jV e25)) rfl) ?_
 refine .mk λx28 e28=>?_
 refine .mk _ (λH hH _=>iL rfl Tryz.underlying57 Y9 rfl rfl ((hH _ (by decide)).trans rfl) rfl rfl (Eq.symm rfl) (List.length_map _) e28) ?_
 refine .mk λx29 e29=>?_
 have fx29:=j6 e28 e29;have lx29:=jX e29 (rfl:x25.bX.length=x25.bX.length)
 refine .mk _ ⟨λ_=>eO.gK (iQ (ob':=(⟨124,4,true,true,_,x29.map aH.av⟩:cB)) (iG rfl Y9 rfl rfl rfl rfl rfl (fM e28) rfl rfl rfl) (jJ (kL e29))) (λ_ h=>h) (λ_ _=>trivial),by rintro _ _ ⟨rfl,rfl⟩;exact trivial⟩ ?_
 rintro _ _ ⟨rfl,rfl⟩
 exact .mk rfl ⟨rfl,(by first | rfl | exact lx29 ▸ rfl),rfl,rfl,rfl,rfl,rfl,trivial⟩
 intro _ _
 refine .mk trivial ?_
 refine .mk λx30 e30=>?_
 refine .mk (λx31 e31=>?_) rfl (by rintro _ rfl;exact (.cons (dX.agg (.cons (.refl _) (.cons (.refl _) (.cons (.refl _) (.cons (.refl _) (.cons (.refl _) (.cons (AP rfl rfl rfl rfl rfl (Eq.symm rfl) e30 (yA (.cons (.refl _) (.cons (.refl _) (.cons (gJ rfl rfl rfl rfl rfl (Eq.symm rfl)) (.cons (.refl _) (.cons (.refl _) (.cons (.refl _) (.cons (.refl _) (.cons (.refl _) .nil)))))))) (aQ.fF _))) (.cons (.refl _) (.cons (.refl _) (.cons (.refl _) (.cons (.refl _) .nil))))))))))) (.cons (.refl _) (.cons (.refl _) .nil))))
 intro v32
 refine .mk ?_ ?_
 refine .mk λx33=>?_
 refine .mk .mk ?_
 refine .mk (λx34 e34=>?_) rfl (by rintro _ rfl;exact (.cons (dX.agg (.cons (.refl _) (.cons (.refl _) (.cons (.refl _) (.cons (.refl _) (.cons (.refl _) (.cons (AP rfl rfl rfl rfl rfl (Eq.symm rfl) e30 (yA (.cons (.refl _) (.cons (.refl _) (.cons (gJ rfl rfl rfl rfl rfl (Eq.symm rfl)) (.cons (.refl _) (.cons (.refl _) (.cons (.refl _) (.cons (.refl _) (.cons (.refl _) .nil)))))))) (aQ.fF _))) (.cons (.refl _) (.cons (.refl _) (.cons (.refl _) (.cons (.refl _) .nil))))))))))) (.cons (.refl _) (.cons (.refl _) .nil))))
 refine .mk λx35=>?_
 exact .mk
 intro _ _
 refine .mk .mk ?_
 refine .mk ?_
 refine .mk λx36=>?_
 exact .mk (dX.bC (.cons (dX.agg (.cons (.refl _) (.cons (.refl _) (.cons (.refl _) (.cons (.refl _) (.cons (.refl _) (.cons (AP rfl rfl rfl rfl rfl (Eq.symm rfl) e30 (yA (.cons (.refl _) (.cons (.refl _) (.cons (gJ rfl rfl rfl rfl rfl (Eq.symm rfl)) (.cons (.refl _) (.cons (.refl _) (.cons (.refl _) (.cons (.refl _) (.cons (.refl _) .nil)))))))) (aQ.fF _))) (.cons (.refl _) (.cons (.refl _) (.cons (.refl _) (.cons (.refl _) .nil))))))))))) (.cons (.refl _) (.cons (.refl _) (.cons (.refl _) .nil)))))
end
end Go.Pv
