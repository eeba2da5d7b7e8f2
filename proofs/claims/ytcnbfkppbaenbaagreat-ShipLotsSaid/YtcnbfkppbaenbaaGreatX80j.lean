import Derived.Test.YtcnbfkppbaenbaaGreatX80i
set_option linter.unusedVariables false
set_option linter.unusedSimpArgs false
namespace Go.Pv
open Go.Proofs
set_option maxRecDepth 100000
set_option maxHeartbeats 4000000
noncomputable section
def VQ (n:Nat) (a1:List aN):WT Tryz.prog (.b (Bool)) :=
 .jn 1 [0,2] [] [] (λ_ (a:Bool)=>[(13,aT a)]) (λ_ _=>[]) (.ln 7 aN.av a1<|.bB 8 (decide ((a1.length:Int)<1)) λx2=>.ifs [8] x2 (.ret true) (.ln 11 aN.av a1<|.bB 12 (decide ((a1.length:Int)>12)) λx3=>.ret x3)) (λy0_1=>.ifs [13] y0_1 (.ret ((false:Bool))) (.cl 16 (KH n a1) aL4 aJY λx4=>.jn 0 [] [] [] (λ_ (a:Bool)=>[(2,aT a)]) (λ_ _=>[]) (.inl 21 aGL Tryz.func200 [] [] (λ_ (a:Bool)=>aT a) (λ_ _=>[]) (.inl 7 OD Tryz.func240 [] [] (λ_ (a:Int)=>int a) (λ_ _=>[]) (.ln 7 aN.av a1<|.fD 0 [4] [] [] (λ_ (a:Unit)=>[]) (λ_ _=>[]) (.lp [0,1,4,7] [] [] (λ_ (a:Int)=>[(8,int a)]) (λ_ _=>[]) n 0 (λy1_1=>.bB 9 (decide (y1_1<(a1.length:Int))) λx5=>.ifs [9] x5 (.ix 14 aN.av a1 y1_1 λx6=>.cl 16 (JS x6) aHQ aNY λx7=>.ifs [16] x7 (.esc (.esc (.ret y1_1))) (.bI 18 (bA (y1_1+1)) λx8=>.brk x8)) (.esc (.brk ())))) (λ_=>.ret (-1))) (λy3_1=>.bB 8 (decide (y3_1>=0)) λx9=>.ret x9)) (λy4_1=>.bB 22 (!y4_1) λx10=>.ifs [22] x10 (.bB 25 (decide (x4.1=0)) λx11=>.ifs [25] x11 (.bB 29 (decide (x4.2=0)) λx12=>.ret x12) (.ret false)) (.ret false))) (λy5_1=>.ret ((y5_1:Bool)))))
def J9 (n:Nat) (a1:List aN):Option (Bool):=(VQ n a1).run
theorem aQC {n a1 r} (h0:J9 n a1=some r):PP Tryz.prog 211 [aP 2 aN.av a1] (λy=>y=aT r) :=
 bU mixed bR (λr:Bool=>aT r) h0 Tryz.func211 (λr=>gF r) 100000 au
def aEW (n:Nat) (a1:List Int) (a2:List aN):WT Tryz.prog (.b ((List Int)×Int)) :=
 .al 1<|.ln 7 fI a1<|.bB 8 (decide ((a1.length:Int)≠17)) λx4=>.ifs [8] x4 (.ret (([]:List Int),1)) (.inl 11 aXM Tryz.func209 [1] [2,4] (B:=(Int)⊕((List Int))) (λu8=>Sum.elim (λa=>.bC [.sl 4 (u8 4) 0 a1.length,int a]) (λa=>.bC [.sl 2 (u8 2) 0 a.length,int 0])) (λu8=>Sum.elim (λa=>[.nw 4 3 1 (a1.map fI)]) (λa=>[.nw 2 3 1 (a.map fI)])) (.as (a1.length<=68719476736) inferInstance<|.ge 9 2<|.inl 12 aWT Tryz.func210 [1] [] (λ_ (a:Int×(List Int))=>int a.1) (λ_ a=>[.kp 2 (a.2.map fI)]) (.cl 10 (vU n a2) XD aDO λx7=>.jn 0 [0,3,4] [1,2] [] (λ_ (a:Bool)=>[(24,aT a)]) (λ_ _=>[]) (.bB 14 (decide (x7.2≠0)) λx8=>.ifs [14] x8 (.ret true) (.ln 17 aN.av x7.1<|.bB 18 (decide ((x7.1.length:Int)>0)) λx9=>.ifs [18] x9 (.cl 21 (J9 n x7.1) aRU aQC λx10=>.bB 22 (!x10) λx11=>.ret x11) (.ret false))) (λy0_1=>.ifs [24] y0_1 (.ret ((10:Int),a1)) (.ln 26 aN.av x7.1<|.fD 0 [3] [1] [] (λ_ (a:(List Int))=>[]) (λ_ a=>[.kp 2 (a.map fI)]) (.lp [3,25,26] [1] [] (λu14 (a:Int×(List Int))=>[(0,.sl 2 (u14 2) 0 a.2.length),(27,int a.1)]) (λ_ a=>[.kp 2 (a.2.map fI)]) n ((0:Int),a1) (pw λy1_1 y1_2=>.bB 28 (decide (y1_1<(x7.1.length:Int))) λx12=>.ifs [28] x12 (.ix 29 aN.av x7.1 y1_1 λx13=>.al 3<|.dr [(1,[3]),(2,[3]),(4,[3]),(5,[3]),(6,[2]),(7,[2]),(8,[3]),(9,[3]),(14,[2])] [(15,[])] [2,3] [15] [0,1,2,3,4,5,6,7,8,9,10,11,12,13,14,15,16] (.bo (ix y1_2 x13.dI) λx15=>.gv 38<|.gv 39<|.cl 42 (mP x15 x13.bM) oK oO λx16=>.gv 45<|.bl (y1_2.set (Int.toNat x13.dI) x16.1:List Int) λx17=>.ge 1007015 0<|.bB 47 (decide (x16.2≠0)) λx18=>.ifs [47] x18 (.esc (.esc (.ret ((x16.2:Int),x17)))) (.bI 49 (bA (y1_1+1)) λx19=>.brk ((x19:Int),x17)))) (.esc (.brk y1_2)))) (λy2_1=>.ret ((0:Int),y2_1))))) (pw λy3_1 y3_2=>.bB 14 (decide (y3_1≠0)) λx20=>.ifs [14] x20 (.as (a1.length<=68719476736) inferInstance<|.ge 16 4<|.ret (.inl y3_1)) (.as (y3_2.length=a1.length) inferInstance<|.gv 18<|.ret (.inr y3_2)))) (Sum.elim (λy4_2=>.ret ((a1:List Int),y4_2)) (λy5_2=>.ret ((y5_2:List Int),0))))
def J6 (n:Nat) (a1:List Int) (a2:List aN):Option ((List Int)×Int):=(aEW n a1 a2).run
theorem aH3 {n:Nat} {a1:List Int} {a2:List aN} {r:(List Int)×Int} (h0:J6 n a1 a2=some r):PP Tryz.prog 151 [aP 1 fI a1,aP 2 aN.av a2] (λy=>y=.bC [aP 1 fI r.1,int r.2]):=by
 refine bU mixed bR (λ(r:(List Int)×Int)=>.bC [aP 1 fI r.1,int r.2]) h0 Tryz.func151 (λr=>.bC (gD ((iJ nV) (r.1)) (bT (r.2)))) 100000 ?_
 intro v3
 refine .mk ?_
 refine .mk λx4=>?_
 refine .mk ?_ ?_
 exact .mk (dX.bC (.cons (.nil _) (.cons (.refl _) .nil)))
 refine .mk ?_ ?_
 refine .mk λp5=>?_
 refine .mk _ ⟨λ_=>mM rfl rfl (.cons rfl .nil) Z7 (nC (V7 (id:=2) (l:=a1) rfl p5) (.cons (.refl _) .nil)),λ_ _ _=>trivial⟩ ?_
 rintro _ _ ⟨v6,rfl,rfl⟩
 refine .mk ?_ ?_
 refine .mk λx7 e7=>?_
 refine .mk ?_ ?_
 refine .mk λx8=>?_
 refine .mk .mk ?_
 refine .mk ?_
 refine .mk λx9=>?_
 refine .mk ?_ ?_
 refine .mk λx10 e10=>?_
 refine .mk λx11=>?_
 exact .mk
 exact .mk
 intro _ _
 refine .mk .mk ?_
 refine .mk ?_
 refine .mk ?_ ?_
 refine .mk ?_
 rintro ⟨y1_1,y1_2⟩ _
 refine .mk λx12=>?_
 refine .mk ?_ ?_
 refine .mk λx13 e13=>?_
 intro v14
 refine .mk ?_
 refine .mk λx15 e15=>?_
 refine .mk _ (λH hH _=>iL rfl Tryz.underlying22 fO rfl rfl ((hH _ (by decide)).trans rfl) rfl rfl (Eq.symm rfl) (List.length_map _) e15) ?_
 refine .mk _ (λH hH _=>iK rfl fO rfl (.pt ((hH _ (by decide)).trans rfl) rfl (fM e15)) rfl) ?_
 refine .mk λx16 e16=>?_
 refine .mk _ (λH hH _=>iL rfl Tryz.underlying22 fO rfl rfl ((hH _ (by decide)).trans rfl) rfl rfl (Eq.symm rfl) (List.length_map _) e15) ?_
 refine .mk λx17 e17=>?_
 have fx17:=j6 e15 e17;have lx17:=jX e17 (rfl:y1_2.length=y1_2.length)
 refine .mk _ ⟨λ_=>eO.gK (iQ (ob':=(⟨3,1,true,true,_,x17.map fI⟩:cB)) (iG rfl fO rfl rfl rfl rfl rfl (fM e15) rfl rfl rfl) (jJ (kL e17))) (λ_ h=>h) (λ_ _=>trivial),by rintro _ _ ⟨rfl,rfl⟩;exact trivial⟩ ?_
 rintro _ _ ⟨rfl,rfl⟩
 refine .mk λx18=>?_
 refine .mk .mk ?_
 refine .mk λx19=>?_
 exact .mk ⟨⟨⟨_,rfl,(qJ (Eq.symm lx17))⟩,⟨_,rfl,(.refl _)⟩,⟨_,rfl,(.refl _)⟩,⟨_,rfl,(.refl _)⟩,⟨_,rfl,(.refl _)⟩,trivial⟩,⟨⟨_,rfl,(.refl _)⟩,⟨_,rfl,(.refl _)⟩,trivial⟩⟩
 exact .mk
 intro _ _
 exact .mk
 intro _ _
 refine .mk trivial ?_
 refine .mk λx20=>?_
 refine .mk ?_ ?_
 refine .mk λp21=>?_
 refine .mk _ ⟨λ_=>mM rfl rfl (.cons rfl .nil) Z7 (nC (V7 (id:=4) (l:=a1) rfl p21) (.cons (.refl _) .nil)),λ_ _ _=>trivial⟩ ?_
 rintro _ _ ⟨v22,rfl,rfl⟩
 exact .mk
 refine .mk λp23=>?_
 refine .mk _ (eH (lD rfl rfl)) ?_
 exact .mk (aBU (Eq.symm p23)) ⟨rfl,rfl,trivial⟩
 rintro (y4_2 | y5_2) _
 refine .mk trivial ?_
 exact .mk (dX.bC (.cons (gJ rfl rfl rfl rfl rfl (Eq.symm rfl)) (.cons (.refl _) .nil)))
 refine .mk trivial ?_
 exact .mk (dX.bC (.cons (gJ rfl rfl rfl rfl rfl (Eq.symm rfl)) (.cons (.refl _) .nil)))
def C5 (n:Nat) (a1:aA) (a2:Int) (a3:List aN):WT Tryz.prog (.b (aA×Int)) :=
 .al 1<|.al 2<|.jn 0 [1,2,3,6,7] [1,2] [] (λ_ (a:Bool)=>[(20,aT a)]) (λ_ _=>[]) (.bB 13 (decide (a2<0)) λx6=>.ifs [13] x6 (.ret true) (.ln 18 aQ.av a1.bD<|.bB 19 (decide (a2>=(a1.bD.length:Int))) λx7=>.ret x7)) (λy0_1=>.ifs [20] y0_1 (.ret ((a1:aA),4)) (.cl 24 (vU n a3) XD aDO λx8=>.bB 28 (decide (x8.2≠0)) λx9=>.ifs [28] x9 (.ret ((a1:aA),x8.2)) (.iF 35 aQ.av gE aQ.fF a1.bD a2 λx10=>.cl 39 (J6 n x10.dR x8.1) aTV aH3 λx11=>.bB 43 (decide (x11.2≠0)) λx12=>.ifs [43] x12 (.ret ((a1:aA),x11.2)) (.al 3<|.inl 49 QO Tryz.func152 [1,2] [4] (λu3 (a:Unit)=>.pt 4 (u3 4) (Int.toNat a2) 0) (λu3 _=>[.kp 3 [[int a1.bH.gG,int a1.bH.gQ,aP 1 fI a1.bH.bZ,aP 1 (fL 1 fI) a1.bH.Methods,aP 1 (fL 1 fI) a1.bH.gL,.sl 4 (u3 4) 0 a1.bD.length,aP 8 dG.av a1.bY,aP 9 eZ.av a1.eF,aP 6 fT.av a1.dL,int a1.Done]],.nw 4 60 8 (a1.bD.map aQ.av)]) (.as (a1.bD.length<=68719476736) inferInstance<|.ge 11 4<|.bo (ix a1.bD a2) λx16=>.gv 21<|.ret ()) (λ_=>.bo (ix a1.bD a2) λx17=>.gv 51<|.gv 52<|.bl (a1.bD.set (Int.toNat a2) ((⟨x17.fU,x17.Closed,x17.bX,x11.1,x17.dQ,x17.gI,x17.Down,x17.fV⟩:aQ):aQ):List aQ) λx18=>.ge 1010005 0<|.ret (((⟨a1.bH,x18,a1.bY,a1.eF,a1.dL,a1.Done⟩:aA):aA),0))))))
def sW (n:Nat) (a1:aA) (a2:Int) (a3:List aN):Option (aA×Int):=(C5 n a1 a2 a3).run
theorem UE {n:Nat} {a1:aA} {a2:Int} {a3:List aN} {r:aA×Int} (h0:sW n a1 a2 a3=some r):PP Tryz.prog 91 [.agg (aA.av a1),int a2,aP 2 aN.av a3] (λy=>y=.bC [.agg (aA.av r.1),int r.2]):=by
 refine bU mixed bR (λ(r:aA×Int)=>.bC [.agg (aA.av r.1),int r.2]) h0 Tryz.func91 (λr=>.bC (gD ((λ(a:aA)=>PV.agg (aA.dH a)) (r.1)) (bT (r.2)))) 100000 ?_
 intro v4
 intro v5
 refine .mk ?_ ?_
 refine .mk λx6=>?_
 refine .mk .mk ?_
 refine .mk ?_
 refine .mk λx7=>?_
 exact .mk
 intro _ _
 refine .mk .mk ?_
 refine .mk λx8 e8=>?_
 refine .mk λx9=>?_
 refine .mk .mk ?_
 refine .mk λx10 e10=>?_
 refine .mk λx11 e11=>?_
 refine .mk λx12=>?_
 refine .mk .mk ?_
 intro v13
 refine .mk ?_ ?_
 refine .mk λp14=>?_
 refine .mk _ ⟨λ_=>mM rfl rfl (.cons rfl .nil) SA (nC (QV (id:=4) (l:=a1.bD) rfl p14) (.cons (.refl _) .nil)),λ_ _ _=>trivial⟩ ?_
 rintro _ _ ⟨v15,rfl,rfl⟩
 refine .mk λx16 e16=>?_
 refine .mk _ (eH (iL rfl Tryz.underlying27 qY rfl rfl rfl rfl rfl (Eq.symm rfl) (List.length_map _) e16)) ?_
 exact .mk
 intro _ _
 refine .mk trivial ?_
 refine .mk λx17 e17=>?_
 refine .mk _ (eH (lJ rfl rfl (.pt rfl rfl (jL e17 (aQ.fF _))))) ?_
 refine .mk _ (eH (gN rfl RO rfl (.pt rfl rfl (jL e17 (aQ.fF _))) (.pt _ _ _ _ _))) ?_
 refine .mk λx18 e18=>?_
 have fx18:=j6 e17 e18;have lx18:=jX e18 (rfl:a1.bD.length=a1.bD.length)
 refine .mk _ ⟨λ_=>eO.gK (iQ (ob':=(⟨60,8,true,true,_,x18.map aQ.av⟩:cB)) (iG rfl tZ rfl rfl rfl rfl rfl (jL e17 (aQ.fF _)) rfl rfl rfl) (jJ (VW e18 (aQ.fF _)))) (λ_ h=>h) (λ_ _=>trivial),λ_ _ _=>trivial⟩ ?_
 rintro _ _ ⟨rfl,rfl⟩
 exact .mk (dX.bC (.cons (dX.agg (.cons (.refl _) (.cons (.refl _) (.cons (.refl _) (.cons (.refl _) (.cons (.refl _) (.cons (gJ rfl rfl rfl rfl rfl (Eq.symm lx18)) (.cons (.refl _) (.cons (.refl _) (.cons (.refl _) (.cons (.refl _) .nil))))))))))) (.cons (.refl _) .nil)))
def SV (a1:aA) (a2:Int) (a3:Int) (a4:cO):WT Tryz.prog (.b (aA×Int)) :=
 .al 1<|.al 2<|.al 3<|.cl 21 (AT a1 a2 a3) QF OL λx8=>.bB 22 (!x8) λx9=>.ifs [22] x9 (.ret ((a1:aA),4)) (.iF 27 aQ.av gE aQ.fF a1.bD a2 λx10=>.ix 31 cO.av x10.dQ a3 λx11=>.al 4<|.inl 34 aIY Tryz.func156 [1,2,3,4] [] (λ_ (a:Unit)=>aP 1 fI ([a4.Open,a4.iW,a4.jH,a4.jG,a4.iY,a4.jF,a4.jE,a4.iX,a4.jC,a4.jD,a4.jB]:List Int)) (λ_ _=>[]) (.al 5<|.to 25 (aP 1 fI ([a4.Open,a4.iW,a4.jH,a4.jG,a4.iY,a4.jF,a4.jE,a4.iX,a4.jC,a4.jD,a4.jB]:List Int))<|.ret ()) (λ_=>.fD 0 [1,2,4,8,9,10] [1,3] [] (λ_ (a:cO)=>[]) (λ_ a=>[.kp 4 [[int a.Open,int a.iW,int a.jH,int a.jG,int a.iY,int a.jF,int a.jE,int a.iX,int a.jC,int a.jD,int a.jB]]]) (.un 24 (.kB 37 true<|.ix 39 fI ([a4.Open,a4.iW,a4.jH,a4.jG,a4.iY,a4.jF,a4.jE,a4.iX,a4.jC,a4.jD,a4.jB]:List Int) 0 λx14=>.inl 41 qO Tryz.func157 [1,2,3,4] [] (λu51 (a:Unit)=>.list 1 [[.pt 4 (u51 4) 0 0],[.pt 4 (u51 4) 0 1],[.pt 4 (u51 4) 0 2],[.pt 4 (u51 4) 0 3],[.pt 4 (u51 4) 0 4],[.pt 4 (u51 4) 0 5],[.pt 4 (u51 4) 0 6],[.pt 4 (u51 4) 0 7],[.pt 4 (u51 4) 0 8],[.pt 4 (u51 4) 0 9],[.pt 4 (u51 4) 0 10]]) (λ_ _=>[]) (.dr [(1,[4]),(2,[4]),(4,[4]),(5,[4]),(7,[4]),(8,[4]),(10,[4]),(11,[4]),(13,[4]),(14,[4]),(16,[4]),(17,[4]),(19,[4]),(20,[4]),(22,[4]),(23,[4]),(25,[4]),(26,[4]),(28,[4]),(29,[4]),(31,[4]),(32,[4])] [] [4] [] [0,1,2,3,4,5,6,7,8,9,10,11,12,13,14,15,16,17,18,19,20,21,22,23,24,25,26,27,28,29,30,31,32,33,34] (.gv 36<|.ret ())) (λ_=>.gv 43<|.cl 50 (mP x11.Open x14) oK oO λx15=>.bB 54 (decide (x15.2≠0)) λx16=>.ifs [54] x16 (.esc (.ret ((a1:aA),x15.2))) (.kI 60 1<|.kB 37 true<|.ix 39 fI ([a4.Open,a4.iW,a4.jH,a4.jG,a4.iY,a4.jF,a4.jE,a4.iX,a4.jC,a4.jD,a4.jB]:List Int) 1 λx17=>.inl 41 qO Tryz.func157 [1,2,3,4] [] (λu55 (a:Unit)=>.list 1 [[.pt 4 (u55 4) 0 0],[.pt 4 (u55 4) 0 1],[.pt 4 (u55 4) 0 2],[.pt 4 (u55 4) 0 3],[.pt 4 (u55 4) 0 4],[.pt 4 (u55 4) 0 5],[.pt 4 (u55 4) 0 6],[.pt 4 (u55 4) 0 7],[.pt 4 (u55 4) 0 8],[.pt 4 (u55 4) 0 9],[.pt 4 (u55 4) 0 10]]) (λ_ _=>[]) (.dr [(1,[4]),(2,[4]),(4,[4]),(5,[4]),(7,[4]),(8,[4]),(10,[4]),(11,[4]),(13,[4]),(14,[4]),(16,[4]),(17,[4]),(19,[4]),(20,[4]),(22,[4]),(23,[4]),(25,[4]),(26,[4]),(28,[4]),(29,[4]),(31,[4]),(32,[4])] [] [4] [] [0,1,2,3,4,5,6,7,8,9,10,11,12,13,14,15,16,17,18,19,20,21,22,23,24,25,26,27,28,29,30,31,32,33,34] (.gv 36<|.ret ())) (λ_=>.gv 43<|.cl 50 (mP x11.iW x17) oK oO λx18=>.bB 54 (decide (x18.2≠0)) λx19=>.ifs [54] x19 (.esc (.ret ((a1:aA),x18.2))) (.kI 60 2<|.kB 37 true<|.ix 39 fI ([a4.Open,a4.iW,a4.jH,a4.jG,a4.iY,a4.jF,a4.jE,a4.iX,a4.jC,a4.jD,a4.jB]:List Int) 2 λx20=>.inl 41 qO Tryz.func157 [1,2,3,4] [] (λu59 (a:Unit)=>.list 1 [[.pt 4 (u59 4) 0 0],[.pt 4 (u59 4) 0 1],[.pt 4 (u59 4) 0 2],[.pt 4 (u59 4) 0 3],[.pt 4 (u59 4) 0 4],[.pt 4 (u59 4) 0 5],[.pt 4 (u59 4) 0 6],[.pt 4 (u59 4) 0 7],[.pt 4 (u59 4) 0 8],[.pt 4 (u59 4) 0 9],[.pt 4 (u59 4) 0 10]]) (λ_ _=>[]) (.dr [(1,[4]),(2,[4]),(4,[4]),(5,[4]),(7,[4]),(8,[4]),(10,[4]),(11,[4]),(13,[4]),(14,[4]),(16,[4]),(17,[4]),(19,[4]),(20,[4]),(22,[4]),(23,[4]),(25,[4]),(26,[4]),(28,[4]),(29,[4]),(31,[4]),(32,[4])] [] [4] [] [0,1,2,3,4,5,6,7,8,9,10,11,12,13,14,15,16,17,18,19,20,21,22,23,24,25,26,27,28,29,30,31,32,33,34] (.gv 36<|.ret ())) (λ_=>.gv 43<|.cl 50 (mP x11.jH x20) oK oO λx21=>.bB 54 (decide (x21.2≠0)) λx22=>.ifs [54] x22 (.esc (.ret ((a1:aA),x21.2))) (.kI 60 3<|.kB 37 true<|.ix 39 fI ([a4.Open,a4.iW,a4.jH,a4.jG,a4.iY,a4.jF,a4.jE,a4.iX,a4.jC,a4.jD,a4.jB]:List Int) 3 λx23=>.inl 41 qO Tryz.func157 [1,2,3,4] [] (λu63 (a:Unit)=>.list 1 [[.pt 4 (u63 4) 0 0],[.pt 4 (u63 4) 0 1],[.pt 4 (u63 4) 0 2],[.pt 4 (u63 4) 0 3],[.pt 4 (u63 4) 0 4],[.pt 4 (u63 4) 0 5],[.pt 4 (u63 4) 0 6],[.pt 4 (u63 4) 0 7],[.pt 4 (u63 4) 0 8],[.pt 4 (u63 4) 0 9],[.pt 4 (u63 4) 0 10]]) (λ_ _=>[]) (.dr [(1,[4]),(2,[4]),(4,[4]),(5,[4]),(7,[4]),(8,[4]),(10,[4]),(11,[4]),(13,[4]),(14,[4]),(16,[4]),(17,[4]),(19,[4]),(20,[4]),(22,[4]),(23,[4]),(25,[4]),(26,[4]),(28,[4]),(29,[4]),(31,[4]),(32,[4])] [] [4] [] [0,1,2,3,4,5,6,7,8,9,10,11,12,13,14,15,16,17,18,19,20,21,22,23,24,25,26,27,28,29,30,31,32,33,34] (.gv 36<|.ret ())) (λ_=>.gv 43<|.cl 50 (mP x11.jG x23) oK oO λx24=>.bB 54 (decide (x24.2≠0)) λx25=>.ifs [54] x25 (.esc (.ret ((a1:aA),x24.2))) (.kI 60 4<|.kB 37 true<|.ix 39 fI ([a4.Open,a4.iW,a4.jH,a4.jG,a4.iY,a4.jF,a4.jE,a4.iX,a4.jC,a4.jD,a4.jB]:List Int) 4 λx26=>.inl 41 qO Tryz.func157 [1,2,3,4] [] (λu67 (a:Unit)=>.list 1 [[.pt 4 (u67 4) 0 0],[.pt 4 (u67 4) 0 1],[.pt 4 (u67 4) 0 2],[.pt 4 (u67 4) 0 3],[.pt 4 (u67 4) 0 4],[.pt 4 (u67 4) 0 5],[.pt 4 (u67 4) 0 6],[.pt 4 (u67 4) 0 7],[.pt 4 (u67 4) 0 8],[.pt 4 (u67 4) 0 9],[.pt 4 (u67 4) 0 10]]) (λ_ _=>[]) (.dr [(1,[4]),(2,[4]),(4,[4]),(5,[4]),(7,[4]),(8,[4]),(10,[4]),(11,[4]),(13,[4]),(14,[4]),(16,[4]),(17,[4]),(19,[4]),(20,[4]),(22,[4]),(23,[4]),(25,[4]),(26,[4]),(28,[4]),(29,[4]),(31,[4]),(32,[4])] [] [4] [] [0,1,2,3,4,5,6,7,8,9,10,11,12,13,14,15,16,17,18,19,20,21,22,23,24,25,26,27,28,29,30,31,32,33,34] (.gv 36<|.ret ())) (λ_=>.gv 43<|.cl 50 (mP x11.iY x26) oK oO λx27=>.bB 54 (decide (x27.2≠0)) λx28=>.ifs [54] x28 (.esc (.ret ((a1:aA),x27.2))) (.kI 60 5<|.kB 37 true<|.ix 39 fI ([a4.Open,a4.iW,a4.jH,a4.jG,a4.iY,a4.jF,a4.jE,a4.iX,a4.jC,a4.jD,a4.jB]:List Int) 5 λx29=>.inl 41 qO Tryz.func157 [1,2,3,4] [] (λu71 (a:Unit)=>.list 1 [[.pt 4 (u71 4) 0 0],[.pt 4 (u71 4) 0 1],[.pt 4 (u71 4) 0 2],[.pt 4 (u71 4) 0 3],[.pt 4 (u71 4) 0 4],[.pt 4 (u71 4) 0 5],[.pt 4 (u71 4) 0 6],[.pt 4 (u71 4) 0 7],[.pt 4 (u71 4) 0 8],[.pt 4 (u71 4) 0 9],[.pt 4 (u71 4) 0 10]]) (λ_ _=>[]) (.dr [(1,[4]),(2,[4]),(4,[4]),(5,[4]),(7,[4]),(8,[4]),(10,[4]),(11,[4]),(13,[4]),(14,[4]),(16,[4]),(17,[4]),(19,[4]),(20,[4]),(22,[4]),(23,[4]),(25,[4]),(26,[4]),(28,[4]),(29,[4]),(31,[4]),(32,[4])] [] [4] [] [0,1,2,3,4,5,6,7,8,9,10,11,12,13,14,15,16,17,18,19,20,21,22,23,24,25,26,27,28,29,30,31,32,33,34] (.gv 36<|.ret ())) (λ_=>.gv 43<|.cl 50 (mP x11.jF x29) oK oO λx30=>.bB 54 (decide (x30.2≠0)) λx31=>.ifs [54] x31 (.esc (.ret ((a1:aA),x30.2))) (.kI 60 6<|.kB 37 true<|.ix 39 fI ([a4.Open,a4.iW,a4.jH,a4.jG,a4.iY,a4.jF,a4.jE,a4.iX,a4.jC,a4.jD,a4.jB]:List Int) 6 λx32=>.inl 41 qO Tryz.func157 [1,2,3,4] [] (λu75 (a:Unit)=>.list 1 [[.pt 4 (u75 4) 0 0],[.pt 4 (u75 4) 0 1],[.pt 4 (u75 4) 0 2],[.pt 4 (u75 4) 0 3],[.pt 4 (u75 4) 0 4],[.pt 4 (u75 4) 0 5],[.pt 4 (u75 4) 0 6],[.pt 4 (u75 4) 0 7],[.pt 4 (u75 4) 0 8],[.pt 4 (u75 4) 0 9],[.pt 4 (u75 4) 0 10]]) (λ_ _=>[]) (.dr [(1,[4]),(2,[4]),(4,[4]),(5,[4]),(7,[4]),(8,[4]),(10,[4]),(11,[4]),(13,[4]),(14,[4]),(16,[4]),(17,[4]),(19,[4]),(20,[4]),(22,[4]),(23,[4]),(25,[4]),(26,[4]),(28,[4]),(29,[4]),(31,[4]),(32,[4])] [] [4] [] [0,1,2,3,4,5,6,7,8,9,10,11,12,13,14,15,16,17,18,19,20,21,22,23,24,25,26,27,28,29,30,31,32,33,34] (.gv 36<|.ret ())) (λ_=>.gv 43<|.cl 50 (mP x11.jE x32) oK oO λx33=>.bB 54 (decide (x33.2≠0)) λx34=>.ifs [54] x34 (.esc (.ret ((a1:aA),x33.2))) (.kI 60 7<|.kB 37 true<|.ix 39 fI ([a4.Open,a4.iW,a4.jH,a4.jG,a4.iY,a4.jF,a4.jE,a4.iX,a4.jC,a4.jD,a4.jB]:List Int) 7 λx35=>.inl 41 qO Tryz.func157 [1,2,3,4] [] (λu79 (a:Unit)=>.list 1 [[.pt 4 (u79 4) 0 0],[.pt 4 (u79 4) 0 1],[.pt 4 (u79 4) 0 2],[.pt 4 (u79 4) 0 3],[.pt 4 (u79 4) 0 4],[.pt 4 (u79 4) 0 5],[.pt 4 (u79 4) 0 6],[.pt 4 (u79 4) 0 7],[.pt 4 (u79 4) 0 8],[.pt 4 (u79 4) 0 9],[.pt 4 (u79 4) 0 10]]) (λ_ _=>[]) (.dr [(1,[4]),(2,[4]),(4,[4]),(5,[4]),(7,[4]),(8,[4]),(10,[4]),(11,[4]),(13,[4]),(14,[4]),(16,[4]),(17,[4]),(19,[4]),(20,[4]),(22,[4]),(23,[4]),(25,[4]),(26,[4]),(28,[4]),(29,[4]),(31,[4]),(32,[4])] [] [4] [] [0,1,2,3,4,5,6,7,8,9,10,11,12,13,14,15,16,17,18,19,20,21,22,23,24,25,26,27,28,29,30,31,32,33,34] (.gv 36<|.ret ())) (λ_=>.gv 43<|.cl 50 (mP x11.iX x35) oK oO λx36=>.bB 54 (decide (x36.2≠0)) λx37=>.ifs [54] x37 (.esc (.ret ((a1:aA),x36.2))) (.kI 60 8<|.kB 37 true<|.ix 39 fI ([a4.Open,a4.iW,a4.jH,a4.jG,a4.iY,a4.jF,a4.jE,a4.iX,a4.jC,a4.jD,a4.jB]:List Int) 8 λx38=>.inl 41 qO Tryz.func157 [1,2,3,4] [] (λu83 (a:Unit)=>.list 1 [[.pt 4 (u83 4) 0 0],[.pt 4 (u83 4) 0 1],[.pt 4 (u83 4) 0 2],[.pt 4 (u83 4) 0 3],[.pt 4 (u83 4) 0 4],[.pt 4 (u83 4) 0 5],[.pt 4 (u83 4) 0 6],[.pt 4 (u83 4) 0 7],[.pt 4 (u83 4) 0 8],[.pt 4 (u83 4) 0 9],[.pt 4 (u83 4) 0 10]]) (λ_ _=>[]) (.dr [(1,[4]),(2,[4]),(4,[4]),(5,[4]),(7,[4]),(8,[4]),(10,[4]),(11,[4]),(13,[4]),(14,[4]),(16,[4]),(17,[4]),(19,[4]),(20,[4]),(22,[4]),(23,[4]),(25,[4]),(26,[4]),(28,[4]),(29,[4]),(31,[4]),(32,[4])] [] [4] [] [0,1,2,3,4,5,6,7,8,9,10,11,12,13,14,15,16,17,18,19,20,21,22,23,24,25,26,27,28,29,30,31,32,33,34] (.gv 36<|.ret ())) (λ_=>.gv 43<|.cl 50 (mP x11.jC x38) oK oO λx39=>.bB 54 (decide (x39.2≠0)) λx40=>.ifs [54] x40 (.esc (.ret ((a1:aA),x39.2))) (.kI 60 9<|.kB 37 true<|.ix 39 fI ([a4.Open,a4.iW,a4.jH,a4.jG,a4.iY,a4.jF,a4.jE,a4.iX,a4.jC,a4.jD,a4.jB]:List Int) 9 λx41=>.inl 41 qO Tryz.func157 [1,2,3,4] [] (λu87 (a:Unit)=>.list 1 [[.pt 4 (u87 4) 0 0],[.pt 4 (u87 4) 0 1],[.pt 4 (u87 4) 0 2],[.pt 4 (u87 4) 0 3],[.pt 4 (u87 4) 0 4],[.pt 4 (u87 4) 0 5],[.pt 4 (u87 4) 0 6],[.pt 4 (u87 4) 0 7],[.pt 4 (u87 4) 0 8],[.pt 4 (u87 4) 0 9],[.pt 4 (u87 4) 0 10]]) (λ_ _=>[]) (.dr [(1,[4]),(2,[4]),(4,[4]),(5,[4]),(7,[4]),(8,[4]),(10,[4]),(11,[4]),(13,[4]),(14,[4]),(16,[4]),(17,[4]),(19,[4]),(20,[4]),(22,[4]),(23,[4]),(25,[4]),(26,[4]),(28,[4]),(29,[4]),(31,[4]),(32,[4])] [] [4] [] [0,1,2,3,4,5,6,7,8,9,10,11,12,13,14,15,16,17,18,19,20,21,22,23,24,25,26,27,28,29,30,31,32,33,34] (.gv 36<|.ret ())) (λ_=>.gv 43<|.cl 50 (mP x11.jD x41) oK oO λx42=>.bB 54 (decide (x42.2≠0)) λx43=>.ifs [54] x43 (.esc (.ret ((a1:aA),x42.2))) (.kI 60 10<|.kB 37 true<|.ix 39 fI ([a4.Open,a4.iW,a4.jH,a4.jG,a4.iY,a4.jF,a4.jE,a4.iX,a4.jC,a4.jD,a4.jB]:List Int) 10 λx44=>.inl 41 qO Tryz.func157 [1,2,3,4] [] (λu91 (a:Unit)=>.list 1 [[.pt 4 (u91 4) 0 0],[.pt 4 (u91 4) 0 1],[.pt 4 (u91 4) 0 2],[.pt 4 (u91 4) 0 3],[.pt 4 (u91 4) 0 4],[.pt 4 (u91 4) 0 5],[.pt 4 (u91 4) 0 6],[.pt 4 (u91 4) 0 7],[.pt 4 (u91 4) 0 8],[.pt 4 (u91 4) 0 9],[.pt 4 (u91 4) 0 10]]) (λ_ _=>[]) (.dr [(1,[4]),(2,[4]),(4,[4]),(5,[4]),(7,[4]),(8,[4]),(10,[4]),(11,[4]),(13,[4]),(14,[4]),(16,[4]),(17,[4]),(19,[4]),(20,[4]),(22,[4]),(23,[4]),(25,[4]),(26,[4]),(28,[4]),(29,[4]),(31,[4]),(32,[4])] [] [4] [] [0,1,2,3,4,5,6,7,8,9,10,11,12,13,14,15,16,17,18,19,20,21,22,23,24,25,26,27,28,29,30,31,32,33,34] (.gv 36<|.ret ())) (λ_=>.gv 43<|.cl 50 (mP x11.jB x44) oK oO λx45=>.bB 54 (decide (x45.2≠0)) λx46=>.ifs [54] x46 (.esc (.ret ((a1:aA),x45.2))) (.kI 60 11<|.kB 37 false<|.brk ((⟨x15.1,x18.1,x21.1,x24.1,x27.1,x30.1,x33.1,x36.1,x39.1,x42.1,x45.1⟩:cO):cO))))))))))))))))))))))))) (λy2_1=>.al 6<|.inl 64 QO Tryz.func152 [1,3,4] [7] (λu93 (a:Unit)=>.pt 7 (u93 7) (Int.toNat a2) 0) (λu93 _=>[.kp 6 [[int a1.bH.gG,int a1.bH.gQ,aP 1 fI a1.bH.bZ,aP 1 (fL 1 fI) a1.bH.Methods,aP 1 (fL 1 fI) a1.bH.gL,.sl 7 (u93 7) 0 a1.bD.length,aP 8 dG.av a1.bY,aP 9 eZ.av a1.eF,aP 6 fT.av a1.dL,int a1.Done]],.nw 7 60 8 (a1.bD.map aQ.av)]) (.as (a1.bD.length<=68719476736) inferInstance<|.ge 11 7<|.bo (ix a1.bD a2) λx50=>.gv 21<|.ret ()) (λ_=>.bo (ix a1.bD a2) λx51=>.gv 67<|.gv 68<|.gv 69<|.as (x51.dQ.length<=68719476736) inferInstance<|.ge 70 8<|.gv 71<|.gv 72<|.ge 1015008 0<|.dr [(1,[7]),(2,[7]),(3,[7]),(5,[4]),(6,[8])] [(7,[])] [4,7,8] [7] [0,1,2,3,4,5,6,7] (.gv 74<|.gv 75<|.gv 76<|.bo (ix x51.dQ a3) λx54=>.gv 79<|.bl (x51.dQ.set (Int.toNat a3) y2_1:List cO) λx55=>.ge 1016007 0<|.ret (((⟨a1.bH,(a1.bD.set (Int.toNat a2) (⟨x51.fU,x51.Closed,x51.bX,x51.dR,x55,x51.gI,x51.Down,x51.fV⟩:aQ)),a1.bY,a1.eF,a1.dL,a1.Done⟩:aA):aA),0))))))
def yC (a1:aA) (a2:Int) (a3:Int) (a4:cO):Option (aA×Int):=(SV a1 a2 a3 a4).run
theorem aS2 {a1:aA} {a2:Int} {a3:Int} {a4:cO} {r:aA×Int} (h0:yC a1 a2 a3 a4=some r):PP Tryz.prog 95 [.agg (aA.av a1),int a2,int a3,.agg (cO.av a4)] (λy=>y=.bC [.agg (aA.av r.1),int r.2]):=by
 refine bU mixed bR (λ(r:aA×Int)=>.bC [.agg (aA.av r.1),int r.2]) h0 Tryz.func95 (λr=>.bC (gD ((λ(a:aA)=>PV.agg (aA.dH a)) (r.1)) (bT (r.2)))) 100000 ?_
 intro v5
 intro v6
 intro v7
 refine .mk λx8 e8=>?_
 refine .mk λx9=>?_
 refine .mk .mk ?_
 refine .mk λx10 e10=>?_
 refine .mk λx11 e11=>?_
 intro v12
 refine .mk ?_ ?_
 intro v13
 refine .mk (eH (iH (y:=aP 1 fI ([a4.Open,a4.iW,a4.jH,a4.jG,a4.iY,a4.jF,a4.jE,a4.iX,a4.jC,a4.jD,a4.jB]:List Int)) (jK (ps:=[(0,_),(1,_),(2,_),(3,_),(4,_),(5,_),(6,_),(7,_),(8,_),(9,_),(10,_)]) (rows:=[[int a4.Open],[int a4.iW],[int a4.jH],[int a4.jG],[int a4.iY],[int a4.jF],[int a4.jE],[int a4.iX],[int a4.jC],[int a4.jD],[int a4.jB]]) rfl Tryz.underlying22 kD (.cons rfl (.cons rfl (.cons rfl (.cons rfl (.cons rfl (.cons rfl (.cons rfl (.cons rfl (.cons rfl (.cons rfl (.cons rfl .nil))))))))))) (by kernel_rfl) rfl rfl rfl) rfl)) ?_
 exact .mk
 intro _ _
 refine .mk trivial ?_
 refine .mk ?_ ?_
 refine .mk ?_
 refine .mk λx14 e14=>?_
 refine .mk ?_ ?_
 refine .mk ?_
 refine .mk _ (λH hH _=>jK (ps:=[(0,_),(1,_),(2,_),(3,_),(4,_),(5,_),(6,_),(7,_),(8,_),(9,_),(10,_)]) (rows:=[[.pt 4 v12 0 0],[.pt 4 v12 0 1],[.pt 4 v12 0 2],[.pt 4 v12 0 3],[.pt 4 v12 0 4],[.pt 4 v12 0 5],[.pt 4 v12 0 6],[.pt 4 v12 0 7],[.pt 4 v12 0 8],[.pt 4 v12 0 9],[.pt 4 v12 0 10]]) rfl Tryz.underlying164 rO (.cons rfl (.cons rfl (.cons rfl (.cons rfl (.cons rfl (.cons rfl (.cons rfl (.cons rfl (.cons rfl (.cons rfl (.cons rfl .nil))))))))))) (by kernel_rfl) rfl rfl rfl) ?_
 exact .mk
 intro _ _
 refine .mk trivial ?_
 refine .mk _ (eH (mQ (j:=0) rfl Tryz.underlying164 qL rfl rfl rfl (.list rfl))) ?_
 refine .mk λx15 e15=>?_
 refine .mk λx16=>?_
 refine .mk .mk ?_
 refine .mk ?_
 refine .mk ?_
 refine .mk λx17 e17=>?_
 refine .mk ?_ ?_
 refine .mk ?_
 refine .mk _ (λH hH _=>jK (ps:=[(0,_),(1,_),(2,_),(3,_),(4,_),(5,_),(6,_),(7,_),(8,_),(9,_),(10,_)]) (rows:=[[.pt 4 v12 0 0],[.pt 4 v12 0 1],[.pt 4 v12 0 2],[.pt 4 v12 0 3],[.pt 4 v12 0 4],[.pt 4 v12 0 5],[.pt 4 v12 0 6],[.pt 4 v12 0 7],[.pt 4 v12 0 8],[.pt 4 v12 0 9],[.pt 4 v12 0 10]]) rfl Tryz.underlying164 rO (.cons rfl (.cons rfl (.cons rfl (.cons rfl (.cons rfl (.cons rfl (.cons rfl (.cons rfl (.cons rfl (.cons rfl (.cons rfl .nil))))))))))) (by kernel_rfl) rfl rfl rfl) ?_
 exact .mk
 intro _ _
 refine .mk trivial ?_
 refine .mk _ (eH (mQ (j:=1) rfl Tryz.underlying164 qL rfl rfl rfl (.list rfl))) ?_
 refine .mk λx18 e18=>?_
 refine .mk λx19=>?_
 refine .mk .mk ?_
 refine .mk ?_
 refine .mk ?_
 refine .mk λx20 e20=>?_
 refine .mk ?_ ?_
 refine .mk ?_
 refine .mk _ (λH hH _=>jK (ps:=[(0,_),(1,_),(2,_),(3,_),(4,_),(5,_),(6,_),(7,_),(8,_),(9,_),(10,_)]) (rows:=[[.pt 4 v12 0 0],[.pt 4 v12 0 1],[.pt 4 v12 0 2],[.pt 4 v12 0 3],[.pt 4 v12 0 4],[.pt 4 v12 0 5],[.pt 4 v12 0 6],[.pt 4 v12 0 7],[.pt 4 v12 0 8],[.pt 4 v12 0 9],[.pt 4 v12 0 10]]) rfl Tryz.underlying164 rO (.cons rfl (.cons rfl (.cons rfl (.cons rfl (.cons rfl (.cons rfl (.cons rfl (.cons rfl (.cons rfl (.cons rfl (.cons rfl .nil))))))))))) (by kernel_rfl) rfl rfl rfl) ?_
 exact .mk
 intro _ _
 refine .mk trivial ?_
 refine .mk _ (eH (mQ (j:=2) rfl Tryz.underlying164 qL rfl rfl rfl (.list rfl))) ?_
 refine .mk λx21 e21=>?_
 refine .mk λx22=>?_
 refine .mk .mk ?_
 refine .mk ?_
 refine .mk ?_
 refine .mk λx23 e23=>?_
 refine .mk ?_ ?_
 refine .mk ?_
 refine .mk _ (λH hH _=>jK (ps:=[(0,_),(1,_),(2,_),(3,_),(4,_),(5,_),(6,_),(7,_),(8,_),(9,_),(10,_)]) (rows:=[[.pt 4 v12 0 0],[.pt 4 v12 0 1],[.pt 4 v12 0 2],[.pt 4 v12 0 3],[.pt 4 v12 0 4],[.pt 4 v12 0 5],[.pt 4 v12 0 6],[.pt 4 v12 0 7],[.pt 4 v12 0 8],[.pt 4 v12 0 9],[.pt 4 v12 0 10]]) rfl Tryz.underlying164 rO (.cons rfl (.cons rfl (.cons rfl (.cons rfl (.cons rfl (.cons rfl (.cons rfl (.cons rfl (.cons rfl (.cons rfl (.cons rfl .nil))))))))))) (by kernel_rfl) rfl rfl rfl) ?_
 exact .mk
 intro _ _
 refine .mk trivial ?_
 refine .mk _ (eH (mQ (j:=3) rfl Tryz.underlying164 qL rfl rfl rfl (.list rfl))) ?_
 refine .mk λx24 e24=>?_
 refine .mk λx25=>?_
 refine .mk .mk ?_
 refine .mk ?_
 refine .mk ?_
 refine .mk λx26 e26=>?_
 refine .mk ?_ ?_
 refine .mk ?_
 refine .mk _ (λH hH _=>jK (ps:=[(0,_),(1,_),(2,_),(3,_),(4,_),(5,_),(6,_),(7,_),(8,_),(9,_),(10,_)]) (rows:=[[.pt 4 v12 0 0],[.pt 4 v12 0 1],[.pt 4 v12 0 2],[.pt 4 v12 0 3],[.pt 4 v12 0 4],[.pt 4 v12 0 5],[.pt 4 v12 0 6],[.pt 4 v12 0 7],[.pt 4 v12 0 8],[.pt 4 v12 0 9],[.pt 4 v12 0 10]]) rfl Tryz.underlying164 rO (.cons rfl (.cons rfl (.cons rfl (.cons rfl (.cons rfl (.cons rfl (.cons rfl (.cons rfl (.cons rfl (.cons rfl (.cons rfl .nil))))))))))) (by kernel_rfl) rfl rfl rfl) ?_
 exact .mk
 intro _ _
 refine .mk trivial ?_
 refine .mk _ (eH (mQ (j:=4) rfl Tryz.underlying164 qL rfl rfl rfl (.list rfl))) ?_
 refine .mk λx27 e27=>?_
 refine .mk λx28=>?_
 refine .mk .mk ?_
 refine .mk ?_
 refine .mk ?_
 refine .mk λx29 e29=>?_
 refine .mk ?_ ?_
 refine .mk ?_
 refine .mk _ (λH hH _=>jK (ps:=[(0,_),(1,_),(2,_),(3,_),(4,_),(5,_),(6,_),(7,_),(8,_),(9,_),(10,_)]) (rows:=[[.pt 4 v12 0 0],[.pt 4 v12 0 1],[.pt 4 v12 0 2],[.pt 4 v12 0 3],[.pt 4 v12 0 4],[.pt 4 v12 0 5],[.pt 4 v12 0 6],[.pt 4 v12 0 7],[.pt 4 v12 0 8],[.pt 4 v12 0 9],[.pt 4 v12 0 10]]) rfl Tryz.underlying164 rO (.cons rfl (.cons rfl (.cons rfl (.cons rfl (.cons rfl (.cons rfl (.cons rfl (.cons rfl (.cons rfl (.cons rfl (.cons rfl .nil))))))))))) (by kernel_rfl) rfl rfl rfl) ?_
 exact .mk
 intro _ _
 refine .mk trivial ?_
 refine .mk _ (eH (mQ (j:=5) rfl Tryz.underlying164 qL rfl rfl rfl (.list rfl))) ?_
 refine .mk λx30 e30=>?_
 refine .mk λx31=>?_
 refine .mk .mk ?_
 refine .mk ?_
 refine .mk ?_
 refine .mk λx32 e32=>?_
 refine .mk ?_ ?_
 refine .mk ?_
 refine .mk _ (λH hH _=>jK (ps:=[(0,_),(1,_),(2,_),(3,_),(4,_),(5,_),(6,_),(7,_),(8,_),(9,_),(10,_)]) (rows:=[[.pt 4 v12 0 0],[.pt 4 v12 0 1],[.pt 4 v12 0 2],[.pt 4 v12 0 3],[.pt 4 v12 0 4],[.pt 4 v12 0 5],[.pt 4 v12 0 6],[.pt 4 v12 0 7],[.pt 4 v12 0 8],[.pt 4 v12 0 9],[.pt 4 v12 0 10]]) rfl Tryz.underlying164 rO (.cons rfl (.cons rfl (.cons rfl (.cons rfl (.cons rfl (.cons rfl (.cons rfl (.cons rfl (.cons rfl (.cons rfl (.cons rfl .nil))))))))))) (by kernel_rfl) rfl rfl rfl) ?_
 exact .mk
 intro _ _
 refine .mk trivial ?_
 refine .mk _ (eH (mQ (j:=6) rfl Tryz.underlying164 qL rfl rfl rfl (.list rfl))) ?_
 refine .mk λx33 e33=>?_
 refine .mk λx34=>?_
 refine .mk .mk ?_
 refine .mk ?_
 refine .mk ?_
 refine .mk λx35 e35=>?_
 refine .mk ?_ ?_
 refine .mk ?_
 refine .mk _ (λH hH _=>jK (ps:=[(0,_),(1,_),(2,_),(3,_),(4,_),(5,_),(6,_),(7,_),(8,_),(9,_),(10,_)]) (rows:=[[.pt 4 v12 0 0],[.pt 4 v12 0 1],[.pt 4 v12 0 2],[.pt 4 v12 0 3],[.pt 4 v12 0 4],[.pt 4 v12 0 5],[.pt 4 v12 0 6],[.pt 4 v12 0 7],[.pt 4 v12 0 8],[.pt 4 v12 0 9],[.pt 4 v12 0 10]]) rfl Tryz.underlying164 rO (.cons rfl (.cons rfl (.cons rfl (.cons rfl (.cons rfl (.cons rfl (.cons rfl (.cons rfl (.cons rfl (.cons rfl (.cons rfl .nil))))))))))) (by kernel_rfl) rfl rfl rfl) ?_
 exact .mk
 intro _ _
 refine .mk trivial ?_
 refine .mk _ (eH (mQ (j:=7) rfl Tryz.underlying164 qL rfl rfl rfl (.list rfl))) ?_
 refine .mk λx36 e36=>?_
 refine .mk λx37=>?_
 refine .mk .mk ?_
 refine .mk ?_
 refine .mk ?_
 refine .mk λx38 e38=>?_
 refine .mk ?_ ?_
 refine .mk ?_
 refine .mk _ (λH hH _=>jK (ps:=[(0,_),(1,_),(2,_),(3,_),(4,_),(5,_),(6,_),(7,_),(8,_),(9,_),(10,_)]) (rows:=[[.pt 4 v12 0 0],[.pt 4 v12 0 1],[.pt 4 v12 0 2],[.pt 4 v12 0 3],[.pt 4 v12 0 4],[.pt 4 v12 0 5],[.pt 4 v12 0 6],[.pt 4 v12 0 7],[.pt 4 v12 0 8],[.pt 4 v12 0 9],[.pt 4 v12 0 10]]) rfl Tryz.underlying164 rO (.cons rfl (.cons rfl (.cons rfl (.cons rfl (.cons rfl (.cons rfl (.cons rfl (.cons rfl (.cons rfl (.cons rfl (.cons rfl .nil))))))))))) (by kernel_rfl) rfl rfl rfl) ?_
 exact .mk
 intro _ _
 refine .mk trivial ?_
 refine .mk _ (eH (mQ (j:=8) rfl Tryz.underlying164 qL rfl rfl rfl (.list rfl))) ?_
 refine .mk λx39 e39=>?_
 refine .mk λx40=>?_
 refine .mk .mk ?_
 refine .mk ?_
 refine .mk ?_
 refine .mk λx41 e41=>?_
 refine .mk ?_ ?_
 refine .mk ?_
 refine .mk _ (λH hH _=>jK (ps:=[(0,_),(1,_),(2,_),(3,_),(4,_),(5,_),(6,_),(7,_),(8,_),(9,_),(10,_)]) (rows:=[[.pt 4 v12 0 0],[.pt 4 v12 0 1],[.pt 4 v12 0 2],[.pt 4 v12 0 3],[.pt 4 v12 0 4],[.pt 4 v12 0 5],[.pt 4 v12 0 6],[.pt 4 v12 0 7],[.pt 4 v12 0 8],[.pt 4 v12 0 9],[.pt 4 v12 0 10]]) rfl Tryz.underlying164 rO (.cons rfl (.cons rfl (.cons rfl (.cons rfl (.cons rfl (.cons rfl (.cons rfl (.cons rfl (.cons rfl (.cons rfl (.cons rfl .nil))))))))))) (by kernel_rfl) rfl rfl rfl) ?_
 exact .mk
 intro _ _
 refine .mk trivial ?_
 refine .mk _ (eH (mQ (j:=9) rfl Tryz.underlying164 qL rfl rfl rfl (.list rfl))) ?_
 refine .mk λx42 e42=>?_
 refine .mk λx43=>?_
 refine .mk .mk ?_
 refine .mk ?_
 refine .mk ?_
 refine .mk λx44 e44=>?_
 refine .mk ?_ ?_
 refine .mk ?_
 refine .mk _ (λH hH _=>jK (ps:=[(0,_),(1,_),(2,_),(3,_),(4,_),(5,_),(6,_),(7,_),(8,_),(9,_),(10,_)]) (rows:=[[.pt 4 v12 0 0],[.pt 4 v12 0 1],[.pt 4 v12 0 2],[.pt 4 v12 0 3],[.pt 4 v12 0 4],[.pt 4 v12 0 5],[.pt 4 v12 0 6],[.pt 4 v12 0 7],[.pt 4 v12 0 8],[.pt 4 v12 0 9],[.pt 4 v12 0 10]]) rfl Tryz.underlying164 rO (.cons rfl (.cons rfl (.cons rfl (.cons rfl (.cons rfl (.cons rfl (.cons rfl (.cons rfl (.cons rfl (.cons rfl (.cons rfl .nil))))))))))) (by kernel_rfl) rfl rfl rfl) ?_
 exact .mk
 intro _ _
 refine .mk trivial ?_
 refine .mk _ (eH (mQ (j:=10) rfl Tryz.underlying164 qL rfl rfl rfl (.list rfl))) ?_
 refine .mk λx45 e45=>?_
 refine .mk λx46=>?_
 refine .mk .mk ?_
 refine .mk ?_
 refine .mk ?_
 exact .mk
 intro _ _
 intro v47
 refine .mk ?_ ?_
 refine .mk λp48=>?_
 refine .mk _ ⟨λ_=>mM rfl rfl (.cons rfl .nil) SA (nC (QV (id:=7) (l:=a1.bD) rfl p48) (.cons (.refl _) .nil)),λ_ _ _=>trivial⟩ ?_
 rintro _ _ ⟨v49,rfl,rfl⟩
 refine .mk λx50 e50=>?_
 refine .mk _ (eH (iL rfl Tryz.underlying27 qY rfl rfl rfl rfl rfl (Eq.symm rfl) (List.length_map _) e50)) ?_
 exact .mk
 intro _ _
 refine .mk trivial ?_
 refine .mk λx51 e51=>?_
 refine .mk _ (eH (lJ rfl rfl (.pt rfl rfl (jL e51 (aQ.fF _))))) ?_
 refine .mk _ (eH (gN rfl B7 rfl (.pt rfl rfl (jL e51 (aQ.fF _))) (.pt _ _ _ _ _))) ?_
 refine .mk _ (eH (iK rfl DY rfl (.pt rfl rfl (jL e51 (aQ.fF _))) rfl)) ?_
 refine .mk λp52=>?_
 refine .mk _ ⟨λ_=>mM rfl rfl (.cons rfl .nil) aH4 (nC (aOG (id:=8) (l:=x51.dQ) rfl p52) (.cons (.refl _) .nil)),λ_ _ _=>trivial⟩ ?_
 rintro _ _ ⟨v53,rfl,rfl⟩
 refine .mk _ (eH (lJ rfl rfl (.pt rfl rfl (jL e51 (aQ.fF _))))) ?_
 refine .mk _ (eH (gN rfl B7 rfl (.pt rfl rfl (jL e51 (aQ.fF _))) (.pt _ _ _ _ _))) ?_
 refine .mk _ ⟨λ_=>eO.gK (iQ (ob':=(⟨60,8,true,true,_,(a1.bD.map aQ.av).set (Int.toNat a2) [int x51.fU,aT x51.Closed,aP 4 aH.av x51.bX,aP 1 fI x51.dR,.sl 8 v53 0 x51.dQ.length,aP 1 fI x51.gI,aP 1 fI x51.Down,aP 8 aQ.av x51.fV]⟩:cB)) (iG rfl DY rfl rfl rfl rfl rfl (jL e51 (aQ.fF _)) rfl rfl rfl) (jJ rfl)) (λ_ h=>h) (λ_ _=>trivial),λ_ _ _=>trivial⟩ ?_
 rintro _ _ ⟨rfl,rfl⟩
 refine .mk ?_
 refine .mk _ (λH hH _=>lJ rfl rfl (.pt ((hH _ (by decide)).trans rfl) rfl (jV e51))) ?_
 refine .mk _ (λH hH _=>gN rfl B7 rfl (.pt ((hH _ (by decide)).trans rfl) rfl (jV e51)) (.pt _ _ _ _ _)) ?_
 refine .mk _ (λH hH _=>iK rfl DY rfl (.pt ((hH _ (by decide)).trans rfl) rfl (jV e51)) rfl) ?_
 refine .mk λx54 e54=>?_
 refine .mk _ (λH hH _=>iL rfl Tryz.underlying58 ZB rfl rfl ((hH _ (by decide)).trans rfl) rfl rfl (Eq.symm rfl) (List.length_map _) e54) ?_
 refine .mk λx55 e55=>?_
 have fx55:=j6 e54 e55;have lx55:=jX e55 (rfl:x51.dQ.length=x51.dQ.length)
 refine .mk _ ⟨λ_=>eO.gK (iQ (ob':=(⟨102,11,true,true,_,x55.map cO.av⟩:cB)) (iG rfl ZB rfl rfl rfl rfl rfl (fM e54) rfl rfl rfl) (jJ (kL e55))) (λ_ h=>h) (λ_ _=>trivial),by rintro _ _ ⟨rfl,rfl⟩;exact trivial⟩ ?_
 rintro _ _ ⟨rfl,rfl⟩
 exact .mk (dX.bC (.cons (dX.agg (.cons (.refl _) (.cons (.refl _) (.cons (.refl _) (.cons (.refl _) (.cons (.refl _) (.cons (AP rfl rfl rfl rfl rfl (Eq.symm rfl) e51 (yA (.cons (.refl _) (.cons (.refl _) (.cons (.refl _) (.cons (.refl _) (.cons (gJ rfl rfl rfl rfl rfl (Eq.symm lx55)) (.cons (.refl _) (.cons (.refl _) (.cons (.refl _) .nil)))))))) (aQ.fF _))) (.cons (.refl _) (.cons (.refl _) (.cons (.refl _) (.cons (.refl _) .nil))))))))))) (.cons (.refl _) .nil)))
end
end Go.Pv
