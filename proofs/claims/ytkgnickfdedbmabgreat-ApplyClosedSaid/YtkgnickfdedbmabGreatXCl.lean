import Derived.Test.YtkgnickfdedbmabGreatXCk
set_option linter.unusedVariables false
set_option linter.unusedSimpArgs false
namespace Go.Pv
open Go.Proofs
set_option maxRecDepth 100000
set_option maxHeartbeats 4000000
noncomputable section
def aOU (n:Nat) (a1:aA) (a2:aS) (a3:bM) (a4:List aH):WB (aA×Int) :=
 .al 1<|.al 2<|.al 3<|.al 4<|.cl 16 (oN n a1 a2.E a4) qC qN λx9=>.bB 20 (decide (x9.2≠0)) λx10=>.ifs [20] x10 (.ret ((x9.1:aA),x9.2)) (.cl 29 (qD x9.1 a2.E a2.Item a3) sH sO λx11=>.ret ((x11.1:aA),x11.2))
def wE (n:Nat) (a1:aA) (a2:aS) (a3:bM) (a4:List aH):Option (aA×Int):=(aOU n a1 a2 a3 a4).run
theorem xA {n a1 a2 a3 a4}:PZ (wE n a1 a2 a3 a4) 181 [.agg (aA.av a1),.agg (aS.av a2),.agg (bM.av a3),aD 2 aH.av a4] (λr=>.aU [.agg (aA.av r.1),int r.2]):=wq Tryz.func181
def Y6 (n:Nat) (a1:aA) (a2:aS):WB (aA×Int) :=
 .al 1<|.al 2<|.al 3<|.dr [(0,[1]),(1,[1]),(2,[1]),(3,[2]),(4,[2]),(7,[2]),(8,[2])] [] [1,2] [] [0,1,2,3,4,5,6,7,8,9,10,11] (.ix 18 (fL 1 fI) a1.bA.Methods a2.E λx6=>.ix 22 fI x6 a2.Item λx7=>.bB 24 (decide (x7≠4)) λx8=>.ifs [24] x8 (.ret ((a1:aA),(12:Int))) (.as (a1.bA.dN.length<=68719476736) inferInstance<|.ge 29 4<|.dr [(0,[1]),(1,[1]),(2,[1]),(3,[2]),(4,[2]),(5,[1]),(6,[1]),(7,[1]),(8,[2]),(9,[2]),(10,[4]),(11,[4]),(13,[4])] [(12,[1,2]),(14,[])] [1,2,4] [12,14] [0,1,2,3,4,5,6,7,8,9,10,11,12,13,14] (.bo (ix a1.bA.dN a2.E) λx11=>.gv 42<|.gv 43<|.as (x11.length<=68719476736) inferInstance<|.ge 44 5<|.gv 45<|.ge 1004014 0<|.dr [(0,[1]),(1,[1]),(2,[1]),(3,[2]),(4,[2]),(5,[4]),(6,[4]),(7,[2]),(8,[2]),(9,[2]),(10,[2]),(11,[5])] [(12,[])] [1,2,4,5] [12] [0,1,2,3,4,5,6,7,8,9,10,11,12] (.gv 51<|.gv 52<|.bo (ix x11 a2.Item) λx14=>.gv 57<|.bl (x11.set (Int.toNat a2.Item) (a2.bD:Int):List Int) λx15=>.ge 1005012 0<|.as (a1.aW.length<=68719476736) inferInstance<|.ge 60 6<|.dr [(0,[1]),(1,[1]),(2,[2]),(3,[2]),(4,[1]),(5,[1]),(6,[2]),(7,[2]),(8,[6]),(9,[6]),(10,[6]),(12,[6]),(13,[6])] [(11,[1,2]),(14,[])] [1,2,6] [11,14] [0,1,2,3,4,5,6,7,8,9,10,11,12,13,14] (.bo (ix a1.aW a2.E) λx18=>.gv 70<|.gv 71<|.gv 72<|.as (x18.dD.length<=68719476736) inferInstance<|.ge 73 7<|.gv 74<|.gv 75<|.ge 1007014 0<|.dr [(0,[1]),(1,[1]),(2,[2]),(3,[2]),(4,[6]),(5,[6]),(6,[6]),(7,[2]),(8,[2]),(10,[2]),(11,[2]),(14,[7])] [] [1,2,6,7] [] [0,1,2,3,4,5,6,7,8,9,10,11,12,13,14,15] (.gv 80<|.gv 81<|.gv 82<|.bI 85 (aI (a2.Item*2)) λx21=>.bI 88 (aI (a2.Item+1)) λx22=>.bI 89 (aI (x22*2)) λx23=>.as ((0:Int)<=x21/\x21<=x23/\x23<=(x18.dD.length:Int)/\x21<(x18.dD.length:Int)) inferInstance<|.gv 90<|.dF 2 [2,3,4,5] [1,2,3,4,5] [] (λ_ (a:Int×(List aM))=>[(7,int a.1)]) (λu2 a=>[.kp 6 ((a1.aW.map aP.av).set (Int.toNat a2.E) [int x18.dS,aF x18.Closed,.sl 7 (u2 7) 0 a.2.length,aD 1 fI x18.dU,aD 11 bM.av x18.dI,aD 1 fI x18.dO,aD 1 fI x18.Down,aD 8 aP.av x18.eT]),.kp 7 (a.2.map aM.av)]) (.lp [2,3,4,5,6,91,92] [1,2,3,4,5] [] (λ_ (a:Int×Int×(List aM))=>[(7,int a.1),(93,int a.2.1)]) (λu3 a=>[.kp 6 ((a1.aW.map aP.av).set (Int.toNat a2.E) [int x18.dS,aF x18.Closed,.sl 7 (u3 7) 0 a.2.2.length,aD 1 fI x18.dU,aD 11 bM.av x18.dI,aD 1 fI x18.dO,aD 1 fI x18.Down,aD 8 aP.av x18.eT]),.kp 7 (a.2.2.map aM.av)]) n ((0:Int),(0:Int),(x18.dD:List aM)) (pw λy0_1 q0=>(pw λy0_2 y0_3=>.bB 94 (decide (y0_2<(((x23.toNat-x21.toNat):Nat):Int))) λx25=>.ifs [94] x25 (.as ((0:Int)<=y0_2/\y0_2<(((x23.toNat-x21.toNat):Nat):Int)) inferInstance<|.bo (ix y0_3 ((((0+x21.toNat):Nat):Int)+y0_2)) λx27=>.gv 96<|.gv 97<|.al 8<|.cl 103 (PT n x27.cO a2.bD) WN aF7 λx29=>.bB 108 (decide (x29.2.2≠0)) λx30=>.ifs [108] x30 (.esc (.esc (.ret (((⟨(⟨a1.bA.eH,a1.bA.fA,a1.bA.cB,a1.bA.Methods,(a1.bA.dN.set (Int.toNat a2.E) x15)⟩:eZ),(a1.aW.set (Int.toNat a2.E) (⟨x18.dS,x18.Closed,y0_3,x18.dU,x18.dI,x18.dO,x18.Down,x18.eT⟩:aP)),a1.bP,a1.bU,a1.bY,a1.Done⟩:aA):aA),(x29.2.2:Int))))) (.as ((0:Int)<=y0_2/\y0_2<(((x23.toNat-x21.toNat):Nat):Int)) inferInstance<|.gv 114<|.gv 115<|.bl (y0_3.set (Int.toNat ((((0+x21.toNat):Nat):Int)+y0_2)) ((⟨x29.1,x27.bF⟩:aM):aM):List aM) λx32=>.ge 1016005 0<|.bI 118 (aI (y0_1+x29.2.1)) λx33=>.bI 119 (aI (y0_2+1)) λx34=>.brk ((x33:Int),(x34:Int),x32))) (.esc (.brk ((y0_1:Int),y0_3)))) q0)) (pw λy1_1 y1_2=>.fO 4<|.fO 5<|.fO 6<|.fO 7<|.dr [(0,[1]),(1,[2]),(10,[4,5,6,7])] [(13,[])] [1,2,4,5,6,7] [13] [0,1,2,3,4,5,6,7,8,9,10,11,12,13,14] (.cl 125 (lM 0 y1_1) mP mG λx35=>.bI 127 (aI (0-y1_1)) λx36=>.cl 128 (lM 6 x36) mP mG λx37=>.to 129 (aD 2 aH.av ([x35,x37]:List aH))<|.cl 130 (wE n (⟨(⟨a1.bA.eH,a1.bA.fA,a1.bA.cB,a1.bA.Methods,(a1.bA.dN.set (Int.toNat a2.E) x15)⟩:eZ),(a1.aW.set (Int.toNat a2.E) (⟨x18.dS,x18.Closed,y1_2,x18.dU,x18.dI,x18.dO,x18.Down,x18.eT⟩:aP)),a1.bP,a1.bU,a1.bY,a1.Done⟩:aA) a2 (⟨0,0,0,0,0,0,0,0,0,0,y1_1⟩:bM) ([x35,x37]:List aH)) xX xA λx38=>.ret ((x38.1:aA),(x38.2:Int))))))))))
def O3 (n:Nat) (a1:aA) (a2:aS):Option (aA×Int):=(Y6 n a1 a2).run
theorem aJH {n a1 a2}:PZ (O3 n a1 a2) 111 [.agg (aA.av a1),.agg (aS.av a2)] (λr=>.aU [.agg (aA.av r.1),int r.2]):=by
 refine wm Tryz.func111 ?_
 intro v3
 intro v4
 intro v5
 refine .mk ?_
 refine .mk λx6 e6=>?_
 refine .mk λx7 e7=>?_
 refine .mk λx8=>?_
 refine .mk .mk ?_
 refine .mk λp9=>?_
 refine .mk _ ⟨λ_=>d9 rfl rfl (.cons rfl .nil) WG (iK (MN.pc (id:=4) (l:=a1.bA.dN) rfl p9) (.cons (.refl _) .nil)),λ_ _ _=>trivial⟩ ?_
 rintro _ _ ⟨v10,rfl,rfl⟩
 refine .mk ?_
 refine .mk λx11 e11=>?_
 refine .mk _ (λH hH _=>eB rfl Tryz.underlying23 kC rfl rfl ((hH _ (by decide)).trans rfl) rfl rfl (Eq.symm rfl) (List.length_map _) e11) ?_
 refine .mk _ (λH hH _=>dV rfl kC rfl (.pt ((hH _ (by decide)).trans rfl) rfl (cZ e11)) rfl) ?_
 refine .mk λp12=>?_
 refine .mk _ ⟨λ_=>d9 rfl rfl (.cons rfl .nil) B6 (iK (B9.pc (id:=5) (l:=x11) rfl p12) (.cons (.refl _) .nil)),by rintro _ _ ⟨v13,rfl,rfl⟩;exact ⟨rfl,rfl,trivial⟩⟩ ?_
 rintro _ _ ⟨v13,rfl,rfl⟩
 refine .mk _ (λH hH _=>eB rfl Tryz.underlying23 kC rfl rfl ((hH _ (by decide)).trans rfl) rfl rfl (Eq.symm rfl) (List.length_map _) e11) ?_
 refine .mk _ ⟨λ_=>bQ.dM (eO (ob':=(⟨22,1,true,true,_,(a1.bA.dN.map (fL 1 fI)).set (Int.toNat a2.E) [.sl 5 v13 0 x11.length]⟩:bC)) (dZ rfl kC rfl rfl rfl rfl rfl (cZ e11) rfl rfl rfl) (eU rfl)) (λ_ h=>h) (λ_ _=>trivial),by rintro _ _ ⟨rfl,rfl⟩;exact trivial⟩ ?_
 rintro _ _ ⟨rfl,rfl⟩
 refine .mk ?_
 refine .mk _ (λH hH _=>eB rfl Tryz.underlying23 kC rfl rfl ((hH _ (by decide)).trans rfl) rfl rfl (Eq.symm rfl) qH e11) ?_
 refine .mk _ (λH hH _=>dV rfl kC rfl (.pt ((hH _ (by decide)).trans rfl) rfl (eY e11)) rfl) ?_
 refine .mk λx14 e14=>?_
 refine .mk _ (λH hH _=>eB rfl Tryz.underlying22 fC rfl rfl ((hH _ (by decide)).trans rfl) rfl rfl (Eq.symm rfl) (List.length_map _) e14) ?_
 refine .mk λx15 e15=>?_
 have fx15:=fP e14 e15;have lx15:=fH e15 (rfl:x11.length=x11.length)
 refine .mk _ ⟨λ_=>bQ.dM (eO (ob':=(⟨3,1,true,true,_,x15.map fI⟩:bC)) (dZ rfl fC rfl rfl rfl rfl rfl (cZ e14) rfl rfl rfl) (eU (iI e15))) (λ_ h=>h) (λ_ _=>trivial),by rintro _ _ ⟨rfl,rfl⟩;exact trivial⟩ ?_
 rintro _ _ ⟨rfl,rfl⟩
 refine .mk λp16=>?_
 refine .mk _ ⟨λ_=>d9 rfl rfl (.cons rfl .nil) vX (iK (vQ.pc (id:=6) (l:=a1.aW) rfl p16) (.cons (.refl _) .nil)),λ_ _ _=>trivial⟩ ?_
 rintro _ _ ⟨v17,rfl,rfl⟩
 refine .mk ?_
 refine .mk λx18 e18=>?_
 refine .mk _ (λH hH _=>eB rfl Tryz.underlying26 jE rfl rfl ((hH _ (by decide)).trans rfl) rfl rfl (Eq.symm rfl) (List.length_map _) e18) ?_
 refine .mk _ (λH hH _=>dK rfl l6 rfl (.pt ((hH _ (by decide)).trans rfl) rfl (dR e18 (aP.bW _))) (.pt _ _ _ _ _)) ?_
 refine .mk _ (λH hH _=>dV rfl mH rfl (.pt ((hH _ (by decide)).trans rfl) rfl (dR e18 (aP.bW _))) rfl) ?_
 refine .mk λp19=>?_
 refine .mk _ ⟨λ_=>d9 rfl rfl (.cons rfl .nil) C4 (iK (AR.pc (id:=7) (l:=x18.dD) rfl p19) (.cons (.refl _) .nil)),by rintro _ _ ⟨v20,rfl,rfl⟩;exact ⟨rfl,rfl,trivial⟩⟩ ?_
 rintro _ _ ⟨v20,rfl,rfl⟩
 refine .mk _ (λH hH _=>eB rfl Tryz.underlying26 jE rfl rfl ((hH _ (by decide)).trans rfl) rfl rfl (Eq.symm rfl) (List.length_map _) e18) ?_
 refine .mk _ (λH hH _=>dK rfl l6 rfl (.pt ((hH _ (by decide)).trans rfl) rfl (dR e18 (aP.bW _))) (.pt _ _ _ _ _)) ?_
 refine .mk _ ⟨λ_=>bQ.dM (eO (ob':=(⟨42,8,true,true,_,(a1.aW.map aP.av).set (Int.toNat a2.E) [int x18.dS,aF x18.Closed,.sl 7 v20 0 x18.dD.length,aD 1 fI x18.dU,aD 11 bM.av x18.dI,aD 1 fI x18.dO,aD 1 fI x18.Down,aD 8 aP.av x18.eT]⟩:bC)) (dZ rfl mH rfl rfl rfl rfl rfl (dR e18 (aP.bW _)) rfl rfl rfl) (eU rfl)) (λ_ h=>h) (λ_ _=>trivial),by rintro _ _ ⟨rfl,rfl⟩;exact trivial⟩ ?_
 rintro _ _ ⟨rfl,rfl⟩
 refine .mk ?_
 refine .mk _ (λH hH _=>eB rfl Tryz.underlying26 jE rfl rfl ((hH _ (by decide)).trans rfl) rfl rfl (Eq.symm rfl) qH e18) ?_
 refine .mk _ (λH hH _=>dK rfl l6 rfl (.pt ((hH _ (by decide)).trans rfl) rfl (eY e18)) (.pt _ _ _ _ _)) ?_
 refine .mk _ (λH hH _=>dV rfl mH rfl (.pt ((hH _ (by decide)).trans rfl) rfl (eY e18)) rfl) ?_
 refine .mk λx21=>?_
 refine .mk λx22=>?_
 refine .mk λx23=>?_
 refine .mk λp24=>?_
 refine .mk _ (λH hH _=>I5 (len:=x18.dD.length) (i:=x21.toNat) (j:=x23.toNat) rfl Tryz.underlying39 qG rfl ((hH _ (by decide)).trans rfl) rfl rfl (.yes rfl (by first | omega | (dsimp only;omega) | (dsimp only at *;omega))) (.yes rfl (by first | omega | (dsimp only;omega) | (dsimp only at *;omega))) (by first | omega | (dsimp only;omega) | (dsimp only at *;omega)) (by first | omega | (dsimp only;omega) | (dsimp only at *;omega)) (.inl (by first | omega | (dsimp only;omega) | (dsimp only at *;omega)))) ?_
 refine .mk ?_ ?_
 refine .mk ?_
 rintro ⟨y0_1,y0_2,y0_3⟩ _
 refine .mk λx25=>?_
 refine .mk ?_ ?_
 refine .mk λp26=>?_
 refine .mk λx27 e27=>?_
 refine .mk _ (bE (jF rfl Tryz.underlying39 qG rfl rfl rfl rfl rfl p26 (List.length_map _) e27)) ?_
 refine .mk _ (bE (dV rfl qG rfl (.pt rfl rfl (cZ e27)) rfl)) ?_
 intro v28
 refine .mk λx29 e29=>?_
 refine .mk λx30=>?_
 refine .mk ?_ ?_
 exact .mk (bK.aU (.cons (bK.agg (.cons (.refl _) (.cons (.refl _) (.cons (.refl _) (.cons (.refl _) (.cons (kZ rfl rfl rfl rfl rfl (Eq.symm rfl) e11 (.cons (dH rfl rfl rfl rfl rfl (Eq.symm lx15)) .nil)) (.cons (kZ rfl rfl rfl rfl rfl (Eq.symm rfl) e18 (lW (.cons (.refl _) (.cons (.refl _) (.cons (dH rfl rfl rfl rfl rfl (Eq.symm rfl)) (.cons (.refl _) (.cons (.refl _) (.cons (.refl _) (.cons (.refl _) (.cons (.refl _) .nil)))))))) (aP.bW _))) (.cons (.refl _) (.cons (.refl _) (.cons (.refl _) (.cons (.refl _) .nil))))))))))) (.cons (.refl _) .nil)))
 refine .mk λp31=>?_
 refine .mk _ (bE (jF rfl Tryz.underlying39 qG rfl rfl rfl rfl rfl p31 (List.length_map _) e27)) ?_
 refine .mk _ (bE (dK rfl aDO rfl (.pt rfl rfl (cZ e27)) (.pt _ _ _ _ _))) ?_
 refine .mk λx32 e32=>?_
 have fx32:=fP e27 e32;have lx32:=fH e32 (rfl:y0_3.length=y0_3.length)
 refine .mk _ ⟨λ_=>bQ.dM (eO (ob':=(⟨126,4,true,true,_,x32.map aM.av⟩:bC)) (dZ rfl WH rfl rfl rfl rfl rfl (cZ e27) rfl rfl rfl) (eU (iI e32))) (λ_ h=>h) (λ_ _=>trivial),λ_ _ _=>trivial⟩ ?_
 rintro _ _ ⟨rfl,rfl⟩
 refine .mk λx33=>?_
 refine .mk λx34=>?_
 exact .mk ⟨⟨⟨_,rfl,(.refl _)⟩,⟨_,rfl,(.refl _)⟩,⟨_,rfl,(.refl _)⟩,⟨_,rfl,(.refl _)⟩,⟨_,rfl,(.refl _)⟩,⟨_,rfl,(.refl _)⟩,⟨_,rfl,(.refl _)⟩,⟨_,rfl,(.refl _)⟩,⟨_,rfl,(.refl _)⟩,trivial⟩,⟨⟨_,rfl,⟨rfl,yZ (.cons (.refl _) (.cons (.refl _) (.cons (nC (Eq.symm lx32)) (.cons (.refl _) (.cons (.refl _) (.cons (.refl _) (.cons (.refl _) (.cons (.refl _) .nil))))))))⟩⟩,⟨_,rfl,(.refl _)⟩,⟨_,rfl,(.refl _)⟩,⟨_,rfl,(.refl _)⟩,⟨_,rfl,(.refl _)⟩,⟨_,rfl,(.refl _)⟩,⟨_,rfl,(.refl _)⟩,trivial⟩⟩
 exact .mk
 rintro ⟨y1_1,y1_2⟩ _
 refine .mk ?_
 refine .mk λx35 e35=>?_
 refine .mk λx36=>?_
 refine .mk λx37 e37=>?_
 refine .mk (λH hH _=>bX (y:=aD 2 aH.av ([x35,x37]:List aH)) (dQ (ps:=[(0,_),(1,_)]) (rows:=[[int x35.fM,int x35.bD],[int x37.fM,int x37.bD]]) rfl Tryz.underlying94 l5 (.cons rfl (.cons rfl .nil)) (by kernel_rfl) rfl rfl rfl) rfl) ?_
 refine .mk (λx38 e38=>?_) rfl (λH hH=>(.cons (bK.agg (.cons (.refl _) (.cons (.refl _) (.cons (.refl _) (.cons (.refl _) (.cons (kZ (ob:=(⟨22,1,false,true,v10,(a1.bA.dN.map (fL 1 fI)).set (Int.toNat a2.E) [.sl 5 v13 0 x11.length]⟩:bC)) ((hH 4 (by decide)).trans rfl) rfl rfl rfl rfl (Eq.symm rfl) e11 (.cons (dH (ob:=(⟨3,1,false,true,v13,x15.map fI⟩:bC)) ((hH 5 (by decide)).trans rfl) rfl rfl rfl rfl (Eq.symm lx15)) .nil)) (.cons (kZ (ob:=(⟨42,8,false,true,v17,(a1.aW.map aP.av).set (Int.toNat a2.E) [int x18.dS,aF x18.Closed,.sl 7 v20 0 y1_2.length,aD 1 fI x18.dU,aD 11 bM.av x18.dI,aD 1 fI x18.dO,aD 1 fI x18.Down,aD 8 aP.av x18.eT]⟩:bC)) ((hH 6 (by decide)).trans rfl) rfl rfl rfl rfl (Eq.symm rfl) e18 (lW (.cons (.refl _) (.cons (.refl _) (.cons (dH (ob:=(⟨126,4,false,true,v20,y1_2.map aM.av⟩:bC)) ((hH 7 (by decide)).trans rfl) rfl rfl rfl rfl (Eq.symm rfl)) (.cons (.refl _) (.cons (.refl _) (.cons (.refl _) (.cons (.refl _) (.cons (.refl _) .nil)))))))) (aP.bW _))) (.cons (.refl _) (.cons (.refl _) (.cons (.refl _) (.cons (.refl _) .nil))))))))))) (.cons (.refl _) (.cons (.refl _) (.cons (.refl _) .nil)))))
 exact .mk
def aC5 (n:Nat) (a1:aA) (a2:aS):WB (aA×Int) :=
 .al 1<|.al 2<|.al 3<|.cl 21 (rR n a1 a2.E a2.Item a2.Loc 3 a2.aQ) vS wP λx6=>.al 4<|.bB 27 (decide (x6.2.2.2≠0)) λx8=>.ifs [27] x8 (.ret ((x6.1:aA),x6.2.2.2)) (.cl 39 (uU n x6.1 a2.E a2.Item a2.To x6.2.1) y9 yA λx9=>.bB 45 (decide (x9.2.2.2≠0)) λx10=>.ifs [45] x10 (.ret ((x9.1:aA),x9.2.2.2)) (.dr [(0,[1]),(1,[2]),(3,[4]),(4,[4]),(8,[4]),(9,[4])] [(18,[])] [1,2,4] [18] [0,1,2,3,4,5,6,7,8,9,10,11,12,13,14,15,16,17,18,19] (.bI 53 (aI (x9.2.1-x6.2.1.Value)) λx11=>.bI 58 (aI (x9.2.1-x6.2.1.Value)) λx12=>.cl 59 (lM 0 x12) mP mG λx13=>.cl 61 (lM 6 x9.2.2.1) mP mG λx14=>.to 62 (aD 2 aH.av ([x13,x14]:List aH))<|.cl 63 (wE n x9.1 a2 (⟨0,0,0,0,0,0,0,0,0,0,x11⟩:bM) ([x13,x14]:List aH)) xX xA λx15=>.ret ((x15.1:aA),x15.2))))
def U9 (n:Nat) (a1:aA) (a2:aS):Option (aA×Int):=(aC5 n a1 a2).run
theorem aHY {n a1 a2}:PZ (U9 n a1 a2) 110 [.agg (aA.av a1),.agg (aS.av a2)] (λr=>.aU [.agg (aA.av r.1),int r.2]):=wq Tryz.func110
def aD8 (n:Nat) (a1:aM):WB (aB) :=
 .al 1<|.al 2<|.cl 8 (y8 n a1.cO) z8 BD λx4=>.al 3<|.ret ((x4.1:aB))
def IZ (n:Nat) (a1:aM):Option (aB):=(aD8 n a1).run
theorem T7 {n a1}:PZ (IZ n a1) 123 [.agg (aM.av a1)] (λr=>.agg (aB.av r)):=wq Tryz.func123
def aK8 (n:Nat) (a1:Int) (a2:aM):WB (Int) :=
 .al 1<|.bB 6 (decide (a1=3)) λx4=>.ifs [6] x4 (.cl 8 (AN n a2) FZ IN λx5=>.ret ((x5:Int))) (.cl 10 (IZ n a2) QD T7 λx6=>.ret ((x6.aQ:Int)))
def OF (n:Nat) (a1:Int) (a2:aM):Option (Int):=(aK8 n a1 a2).run
theorem aHL {n a1 a2}:PZ (OF n a1 a2) 183 [int a1,.agg (aM.av a2)] int:=wq Tryz.func183
def aMT (n:Nat) (a1:aA) (a2:aS):WB (aA×Int) :=
 .al 1<|.al 2<|.al 3<|.dr [(0,[1]),(1,[1]),(2,[1]),(3,[2]),(4,[2]),(7,[2]),(8,[2]),(11,[1]),(12,[1]),(13,[1]),(14,[2]),(15,[2]),(18,[2]),(19,[2])] [] [1,2] [] [0,1,2,3,4,5,6,7,8,9,10,11,12,13,14,15,16,17,18,19,20,21,22,23] (.ix 24 (fL 1 fI) a1.bA.Methods a2.E λx6=>.ix 28 fI x6 a2.Item λx7=>.ix 35 (fL 1 fI) a1.bA.dN a2.E λx8=>.ix 39 fI x8 a2.Item λx9=>.cl 48 (yG a1 a2.E a2.Item a2.Loc) zM BV λx10=>.al 4<|.dr [(0,[2]),(1,[2]),(3,[4])] [] [2,4] [] [0,1,2,3,4,5,6] (.cl 53 (OF n x7 x10) aJV aHL λx12=>.bI 54 (aI (a2.aQ-x12)) λx13=>.bB 57 (decide (x13=0)) λx14=>.ifs [57] x14 (.ret ((a1:aA),0)) (.bB 61 (decide (x13<0)) λx15=>.ifs [61] x15 (.bI 71 (aI (0-x13)) λx16=>.cl 72 (rR n a1 a2.E a2.Item a2.Loc 2 x16) vS wP λx17=>.al 5<|.al 6<|.bB 78 (decide (x17.2.2.2≠0)) λx20=>.ifs [78] x20 (.ret ((x17.1:aA),x17.2.2.2)) (.dr [(0,[5]),(1,[2]),(2,[6]),(3,[6]),(5,[6]),(6,[6]),(8,[6]),(9,[6])] [(16,[])] [2,5,6] [16] [0,1,2,3,4,5,6,7,8,9,10,11,12,13,14,15,16,17] (.cl 88 (lM 8 x17.2.1.Value) mP mG λx21=>.bI 91 (aI (0-x17.2.1.Value)) λx22=>.cl 92 (lM 0 x22) mP mG λx23=>.to 93 (aD 2 aH.av ([x21,x23]:List aH))<|.cl 94 (wE n x17.1 a2 (⟨0,0,0,0,0,0,0,0,0,x17.2.1.Value,0⟩:bM) ([x21,x23]:List aH)) xX xA λx24=>.ret ((x24.1:aA),x24.2)))) (.cl 98 (IZ n x10) QD T7 λx25=>.al 7<|.bB 100 (decide (x7=4)) λx27=>.jn 0 [2,3,4,5,9] [1,2,3] [] (λ_ (a:Int×Int)=>[(14,int a.1),(15,int a.2)]) (λ_ _=>[]) (.ifs [100] x27 (.cl 104 (wT n x13 x9 1) wY xV λx28=>.ret ((x28.1:Int),x28.2.2)) (.bB 110 (decide (x25.aQ>0)) λx29=>.ifs [110] x29 (.cl 117 (wT n x25.Value x13 x25.aQ) wY xV λx30=>.ret ((x30.1:Int),x30.2.2)) (.ret ((0:Int),0)))) (pw λy0_1 y0_2=>.bB 122 (decide (y0_2≠0)) λx31=>.ifs [122] x31 (.ret ((a1:aA),y0_2)) (.cl 136 (uU n a1 a2.E a2.Item a2.Loc (⟨x13,y0_1,0⟩:aB)) y9 yA λx32=>.bB 142 (decide (x32.2.2.2≠0)) λx33=>.ifs [142] x33 (.ret ((x32.1:aA),x32.2.2.2)) (.dr [(0,[1]),(1,[2])] [(16,[])] [1,2] [16] [0,1,2,3,4,5,6,7,8,9,10,11,12,13,14,15,16,17] (.bI 148 (aI (0-x32.2.1)) λx34=>.cl 151 (lM 0 x32.2.1) mP mG λx35=>.cl 153 (lM 6 x32.2.2.1) mP mG λx36=>.bI 155 (aI (0-y0_1)) λx37=>.cl 156 (lM 8 x37) mP mG λx38=>.to 157 (aD 2 aH.av ([x35,x36,x38]:List aH))<|.cl 158 (wE n x32.1 a2 (⟨0,0,0,0,0,0,0,0,0,x34,0⟩:bM) ([x35,x36,x38]:List aH)) xX xA λx39=>.ret ((x39.1:aA),x39.2)))))))))
def OB (n:Nat) (a1:aA) (a2:aS):Option (aA×Int):=(aMT n a1 a2).run
theorem aNB {n a1 a2}:PZ (OB n a1 a2) 109 [.agg (aA.av a1),.agg (aS.av a2)] (λr=>.aU [.agg (aA.av r.1),int r.2]):=wq Tryz.func109
def aLN (n:Nat) (a1:aA) (a2:aS):WB (aA×Int) :=
 .al 1<|.al 2<|.al 3<|.cl 19 (rR n a1 a2.E a2.Item a2.Loc 1 a2.aQ) vS wP λx6=>.al 4<|.bB 25 (decide (x6.2.2.2≠0)) λx8=>.ifs [25] x8 (.ret ((x6.1:aA),x6.2.2.2)) (.dr [(0,[1]),(1,[2]),(2,[4]),(3,[4]),(5,[4]),(6,[4]),(8,[4]),(9,[4])] [(16,[])] [1,2,4] [16] [0,1,2,3,4,5,6,7,8,9,10,11,12,13,14,15,16,17] (.cl 35 (lM 7 x6.2.1.Value) mP mG λx9=>.bI 38 (aI (0-x6.2.1.Value)) λx10=>.cl 39 (lM 0 x10) mP mG λx11=>.to 40 (aD 2 aH.av ([x9,x11]:List aH))<|.cl 41 (wE n x6.1 a2 (⟨0,0,0,0,0,0,0,0,x6.2.1.Value,0,0⟩:bM) ([x9,x11]:List aH)) xX xA λx12=>.ret ((x12.1:aA),x12.2)))
def OL (n:Nat) (a1:aA) (a2:aS):Option (aA×Int):=(aLN n a1 a2).run
theorem aC4 {n a1 a2}:PZ (OL n a1 a2) 108 [.agg (aA.av a1),.agg (aS.av a2)] (λr=>.aU [.agg (aA.av r.1),int r.2]):=wq Tryz.func108
def aNK (n:Nat) (a1:bH) (a2:Int):WB (Int) :=
 .al 1<|.cl 10 (mX n a1.Value a2 a1.aQ) nN nU λx4=>.ret ((x4:Int))
def OV (n:Nat) (a1:bH) (a2:Int):Option (Int):=(aNK n a1 a2).run
theorem aMQ {n a1 a2}:PZ (OV n a1 a2) 114 [.agg (bH.av a1),int a2] int:=wq Tryz.func114
def aI4 (n:Nat) (a1:bH) (a2:Int):WB (Int) :=
 .al 1<|.bB 8 (decide (a2=a1.Open)) λx4=>.ifs [8] x4 (.ret ((a1.jV:Int))) (.cl 16 (mX n a1.jV a2 a1.Open) nN nU λx5=>.ret ((x5:Int)))
def PW (n:Nat) (a1:bH) (a2:Int):Option (Int):=(aI4 n a1 a2).run
theorem aB1 {n a1 a2}:PZ (PW n a1 a2) 186 [.agg (bH.av a1),int a2] int:=wq Tryz.func186
def aKF (n:Nat) (a1:bH) (a2:Int):WB (Int) :=
 .al 1<|.cl 10 (PW n a1 a2) aK0 aB1 λx4=>.ret ((x4:Int))
def GA (n:Nat) (a1:bH) (a2:Int):Option (Int):=(aKF n a1 a2).run
theorem TY {n a1 a2}:PZ (GA n a1 a2) 112 [.agg (bH.av a1),int a2] int:=wq Tryz.func112
def aCV (a1:Int) (a2:Int):WB (aH) :=
 .al 1<|.ret (((⟨a1,a2⟩:aH):aH))
def rU (a1:Int) (a2:Int):Option (aH):=(aCV a1 a2).run
theorem vR {a1 a2}:PZ (rU a1 a2) 113 [int a1,int a2] (λr=>.agg (aH.av r)):=wq Tryz.func113
def aI0 (n:Nat) (a1:aA) (a2:aS):WB (aA×Int) :=
 .al 1<|.al 2<|.al 3<|.jn 0 [2,3,4,5] [1,2,3] [] (λ_ (a:Bool)=>[(18,aF a)]) (λ_ _=>[]) (.bB 13 (decide (a2.Kind≠2)) λx6=>.ifs [13] x6 (.bB 17 (decide (a2.Kind≠3)) λx7=>.ret x7) (.ret false)) (λy0_1=>.ifs [18] y0_1 (.ret ((a1:aA),1)) (.jn 1 [2,3,4,5] [1,2,3] [] (λ_ (a:Bool)=>[(30,aF a)]) (λ_ _=>[]) (.bB 22 (decide (a2.Ref<0)) λx8=>.ifs [22] x8 (.ret true) (.ln 28 bH.av a1.bP<|.bB 29 (decide (a2.Ref>=(a1.bP.length:Int))) λx9=>.ret x9)) (λy1_1=>.ifs [30] y1_1 (.ret ((a1:aA),4)) (.ix 36 bH.av a1.bP a2.Ref λx10=>.al 4<|.cl 43 (lH a1 x10.dG x10.Item) mI mU λx12=>.bB 45 (decide (x12≠0)) λx13=>.ifs [45] x13 (.ret ((a1:aA),x12)) (.bB 50 (decide (a2.Kind=3)) λx14=>.ifs [50] x14 (.inl 55 aOE Tryz.func58 [1,2,3] [] (λ_ (a:aA×Int×bH)=>.aU [.agg (aA.av a.1),int a.2.1]) (λ_ a=>[.kp 4 [[int a.2.2.dG,int a.2.2.Item,int a.2.2.Loc,int a.2.2.aQ,int a.2.2.Value,int a.2.2.Open,int a.2.2.jV,int a.2.2.fF]]]) (.al 5<|.al 6<|.al 7<|.dr [(0,[6]),(1,[6]),(3,[4]),(4,[4]),(5,[4]),(7,[4]),(8,[4]),(9,[4])] [] [4,6] [] [0,1,2,3,4,5,6,7,8,9,10,11,12] (.bI 24 (aI (x10.aQ-x10.fF)) λx18=>.bB 25 (decide (a2.aQ>x18)) λx19=>.ifs [25] x19 (.ret ((a1:aA),5,x10)) (.jn 1 [2,3,4,6,7] [1,2,3,4,5,6,7] [] (λ_ (a:Bool)=>[(27,aF a)]) (λ_ _=>[]) (.dr [(1,[4]),(2,[4]),(3,[4]),(7,[4]),(8,[4]),(9,[4]),(10,[6]),(11,[6])] [] [4,6] [] [0,1,2,3,4,5,6,7,8,9,10,11,12,13,14] (.bB 32 (decide (x10.Open>0)) λx20=>.ifs [32] x20 (.bB 40 (decide (x10.Open<a2.aQ)) λx21=>.ret x21) (.ret false))) (λy2_1=>.ifs [27] y2_1 (.ret ((a1:aA),9,x10)) (.dr [(0,[5]),(2,[4]),(3,[4]),(4,[4]),(6,[4]),(7,[4]),(8,[4]),(10,[4]),(11,[4]),(12,[4]),(13,[6]),(14,[6])] [(22,[]),(23,[])] [4,5,6] [21,22,23] [0,1,2,3,4,5,6,7,8,9,10,11,12,13,14,15,16,17,18,19,20,21,22,23,24,25] (.cl 59 (rR n a1 x10.dG x10.Item x10.Loc 3 a2.aQ) vS wP λx22=>.al 8<|.bB 9 (x22.2.2.1) λx24=>.bB 65 (decide (x22.2.2.2≠0)) λx25=>.ifs [65] x25 (.ret ((x22.1:aA),x22.2.2.2,x10)) (.dr [(1,[4]),(2,[4]),(3,[6]),(4,[6])] [] [4,6] [] [0,1,2,3,4,5,6,7] (.cl 73 (OV n x10 a2.aQ) aIN aMQ λx26=>.bB 78 (decide (x10.Open>0)) λx27=>.jn 0 [2,3,4,6,7,8] [1,2,3,5,6,7,8] [] (λ_ (a:Int×Int×bH)=>[(11,int a.1),(12,int a.2.1)]) (λ_ a=>[.kp 4 [[int a.2.2.dG,int a.2.2.Item,int a.2.2.Loc,int a.2.2.aQ,int a.2.2.Value,int a.2.2.Open,int a.2.2.jV,int a.2.2.fF]]]) (.ifs [78] x27 (.dr [(1,[4]),(2,[4]),(3,[6]),(4,[6])] [] [4,6] [] [0,1,2,3,4,5,6,7] (.cl 84 (GA n x10 a2.aQ) T6 TY λx28=>.dr [(3,[4]),(4,[4]),(5,[4]),(6,[6]),(7,[6]),(10,[4]),(11,[4]),(12,[4]),(15,[4]),(16,[4]),(18,[4]),(19,[4])] [(17,[]),(20,[])] [4,6] [17,20] [0,1,2,3,4,5,6,7,8,9,10,11,12,13,14,15,16,17,18,19,20] (.bI 93 (aI (x10.Open-a2.aQ)) λx29=>.bI 99 (aI (x10.jV-x28)) λx30=>.ret ((x28:Int),1,((⟨x10.dG,x10.Item,x10.Loc,x10.aQ,x10.Value,x29,x30,x10.fF⟩:bH):bH))))) (.ret ((x26:Int),2,x10))) (pw λy3_1 q0=>(pw λy3_2 y3_3=>.dr [(1,[4]),(2,[4]),(3,[4]),(4,[6]),(5,[6]),(7,[4]),(8,[4])] [(9,[])] [4,6] [9] [0,1,2,3,4,5,6,7,8,9] (.bI 110 (aI (y3_3.fF+a2.aQ)) λx31=>.dr [(0,[5]),(2,[4]),(3,[4]),(4,[4]),(8,[8]),(9,[8]),(13,[8]),(14,[8])] [(22,[])] [4,5,8] [22] [0,1,2,3,4,5,6,7,8,9,10,11,12,13,14,15,16,17,18,19,20,21,22,23] (.cl 121 (rU y3_2 y3_1) wI vR λx32=>.bI 125 (aI (x22.2.1.Value-y3_1)) λx33=>.cl 126 (rU 6 x33) wI vR λx34=>.bI 129 (aI (0-x22.2.1.Value)) λx35=>.cl 130 (rU 0 x35) wI vR λx36=>.to 131 (aD 2 aH.av ([x32,x34,x36]:List aH))<|.cl 132 (oN n x22.1 y3_3.dG ([x32,x34,x36]:List aH)) qC qN λx37=>.bB 136 (decide (x37.2≠0)) λx38=>.ifs [136] x38 (.ret ((x37.1:aA),x37.2,((⟨y3_3.dG,y3_3.Item,y3_3.Loc,y3_3.aQ,y3_3.Value,y3_3.Open,y3_3.jV,x31⟩:bH):bH))) (.dr [(0,[5]),(2,[4]),(3,[4]),(4,[4]),(6,[4]),(7,[4]),(8,[4]),(9,[8]),(10,[8])] [(15,[])] [4,5,8] [15] [0,1,2,3,4,5,6,7,8,9,10,11,12,13,14,15,16] (.cl 151 (qD x37.1 y3_3.dG y3_3.Item (⟨0,0,0,0,0,0,0,x22.2.1.Value,0,0,0⟩:bM)) sH sO λx39=>.ret ((x39.1:aA),x39.2,((⟨y3_3.dG,y3_3.Item,y3_3.Loc,y3_3.aQ,y3_3.Value,y3_3.Open,y3_3.jV,x31⟩:bH):bH))))))) q0))))))))) (pw λy4_1 q0=>(pw λy4_2 y4_3=>.al 9<|.bB 59 (decide (y4_2≠0)) λx41=>.ifs [59] x41 (.ret ((a1:aA),y4_2)) (.as (y4_1.bP.length<=68719476736) inferInstance<|.ge 64 10<|.bo (ix y4_1.bP a2.Ref) λx44=>.gv 71<|.bl (y4_1.bP.set (Int.toNat a2.Ref) y4_3:List bH) λx45=>.ge 1016006 0<|.ret (((⟨y4_1.bA,y4_1.aW,x45,y4_1.bU,y4_1.bY,y4_1.Done⟩:aA):aA),0))) q0)) (.inl 55 aN9 Tryz.func57 [1,2,3] [] (λ_ (a:aA×Int×bH)=>.aU [.agg (aA.av a.1),int a.2.1]) (λ_ a=>[.kp 4 [[int a.2.2.dG,int a.2.2.Item,int a.2.2.Loc,int a.2.2.aQ,int a.2.2.Value,int a.2.2.Open,int a.2.2.jV,int a.2.2.fF]]]) (.al 11<|.al 12<|.al 13<|.dr [(0,[12]),(1,[12]),(3,[4]),(4,[4]),(5,[4])] [] [4,12] [] [0,1,2,3,4,5,6] (.bB 16 (decide (a2.aQ>x10.Open)) λx49=>.ifs [16] x49 (.ret ((a1:aA),5,x10)) (.dr [(1,[4]),(2,[4]),(3,[12]),(4,[12])] [] [4,12] [] [0,1,2,3,4,5,6] (.cl 23 (GA n x10 a2.aQ) T6 TY λx50=>.dr [(0,[11]),(2,[4]),(3,[4]),(4,[4]),(7,[12]),(8,[12]),(12,[12]),(13,[12])] [(21,[])] [4,11,12] [21] [0,1,2,3,4,5,6,7,8,9,10,11,12,13,14,15,16,17,18,19,20,21,22] (.cl 31 (rU 1 x50) wI vR λx51=>.bI 35 (aI (a2.bD-x50)) λx52=>.cl 36 (rU 6 x52) wI vR λx53=>.bI 39 (aI (0-a2.bD)) λx54=>.cl 40 (rU 2 x54) wI vR λx55=>.to 41 (aD 2 aH.av ([x51,x53,x55]:List aH))<|.cl 42 (oN n a1 x10.dG ([x51,x53,x55]:List aH)) qC qN λx56=>.dr [(3,[4]),(4,[4]),(5,[4]),(6,[12]),(7,[12]),(10,[4]),(11,[4]),(12,[4]),(15,[4]),(16,[4]),(18,[4]),(19,[4])] [(17,[]),(20,[])] [4,12] [17,20] [0,1,2,3,4,5,6,7,8,9,10,11,12,13,14,15,16,17,18,19,20] (.bI 53 (aI (x10.Open-a2.aQ)) λx57=>.bI 59 (aI (x10.jV-x50)) λx58=>.ret ((x56.1:aA),x56.2,((⟨x10.dG,x10.Item,x10.Loc,x10.aQ,x10.Value,x57,x58,x10.fF⟩:bH):bH)))))))) (pw λy4_1 q0=>(pw λy4_2 y4_3=>.al 9<|.bB 59 (decide (y4_2≠0)) λx60=>.ifs [59] x60 (.ret ((a1:aA),y4_2)) (.as (y4_1.bP.length<=68719476736) inferInstance<|.ge 64 10<|.bo (ix y4_1.bP a2.Ref) λx63=>.gv 71<|.bl (y4_1.bP.set (Int.toNat a2.Ref) y4_3:List bH) λx64=>.ge 1016006 0<|.ret (((⟨y4_1.bA,y4_1.aW,x64,y4_1.bU,y4_1.bY,y4_1.Done⟩:aA):aA),0))) q0)))))))
def SA (n:Nat) (a1:aA) (a2:aS):Option (aA×Int):=(aI0 n a1 a2).run
theorem ZB {n a1 a2}:PZ (SA n a1 a2) 25 [.agg (aA.av a1),.agg (aS.av a2)] (λr=>.aU [.agg (aA.av r.1),int r.2]):=wq Tryz.func25
def kT (s:aA) (k:Int):bH:=(ix s.bP k).getD ⟨0,-1,0,0,0,0,0,0⟩
def tK (s:aA) (refs:List Int):List (AV×AV):=refs.zipIdx.map λx=>(int x.2,.agg (bH.av (kT s x.1)))
section
noncomputable section
def tU:WT Tryz.prog (.s Unit (.b Unit)):=.brk ()
def aCI (l:List Int):WT Tryz.prog (.s Unit (.b Unit)):=.ln 8 fI l <| .brk ()
def KU (l:List Int) (i:Int):WT Tryz.prog (.s Int (.b Unit)):=.ix 12 fI l i λx=>.brk x
def I4 (s:aA) (k:Int):WT Tryz.prog (.s bH (.b Unit)) :=
 .bB 16 (decide (k>=0)) λx1 =>
 .ifs [16] x1 (.ln 21 bH.av s.bP <| .bB 22 (decide (k<(s.bP.length:Int))) λx2=>.ifs [22] x2 (.ix 27 bH.av s.bP k λr=>.brk r) (.brk ⟨0,-1,0,0,0,0,0,0⟩)) (.brk ⟨0,-1,0,0,0,0,0,0⟩)
def aBC:WT Tryz.prog (.s Unit (.b Unit)):=.al 777 <| .brk ()
end
theorem aAM (s:aA) (k:Int):(I4 s k).run=some (.inl (kT s k)):=by
  unfold I4 kT
  simp only [WT.run,bnd,cond,Go.Pv.brk]
  by_cases h:k>=0
  · by_cases h2:k<(s.bP.length:Int)
    · obtain ⟨r,hr⟩:∃ r,ix s.bP k=some r:=by
        unfold ix;rw [if_neg (by omega)]
        exact ⟨s.bP[k.toNat]'(by omega),by simp⟩
      simp [h,h2,hr]
    · have:ix s.bP k=none:=by unfold ix;rw [if_neg (by omega)];simp;omega
      simp [h,h2,this]
  · have:ix s.bP k=none:=by unfold ix;rw [if_pos (by omega)]
    simp [h,this]
abbrev JN (_:Unit) (_:FS) (_:AH) (_:List (Nat×Nat)):Prop:=False
theorem kD {a:Unit} {f:FS} {hp:AH} {vs:List (Nat×Nat)} (h:JN a f hp vs):bN vs/\JN a f hp []:=h.elim
abbrev kR (s:aA) (refs:List Int) (y:AV) (i:Int):List (Nat×AV):=[(0,y),(1,.pp [aD 1 fI refs]),(2,.pp (aA.av s)),(7,aD 1 fI refs),(8,int refs.length),(9,int i)]
theorem OW (s:aA) (refs:List Int) (hfit:refs.length<=68719476736):T3 Tryz.prog 115 [.pp [aD 1 fI refs],.pp (aA.av s)] (tK s refs):=by
  intro lp fn tmps p q assign body D J K s0 H vs hH hvs hJ hJ7 hK7 hn hY
  have ha:jI s0 [.sc (.func (.yield lp) #[] #[]),.pp [aD 1 fI refs],.pp (aA.av s)] (#[.func (.yield lp) #[] #[]]++vs):=jI.append (xs:=[.sc (.func (.yield lp) #[] #[])]) ⟨rfl,λi x v h1 h2=>by
    cases i with
    | zero=>simp at h1 h2;subst h1 h2;exact .sc _
    | succ i=>simp at h1⟩ hvs
  refine callsIn_wide.1 (callsIn_of_wp (n:=0) (c:=_) Tryz.func115 rfl trivial ?_)
  have hs:=sr0 (fn:=Tryz.f115) hH ha rfl
  generalize ({ tmps:=_,defers:=[] }:Act)=a0 at hs ⊢
  generalize hy:(AV.sc (.func (.yield lp) #[] #[]))=y at *
  refine wpIn_seq (lS mixed aN rfl (t:=aCI refs) (r:=.inl ()) rfl (J:=λ_ f hp=>jK hp f (kR s refs y 0)/\hp=H) (JR:=JN) (hJR:=kD) hs 1000 vO ?_ (λv S' s' a' e=>nomatch e))
  rintro _ S1 s1 a1 - ⟨hk1,e1⟩ hs1 hf1
  obtain ⟨hs1,hf1⟩:=hs1.k0 hf1 hk1 e1
  refine wpIn_block (wpIn_loop (λa w=>∃ (i:Nat) (s2:Sit) (H2:AH),i<=refs.length/\w=s2.w/\J i H2/\SR ⟨35,false,[]⟩ s2 ⟨kn (kR s refs y i),H2⟩ a/\Fr s0 H s2 H2)
    (λ(a:Act) _=>match (a.tmps[9]?:Option Value) with | some (Value.int _ v)=>refs.length-v.toNat | _=>0) ⟨0,s1,H,Nat.zero_le _,rfl,hJ,hs1,hf1⟩ ?_)
  rintro a w ⟨i,s2,H2,hi,rfl,hj,hs2,hf2⟩
  have hm2:(match (a.tmps[9]?:Option Value) with | some (Value.int _ v)=>refs.length-v.toNat | _=>0)=refs.length-i:=by
    obtain ⟨v,q1,q2⟩:=hs2.slot 9 (int i) rfl
    rw [q1,q2.dP];simp
  refine wpIn_seq (lS mixed aN rfl (t:=tU) (r:=.inl ()) rfl (J:=λ_ f hp=>jK hp f ((10,aF (decide ((i:Int)<(refs.length:Int)))) :: kR s refs y i)/\hp=H2) (JR:=JN) (hJR:=kD) hs2 1000 vO ?_ (λv S' s' a' e=>nomatch e))
  rintro _ S3 s3 a3 - ⟨hk3,e3⟩ hs3 hf3
  obtain ⟨hs3,hf3⟩:=hs3.k0 hf3 hk3 e3
  refine wpIn_seq (wpIn_cond_split (t:=decide ((i:Int)<(refs.length:Int))) (lG (o:=.tmp 10) hs3 rfl).dP (λhc=>?_) (λhc=>?_))
  · refine wpIn_skip ?_
    have hlt:i<refs.length:=by have:=of_decide_eq_true hc;omega
    obtain ⟨x,hx⟩:∃ x,refs[i]?=some x:=⟨refs[i],by simp [hlt]⟩
    have hix:ix refs (i:Int)=some x:=by unfold ix;rw [if_neg (by omega)];simpa using hx
    refine wpIn_seq (wpIn_block (wpIn_seq (lS mixed aN rfl (t:=KU refs i) (r:=.inl x) (by simp [KU,WT.run,hix,Go.Pv.brk]) (J:=λx f hp=>jK hp f ((4,int i) :: (5,int x) :: kR s refs y i)/\hp=H2) (JR:=JN) (hJR:=kD) hs3 1000 vO ?_ (λv S' s' a' e=>nomatch e))))
    rintro v S4 s4 a4 e4 ⟨hk4,h4⟩ hs4 hf4
    obtain rfl:x=v:=by injection e4
    obtain ⟨hs4,hf4⟩:=hs4.k0 hf4 hk4 h4
    refine wpIn_seq (lS mixed aN rfl (t:=aBC) (r:=.inl ()) rfl (J:=λ_ f hp=>∃ aG,jK hp f ((6,.pt 777 aG 0 0) :: (4,int i) :: (5,int x) :: kR s refs y i)/\hp=upd H2 777 (some ⟨98,8,true,true,aG,[bH.av ⟨0,-1,0,0,0,0,0,0⟩]⟩)) (JR:=JN) (hJR:=kD) hs4 1000 vO ?_ (λv S' s' a' e=>nomatch e))
    rintro _ S5 s5 a5 - ⟨aG,hk5,h5⟩ hs5 hf5
    obtain ⟨hs5,hf5⟩:=hs5.k0 hf5 hk5 h5
    refine wpIn_seq (lS mixed aN rfl (t:=I4 s x) (r:=.inl (kT s x)) (aAM s x) (J:=λr f hp=>jK hp f ((6,.pt 777 aG 0 0) :: (4,int i) :: (5,int x) :: kR s refs y i)/\hp=upd H2 777 (some ⟨98,8,true,true,aG,[bH.av r]⟩)) (JR:=JN) (hJR:=kD) hs5 1000 vO ?_ (λv S' s' a' e=>nomatch e))
    rintro v S6 s6 a6 e6 ⟨hk6,h6⟩ hs6 hf6
    obtain rfl:kT s x=v:=by injection e6
    obtain ⟨hs6,hf6⟩:=hs6.k0 hf6 hk6 h6
    generalize hr:kT s x=r at *
    have hxs:(tK s refs)[i]?=some (int i,.agg (bH.av r)):=by
      rw [<- hr];simp [tK,List.getElem?_map,List.getElem?_zipIdx,hx]
    refine wpIn_seq (wpIn_region ?_)
    show wpOpsIn Fence.wide 0 Tryz.prog (List.toArray _) _ [0,1,2,3,4] a6 s6.w
    refine go_in hs6 rfl rfl rfl rfl rfl (kV rfl rfl) ?_
    intro s7 a7 hs7 hf7
    refine go_in hs7 rfl rfl rfl rfl rfl (kV rfl rfl) ?_
    intro s8 a8 hs8 hf8
    refine go_in hs8 rfl rfl rfl rfl rfl (dV (cs:=bH.av r) (v:=.agg (bH.av r)) rfl aF0 rfl (.pt (row:=0) (o:=⟨98,8,true,true,aG,[bH.av r]⟩) rfl rfl rfl) rfl) ?_
    intro s9 a9 hs9 hf9
    have h7:=hJ7 i H2 hj
    have hf29:Fr s2 H2 s9 H2:=ZS ((((((hf3.trans hf4).trans hf5).trans hf6).trans hf7).trans hf8).trans hf9) (PS h7)
    have hs9':=(⟨hs9.size,hs9.defers,hs9.slot,aEF hs9.heap (PS h7)⟩:SR ⟨35,false,[]⟩ s9 ⟨_,H2⟩ a9)
    have hfs9:=hf2.trans hf29
    have hn9:=hn.fr hH hfs9
    subst hy
    refine YZ (J':=J (i+1)) (K':=K) hs9' rfl rfl rfl rfl rfl rfl rfl rfl hn9 (λv u hv hu=>hY i (int i) (.agg (bH.av r)) hxs s9 H2 v u hj hs9'.heap hv hu hn9 hfs9) ?_ ?_
    · intro s10 kK H10 hj10 hs10 hf10
      refine go_in hs10 rfl rfl rfl rfl rfl (FL (b:=true) (r:=false) rfl rfl rfl) ?_
      intro s11 oM hs11 hf11
      refine VO ?_
      refine wpIn_cond_false (lG (o:=.tmp 33) hs11 rfl).dP (wpIn_skip ?_)
      have hs11':=hs11.knw (kR s refs (.sc (.func (.yield lp) #[] #[])) i) H10 rfl (RJ ⟨rfl,rfl,rfl,rfl,rfl,rfl,trivial⟩)
      refine lS mixed aN rfl (t:=tU) (r:=.inl ()) rfl (J:=λ_ f hp=>jK hp f (kR s refs (.sc (.func (.yield lp) #[] #[])) (aI ((i:Int)+1)))/\hp=H10) (JR:=JN) (hJR:=kD) hs11' 1000 vO ?_ (λv S' s' a' e=>nomatch e)
      rintro _ S12 s12 a12 - ⟨hk12,h12⟩ hs12 hf12
      obtain ⟨hs12,hf12⟩:=hs12.k0 hf12 hk12 h12
      have ew:aI ((i:Int)+1)=((i+1:Nat):Int):=(wrap64 (by omega)).trans (by omega)
      rw [ew] at hs12
      refine ⟨⟨i+1,s12,H10,hlt,rfl,hj10,hs12,((hfs9.trans hf10).trans hf11).trans hf12⟩,?_⟩
      obtain ⟨v,q1,q2⟩:=hs12.slot 9 (int ((i+1:Nat):Int)) rfl
      rw [hm2,q1,q2.dP]
      simp
      omega
    · intro s10 kK H10 hk10 hs10 hn10 hf10
      refine go_in hs10 rfl rfl rfl rfl rfl (FL (b:=false) (r:=true) rfl rfl rfl) ?_
      intro s11 oM hs11 hf11
      refine VO ?_
      refine wpIn_cond_true (lG (o:=.tmp 33) hs11 rfl).dP (wpIn_ret ?_)
      have hn11:=hn10.fr hs10.heap hf11
      refine ⟨hs11.defers,.tuple #[],TH rfl,.inr ⟨s11,H10,.tuple #[],rfl,rfl,hk10,hs11.heap,hn11,?_⟩⟩
      refine M0 (hfs9.trans hf10) (hn10.put hs10.heap _).1 (hn10.xW rfl) (o1:=.loop (pU fn tmps p q assign body D)) ?_ hs11.heap hn11 hn.at'
      rw [DU,F3 hn10];exact hf11
  · refine wpIn_exit ?_
    have hieq:i=refs.length:=by have:=of_decide_eq_false hc;omega
    subst hieq
    refine ⟨hs3.defers,.tuple #[],TH rfl,.inl ⟨s3,H2,.tuple #[],rfl,rfl,?_,hs3.heap,hf2.trans hf3⟩⟩
    have:(tK s refs).length=refs.length:=by simp [tK]
    rw [this];exact hj
end
theorem aOQ {s:aA} {refs:List Int}:PP Tryz.prog 59 [.agg (aA.av s),aD 1 fI refs] (λy=>y=.fn (.func 115) [] [.pp [aD 1 fI refs],.pp (aA.av s)]):=by
  refine uD (R0:=λy H=>Cv (jZ H) y (.fn (.func 115) [] [.pp [aD 1 fI refs],.pp (aA.av s)])) ?_ (λy H hc=>⟨_,rfl,.fn (by simp) (λx hx=>by
    simp only [List.mem_cons,List.not_mem_nil,or_false] at hx
    rcases hx with rfl | rfl
    · exact .pp λx hx=>by simp only [List.mem_singleton] at hx;subst hx;exact o8 vI refs
    · exact .pp λx hx=>aA.dA s x hx),hc⟩)
  refine gN (c:=_) Tryz.func59 rfl rfl ?_;intro Q hret hnorm
  refine tc aN 2 (.mk ?_)
  refine sB 2 λv2=>?_
  refine sB 3 λv3=>?_
  refine tr aN 7 (.mk ?_)
  refine wR hret (rT .nil) ?_
  exact bK.fn .nil (.cons (Cv.pt (ob:=⟨22,1,false,true,v3,[[aD 1 fI refs]]⟩) rfl rfl rfl rfl (.cons (.refl _) .nil)) (.cons (Cv.pt (ob:=⟨31,10,false,true,v2,[aA.av s]⟩) rfl rfl rfl rfl (bK.refl _)) .nil))
section
noncomputable section
def tA:WT Tryz.prog (.s Unit (.b Unit)):=.al 1 <| .al 2 <| .al 3 <| .al 4 <| .brk ()
def tB (o:aS):WT Tryz.prog (.s Unit (.b Unit)):=.bB 21 (decide (o.Kind≠11)) λx1=>.az [21] x1 <| .ln 25 fI o.bT <| .bB 26 (decide ((o.bT.length:Int)=0)) λx2=>.az [26] x2 <| .brk ()
theorem aDD:aT Tryz.prog 59=true:=by kernel_rfl
theorem TG:aT Tryz.prog 115=true:=by kernel_rfl
def tC (d:Nat) (s:aA) (o:aS):WT Tryz.prog (.s Unit (.b Unit)):=.cl d (V:=λ_:Unit=>.fn (.func 115) [] [.pp [aD 1 fI o.bT],.pp (aA.av s)]) (some ()) aDD (λ_ _=>aOQ) λ_=>.brk ()
def D4 (r:bH):WT Tryz.prog (.s Unit (.b Unit)):=.bB 37 (decide (r.Item<0)) λx=>.az [37] x <| .brk ()
def FT (r f:bH):WT Tryz.prog (.s Unit (.b Unit)):=.bB 57 (decide (r.dG≠f.dG)) λx=>.az [57] x <| .brk ()
def NR (id:Nat):WT Tryz.prog (.s Unit (.b Unit)):=.al id <| .brk ()
def tD (s:aA) (o:aS):WT Tryz.prog (.s bH (.b Unit)):=.dr [(0,[1]),(1,[1]),(2,[2]),(3,[2])] [(9,[])] [1,2] [8,9] [0,1,2,3,4,5,6,7,8,9] (.ix 43 fI o.bT 0 λx11=>.ix 45 bH.av s.bP x11 λx12=>.al 7 <| .brk x12)
def tF (s:aA) (r:bH):WT Tryz.prog (.s Unit (.b (aA×Int))):=.cl 64 (lH s r.dG r.Item) mI mU λx16=>.bB 66 (decide (x16≠0)) λx17=>.an [66] x17 <| .esc (.ret (s,x16))
end
abbrev zSt:List AV:=[int 0,int 0,.sc (.slice none 0 0),.sc (.slice none 0 0),.sc (.slice none 0 0),.sc (.slice none 0 0),.sc (.slice none 0 0),.sc (.slice none 0 0),.sc (.slice none 0 0),int 0]
abbrev kB (v1 v2 v3 v4:Nat):List (Nat×AV):=[(2,.pt 1 v1 0 0),(3,.pt 2 v2 0 0),(4,.pt 3 v3 0 0),(5,.pt 4 v4 0 0)]
abbrev mB (s:aA) (o:aS) (v1 v2 v3 v4:Nat):List (Nat×bC):=[(1,⟨31,10,true,true,v1,[aA.av s]⟩),(2,⟨34,9,true,true,v2,[aS.av o]⟩),(3,⟨31,10,true,true,v3,[zSt]⟩),(4,⟨36,1,true,true,v4,[[int 0]]⟩)]
noncomputable def JP (s:aA) (o:aS):Option (aA×Int) :=
  fG (o.Kind=11) <| fG (o.bT.length≠0) <| fG (o.bT.length<=68719476736) <| (ix o.bT 0).bind λk=>(ix s.bP k).bind λf =>
  fG ((o.bT.all λk=>decide (0<=(kT s k).Item) && decide ((kT s k).dG=f.dG))=true) <| (lH s f.dG f.Item).bind λe=>fG (e≠0) (some (s,e))
theorem QV {s:aA} {refs:List Int} {i:Nat} {x y:AV} (h:(tK s refs)[i]?=some (x,y)):∃ k,k∈refs/\x=int i/\y=.agg (bH.av (kT s k)):=by
  unfold tK at h
  rw [List.getElem?_map] at h
  obtain ⟨⟨k,j⟩,h1,h2⟩:=Option.map_eq_some_iff.1 h
  rw [List.getElem?_zipIdx] at h1
  obtain ⟨k',h3,h4⟩:=Option.map_eq_some_iff.1 h1
  simp only [Prod.mk.injEq,Nat.zero_add] at h4 h2
  obtain ⟨rfl,rfl⟩:=h4
  exact ⟨_,List.mem_of_getElem? h3,h2.1.symm,h2.2.symm⟩
theorem aMA {s:aA} {o:aS}:PZ (JP s o) 26 [.agg (aA.av s),.agg (aS.av o)] (λr=>.aU [.agg (aA.av r.1),int r.2]):=by
  intro r h0
  unfold JP at h0
  obtain ⟨hK,h0⟩:=j5 h0
  obtain ⟨hne,h0⟩:=j5 h0
  obtain ⟨hfit,h0⟩:=j5 h0
  obtain ⟨k,hkk,h0⟩:=dJ h0
  obtain ⟨f,hf,h0⟩:=dJ h0
  obtain ⟨hall,h0⟩:=j5 h0
  obtain ⟨e,he,h0⟩:=dJ h0
  obtain ⟨hen,h0⟩:=j5 h0
  obtain rfl:(s,e)=r:=Option.some.inj h0
  have hall':∀ k∈o.bT,¬ (kT s k).Item<0/\(kT s k).dG=f.dG:=by
    intro k hk
    have:=List.all_eq_true.1 hall k hk
    simp only [Bool.and_eq_true,decide_eq_true_eq] at this
    exact ⟨by omega,this.2⟩
  have hB:(tB o).run=some (.inl ()):=by
    have h1:(o.bT.length:Int)≠0:=by omega
    have h2:o.bT≠[]:=by rintro h;simp [h] at hne
    simp [tB,WT.run,bnd,fG,hK,h1,h2,Go.Pv.brk]
  have hD:(tD s o).run=some (.inl f):=by simp [tD,WT.run,hkk,hf,Go.Pv.brk]
  have hF:(tF s f).run=some (.inr (s,e)):=by simp [tF,WT.run,he,bnd,fG,hen,Go.Pv.esc]
  refine uD (R0:=λy H=>Cv (jZ H) y (.aU [.agg (aA.av s),int e])) ?_ (λy H hc=>⟨_,rfl,(GL:∀ r:aA×Int,PV (.aU [.agg (aA.av r.1),int r.2])) (s,e),hc⟩)
  refine ZO (c:=_) Tryz.func26 rfl rfl ?_
  intro s0 q0 hs0
  refine wpIn_seq (lS mixed aN rfl (t:=tA) (r:=.inl ()) rfl (J:=λ_ f hp=>jK hp f (kB (vr hp 1) (vr hp 2) (vr hp 3) (vr hp 4))/\nD hp (mB s o (vr hp 1) (vr hp 2) (vr hp 3) (vr hp 4))) (JR:=JN) (hJR:=kD) hs0 1000 au ?_ (λv S' s' a' e=>nomatch e))
  rintro _ S1 s1 q1-hj hs1 hf1
  obtain ⟨hs1,hf1⟩:=hs1.AA hf1 (mQ hj.1 hj.2)
  generalize vr S1.hp 1=v1 at hs1 hf1
  generalize vr S1.hp 2=v2 at hs1 hf1
  generalize vr S1.hp 3=v3 at hs1 hf1
  generalize vr S1.hp 4=v4 at hs1 hf1
  clear hj
  refine wpIn_seq (lS mixed aN rfl (t:=tB o) (r:=.inl ()) hB (J:=PJ (λ_=>kB v1 v2 v3 v4) (λ_=>mB s o v1 v2 v3 v4)) (JR:=JN) (hJR:=kD) hs1 1000 au ?_ (λv S' s' a' e=>nomatch e))
  rintro _ S2 s2 q2-hj hs2 hf2
  obtain ⟨hs2,hf2⟩:=hs2.pj (hf1.trans hf2) hj
  clear hj
  refine wpIn_seq (wpIn_seq (lS mixed aN rfl (t:=tC 32 s o) (r:=.inl ()) rfl (J:=PJ (λ_=>(32,.fn (.func 115) [] [.pp [aD 1 fI o.bT],.pp (aA.av s)]) :: kB v1 v2 v3 v4) (λ_=>mB s o v1 v2 v3 v4)) (JR:=JN) (hJR:=kD) hs2 1000 au ?_ (λv S' s' a' e=>nomatch e)))
  rintro _ S3 s3 q3-hj hs3 hf3
  obtain ⟨hs3,hf3⟩:=hs3.pj (hf2.trans hf3) hj
  clear hj
  refine wpIn_block (K6 (n:=⟨134,false,[]⟩) (ds:=[]) rfl hs3 rfl TG (OW s o.bT hfit) (λi H=>H=Go.Pv.hk (mB s o v1 v2 v3 v4)) (λ_=>False) rfl (by rintro i H rfl;rfl) (λ_ h=>h.elim) (by decide) (by decide) ?_ ?_)
  · rintro i x y H hx rfl
    obtain ⟨k',hk',rfl,rfl⟩:=QV hx
    obtain ⟨hi,-⟩:=hall' k' hk'
    generalize kT s k'=rr at hi
    have hR:(D4 rr).run=some (.inl ()):=by simp [D4,WT.run,bnd,fG,hi,Go.Pv.brk]
    refine BR mixed aN (t:=NR 8) (r:=.inl ()) rfl (J:=λ_ f hp=>jK hp f ((7,.pt 8 (vr hp 8) 0 0) :: kB v1 v2 v3 v4)/\nD hp ((8,⟨98,8,true,true,vr hp 8,[bH.av rr]⟩) :: mB s o v1 v2 v3 v4)) (JR:=JN) (hJR:=kD) 1000 au (λ_ S1 _ hj=>⟨rfl,EI (mQ hj.1 hj.2) ?_⟩) (λv S' e=>nomatch e)
    generalize vr S1.hp 8=v5
    refine Tr.yB (Q':=λe S'=>e=.normal/\PJ (λ_:Unit=>[]) (λ_=>mB s o v1 v2 v3 v4) () S'.sl S'.hp) (BR mixed aN (t:=D4 rr) (r:=.inl ()) hR (J:=PJ (λ_=>[]) (λ_=>mB s o v1 v2 v3 v4)) (JR:=JN) (hJR:=kD) 1000 au (λv S' _ hj=>⟨rfl,hj⟩) (λv S' e=>nomatch e)) ?_
    rintro e S' ⟨rfl,hj⟩
    exact ⟨⟨kn [],Go.Pv.hk (mB s o v1 v2 v3 v4)⟩,mQ hj.1 hj.2,.inl ⟨rfl,rfl⟩⟩
  rintro e' D s4 H4 hj hs4 hf4 hD4 hn4
  obtain ⟨rfl,rfl⟩:e'=.normal/\H4=Go.Pv.hk (mB s o v1 v2 v3 v4):=by
    rcases hj with h | h
    · exact h
    · exact h.2.elim
  clear hj
  have hf4':=hf3.trans hf4
  refine wpIn_seq (lS mixed aN (n:=⟨134,false,[mk D]⟩) rfl (t:=tD s o) (r:=.inl f) hD (J:=λx f hp=>jK hp f ((8,.pt 7 (vr hp 7) 0 0) :: kB v1 v2 v3 v4)/\nD hp ((7,⟨98,8,true,true,vr hp 7,[bH.av x]⟩) :: mB s o v1 v2 v3 v4)) (JR:=JN) (hJR:=kD) hs4 1000 au ?_ (λv S' s' a' e=>nomatch e))
  rintro x S5 s5 q5 ex hj hs5 hf5
  obtain rfl:f=x:=by injection ex
  obtain ⟨hs5,hf5'⟩:=hs5.AA (hf4'.trans hf5) (mQ hj.1 hj.2)
  have hn5:=hn4.fr hs4.heap hf5
  generalize vr S5.hp 7=v7 at hs5 hf5'
  clear hj
  have hD5:D<s5.w.heap.size:=hn5.lt
  refine wpIn_seq (wpIn_seq (lS mixed aN (n:=⟨134,false,[mk D]⟩) rfl (t:=tC 50 s o) (r:=.inl ()) rfl (J:=PJ (λ_=>(50,.fn (.func 115) [] [.pp [aD 1 fI o.bT],.pp (aA.av s)]) :: (8,.pt 7 v7 0 0) :: kB v1 v2 v3 v4) (λ_=>(7,⟨98,8,true,true,v7,[bH.av f]⟩) :: mB s o v1 v2 v3 v4)) (JR:=JN) (hJR:=kD) hs5 1000 au ?_ (λv S' s' a' e=>nomatch e)))
  rintro _ S6 s6 q6-hj hs6 hf6
  have hn6:=hn5.fr hs5.heap hf6
  obtain ⟨hs6,hf6'⟩:=hs6.pj (hf5'.trans hf6) hj
  clear hj
  refine wpIn_block (K6 (n:=⟨134,false,[]⟩) (ds:=[mk D]) rfl hs6 rfl TG (OW s o.bT hfit) (λi H=>H=Go.Pv.hk ((7,⟨98,8,true,true,v7,[bH.av f]⟩) :: mB s o v1 v2 v3 v4)) (λ_=>False) rfl (by rintro i H rfl;rfl) (λ_ h=>h.elim) (by decide) (by decide) ?_ ?_)
  · rintro i x y H hx rfl
    obtain ⟨k',hk',rfl,rfl⟩:=QV hx
    obtain ⟨-,hi⟩:=hall' k' hk'
    generalize kT s k'=rr at hi
    have hR:(FT rr f).run=some (.inl ()):=by simp [FT,WT.run,bnd,fG,hi,Go.Pv.brk]
    refine BR mixed aN (t:=NR 8) (r:=.inl ()) rfl (J:=λ_ f' hp=>jK hp f' ((10,.pt 8 (vr hp 8) 0 0) :: (8,.pt 7 v7 0 0) :: kB v1 v2 v3 v4)/\nD hp ((8,⟨98,8,true,true,vr hp 8,[bH.av rr]⟩) :: (7,⟨98,8,true,true,v7,[bH.av f]⟩) :: mB s o v1 v2 v3 v4)) (JR:=JN) (hJR:=kD) 1000 au (λ_ S1 _ hj=>⟨rfl,EI (mQ hj.1 hj.2) ?_⟩) (λv S' e=>nomatch e)
    generalize vr S1.hp 8=v5
    refine Tr.yB (Q':=λe S'=>e=.normal/\PJ (λ_:Unit=>[]) (λ_=>(7,⟨98,8,true,true,v7,[bH.av f]⟩) :: mB s o v1 v2 v3 v4) () S'.sl S'.hp) (BR mixed aN (t:=FT rr f) (r:=.inl ()) hR (J:=PJ (λ_=>[]) (λ_=>(7,⟨98,8,true,true,v7,[bH.av f]⟩) :: mB s o v1 v2 v3 v4)) (JR:=JN) (hJR:=kD) 1000 au (λv S' _ hj=>⟨rfl,hj⟩) (λv S' e=>nomatch e)) ?_
    rintro e S' ⟨rfl,hj⟩
    exact ⟨⟨kn [],Go.Pv.hk ((7,⟨98,8,true,true,v7,[bH.av f]⟩) :: mB s o v1 v2 v3 v4)⟩,mQ hj.1 hj.2,.inl ⟨rfl,rfl⟩⟩
  rintro e' D2 s7 H7 hj hs7 hf7 hD7 hn7
  obtain ⟨rfl,rfl⟩:e'=.normal/\H7=Go.Pv.hk ((7,⟨98,8,true,true,v7,[bH.av f]⟩) :: mB s o v1 v2 v3 v4):=by
    rcases hj with h | h
    · exact h
    · exact h.2.elim
  clear hj
  have hn7':=hn6.fr hs6.heap hf7
  have hf7':=hf6'.trans hf7
  refine wpIn_seq (lS mixed aN (n:=⟨134,false,mk D2 :: [mk D]⟩) rfl (t:=tF s f) (r:=.inr (s,e)) hF (J:=PJ (λ_=>[]) (λ_=>[])) (JR:=JF tb Tryz.f26.results.toList (λr:aA×Int=>.aU [.agg (aA.av r.1),int r.2])) (hJR:=DJ) hs7 1000 au (λv S' s' a' e=>nomatch e) ?_)
  rintro x S8 s8 q8 ex hj hs8 hf8
  obtain rfl:(s,e)=x:=by injection ex
  obtain ⟨ws,us,g1,g2,g3⟩:=vD aN hj
  cases g1 with
  | mk g1 a =>
    have hn8:=hn7.fr hs7.heap hf8
    have hn8':=hn7'.fr hs7.heap hf8
    have h05:=hf5'.size
    refine ⟨rfl,S8,s8,[D2,D],us,S8.hp,rfl,hs8,hf7'.trans hf8,?_,?_,?_,g3 a,λ_ _ h=>h,g1⟩
    · intro x hx
      simp only [List.mem_cons,List.not_mem_nil,or_false] at hx
      rcases hx with rfl | rfl
      · have:=hf6'.size;omega
      · have:=hf3.size;omega
    · have:D<s6.w.heap.size:=hn6.lt
      simp;omega
    · intro x hx
      simp only [List.mem_cons,List.not_mem_nil,or_false] at hx
      rcases hx with rfl | rfl
      · exact hn8
      · exact hn8'
end
def Z8 (a1:Int) (a2:Int):WB (aH) :=
 .al 1<|.ret (((⟨a1,a2⟩:aH):aH))
def nR (a1:Int) (a2:Int):Option (aH):=(Z8 a1 a2).run
theorem pE {a1 a2}:PZ (nR a1 a2) 126 [int a1,int a2] (λr=>.agg (aH.av r)):=wq Tryz.func126
def XB (n:Nat) (a1:aA) (a2:List gG):WB (aA×Int) :=
 .al 1<|.al 2<|.ln 10 gG.av a2<|.dF 0 [2,4,5] [2] [] (λ_ (a:aA)=>[]) (λ_ a=>[.kp 1 [(aA.av a)]]) (.lp [2,4,5,9,10] [2] [] (λ_ (a:Int×aA)=>[(11,int a.1)]) (λ_ a=>[.kp 1 [(aA.av a.2)]]) n ((0:Int),a1) (pw λy0_1 y0_2=>.bB 12 (decide (y0_1<(a2.length:Int))) λx5=>.ifs [12] x5 (.ix 13 gG.av a2 y0_1 λx6=>.al 3<|.cl 21 (oN n y0_2 x6.NB x6.lines) qC qN λx8=>.bB 25 (decide (x8.2≠0)) λx9=>.ifs [25] x9 (.esc (.esc (.ret ((x8.1:aA),x8.2)))) (.bI 28 (aI (y0_1+1)) λx10=>.brk ((x10:Int),x8.1))) (.esc (.brk y0_2)))) (λy1_1=>.ret ((y1_1:aA),0))
def EC (n:Nat) (a1:aA) (a2:List gG):Option (aA×Int):=(XB n a1 a2).run
theorem SG {n a1 a2}:PZ (EC n a1 a2) 125 [.agg (aA.av a1),aD 2 gG.av a2] (λr=>.aU [.agg (aA.av r.1),int r.2]):=wq Tryz.func125
end
end Go.Pv
