import Derived.Test.YtfamehgkphejnaaGreatXTh
set_option linter.unusedVariables false
set_option linter.unusedSimpArgs false
namespace Go.Pv
open Go.Proofs
set_option maxRecDepth 100000
set_option maxHeartbeats 4000000
noncomputable section
def bDC (n:Nat) (a1:aA) (a2:Int):WB (aA×Int) :=
 .al 1<|.al 2<|.cl 17 (a6A a1 a2) aII a7P λx5=>.bB 18 (!x5) λx6=>.ifs [18] x6 (.ret ((a1:aA),4)) (.gI 24 aP.av gE aP.bW a1.aW a2 λx7=>.wt 20 <|.ifs [20] x7.Closed (.ret ((a1:aA),7)) (.al 3<|.ix 33 (fL 1 fI) a1.bA.Methods a2 λx9=>.ln 35 fI x9<|.dF 0 [1,2,4,5,6] [1,2] [] (λ_ (a:aA)=>[]) (λ_ a=>[.kp 3 [(aA.av a)]]) (.lp [1,2,4,5,6,34,35] [1,2] [] (λ_ (a:Int×aA)=>[(36,int a.1)]) (λ_ a=>[.kp 3 [(aA.av a.2)]]) n ((0:Int),a1) (pw λy0_1 y0_2=>.bB 37 (decide (y0_1<(x9.length:Int))) λx10=>.ifs [37] x10 (.dF 1 [1,2,4,5,6,34,35,36] [1,2] [] (λ_ (a:aA)=>[]) (λ_ a=>[.kp 3 [(aA.av a)]]) (.ix 39 fI x9 y0_1 λx11=>.jn 0 [1,2,4,5,6,7,34,35,36] [1,2,3] [] (λ_ (a:Bool)=>[(55,aF a)]) (λ_ _=>[]) (.bB 42 (decide (x11≠3)) λx12=>.ifs [42] x12 (.ret true) (.bI 45 (aI (y0_1+1)) λx13=>.bI 46 (aI (x13*2)) λx14=>.gI 50 aP.av gE aP.bW a1.aW a2 λx15=>.ln 53 aM.av x15.dD<|.bB 54 (decide (x14>(x15.dD.length:Int))) λx16=>.ret x16)) (λy1_1=>.ifs [55] y1_1 (.brk y0_2) (.gI 59 aP.av gE aP.bW a1.aW a2 λx17=>.bI 63 (aI (y0_1*2)) λx18=>.bI 65 (aI (y0_1+1)) λx19=>.bI 66 (aI (x19*2)) λx20=>.bI 68 (aI (y0_1+1)) λx21=>.bI 69 (aI (x21*2)) λx22=>.as ((0:Int)<=x18/\x18<=x20/\x20<=(x17.dD.length:Int)/\x22=x20) inferInstance<|.bl ((x17.dD.take x20.toNat).drop x18.toNat:List aM) λx24=>.gv 70<|.ln 72 aM.av x24<|.dF 0 [1,2,4,5,6,34,35,36] [1,2] [] (λ_ (a:aA)=>[]) (λ_ a=>[.kp 3 [(aA.av a)]]) (.lp [1,2,4,5,6,7,34,35,36,71,72] [1,2] [] (λ_ (a:Int×aA)=>[(73,int a.1)]) (λ_ a=>[.kp 3 [(aA.av a.2)]]) n ((0:Int),y0_2) (pw λy2_1 y2_2=>.bB 74 (decide (y2_1<(x24.length:Int))) λx25=>.ifs [74] x25 (.dF 1 [1,2,4,5,6,7,34,35,36,71,72,73] [1,2] [] (λ_ (a:aA)=>[]) (λ_ a=>[.kp 3 [(aA.av a)]]) (.ix 76 aM.av x24 y2_1 λx26=>.al 4<|.gv 80<|.bl (decide ((x26.bF:gJ)=((⟨0,0,0⟩:gJ):gJ)):Bool) λx28=>.gv 81<|.ifs [81] x28 (.brk y2_2) (.cl 88 (a8N n y2_2 a2 y0_1 y2_1 x26) aLJ bBM λx29=>.bB 92 (decide (x29.2≠0)) λx30=>.ifs [92] x30 (.esc (.esc (.esc (.esc (.esc (.esc (.ret ((a1:aA),x29.2)))))))) (.brk x29.1))) (λy3_1=>.bI 95 (aI (y2_1+1)) λx31=>.brk ((x31:Int),y3_1))) (.esc (.brk y2_2)))) (λy4_1=>.brk y4_1)))) (λy5_1=>.bI 96 (aI (y0_1+1)) λx32=>.brk ((x32:Int),y5_1))) (.esc (.brk y0_2)))) (λy6_1=>.cl 100 (a9U n y6_1 a2) aJF bCB λx33=>.bB 104 (decide (x33.2≠0)) λx34=>.ifs [104] x34 (.ret ((a1:aA),x33.2)) (.as (x33.1.aW.length<=68719476736) inferInstance<|.ge 109 5<|.dr [(0,[3]),(1,[3]),(3,[3]),(4,[3]),(6,[1]),(7,[1]),(12,[5]),(13,[5]),(15,[5]),(16,[5])] [(14,[3]),(17,[])] [1,3,5] [14,17] [0,1,2,3,4,5,6,7,8,9,10,11,12,13,14,15,16,17] (.gI 120 aP.av gE aP.bW a1.aW a2 λx37=>.to 122 (aD 8 aP.av ([x37]:List aP))<|.bo (ix x33.1.aW a2) λx38=>.gv 123<|.gv 124<|.bl (x33.1.aW.set (Int.toNat a2) ((⟨x38.Now,x38.Closed,x38.dD,x38.dU,x38.dI,x38.dO,x38.Down,([x37]:List aP)⟩:aP):aP):List aP) λx39=>.ge 1025014 0<|.gv 125<|.gv 126<|.bl (x39.set (Int.toNat a2) ((⟨x38.Now,true,x38.dD,x38.dU,x38.dI,x38.dO,x38.Down,([x37]:List aP)⟩:aP):aP):List aP) λx40=>.ge 1025017 0<|.ret (((⟨x33.1.bA,x40,x33.1.bP,x33.1.bU,x33.1.bY,x33.1.Done⟩:aA):aA),0))))))
def bAM (n:Nat) (a1:aA) (a2:Int):Option (aA×Int):=(bDC n a1 a2).run
theorem bE7 {n a1 a2}:PZ (bAM n a1 a2) 13 [.agg (aA.av a1),int a2] (λr=>.aU [.agg (aA.av r.1),int r.2]):=by
 refine wm Tryz.func13 ?_
 intro v3
 intro v4
 refine .mk λx5 e5=>?_
 refine .mk λx6=>?_
 refine .mk .mk ?_
 refine .mk λx7 e7=>?_
 refine .mk .mk ?_
 intro v8
 refine .mk λx9 e9=>?_
 refine .mk ?_
 refine .mk ?_ ?_
 refine .mk ?_
 intro _ _
 refine .mk λx10=>?_
 refine .mk ?_ ?_
 refine .mk ?_ ?_
 refine .mk λx11 e11=>?_
 refine .mk ?_ ?_
 refine .mk λx12=>?_
 refine .mk .mk ?_
 refine .mk λx13=>?_
 refine .mk λx14=>?_
 refine .mk λx15 e15=>?_
 refine .mk ?_
 refine .mk λx16=>?_
 exact .mk
 intro _ _
 refine .mk .mk ?_
 refine .mk λx17 e17=>?_
 refine .mk λx18=>?_
 refine .mk λx19=>?_
 refine .mk λx20=>?_
 refine .mk λx21=>?_
 refine .mk λx22=>?_
 refine .mk λp23=>?_
 refine .mk λx24 e24=>?_
 refine .mk _ (bE (bDT (i:=x18.toNat) (j:=x20.toNat) rfl Tryz.underlying42 a2Q rfl (.yes rfl (by omega)) (.yes rfl (by omega)) (.yes rfl (by omega)) (by omega) (by omega) e24)) ?_
 refine .mk ?_
 refine .mk ?_ ?_
 refine .mk ?_
 intro _ _
 refine .mk λx25=>?_
 refine .mk ?_ ?_
 refine .mk ?_ ?_
 refine .mk λx26 e26=>?_
 intro v27
 refine .mk _ (bE (qJ (cs:=[int 0,int 0,int 0]) (ps:=[]) rfl Tryz.underlying75 fC z75 rfl .nil (by kernel_rfl))) ?_
 refine .mk λx28 e28=>?_
 refine .mk _ (bE (bF3 (r':=x28) rfl Tryz.underlying75 sz3 c3 (by decide) rfl rfl (.cons (.int Tryz.underlying3) fC (.cons (.int Tryz.underlying3) fC (.cons (.int Tryz.underlying3) fC (.nil _)))) ((gJ.eqv (x26.bF:gJ) ((⟨0,0,0⟩:gJ):gJ)).trans e28))) ?_
 refine .mk .mk ?_
 refine .mk λx29 e29=>?_
 refine .mk λx30=>?_
 refine .mk .mk ?_
 exact .mk
 intro _ _
 refine .mk λx31=>?_
 exact .mk
 exact .mk
 intro _ _
 exact .mk
 intro _ _
 refine .mk λx32=>?_
 exact .mk
 exact .mk
 intro _ _
 refine .mk λx33 e33=>?_
 refine .mk λx34=>?_
 refine .mk .mk ?_
 refine .mk λp35=>?_
 refine .mk _ ⟨λ_=>d9 rfl rfl (.cons rfl .nil) aHV (iK (a2I.pc (id:=5) (l:=x33.1.aW) rfl p35) (.cons (.refl _) .nil)),λ_ _ _=>trivial⟩ ?_
 rintro _ _ ⟨v36,rfl,rfl⟩
 refine .mk ?_
 refine .mk λx37 e37=>?_
 refine .mk (λH hH _=>bX (y:=aD 8 aP.av ([x37]:List aP)) (dQ (ps:=[(0,_)]) (rows:=[[int x37.Now,aF x37.Closed,aD 4 aM.av x37.dD,aD 1 fI x37.dU,aD 11 bM.av x37.dI,aD 1 fI x37.dO,aD 1 fI x37.Down,aD 8 aP.av x37.eT]]) rfl Tryz.underlying28 a4M (.cons rfl .nil) (by kernel_rfl) rfl rfl rfl) (congrArg (AV.list 8) (by simp only [List.map_cons,List.map_nil,aP.bW]))) ?_
 refine .mk λx38 e38=>?_
 refine .mk _ (λH hH _=>aP4 rfl Tryz.underlying28 aWN rfl rfl ((hH _ (by decide)).trans rfl) rfl rfl (Eq.symm rfl) (List.length_map _) e38) ?_
 refine .mk _ (λH hH _=>dK rfl a7A rfl (.pt ((hH _ (by decide)).trans rfl) rfl (dR e38 (aP.bW _))) (.pt _ _ _ _ _)) ?_
 refine .mk λx39 e39=>?_
 have fx39:=aQC e38 e39;have lx39:=fH e39 (rfl:x33.1.aW.length=x33.1.aW.length)
 refine .mk _ ⟨λ_=>bQ.dM (eO (ob':=(⟨45,8,true,true,_,x39.map aP.av⟩:bC)) (dZ rfl a4Z rfl rfl rfl rfl rfl (dR e38 (aP.bW _)) rfl rfl rfl) (eU (C5 e39 (aP.bW _)))) (λ_ h=>h) (λ_ _=>trivial),by rintro _ _ ⟨rfl,rfl⟩;exact ⟨rfl,trivial⟩⟩ ?_
 rintro _ _ ⟨rfl,rfl⟩
 refine .mk _ (λH hH _=>aP4 rfl Tryz.underlying28 aWN rfl rfl ((hH _ (by decide)).trans rfl) rfl rfl (Eq.symm lx39) (List.length_map _) fx39) ?_
 refine .mk _ (λH hH _=>dK rfl a8R rfl (.pt ((hH _ (by decide)).trans rfl) rfl (dR fx39 (aP.bW _))) (.pt _ _ _ _ _)) ?_
 refine .mk λx40 e40=>?_
 have fx40:=aQC fx39 e40;have lx40:=fH e40 lx39
 refine .mk _ ⟨λ_=>bQ.dM (eO (ob':=(⟨45,8,true,true,_,x40.map aP.av⟩:bC)) (dZ rfl rE rfl rfl rfl rfl rfl (dR fx39 (aP.bW _)) rfl rfl rfl) (eU (C5 e40 (aP.bW _)))) (λ_ h=>h) (λ_ _=>trivial),by rintro _ _ ⟨rfl,rfl⟩;exact trivial⟩ ?_
 rintro _ _ ⟨rfl,rfl⟩
 exact .mk (bK.aU (.cons (bK.agg (.cons (.refl _) (.cons (.refl _) (.cons (.refl _) (.cons (.refl _) (.cons (.refl _) (.cons (dH rfl rfl rfl rfl rfl (Eq.symm lx40)) (.cons (.refl _) (.cons (.refl _) (.cons (.refl _) (.cons (.refl _) .nil))))))))))) (.cons (.refl _) .nil)))
def bC2 (n:Nat) (a1:aA) (a2:Int):WB (aA×Int) :=
 .al 1<|.al 2<|.cl 11 (a6A a1 a2) aII a7P λx5=>.bB 12 (!x5) λx6=>.ifs [12] x6 (.ret ((a1:aA),4)) (.jn 1 [1,2,4,5] [1,2] [] (λ_ (a:Bool)=>[(14,aF a)]) (λ_ _=>[]) (.gI 18 aP.av gE aP.bW a1.aW a2 λx7=>.bB 21 (!x7.Closed) λx8=>.ifs [21] x8 (.ret true) (.gI 26 aP.av gE aP.bW a1.aW a2 λx9=>.ln 29 aP.av x9.eT<|.bB 30 (decide ((x9.eT.length:Int)≠1)) λx10=>.ret x10)) (λy0_1=>.ifs [14] y0_1 (.ret ((a1:aA),8)) (.dr [(0,[1]),(1,[1]),(3,[1]),(4,[1]),(6,[1]),(8,[1])] [(7,[]),(9,[])] [1] [2,5,7,9] [0,1,3,4,2,6,5,7,8,9] (.as (a1.aW.length<=68719476736) inferInstance<|.ge 35 3<|.as (a1.bU.length<=68719476736) inferInstance<|.ge 38 4<|.dr [(0,[1]),(1,[1]),(3,[1]),(4,[1]),(6,[3]),(7,[3]),(8,[3]),(11,[3])] [(12,[])] [1,3] [12] [0,1,2,3,4,5,6,7,8,9,10,11,12] (.bo (ix a1.aW a2) λx15=>.gv 47<|.gv 48<|.gv 49<|.gI 50 aP.av gE aP.bW x15.eT 0 λx16=>.gv 52<|.bl (a1.aW.set (Int.toNat a2) x16:List aP) λx17=>.ge 1006012 0<|.jn 1 [2,4,5] [2,3] [] (λ_ (a:(List bS))=>[]) (λu7 a=>[.kp 1 [[int a1.bA.eH,int a1.bA.aQA,aD 1 fI a1.bA.cB,aD 1 (fL 1 fI) a1.bA.Methods,aD 1 (fL 1 fI) a1.bA.dN,.sl 3 (u7 3) 0 a1.aW.length,aD 8 bH.av a1.bP,.sl 4 (u7 4) 0 a.length,aD 6 dB.av a1.bY,int a1.Done]],.kp 4 (a.map bS.av)]) (.lp [1,2,4,5,55] [2,3] [] (λu10 (a:Int×(List bS))=>[(54,.sl 4 (u10 4) 0 a.2.length),(56,int a.1)]) (λu10 a=>[.kp 1 [[int a1.bA.eH,int a1.bA.aQA,aD 1 fI a1.bA.cB,aD 1 (fL 1 fI) a1.bA.Methods,aD 1 (fL 1 fI) a1.bA.dN,.sl 3 (u10 3) 0 a1.aW.length,aD 8 bH.av a1.bP,.sl 4 (u10 4) 0 a.2.length,aD 6 dB.av a1.bY,int a1.Done]],.kp 4 (a.2.map bS.av)]) n ((0:Int),(a1.bU:List bS)) (pw λy1_1 y1_2=>.bB 57 (decide (y1_1<(a1.bU.length:Int))) λx18=>.ifs [57] x18 (.jn 1 [1,2,4,5,55,56] [2,3] [] (λu11 (a:(List bS))=>[(54,.sl 4 (u11 4) 0 a.length)]) (λu11 a=>[.kp 1 [[int a1.bA.eH,int a1.bA.aQA,aD 1 fI a1.bA.cB,aD 1 (fL 1 fI) a1.bA.Methods,aD 1 (fL 1 fI) a1.bA.dN,.sl 3 (u11 3) 0 a1.aW.length,aD 8 bH.av a1.bP,.sl 4 (u11 4) 0 a.length,aD 6 dB.av a1.bY,int a1.Done]],.kp 4 (a.map bS.av)]) (.bo (ix y1_2 y1_1) λx19=>.gv 59<|.gv 60<|.al 5<|.dr [(0,[5]),(2,[1]),(3,[1]),(5,[3]),(6,[3]),(7,[3])] [] [1,3,5] [] [0,1,2,3,4,5,6,7,8] (.gv 66<|.gv 67<|.gv 68<|.cl 69 (a7L x19 a2 ((x16:aP).Now)) uG a8V λx21=>.ifs [69] x21 (.dr [(0,[1]),(1,[1]),(3,[1]),(4,[1]),(6,[4]),(7,[4]),(9,[4]),(10,[4])] [(8,[1]),(11,[])] [1,4] [8,11] [0,1,2,3,4,5,6,7,8,9,10,11] (.gv 76<|.gv 77<|.bl (y1_2.set (Int.toNat y1_1) ((⟨x19.dG,x19.Item,x19.Loc,x19.aQ,x19.fF,0,x19.bO,x19.jW,x19.jY⟩:bS):bS):List bS) λx22=>.ge 1011008 0<|.gv 78<|.gv 79<|.bl (x22.set (Int.toNat y1_1) ((⟨x19.dG,x19.Item,x19.Loc,x19.aQ,x19.fF,0,0,x19.jW,x19.jY⟩:bS):bS):List bS) λx23=>.ge 1011011 0<|.ret x23)) (.ret y1_2))) (λy2_1=>.bI 80 (aI (y1_1+1)) λx24=>.brk ((x24:Int),y2_1))) (.esc (.ret y1_2)))) (λy3_1=>.ret (((⟨a1.bA,x17,a1.bP,y3_1,a1.bY,a1.Done⟩:aA):aA),0)))))))
def a97 (n:Nat) (a1:aA) (a2:Int):Option (aA×Int):=(bC2 n a1 a2).run
theorem bFK {n a1 a2}:PZ (a97 n a1 a2) 14 [.agg (aA.av a1),int a2] (λr=>.aU [.agg (aA.av r.1),int r.2]):=by
 refine wm Tryz.func14 ?_
 intro v3
 intro v4
 refine .mk λx5 e5=>?_
 refine .mk λx6=>?_
 refine .mk .mk ?_
 refine .mk ?_ ?_
 refine .mk λx7 e7=>?_
 refine .mk λx8=>?_
 refine .mk .mk ?_
 refine .mk λx9 e9=>?_
 refine .mk ?_
 refine .mk λx10=>?_
 exact .mk
 intro _ _
 refine .mk .mk ?_
 refine .mk ?_
 refine .mk λp11=>?_
 refine .mk _ ⟨λ_=>d9 rfl rfl (.cons rfl .nil) aHV (iK (a2I.pc (id:=3) (l:=a1.aW) rfl p11) (.cons (.refl _) .nil)),by rintro _ _ ⟨v12,rfl,rfl⟩;exact ⟨rfl,trivial⟩⟩ ?_
 rintro _ _ ⟨v12,rfl,rfl⟩
 refine .mk λp13=>?_
 refine .mk _ ⟨λ_=>d9 rfl rfl (.cons rfl .nil) rW (iK (a8B.pc (id:=4) (l:=a1.bU) rfl p13) (.cons (.refl _) .nil)),by rintro _ _ ⟨v14,rfl,rfl⟩;exact ⟨rfl,trivial⟩⟩ ?_
 rintro _ _ ⟨v14,rfl,rfl⟩
 refine .mk ?_
 refine .mk λx15 e15=>?_
 refine .mk _ (λH hH _=>aP4 rfl Tryz.underlying28 aWN rfl rfl ((hH _ (by decide)).trans rfl) rfl rfl (Eq.symm rfl) (List.length_map _) e15) ?_
 refine .mk _ (λH hH _=>dK rfl a7A rfl (.pt ((hH _ (by decide)).trans rfl) rfl (dR e15 (aP.bW _))) (.pt _ _ _ _ _)) ?_
 refine .mk _ (λH hH _=>dV rfl a4Z rfl (.pt ((hH _ (by decide)).trans rfl) rfl (dR e15 (aP.bW _))) rfl) ?_
 refine .mk λx16 e16=>?_
 refine .mk _ (λH hH _=>aP4 rfl Tryz.underlying28 aWN rfl rfl ((hH _ (by decide)).trans rfl) rfl rfl (Eq.symm rfl) (List.length_map _) e15) ?_
 refine .mk λx17 e17=>?_
 have fx17:=aQC e15 e17;have lx17:=fH e17 (rfl:a1.aW.length=a1.aW.length)
 refine .mk _ ⟨λ_=>bQ.dM (eO (ob':=(⟨45,8,true,true,_,x17.map aP.av⟩:bC)) (dZ rfl aWN rfl rfl rfl rfl rfl (dR e15 (aP.bW _)) rfl rfl rfl) (eU (C5 e17 (aP.bW _)))) (λ_ h=>h) (λ_ _=>trivial),by rintro _ _ ⟨rfl,rfl⟩;exact trivial⟩ ?_
 rintro _ _ ⟨rfl,rfl⟩
 refine .mk ?_ ?_
 refine .mk ?_
 rintro ⟨y1_1,y1_2⟩ _
 refine .mk λx18=>?_
 refine .mk ?_ ?_
 refine .mk ?_ ?_
 refine .mk λx19 e19=>?_
 refine .mk _ (bE (aP4 rfl Tryz.underlying30 a5L rfl rfl rfl rfl rfl (Eq.symm rfl) (List.length_map _) e19)) ?_
 refine .mk _ (bE (dV rfl a5L rfl (.pt rfl rfl (cZ e19)) rfl)) ?_
 intro v20
 refine .mk ?_
 refine .mk _ (λH hH _=>aP4 rfl Tryz.underlying28 aWN rfl rfl ((hH _ (by decide)).trans rfl) rfl rfl (Eq.symm lx17) (List.length_map _) fx17) ?_
 refine .mk _ (λH hH _=>dK rfl a6F rfl (.pt ((hH _ (by decide)).trans rfl) rfl (dR fx17 (aP.bW _))) (.pt _ _ _ _ _)) ?_
 refine .mk _ (λH hH _=>dV rfl fC rfl (.pt ((hH _ (by decide)).trans rfl) rfl (dR fx17 (aP.bW _))) rfl) ?_
 refine .mk λx21 e21=>?_
 refine .mk ?_ ?_
 refine .mk ?_
 refine .mk _ (λH hH _=>aP4 rfl Tryz.underlying30 a5L rfl rfl ((hH _ (by decide)).trans rfl) rfl rfl (Eq.symm rfl) (List.length_map _) e19) ?_
 refine .mk _ (λH hH _=>dK rfl bBA rfl (.pt ((hH _ (by decide)).trans rfl) rfl (cZ e19)) (.pt _ _ _ _ _)) ?_
 refine .mk λx22 e22=>?_
 have fx22:=aQC e19 e22;have lx22:=fH e22 (rfl:y1_2.length=y1_2.length)
 refine .mk _ ⟨λ_=>bQ.dM (eO (ob':=(⟨82,9,true,true,_,x22.map bS.av⟩:bC)) (dZ rfl fC rfl rfl rfl rfl rfl (cZ e19) rfl rfl rfl) (eU (iI e22))) (λ_ h=>h) (λ_ _=>trivial),by rintro _ _ ⟨rfl,rfl⟩;exact ⟨rfl,trivial⟩⟩ ?_
 rintro _ _ ⟨rfl,rfl⟩
 refine .mk _ (λH hH _=>aP4 rfl Tryz.underlying30 a5L rfl rfl ((hH _ (by decide)).trans rfl) rfl rfl (Eq.symm lx22) (List.length_map _) fx22) ?_
 refine .mk _ (λH hH _=>dK rfl bCD rfl (.pt ((hH _ (by decide)).trans rfl) rfl (cZ fx22)) (.pt _ _ _ _ _)) ?_
 refine .mk λx23 e23=>?_
 have fx23:=aQC fx22 e23;have lx23:=fH e23 lx22
 refine .mk _ ⟨λ_=>bQ.dM (eO (ob':=(⟨82,9,true,true,_,x23.map bS.av⟩:bC)) (dZ rfl fC rfl rfl rfl rfl rfl (cZ fx22) rfl rfl rfl) (eU (iI e23))) (λ_ h=>h) (λ_ _=>trivial),by rintro _ _ ⟨rfl,rfl⟩;exact trivial⟩ ?_
 rintro _ _ ⟨rfl,rfl⟩
 exact .mk ⟨⟨⟨_,rfl,(nC (Eq.symm lx23))⟩,⟨_,rfl,(.refl _)⟩,⟨_,rfl,(.refl _)⟩,⟨_,rfl,(.refl _)⟩,⟨_,rfl,(.refl _)⟩,⟨_,rfl,(.refl _)⟩,⟨_,rfl,(.refl _)⟩,trivial⟩,⟨⟨_,rfl,⟨rfl,(.cons (.cons (.refl _) (.cons (.refl _) (.cons (.refl _) (.cons (.refl _) (.cons (.refl _) (.cons (.refl _) (.cons (.refl _) (.cons (nC (Eq.symm lx23)) (.cons (.refl _) (.cons (.refl _) .nil)))))))))) .nil)⟩⟩,⟨_,rfl,(.refl _)⟩,⟨_,rfl,(.refl _)⟩,⟨_,rfl,(.refl _)⟩,trivial⟩⟩
 exact .mk
 intro _ _
 refine .mk λx24=>?_
 exact .mk
 exact .mk
 intro _ _
 exact .mk (bK.aU (.cons (bK.agg (.cons (.refl _) (.cons (.refl _) (.cons (.refl _) (.cons (.refl _) (.cons (.refl _) (.cons (dH rfl rfl rfl rfl rfl (Eq.symm lx17)) (.cons (.refl _) (.cons (dH rfl rfl rfl rfl rfl (Eq.symm rfl)) (.cons (.refl _) (.cons (.refl _) .nil))))))))))) (.cons (.refl _) .nil)))
def bA6 (n:Nat) (a1:aA) (a2:Int):WB (aA×Int) :=
 .al 1<|.al 2<|.cl 11 (a6A a1 a2) aII a7P λx5=>.bB 12 (!x5) λx6=>.ifs [12] x6 (.ret ((a1:aA),4)) (.gI 18 aP.av gE aP.bW a1.aW a2 λx7=>.bB 21 (!x7.Closed) λx8=>.ifs [21] x8 (.ret ((a1:aA),8)) (.dr [(0,[1]),(1,[1]),(6,[1]),(7,[1]),(8,[1])] [] [1] [] [0,1,2,3,4,5,6,7,8,9,10] (.gI 27 aP.av gE aP.bW a1.aW a2 λx9=>.bB 33 (decide (x9.Now>=a1.bA.aQA)) λx10=>.ifs [33] x10 (.ret ((a1:aA),11)) (.as (a1.aW.length<=68719476736) inferInstance<|.ge 37 3<|.bo (ix a1.aW a2) λx13=>.gv 42<|.gv 47<|.gv 48<|.gv 49<|.bI 50 (aI (x13.Now+1)) λx14=>.gv 51<|.gv 52<|.bl (a1.aW.set (Int.toNat a2) ((⟨x14,x13.Closed,x13.dD,x13.dU,x13.dI,x13.dO,x13.Down,x13.eT⟩:aP):aP):List aP) λx15=>.ge 1009010 0<|.gv 53<|.gv 54<|.bl (x15.set (Int.toNat a2) ((⟨x14,false,x13.dD,x13.dU,x13.dI,x13.dO,x13.Down,x13.eT⟩:aP):aP):List aP) λx16=>.ge 1009013 0<|.gv 55<|.gv 56<|.ge 1009016 0<|.gv 59<|.gv 60<|.gv 61<|.ln 62 bM.av x13.dI<|.as ((0:Int)<=(x13.dI.length:Int)/\((x13.dI.length:Int):Int)<=1048576) inferInstance<|.bl (List.replicate (Int.toNat (x13.dI.length:Int)) ((⟨0,0,0,0,0,0,0,0,0,0,0⟩:bM):bM):List bM) λx18=>.ge 63 0<|.gv 64<|.gv 65<|.ge 1010009 0<|.gv 67<|.gv 68<|.gv 69<|.jn 0 [2,4,5] [1,2] [] (λ_ (a:(List bM))=>[]) (λu2 a=>[.kp 3 ((x16.map aP.av).set (Int.toNat a2) [int x14,aF false,aD 4 aM.av x13.dD,aD 1 fI x13.dU,.sl 4 (u2 4) 0 a.length,aD 1 fI x13.dO,aD 1 fI x13.Down,.sc (.slice none 0 0)]),.kp 4 (a.map bM.av)]) (.lp [1,2,4,5,6,70] [1,2] [] (λ_ (a:Int×(List bM))=>[(71,int a.1)]) (λu3 a=>[.kp 3 ((x16.map aP.av).set (Int.toNat a2) [int x14,aF false,aD 4 aM.av x13.dD,aD 1 fI x13.dU,.sl 4 (u3 4) 0 a.2.length,aD 1 fI x13.dO,aD 1 fI x13.Down,.sc (.slice none 0 0)]),.kp 4 (a.2.map bM.av)]) n ((0:Int),x18) (pw λy0_1 y0_2=>.bB 72 (decide (y0_1<((Int.toNat (x13.dI.length:Int)):Int))) λx20=>.ifs [72] x20 (.dr [(1,[3]),(2,[3]),(3,[3]),(5,[1]),(8,[3,4]),(10,[4]),(11,[4])] [(12,[])] [1,3,4] [12] [0,1,2,3,4,5,6,7,8,9,10,11,12] (.gv 75<|.gv 76<|.gv 77<|.gK 82 (a3S n (⟨a1.bA,(x16.set (Int.toNat a2) (⟨x14,false,x13.dD,x13.dU,y0_2,x13.dO,x13.Down,[]⟩:aP)),a1.bP,a1.bU,a1.bY,a1.Done⟩:aA) a2 y0_1) sQ a5C (λ_=>rfl) λx21=>.bo (ix y0_2 y0_1) λx22=>.gv 84<|.gv 85<|.bl (y0_2.set (Int.toNat y0_1) ((⟨x21.Value,x22.jC,x22.iV,x22.iW,x22.iQ,x22.jA,x22.iY,x22.iU,x22.iT,x22.iZ,x22.jD⟩:bM):bM):List bM) λx23=>.ge 1014012 0<|.bI 86 (aI (y0_1+1)) λx24=>.brk ((x24:Int),x23))) (.esc (.ret y0_2)))) (λy1_1=>.ret (((⟨a1.bA,(x16.set (Int.toNat a2) (⟨x14,false,x13.dD,x13.dU,y1_1,x13.dO,x13.Down,[]⟩:aP)),a1.bP,a1.bU,a1.bY,a1.Done⟩:aA):aA),0))))))
def a8A (n:Nat) (a1:aA) (a2:Int):Option (aA×Int):=(bA6 n a1 a2).run
theorem bDQ {n a1 a2}:PZ (a8A n a1 a2) 15 [.agg (aA.av a1),int a2] (λr=>.aU [.agg (aA.av r.1),int r.2]):=by
 refine wm Tryz.func15 ?_
 intro v3
 intro v4
 refine .mk λx5 e5=>?_
 refine .mk λx6=>?_
 refine .mk .mk ?_
 refine .mk λx7 e7=>?_
 refine .mk λx8=>?_
 refine .mk .mk ?_
 refine .mk ?_
 refine .mk λx9 e9=>?_
 refine .mk λx10=>?_
 refine .mk .mk ?_
 refine .mk λp11=>?_
 refine .mk _ ⟨λ_=>d9 rfl rfl (.cons rfl .nil) aHV (iK (a2I.pc (id:=3) (l:=a1.aW) rfl p11) (.cons (.refl _) .nil)),λ_ _ _=>trivial⟩ ?_
 rintro _ _ ⟨v12,rfl,rfl⟩
 refine .mk λx13 e13=>?_
 refine .mk _ (bE (aP4 rfl Tryz.underlying28 aWN rfl rfl rfl rfl rfl (Eq.symm rfl) (List.length_map _) e13)) ?_
 refine .mk _ (bE (iH rfl rfl (.pt rfl rfl (dR e13 (aP.bW _))))) ?_
 refine .mk _ (bE (dK rfl a6F rfl (.pt rfl rfl (dR e13 (aP.bW _))) (.pt _ _ _ _ _))) ?_
 refine .mk _ (bE (dV rfl fC rfl (.pt rfl rfl (dR e13 (aP.bW _))) rfl)) ?_
 refine .mk λx14=>?_
 refine .mk _ (bE (iH rfl rfl (.pt rfl rfl (dR e13 (aP.bW _))))) ?_
 refine .mk _ (bE (dK rfl a6F rfl (.pt rfl rfl (dR e13 (aP.bW _))) (.pt _ _ _ _ _))) ?_
 refine .mk λx15 e15=>?_
 have fx15:=aQC e13 e15;have lx15:=fH e15 (rfl:a1.aW.length=a1.aW.length)
 refine .mk _ ⟨λ_=>bQ.dM (eO (ob':=(⟨45,8,true,true,_,x15.map aP.av⟩:bC)) (dZ rfl fC rfl rfl rfl rfl rfl (dR e13 (aP.bW _)) rfl rfl rfl) (eU (C5 e15 (aP.bW _)))) (λ_ h=>h) (λ_ _=>trivial),λ_ _ _=>trivial⟩ ?_
 rintro _ _ ⟨rfl,rfl⟩
 refine .mk _ (bE (iH rfl rfl (.pt rfl rfl (dR fx15 (aP.bW _))))) ?_
 refine .mk _ (bE (dK rfl a8R rfl (.pt rfl rfl (dR fx15 (aP.bW _))) (.pt _ _ _ _ _))) ?_
 refine .mk λx16 e16=>?_
 have fx16:=aQC fx15 e16;have lx16:=fH e16 lx15
 refine .mk _ ⟨λ_=>bQ.dM (eO (ob':=(⟨45,8,true,true,_,x16.map aP.av⟩:bC)) (dZ rfl rE rfl rfl rfl rfl rfl (dR fx15 (aP.bW _)) rfl rfl rfl) (eU (C5 e16 (aP.bW _)))) (λ_ h=>h) (λ_ _=>trivial),λ_ _ _=>trivial⟩ ?_
 rintro _ _ ⟨rfl,rfl⟩
 refine .mk _ (bE (iH rfl rfl (.pt rfl rfl (dR fx16 (aP.bW _))))) ?_
 refine .mk _ (bE (dK rfl a7A rfl (.pt rfl rfl (dR fx16 (aP.bW _))) (.pt _ _ _ _ _))) ?_
 refine .mk _ ⟨λ_=>bQ.dM (eO (ob':=(⟨45,8,true,true,_,(x16.map aP.av).set (Int.toNat a2) [int x14,aF false,aD 4 aM.av x13.dD,aD 1 fI x13.dU,aD 11 bM.av x13.dI,aD 1 fI x13.dO,aD 1 fI x13.Down,.sc (.slice none 0 0)]⟩:bC)) (dZ rfl a4Z rfl rfl rfl rfl rfl (dR fx16 (aP.bW _)) rfl rfl rfl) (eU rfl)) (λ_ h=>h) (λ_ _=>trivial),λ_ _ _=>trivial⟩ ?_
 rintro _ _ ⟨rfl,rfl⟩
 refine .mk _ (bE (iH rfl rfl (.pt rfl rfl (eY fx16)))) ?_
 refine .mk _ (bE (dK rfl a3X rfl (.pt rfl rfl (eY fx16)) (.pt _ _ _ _ _))) ?_
 refine .mk _ (bE (dV rfl a4F rfl (.pt rfl rfl (eY fx16)) rfl)) ?_
 refine .mk ?_
 refine .mk λp17=>?_
 refine .mk λx18 e18=>?_
 have lx18:x18.length=(Int.toNat (x13.dI.length:Int)):=by rw [<- e18];exact List.length_replicate
 refine .mk _ ⟨λ_=>uL 4 (g:=bM.av) (z0:=((⟨0,0,0,0,0,0,0,0,0,0,0⟩:bM):bM)) .any rfl Tryz.underlying43 a2K a5R rfl rfl rfl p17 (.cons (.sc _) (.cons (.sc _) (.cons (.sc _) (.cons (.sc _) (.cons (.sc _) (.cons (.sc _) (.cons (.sc _) (.cons (.sc _) (.cons (.sc _) (.cons (.sc _) (.cons (.sc _) .nil))))))))))) e18,λ_ _ _=>trivial⟩ ?_
 rintro _ _ ⟨v19,-,rfl,rfl⟩
 refine .mk _ (bE (iH rfl rfl (.pt rfl rfl (eY fx16)))) ?_
 refine .mk _ (bE (dK rfl a3X rfl (.pt rfl rfl (eY fx16)) (.pt _ _ _ _ _))) ?_
 refine .mk _ ⟨λ_=>bQ.dM (eO (ob':=(⟨45,8,true,true,_,(x16.map aP.av).set (Int.toNat a2) [int x14,aF false,aD 4 aM.av x13.dD,aD 1 fI x13.dU,.sl 4 v19 0 (Int.toNat (x13.dI.length:Int)),aD 1 fI x13.dO,aD 1 fI x13.Down,.sc (.slice none 0 0)]⟩:bC)) (dZ rfl a4F rfl rfl rfl rfl rfl (eY fx16) rfl rfl rfl) (eU pR)) (λ_ h=>h) (λ_ _=>trivial),λ_ _ _=>trivial⟩ ?_
 rintro _ _ ⟨rfl,rfl⟩
 refine .mk _ (bE (iH rfl rfl (.pt rfl rfl (eY fx16)))) ?_
 refine .mk _ (bE (dK rfl a3X rfl (.pt rfl rfl (eY fx16)) (.pt _ _ _ _ _))) ?_
 refine .mk _ (bE (dV rfl a4F rfl (.pt rfl rfl (eY fx16)) rfl)) ?_
 refine .mk ?_ ?_
 refine .mk ?_ ⟨⟨⟨_,rfl,(.refl _)⟩,⟨_,rfl,(.refl _)⟩,⟨_,rfl,(.refl _)⟩,⟨_,rfl,(.refl _)⟩,⟨_,rfl,(.refl _)⟩,⟨_,rfl,(.refl _)⟩,⟨_,rfl,(.refl _)⟩,trivial⟩,⟨⟨_,rfl,⟨rfl,yZ (.cons (.refl _) (.cons (.refl _) (.cons (.refl _) (.cons (.refl _) (.cons (nC (Eq.symm lx18)) (.cons (.refl _) (.cons (.refl _) (.cons (.refl _) .nil))))))))⟩⟩,⟨_,rfl,(.refl _)⟩,⟨_,rfl,(.refl _)⟩,⟨_,rfl,(.refl _)⟩,trivial⟩⟩
 rintro ⟨y0_1,y0_2⟩ _
 refine .mk λx20=>?_
 refine .mk ?_ ?_
 refine .mk ?_
 refine .mk _ (λH hH _=>iH rfl rfl (.pt ((hH _ (by decide)).trans rfl) rfl (eY fx16))) ?_
 refine .mk _ (λH hH _=>dK rfl a3X rfl (.pt ((hH _ (by decide)).trans rfl) rfl (eY fx16)) (.pt _ _ _ _ _)) ?_
 refine .mk _ (λH hH _=>dV rfl a4F rfl (.pt ((hH _ (by decide)).trans rfl) rfl (eY fx16)) rfl) ?_
 refine .mk (λx21 e21=>?_) rfl (λH hH=>(.cons (bK.agg (.cons (.refl _) (.cons (.refl _) (.cons (.refl _) (.cons (.refl _) (.cons (.refl _) (.cons (kZ (ob:=(⟨45,8,false,true,v12,(x16.map aP.av).set (Int.toNat a2) [int x14,aF false,aD 4 aM.av x13.dD,aD 1 fI x13.dU,.sl 4 v19 0 y0_2.length,aD 1 fI x13.dO,aD 1 fI x13.Down,.sc (.slice none 0 0)]⟩:bC)) (a98 ((hH 3 (by decide)).trans rfl)) rfl rfl rfl rfl (Eq.symm lx16) fx16 (lW (.cons (.refl _) (.cons (.refl _) (.cons (.refl _) (.cons (.refl _) (.cons (dH (ob:=(⟨41,11,false,true,v19,y0_2.map bM.av⟩:bC)) (a98 ((hH 4 (by decide)).trans rfl)) rfl rfl rfl rfl (Eq.symm rfl)) (.cons (.refl _) (.cons (.refl _) (.cons (.nil _) .nil)))))))) (aP.bW _))) (.cons (.refl _) (.cons (.refl _) (.cons (.refl _) (.cons (.refl _) .nil))))))))))) (.cons (.refl _) (.cons (.refl _) .nil))))
 refine .mk λx22 e22=>?_
 refine .mk _ (λH hH _=>aP4 rfl Tryz.underlying43 a6D rfl rfl ((hH _ (by decide)).trans rfl) rfl rfl (Eq.symm rfl) (List.length_map _) e22) ?_
 refine .mk _ (λH hH _=>dK rfl aZB rfl (.pt ((hH _ (by decide)).trans rfl) rfl (cZ e22)) (.pt _ _ _ _ _)) ?_
 refine .mk λx23 e23=>?_
 have fx23:=aQC e22 e23;have lx23:=fH e23 (rfl:y0_2.length=y0_2.length)
 refine .mk _ ⟨λ_=>bQ.dM (eO (ob':=(⟨41,11,true,true,_,x23.map bM.av⟩:bC)) (dZ rfl fC rfl rfl rfl rfl rfl (cZ e22) rfl rfl rfl) (eU (iI e23))) (λ_ h=>h) (λ_ _=>trivial),by rintro _ _ ⟨rfl,rfl⟩;exact trivial⟩ ?_
 rintro _ _ ⟨rfl,rfl⟩
 refine .mk λx24=>?_
 exact .mk ⟨⟨⟨_,rfl,(.refl _)⟩,⟨_,rfl,(.refl _)⟩,⟨_,rfl,(.refl _)⟩,⟨_,rfl,(.refl _)⟩,⟨_,rfl,(.refl _)⟩,⟨_,rfl,(.refl _)⟩,⟨_,rfl,(.refl _)⟩,trivial⟩,⟨⟨_,rfl,⟨rfl,yZ (.cons (.refl _) (.cons (.refl _) (.cons (.refl _) (.cons (.refl _) (.cons (nC (Eq.symm lx23)) (.cons (.refl _) (.cons (.refl _) (.cons (.refl _) .nil))))))))⟩⟩,⟨_,rfl,(.refl _)⟩,⟨_,rfl,(.refl _)⟩,⟨_,rfl,(.refl _)⟩,trivial⟩⟩
 exact .mk
 intro _ _
 exact .mk (bK.aU (.cons (bK.agg (.cons (.refl _) (.cons (.refl _) (.cons (.refl _) (.cons (.refl _) (.cons (.refl _) (.cons (kZ rfl rfl rfl rfl rfl (Eq.symm lx16) fx16 (lW (.cons (.refl _) (.cons (.refl _) (.cons (.refl _) (.cons (.refl _) (.cons (dH rfl rfl rfl rfl rfl (Eq.symm rfl)) (.cons (.refl _) (.cons (.refl _) (.cons (.nil _) .nil)))))))) (aP.bW _))) (.cons (.refl _) (.cons (.refl _) (.cons (.refl _) (.cons (.refl _) .nil))))))))))) (.cons (.refl _) .nil)))
def aFN (n:Nat) (a1:aA) (a2:aS):WB (aA×Int) :=
 .al 1<|.al 2<|.al 3<|.bB 16 (decide (a2.Kind≠1)) λx6=>.ifs [16] x6 (.ret ((a1:aA),1)) (.al 4<|.al 5<|.al 6<|.al 7<|.gv 24<|.jn 1 [2,3,4,5,6,9] [1,2,3] [] (λ_ (a:aA×Int)=>[]) (λ_ a=>[.kp 4 [(aA.av a.1)],.kp 7 [[int a.2]]]) (.un 24 (.kB 28 true<|.gv 29<|.inl 32 aHF Tryz.func96 [1,2,3,4,5,6] [] (λ_ (a:Int)=>.aU []) (λ_ a=>[.kp 7 [[int a]]]) (.cl 8 (lH a1 a2.E a2.Item) l8 mU λx11=>.ret x11) (λy0_1=>.bB 34 (decide (y0_1≠0)) λx12=>.ifs [34] x12 (.ret ((a1:aA),y0_1)) (.kI 35 1<|.kB 28 true<|.gv 29<|.inl 32 kL Tryz.func98 [1,2,3,4,5,6] [] (λ_ (a:Int)=>.aU []) (λ_ a=>[.kp 7 [[int a]]]) (.ln 4 bH.av a1.bP<|.bB 5 (decide ((a1.bP.length:Int)>=40)) λx13=>.ifs [5] x13 (.ret 6) (.ret y0_1)) (λy0_1_1=>.bB 34 (decide (y0_1_1≠0)) λx14=>.ifs [34] x14 (.ret ((a1:aA),(y0_1_1:Int))) (.kI 35 2<|.kB 28 true<|.gv 29<|.inl 32 O4 Tryz.func99 [1,2,3] [] (λ_ (a:aA×Int×Int×Int)=>.aU []) (λ_ a=>[.kp 4 [(aA.av a.1)],.kp 5 [[int a.2.1]],.kp 6 [[int a.2.2.1]],.kp 7 [[int a.2.2.2]]]) (.cl 19 (uU n a1 a2.E a2.Item a2.Loc (⟨a2.aQ,a2.bD,0⟩:aB)) vS yA λx15=>.ret ((x15.1:aA),x15.2.1,x15.2.2.1,x15.2.2.2)) (pw λy0_1_2 q0=>(pw λy0_2 q1=>(pw λy0_3 y0_4=>.bB 34 (decide (y0_4≠0)) λx16=>.ifs [34] x16 (.ret ((y0_1_2:aA),y0_4)) (.kI 35 3<|.kB 28 true<|.gv 29<|.inl 32 mM Tryz.func101 [1,2,3,5,6] [] (λ_ (a:aA×Int)=>.aU []) (λ_ a=>[.kp 4 [(aA.av a.1)],.kp 7 [[int a.2]]]) (.bI 15 (aI (0-a2.bD)) λx17=>.to 17 (aD 2 aH.av ([(⟨0,y0_2⟩:aH),(⟨6,y0_3⟩:aH),(⟨1,x17⟩:aH)]:List aH))<|.cl 18 (oN n y0_1_2 a2.E ([(⟨0,y0_2⟩:aH),(⟨6,y0_3⟩:aH),(⟨1,x17⟩:aH)]:List aH)) sH qN λx18=>.ret ((x18.1:aA),x18.2)) (pw λy0_1_3 y0_2_1=>.bB 34 (decide (y0_2_1≠0)) λx19=>.ifs [34] x19 (.ret ((y0_1_3:aA),(y0_2_1:Int))) (.kI 35 4<|.kB 28 true<|.gv 29<|.inl 32 aAA Tryz.func102 [1,2,3,5,6] [] (λ_ (a:aA×Int)=>.aU []) (λ_ a=>[.kp 4 [(aA.av a.1)],.kp 7 [[int a.2]]]) (.cl 12 (qD y0_1_3 a2.E a2.Item (⟨0,y0_2,0,0,0,0,0,0,0,0,0⟩:bM)) MQ sO λx20=>.ret ((x20.1:aA),x20.2)) (pw λy0_1_4 y0_2_2=>.bB 34 (decide (y0_2_2≠0)) λx21=>.ifs [34] x21 (.ret ((y0_1_4:aA),(y0_2_2:Int))) (.kI 35 5<|.kB 28 false<|.ret ((y0_1_4:aA),(y0_2_2:Int)))))))) q1) q0))))))) (pw λy1_1 y1_2=>.bB 37 (decide (y1_2≠0)) λx22=>.ifs [37] x22 (.dr [(0,[1]),(1,[7])] [(2,[7])] [1,7] [2] [0,1,2,3] (.ret ((a1:aA),y1_2))) (.al 8<|.dr [(0,[4]),(1,[4]),(3,[8]),(6,[4])] [(2,[8]),(5,[]),(7,[])] [4,8] [2,5,7] [0,1,3,4,2,5,6,7] (.to 59 (aD 8 bH.av ([(⟨a2.E,a2.Item,a2.Loc,a2.aQ,a2.bD,a2.aQ,a2.bD,0⟩:bH)]:List bH))<|.as (y1_1.bP.length<=68719476736) inferInstance<|.ge 57 9<|.bl (y1_1.bP++([(⟨a2.E,a2.Item,a2.Loc,a2.aQ,a2.bD,a2.aQ,a2.bD,0⟩:bH)]:List bH):List bH) λx26=>.as (x26.length<=68719476736) inferInstance<|.ge 60 0<|.ret (((⟨y1_1.bA,y1_1.aW,x26,y1_1.bU,y1_1.bY,y1_1.Done⟩:aA):aA),0)))))
def VK (n:Nat) (a1:aA) (a2:aS):Option (aA×Int):=(aFN n a1 a2).run
theorem aK7 {n a1 a2}:PZ (VK n a1 a2) 58 [.agg (aA.av a1),.agg (aS.av a2)] (λr=>.aU [.agg (aA.av r.1),int r.2]):=by
 refine wm Tryz.func58 ?_
 intro v3
 intro v4
 intro v5
 refine .mk λx6=>?_
 refine .mk .mk ?_
 intro v7
 intro v8
 intro v9
 intro v10
 refine .mk _ (bE (dQ (ps:=[(0,_),(1,_),(2,_),(3,_),(4,_)]) (rows:=[[.fn (.func 96) [] [.pt 1 v3 0 0,.pt 2 v4 0 0,.pt 7 v10 0 0]],[.fn (.func 98) [] [.pt 1 v3 0 0,.pt 7 v10 0 0]],[.fn (.func 99) [] [.pt 1 v3 0 0,.pt 2 v4 0 0,.pt 4 v7 0 0,.pt 5 v8 0 0,.pt 6 v9 0 0,.pt 7 v10 0 0]],[.fn (.func 101) [] [.pt 4 v7 0 0,.pt 2 v4 0 0,.pt 5 v8 0 0,.pt 6 v9 0 0,.pt 7 v10 0 0]],[.fn (.func 102) [] [.pt 4 v7 0 0,.pt 2 v4 0 0,.pt 5 v8 0 0,.pt 7 v10 0 0]]]) rfl Tryz.underlying173 WS (.cons rfl (.cons rfl (.cons rfl (.cons rfl (.cons rfl .nil))))) (by kernel_rfl) rfl rfl rfl)) ?_
 refine .mk ?_ ?_
 refine .mk ?_
 refine .mk _ (bE (iM (j:=0) rfl Tryz.underlying173 xC rfl rfl rfl (.list rfl))) ?_
 refine .mk ?_ ?_
 refine .mk λx11 e11=>?_
 exact .mk
 intro _ _
 refine .mk trivial ?_
 refine .mk λx12=>?_
 refine .mk .mk ?_
 refine .mk ?_
 refine .mk ?_
 refine .mk _ (bE (iM (j:=1) rfl Tryz.underlying173 xC rfl rfl rfl (.list rfl))) ?_
 refine .mk ?_ ?_
 refine .mk ?_
 refine .mk λx13=>?_
 refine .mk .mk ?_
 exact .mk
 intro _ _
 refine .mk trivial ?_
 refine .mk λx14=>?_
 refine .mk .mk ?_
 refine .mk ?_
 refine .mk ?_
 refine .mk _ (bE (iM (j:=2) rfl Tryz.underlying173 xC rfl rfl rfl (.list rfl))) ?_
 refine .mk ?_ ?_
 refine .mk λx15 e15=>?_
 exact .mk
 rintro ⟨y0_1_2,y0_2,y0_3,y0_4⟩ _
 refine .mk trivial ?_
 refine .mk λx16=>?_
 refine .mk .mk ?_
 refine .mk ?_
 refine .mk ?_
 refine .mk _ (bE (iM (j:=3) rfl Tryz.underlying173 xC rfl rfl rfl (.list rfl))) ?_
 refine .mk ?_ ?_
 refine .mk λx17=>?_
 refine .mk (bE (bX (y:=aD 2 aH.av ([(⟨0,y0_2⟩:aH),(⟨6,y0_3⟩:aH),(⟨1,x17⟩:aH)]:List aH)) (dQ (ps:=[(0,_),(1,_),(2,_)]) (rows:=[[int 0,int y0_2],[int 6,int y0_3],[int 1,int x17]]) rfl Tryz.underlying116 a3V (.cons rfl (.cons rfl (.cons rfl .nil))) (by kernel_rfl) rfl rfl rfl) rfl)) ?_
 refine .mk λx18 e18=>?_
 exact .mk
 intro _ _
 refine .mk trivial ?_
 refine .mk λx19=>?_
 refine .mk .mk ?_
 refine .mk ?_
 refine .mk ?_
 refine .mk _ (bE (iM (j:=4) rfl Tryz.underlying173 xC rfl rfl rfl (.list rfl))) ?_
 refine .mk ?_ ?_
 refine .mk λx20 e20=>?_
 exact .mk
 intro _ _
 refine .mk trivial ?_
 refine .mk λx21=>?_
 refine .mk .mk ?_
 refine .mk ?_
 refine .mk ?_
 exact .mk
 rintro ⟨y1_1,y1_2⟩ _
 refine .mk λx22=>?_
 refine .mk ?_ ?_
 refine .mk ?_
 exact .mk
 intro v23
 refine .mk ?_
 refine .mk (λH hH _=>bX (y:=aD 8 bH.av ([(⟨a2.E,a2.Item,a2.Loc,a2.aQ,a2.bD,a2.aQ,a2.bD,0⟩:bH)]:List bH)) (dQ (ps:=[(0,_)]) (rows:=[[int a2.E,int a2.Item,int a2.Loc,int a2.aQ,int a2.bD,int a2.aQ,int a2.bD,int 0]]) rfl Tryz.underlying29 a7E (.cons rfl .nil) (by kernel_rfl) rfl rfl rfl) rfl) ?_
 refine .mk λp24=>?_
 refine .mk _ ⟨λ_=>d9 rfl rfl (.cons rfl .nil) aAQ (iK (a9Z.pc (id:=9) (l:=y1_1.bP) rfl p24) (.cons (.refl _) .nil)),by rintro _ _ ⟨v25,rfl,rfl⟩;exact ⟨rfl,trivial⟩⟩ ?_
 rintro _ _ ⟨v25,rfl,rfl⟩
 refine .mk λx26 e26=>?_
 refine .mk λp27=>?_
 refine .mk _ ⟨λ_=>jU (g:=bH.av) (l:=y1_1.bP) (m:=([(⟨a2.E,a2.Item,a2.Loc,a2.aQ,a2.bD,a2.aQ,a2.bD,0⟩:bH)]:List bH)) .any rfl Tryz.underlying29 a7E bAE rfl rfl rfl rfl rfl rfl rfl rfl rfl rfl (Eq.symm rfl) (.refl _) (λ_=>rfl) e26 p27,by rintro _ _ ⟨v28,-,rfl,rfl⟩;exact trivial⟩ ?_
 rintro _ _ ⟨v28,-,rfl,rfl⟩
 exact .mk (bK.aU (.cons (bK.agg (.cons (.refl _) (.cons (.refl _) (.cons (.refl _) (.cons (.refl _) (.cons (.refl _) (.cons (.refl _) (.cons (dH rfl rfl rfl rfl rfl (Eq.symm rfl)) (.cons (.refl _) (.cons (.refl _) (.cons (.refl _) .nil))))))))))) (.cons (.refl _) .nil)))
def aGP (a1:Int) (a2:Int):WB (aH) :=
 .al 1<|.ret (((⟨a1,a2⟩:aH):aH))
def lU (a1:Int) (a2:Int):Option (aH):=(aGP a1 a2).run
theorem mF {a1 a2}:PZ (lU a1 a2) 153 [int a1,int a2] (λr=>.agg (aH.av r)):=wq Tryz.func153
def aFY (n:Nat) (a1:aA) (a2:aS):WB (aA×Int) :=
 .al 1<|.al 2<|.al 3<|.ln 12 bS.av a1.bU<|.bB 13 (decide ((a1.bU.length:Int)>=40)) λx6=>.ifs [13] x6 (.ret ((a1:aA),6)) (.cl 25 (rR n a1 a2.E a2.Item a2.Loc 0 a2.aQ) aA0 wP λx7=>.al 4<|.al 5<|.bB 31 (decide (x7.2.2.2≠0)) λx10=>.ifs [31] x10 (.ret ((a1:aA),x7.2.2.2)) (.dr [(0,[4]),(1,[2]),(2,[2]),(3,[2]),(4,[2]),(6,[2]),(7,[2]),(10,[5]),(11,[5]),(13,[5]),(14,[5])] [(22,[])] [2,4,5] [22] [0,1,2,3,4,5,6,7,8,9,10,11,12,13,14,15,16,17,18,19,20,21,22,23] (.cl 40 (lU 3 a2.bD) Z7 mF λx11=>.bI 43 (aI (0-a2.bD)) λx12=>.cl 44 (lU 4 x12) Z7 mF λx13=>.cl 47 (lU 5 x7.2.1.Value) Z7 mF λx14=>.bI 50 (aI (0-x7.2.1.Value)) λx15=>.cl 51 (lU 0 x15) Z7 mF λx16=>.to 52 (aD 2 aH.av ([x11,x13,x14,x16]:List aH))<|.cl 53 (oN n x7.1 a2.E ([x11,x13,x14,x16]:List aH)) sH qN λx17=>.bB 57 (decide (x17.2≠0)) λx18=>.ifs [57] x18 (.ret ((a1:aA),x17.2)) (.cl 69 (qD x17.1 a2.E a2.Item (⟨0,0,0,0,0,x7.2.1.Value,0,0,0,0,0⟩:bM)) MQ sO λx19=>.bB 73 (decide (x19.2≠0)) λx20=>.ifs [73] x20 (.ret ((a1:aA),x19.2)) (.dr [(0,[4]),(1,[4]),(3,[2]),(4,[2]),(5,[2]),(6,[2]),(7,[2]),(8,[2]),(9,[2]),(10,[2]),(11,[5]),(12,[5]),(13,[5]),(14,[5]),(15,[1]),(16,[1]),(17,[2]),(18,[2]),(26,[4])] [(2,[1,2,5]),(25,[]),(27,[])] [1,2,4,5] [2,25,27] [0,1,3,4,5,6,7,8,9,10,11,12,13,14,15,16,17,18,19,20,21,22,23,24,2,25,26,27] (.gI 95 aP.av gE aP.bW a1.aW a2.E λx21=>.bB 98 (x7.2.2.1) λx22=>.to 100 (aD 9 bS.av ([(⟨a2.E,a2.Item,a2.Loc,a2.aQ,0,x7.2.1.Value,x7.2.1.bO,x21.Now,x22⟩:bS)]:List bS))<|.as (x19.1.bU.length<=68719476736) inferInstance<|.ge 78 6<|.bl (x19.1.bU++([(⟨a2.E,a2.Item,a2.Loc,a2.aQ,0,x7.2.1.Value,x7.2.1.bO,x21.Now,x22⟩:bS)]:List bS):List bS) λx25=>.as (x25.length<=68719476736) inferInstance<|.ge 101 0<|.ret (((⟨x19.1.bA,x19.1.aW,x19.1.bP,x25,x19.1.bY,x19.1.Done⟩:aA):aA),0)))))))
def OX (n:Nat) (a1:aA) (a2:aS):Option (aA×Int):=(aFY n a1 a2).run
theorem aHA {n a1 a2}:PZ (OX n a1 a2) 104 [.agg (aA.av a1),.agg (aS.av a2)] (λr=>.aU [.agg (aA.av r.1),int r.2]):=wq Tryz.func104
def aCM (a1:aM) (a2:Int) (a3:Int):WB (aM×Int) :=
 .al 1<|.al 2<|.cl 11 (rG a1 a1.cO) aGA vY λx6=>.dF 0 [2,3,6,7] [1,2] [] (λ_ (a:Int)=>[(1,int a)]) (λ_ _=>[]) (.jn 1 [1,2,3,6,7] [1,2] [] (λ_ (a:Bool)=>[(12,aF a)]) (λ_ _=>[]) (.cl 14 (EK a2) aYT UC λx7=>.bB 15 (!x7) λx8=>.ifs [15] x8 (.ret true) (.bB 18 (decide (a3<1)) λx9=>.ret x9)) (λy0_1=>.ifs [12] y0_1 (.esc (.ret ((x6:aM),1))) (.sp [1] a2 0 (.gv 25<|.bB 27 (decide (a3>x6.bF.a0)) λx12=>.ifs [27] x12 (.esc (.ret ((x6:aM),5))) (.brk 0)) (.sp [1] a2 1 (.gv 25<|.bB 27 (decide (a3>x6.bF.a1)) λx11=>.ifs [27] x11 (.esc (.ret ((x6:aM),5))) (.brk 1)) (.sa [1] a2 2 (.gv 25<|.bB 27 (decide (a3>x6.bF.a2)) λx10=>.ifs [27] x10 (.esc (.ret ((x6:aM),5))) (.brk 2))))))) (λy1_1=>.sp [1] y1_1 0 (.gv 31<|.bI 34 (aI (x6.bF.a0-a3)) λx15=>.gv 36<|.ret (((⟨x6.cO,(⟨x15,x6.bF.a1,x6.bF.a2⟩:gJ)⟩:aM):aM),0)) (.sp [1] y1_1 1 (.gv 31<|.bI 34 (aI (x6.bF.a1-a3)) λx14=>.gv 36<|.ret (((⟨x6.cO,(⟨x6.bF.a0,x14,x6.bF.a2⟩:gJ)⟩:aM):aM),0)) (.sa [1] y1_1 2 (.gv 31<|.bI 34 (aI (x6.bF.a2-a3)) λx13=>.gv 36<|.ret (((⟨x6.cO,(⟨x6.bF.a0,x6.bF.a1,x13⟩:gJ)⟩:aM):aM),0)))))
def K3 (a1:aM) (a2:Int) (a3:Int):Option (aM×Int):=(aCM a1 a2 a3).run
theorem aER {a1 a2 a3}:PZ (K3 a1 a2 a3) 154 [.agg (aM.av a1),int a2,int a3] (λr=>.aU [.agg (aM.av r.1),int r.2]):=wq Tryz.func154
def aAL (n:Nat) (a1:aA) (a2:aS):WB (aA×Int) :=
 .al 1<|.al 2<|.al 3<|.dr [(0,[1]),(1,[2]),(2,[2]),(3,[2]),(4,[2]),(5,[2]),(6,[2]),(8,[2]),(9,[2])] [(15,[])] [1,2] [14,15] [0,1,2,3,4,5,6,7,8,9,10,11,12,13,14,15,16] (.cl 18 (yG a1 a2.E a2.Item a2.Loc) zQ BV λx6=>.cl 21 (K3 x6 0 a2.aQ) aFG aER λx7=>.al 4<|.bB 25 (decide (x7.2≠0)) λx9=>.ifs [25] x9 (.ret ((a1:aA),x7.2)) (.dr [(0,[1]),(1,[2]),(2,[2]),(3,[2]),(4,[2]),(6,[2]),(7,[2])] [(16,[])] [1,2] [15,16] [0,1,2,3,4,5,6,7,8,9,10,11,12,13,14,15,16,17] (.cl 34 (lU 4 a2.bD) Z7 mF λx10=>.bI 37 (aI (0-a2.bD)) λx11=>.cl 38 (lU 3 x11) Z7 mF λx12=>.to 39 (aD 2 aH.av ([x10,x12]:List aH))<|.cl 40 (oN n a1 a2.E ([x10,x12]:List aH)) sH qN λx13=>.al 5<|.bB 44 (decide (x13.2≠0)) λx15=>.ifs [44] x15 (.ret ((a1:aA),x13.2)) (.as (x13.1.aW.length<=68719476736) inferInstance<|.ge 49 6<|.bo (ix x13.1.aW a2.E) λx18=>.gv 55<|.gv 58<|.gv 59<|.gv 60<|.as (x18.dD.length<=68719476736) inferInstance<|.ge 61 7<|.gv 62<|.gv 63<|.ge 1009008 0<|.dr [(1,[6]),(2,[6]),(3,[6]),(4,[2]),(5,[2]),(7,[2]),(8,[2]),(10,[4]),(11,[7])] [(12,[])] [2,4,6,7] [12] [0,1,2,3,4,5,6,7,8,9,10,11,12] (.gv 65<|.gv 66<|.gv 67<|.bI 70 (aI (a2.Item*2)) λx21=>.bI 73 (aI (x21+a2.Loc)) λx22=>.bo (ix x18.dD x22) λx23=>.gv 75<|.bl (x18.dD.set (Int.toNat x22) x7.1:List aM) λx24=>.ge 1010012 0<|.dr [(0,[2]),(1,[2]),(3,[8]),(4,[8]),(5,[8]),(6,[2]),(7,[2]),(9,[8]),(10,[8])] [(2,[2]),(11,[])] [2,8] [2,11] [0,1,6,7,2,3,4,5,8,9,10,11] (.inl 78 IA Tryz.func155 [1,2,3,4,6,7] [8] (λu2 (a:Unit)=>.pt 8 (u2 8) (Int.toNat a2.Ref) 0) (λu2 _=>[.kp 5 [[int x13.1.bA.eH,int x13.1.bA.aQA,aD 1 fI x13.1.bA.cB,aD 1 (fL 1 fI) x13.1.bA.Methods,aD 1 (fL 1 fI) x13.1.bA.dN,.sl 6 (u2 6) 0 x13.1.aW.length,aD 8 bH.av x13.1.bP,.sl 8 (u2 8) 0 x13.1.bU.length,aD 6 dB.av x13.1.bY,int x13.1.Done]],.nw 8 82 9 (x13.1.bU.map bS.av)]) (.as (x13.1.bU.length<=68719476736) inferInstance<|.ge 10 8<|.bo (ix x13.1.bU a2.Ref) λx27=>.gv 18<|.ret ()) (λ_=>.bo (ix x13.1.bU a2.Ref) λx28=>.gv 79<|.gv 80<|.gv 81<|.bI 84 (aI (x28.fF+a2.aQ)) λx29=>.gv 85<|.gv 86<|.bl (x13.1.bU.set (Int.toNat a2.Ref) ((⟨x28.dG,x28.Item,x28.Loc,x28.aQ,x29,x28.qV,x28.bO,x28.jW,x28.jY⟩:bS):bS):List bS) λx30=>.ge 1011011 0<|.ret (((⟨x13.1.bA,(x13.1.aW.set (Int.toNat a2.E) (⟨x18.Now,x18.Closed,x24,x18.dU,x18.dI,x18.dO,x18.Down,x18.eT⟩:aP)),x13.1.bP,x30,x13.1.bY,x13.1.Done⟩:aA):aA),0))))))))
def a5M (n:Nat) (a1:aA) (a2:aS):Option (aA×Int):=(aAL n a1 a2).run
theorem aMZ {n a1 a2}:PZ (a5M n a1 a2) 105 [.agg (aA.av a1),.agg (aS.av a2)] (λr=>.aU [.agg (aA.av r.1),int r.2]):=wq Tryz.func105
def aGM (n:Nat) (a1:aA) (a2:aS) (a3:bS):WB (aA×Int) :=
 .al 1<|.al 2<|.al 3<|.al 4<|.dr [(0,[3]),(1,[3]),(2,[2]),(3,[2]),(4,[3]),(5,[3]),(6,[3]),(7,[3]),(10,[3]),(11,[3]),(12,[2]),(13,[2]),(14,[3]),(15,[3]),(16,[3]),(17,[3])] [] [2,3] [] [0,1,2,3,4,5,6,7,8,9,10,11,12,13,14,15,16,17,18,19,20,21] (.bI 23 (aI (a3.aQ-a3.fF)) λx8=>.cl 24 (mX n a3.qV a2.aQ x8) aKR nU λx9=>.bI 33 (aI (a3.aQ-a3.fF)) λx10=>.cl 34 (mX n a3.bO a2.aQ x10) aKR nU λx11=>.cl 48 (uU n a1 a2.E a2.Item a2.Loc (⟨a2.aQ,x9,x11⟩:aB)) vS yA λx12=>.al 5<|.bB 54 (decide (x12.2.2.2≠0)) λx14=>.ifs [54] x14 (.ret ((a1:aA),x12.2.2.2)) (.dr [(0,[5]),(1,[2]),(2,[2]),(10,[2]),(11,[2]),(13,[2]),(14,[2])] [(22,[])] [2,5] [22] [0,1,2,3,4,5,6,7,8,9,10,11,12,13,14,15,16,17,18,19,20,21,22,23] (.cl 62 (lU 0 x12.2.1) Z7 mF λx15=>.cl 64 (lU 6 x12.2.2.1) Z7 mF λx16=>.bI 66 (aI (0-x9)) λx17=>.cl 67 (lU 5 x17) Z7 mF λx18=>.cl 70 (lU 4 a2.bD) Z7 mF λx19=>.bI 73 (aI (0-a2.bD)) λx20=>.cl 74 (lU 3 x20) Z7 mF λx21=>.to 75 (aD 2 aH.av ([x15,x16,x18,x19,x21]:List aH))<|.cl 76 (oN n x12.1 a2.E ([x15,x16,x18,x19,x21]:List aH)) sH qN λx22=>.bB 80 (decide (x22.2≠0)) λx23=>.ifs [80] x23 (.ret ((a1:aA),x22.2)) (.cl 91 (qD x22.1 a2.E a2.Item (⟨0,0,0,0,x12.2.1,0,0,0,0,0,0⟩:bM)) MQ sO λx24=>.bB 95 (decide (x24.2≠0)) λx25=>.ifs [95] x25 (.ret ((a1:aA),x24.2)) (.inl 100 IA Tryz.func155 [1,2,3,4] [6] (λu2 (a:Unit)=>.pt 6 (u2 6) (Int.toNat a2.Ref) 0) (λu2 _=>[.kp 5 [[int x24.1.bA.eH,int x24.1.bA.aQA,aD 1 fI x24.1.bA.cB,aD 1 (fL 1 fI) x24.1.bA.Methods,aD 1 (fL 1 fI) x24.1.bA.dN,aD 8 aP.av x24.1.aW,aD 8 bH.av x24.1.bP,.sl 6 (u2 6) 0 x24.1.bU.length,aD 6 dB.av x24.1.bY,int x24.1.Done]],.nw 6 82 9 (x24.1.bU.map bS.av)]) (.as (x24.1.bU.length<=68719476736) inferInstance<|.ge 10 6<|.bo (ix x24.1.bU a2.Ref) λx28=>.gv 18<|.ret ()) (λ_=>.dr [(4,[6]),(5,[6]),(6,[6]),(10,[6]),(11,[6]),(12,[6]),(16,[6]),(17,[6]),(18,[6]),(19,[2]),(20,[2]),(22,[6]),(23,[6]),(25,[6]),(26,[6]),(28,[6]),(29,[6])] [(24,[2]),(27,[2]),(30,[])] [2,6] [24,27,30] [0,1,2,3,4,5,6,7,8,9,10,11,12,13,14,15,16,17,18,19,20,21,22,23,24,25,26,27,28,29,30] (.bo (ix x24.1.bU a2.Ref) λx29=>.gv 105<|.gv 106<|.gv 107<|.bI 109 (aI (x29.qV-x9)) λx30=>.gv 111<|.gv 112<|.gv 113<|.bI 115 (aI (x29.bO-x11)) λx31=>.gv 117<|.gv 118<|.gv 119<|.bI 122 (aI (x29.fF+a2.aQ)) λx32=>.gv 123<|.gv 124<|.bl (x24.1.bU.set (Int.toNat a2.Ref) ((⟨x29.dG,x29.Item,x29.Loc,x29.aQ,x29.fF,x30,x29.bO,x29.jW,x29.jY⟩:bS):bS):List bS) λx33=>.ge 1012024 0<|.gv 125<|.gv 126<|.bl (x33.set (Int.toNat a2.Ref) ((⟨x29.dG,x29.Item,x29.Loc,x29.aQ,x29.fF,x30,x31,x29.jW,x29.jY⟩:bS):bS):List bS) λx34=>.ge 1012027 0<|.gv 127<|.gv 128<|.bl (x34.set (Int.toNat a2.Ref) ((⟨x29.dG,x29.Item,x29.Loc,x29.aQ,x32,x30,x31,x29.jW,x29.jY⟩:bS):bS):List bS) λx35=>.ge 1012030 0<|.ret (((⟨x24.1.bA,x24.1.aW,x24.1.bP,x35,x24.1.bY,x24.1.Done⟩:aA):aA),0))))))))
def NA (n:Nat) (a1:aA) (a2:aS) (a3:bS):Option (aA×Int):=(aGM n a1 a2 a3).run
theorem aET {n a1 a2 a3}:PZ (NA n a1 a2 a3) 106 [.agg (aA.av a1),.agg (aS.av a2),.agg (bS.av a3)] (λr=>.aU [.agg (aA.av r.1),int r.2]):=wq Tryz.func106
end
end Go.Pv
