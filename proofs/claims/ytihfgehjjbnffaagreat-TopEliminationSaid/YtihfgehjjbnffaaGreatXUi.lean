import Derived.Test.YtihfgehjjbnffaaGreatXUh
set_option linter.unusedVariables false
set_option linter.unusedSimpArgs false
namespace Go.Pv
open Go.Proofs
set_option maxRecDepth 100000
set_option maxHeartbeats 4000000
noncomputable section
def WY (n:Nat) (a1:aA) (a2:Int):WB (aA×Int) :=
 .al 1<|.al 2<|.cl 17 (BP a1 a2) OC UA λx5=>.bB 18 (!x5) λx6=>.ifs [18] x6 (.ret ((a1:aA),4)) (.iF 24 aP.av gE aP.dA a1.aW a2 λx7=>.wt 20 <|.ifs [20] x7.Closed (.ret ((a1:aA),7)) (.al 3<|.ix 33 (fL 1 fI) a1.bF.Methods a2 λx9=>.ln 35 fI x9<|.dU 0 [1,2,4,5,6] [1,2] [] (λ_ (a:aA)=>[]) (λ_ a=>[.kp 3 [(aA.av a)]]) (.lp [1,2,4,5,6,34,35] [1,2] [] (λ_ (a:Int×aA)=>[(36,int a.1)]) (λ_ a=>[.kp 3 [(aA.av a.2)]]) n ((0:Int),a1) (pw λy0_1 y0_2=>.bB 37 (decide (y0_1<(x9.length:Int))) λx10=>.ifs [37] x10 (.dU 1 [1,2,4,5,6,34,35,36] [1,2] [] (λ_ (a:aA)=>[]) (λ_ a=>[.kp 3 [(aA.av a)]]) (.ix 39 fI x9 y0_1 λx11=>.jn 0 [1,2,4,5,6,7,34,35,36] [1,2,3] [] (λ_ (a:Bool)=>[(55,aI a)]) (λ_ _=>[]) (.bB 42 (decide (x11≠3)) λx12=>.ifs [42] x12 (.ret true) (.bI 45 (bA (y0_1+1)) λx13=>.bI 46 (bA (x13*2)) λx14=>.iF 50 aP.av gE aP.dA a1.aW a2 λx15=>.ln 53 aT.av x15.cK<|.bB 54 (decide (x14>(x15.cK.length:Int))) λx16=>.ret x16)) (λy1_1=>.ifs [55] y1_1 (.brk y0_2) (.iF 59 aP.av gE aP.dA a1.aW a2 λx17=>.bI 63 (bA (y0_1*2)) λx18=>.bI 65 (bA (y0_1+1)) λx19=>.bI 66 (bA (x19*2)) λx20=>.bI 68 (bA (y0_1+1)) λx21=>.bI 69 (bA (x21*2)) λx22=>.as ((0:Int)<=x18/\x18<=x20/\x20<=(x17.cK.length:Int)/\x22=x20) inferInstance<|.bl ((x17.cK.take x20.toNat).drop x18.toNat:List aT) λx24=>.gv 70<|.ln 72 aT.av x24<|.dU 0 [1,2,4,5,6,34,35,36] [1,2] [] (λ_ (a:aA)=>[]) (λ_ a=>[.kp 3 [(aA.av a)]]) (.lp [1,2,4,5,6,7,34,35,36,71,72] [1,2] [] (λ_ (a:Int×aA)=>[(73,int a.1)]) (λ_ a=>[.kp 3 [(aA.av a.2)]]) n ((0:Int),y0_2) (pw λy2_1 y2_2=>.bB 74 (decide (y2_1<(x24.length:Int))) λx25=>.ifs [74] x25 (.dU 1 [1,2,4,5,6,7,34,35,36,71,72,73] [1,2] [] (λ_ (a:aA)=>[]) (λ_ a=>[.kp 3 [(aA.av a)]]) (.ix 76 aT.av x24 y2_1 λx26=>.al 4<|.gv 80<|.bl (decide ((x26.bR:jE)=((⟨0,0,0⟩:jE):jE)):Bool) λx28=>.gv 81<|.ifs [81] x28 (.brk y2_2) (.cl 88 (aDS n y2_2 a2 y0_1 y2_1 x26) aV6 aK8 λx29=>.bB 92 (decide (x29.2≠0)) λx30=>.ifs [92] x30 (.esc (.esc (.esc (.esc (.esc (.esc (.ret ((a1:aA),x29.2)))))))) (.brk x29.1))) (λy3_1=>.bI 95 (bA (y2_1+1)) λx31=>.brk ((x31:Int),y3_1))) (.esc (.brk y2_2)))) (λy4_1=>.brk y4_1)))) (λy5_1=>.bI 96 (bA (y0_1+1)) λx32=>.brk ((x32:Int),y5_1))) (.esc (.brk y0_2)))) (λy6_1=>.cl 100 (MZ n y6_1 a2) aQI aTN λx33=>.bB 104 (decide (x33.2≠0)) λx34=>.ifs [104] x34 (.ret ((a1:aA),x33.2)) (.as (x33.1.aW.length<=68719476736) inferInstance<|.ge 109 5<|.dr [(0,[3]),(1,[3]),(3,[3]),(4,[3]),(6,[1]),(7,[1]),(12,[5]),(13,[5]),(15,[5]),(16,[5])] [(14,[3]),(17,[])] [1,3,5] [14,17] [0,1,2,3,4,5,6,7,8,9,10,11,12,13,14,15,16,17] (.iF 120 aP.av gE aP.dA a1.aW a2 λx37=>.to 122 (aH 8 aP.av ([x37]:List aP))<|.bo (ix x33.1.aW a2) λx38=>.gv 123<|.gv 124<|.bl (x33.1.aW.set (Int.toNat a2) ((⟨x38.fD,x38.Closed,x38.cK,x38.dM,x38.d9,x38.eH,x38.Down,([x37]:List aP)⟩:aP):aP):List aP) λx39=>.ge 1025014 0<|.gv 125<|.gv 126<|.bl (x39.set (Int.toNat a2) ((⟨x38.fD,true,x38.cK,x38.dM,x38.d9,x38.eH,x38.Down,([x37]:List aP)⟩:aP):aP):List aP) λx40=>.ge 1025017 0<|.ret (((⟨x33.1.bF,x40,x33.1.dG,x33.1.dO,x33.1.bL,x33.1.Done⟩:aA):aA),0))))))
def xM (n:Nat) (a1:aA) (a2:Int):Option (aA×Int):=(WY n a1 a2).run
theorem aBC {n a1 a2}:PZ (xM n a1 a2) 9 [.agg (aA.av a1),int a2] (λr=>.bD [.agg (aA.av r.1),int r.2]):=by
 refine wm Tryz.func9 ?_
 intro v3
 intro v4
 refine .mk λx5 e5=>?_
 refine .mk λx6=>?_
 refine .mk .mk ?_
 refine .mk λx7 e7=>?_
 refine .mk .mk ?_
 intro v8
 refine .mk λx9 e9=>?_
 refine .mk ?_
 refine .mk ?_ ?_
 refine .mk ?_
 intro _ _
 refine .mk λx10=>?_
 refine .mk ?_ ?_
 refine .mk ?_ ?_
 refine .mk λx11 e11=>?_
 refine .mk ?_ ?_
 refine .mk λx12=>?_
 refine .mk .mk ?_
 refine .mk λx13=>?_
 refine .mk λx14=>?_
 refine .mk λx15 e15=>?_
 refine .mk ?_
 refine .mk λx16=>?_
 exact .mk
 intro _ _
 refine .mk .mk ?_
 refine .mk λx17 e17=>?_
 refine .mk λx18=>?_
 refine .mk λx19=>?_
 refine .mk λx20=>?_
 refine .mk λx21=>?_
 refine .mk λx22=>?_
 refine .mk λp23=>?_
 refine .mk λx24 e24=>?_
 refine .mk _ (bK (aQK (i:=x18.toNat) (j:=x20.toNat) rfl Tryz.underlying63 wG rfl (.yes rfl (by omega)) (.yes rfl (by omega)) (.yes rfl (by omega)) (by omega) (by omega) e24)) ?_
 refine .mk ?_
 refine .mk ?_ ?_
 refine .mk ?_
 intro _ _
 refine .mk λx25=>?_
 refine .mk ?_ ?_
 refine .mk ?_ ?_
 refine .mk λx26 e26=>?_
 intro v27
 refine .mk _ (bK (wF (cs:=[int 0,int 0,int 0]) (ps:=[]) rfl Tryz.underlying58 dP z58 rfl .nil (by kernel_rfl))) ?_
 refine .mk λx28 e28=>?_
 refine .mk _ (bK (aSX (r':=x28) rfl Tryz.underlying58 sz3 c3 (by decide) rfl rfl (.cons (.int Tryz.underlying3) dP (.cons (.int Tryz.underlying3) dP (.cons (.int Tryz.underlying3) dP (.nil _)))) ((jE.eqv (x26.bR:jE) ((⟨0,0,0⟩:jE):jE)).trans e28))) ?_
 refine .mk .mk ?_
 refine .mk λx29 e29=>?_
 refine .mk λx30=>?_
 refine .mk .mk ?_
 exact .mk
 intro _ _
 refine .mk λx31=>?_
 exact .mk
 exact .mk
 intro _ _
 exact .mk
 intro _ _
 refine .mk λx32=>?_
 exact .mk
 exact .mk
 intro _ _
 refine .mk λx33 e33=>?_
 refine .mk λx34=>?_
 refine .mk .mk ?_
 refine .mk λp35=>?_
 refine .mk _ ⟨λ_=>eO rfl rfl (.cons rfl .nil) wT (jD (wB.pc (id:=5) (l:=x33.1.aW) rfl p35) (.cons (.refl _) .nil)),λ_ _ _=>trivial⟩ ?_
 rintro _ _ ⟨v36,rfl,rfl⟩
 refine .mk ?_
 refine .mk λx37 e37=>?_
 refine .mk (λH hH _=>dK (y:=aH 8 aP.av ([x37]:List aP)) (gM (ps:=[(0,_)]) (rows:=[[int x37.fD,aI x37.Closed,aH 4 aT.av x37.cK,aH 1 fI x37.dM,aH 11 dL.av x37.d9,aH 1 fI x37.eH,aH 1 fI x37.Down,aH 8 aP.av x37.gK]]) rfl Tryz.underlying28 BU (.cons rfl .nil) (by kernel_rfl) rfl rfl rfl) (congrArg (AV.list 8) (by simp only [List.map_cons,List.map_nil,aP.dA]))) ?_
 refine .mk λx38 e38=>?_
 refine .mk _ (λH hH _=>eY rfl Tryz.underlying28 o8 rfl rfl ((hH _ (by decide)).trans rfl) rfl rfl (Eq.symm rfl) (List.length_map _) e38) ?_
 refine .mk _ (λH hH _=>fZ rfl TD rfl (.pt ((hH _ (by decide)).trans rfl) rfl (gN e38 (aP.dA _))) (.pt _ _ _ _ _)) ?_
 refine .mk λx39 e39=>?_
 have fx39:=iE e38 e39;have lx39:=iD e39 (rfl:x33.1.aW.length=x33.1.aW.length)
 refine .mk _ ⟨λ_=>bY.eX (fH (ob':=(⟨66,8,true,true,_,x39.map aP.av⟩:bH)) (fC rfl EV rfl rfl rfl rfl rfl (gN e38 (aP.dA _)) rfl rfl rfl) (iC (B8 e39 (aP.dA _)))) (λ_ h=>h) (λ_ _=>trivial),by rintro _ _ ⟨rfl,rfl⟩;exact ⟨rfl,trivial⟩⟩ ?_
 rintro _ _ ⟨rfl,rfl⟩
 refine .mk _ (λH hH _=>eY rfl Tryz.underlying28 o8 rfl rfl ((hH _ (by decide)).trans rfl) rfl rfl (Eq.symm lx39) (List.length_map _) fx39) ?_
 refine .mk _ (λH hH _=>fZ rfl aCW rfl (.pt ((hH _ (by decide)).trans rfl) rfl (gN fx39 (aP.dA _))) (.pt _ _ _ _ _)) ?_
 refine .mk λx40 e40=>?_
 have fx40:=iE fx39 e40;have lx40:=iD e40 lx39
 refine .mk _ ⟨λ_=>bY.eX (fH (ob':=(⟨66,8,true,true,_,x40.map aP.av⟩:bH)) (fC rfl zI rfl rfl rfl rfl rfl (gN fx39 (aP.dA _)) rfl rfl rfl) (iC (B8 e40 (aP.dA _)))) (λ_ h=>h) (λ_ _=>trivial),by rintro _ _ ⟨rfl,rfl⟩;exact trivial⟩ ?_
 rintro _ _ ⟨rfl,rfl⟩
 exact .mk (bT.bD (.cons (bT.agg (.cons (.refl _) (.cons (.refl _) (.cons (.refl _) (.cons (.refl _) (.cons (.refl _) (.cons (dZ rfl rfl rfl rfl rfl (Eq.symm lx40)) (.cons (.refl _) (.cons (.refl _) (.cons (.refl _) (.cons (.refl _) .nil))))))))))) (.cons (.refl _) .nil)))
def aSW (n:Nat) (a1:aA) (a2:Int):WB (aA×Int) :=
 .al 1<|.al 2<|.cl 11 (BP a1 a2) OC UA λx5=>.bB 12 (!x5) λx6=>.ifs [12] x6 (.ret ((a1:aA),4)) (.jn 1 [1,2,4,5] [1,2] [] (λ_ (a:Bool)=>[(14,aI a)]) (λ_ _=>[]) (.iF 18 aP.av gE aP.dA a1.aW a2 λx7=>.bB 21 (!x7.Closed) λx8=>.ifs [21] x8 (.ret true) (.iF 26 aP.av gE aP.dA a1.aW a2 λx9=>.ln 29 aP.av x9.gK<|.bB 30 (decide ((x9.gK.length:Int)≠1)) λx10=>.ret x10)) (λy0_1=>.ifs [14] y0_1 (.ret ((a1:aA),8)) (.dr [(0,[1]),(1,[1]),(3,[1]),(4,[1]),(6,[1]),(8,[1])] [(7,[]),(9,[])] [1] [2,5,7,9] [0,1,3,4,2,6,5,7,8,9] (.as (a1.aW.length<=68719476736) inferInstance<|.ge 35 3<|.as (a1.dO.length<=68719476736) inferInstance<|.ge 38 4<|.dr [(0,[1]),(1,[1]),(3,[1]),(4,[1]),(6,[3]),(7,[3]),(8,[3]),(11,[3])] [(12,[])] [1,3] [12] [0,1,2,3,4,5,6,7,8,9,10,11,12] (.bo (ix a1.aW a2) λx15=>.gv 47<|.gv 48<|.gv 49<|.iF 50 aP.av gE aP.dA x15.gK 0 λx16=>.gv 52<|.bl (a1.aW.set (Int.toNat a2) x16:List aP) λx17=>.ge 1006012 0<|.jn 1 [2,4,5] [2,3] [] (λ_ (a:(List dV))=>[]) (λu7 a=>[.kp 1 [[int a1.bF.fO,int a1.bF.iB,aH 1 fI a1.bF.bN,aH 1 (fL 1 fI) a1.bF.Methods,aH 1 (fL 1 fI) a1.bF.fM,.sl 3 (u7 3) 0 a1.aW.length,aH 8 dH.av a1.dG,.sl 4 (u7 4) 0 a.length,aH 6 dD.av a1.bL,int a1.Done]],.kp 4 (a.map dV.av)]) (.lp [1,2,4,5,55] [2,3] [] (λu10 (a:Int×(List dV))=>[(54,.sl 4 (u10 4) 0 a.2.length),(56,int a.1)]) (λu10 a=>[.kp 1 [[int a1.bF.fO,int a1.bF.iB,aH 1 fI a1.bF.bN,aH 1 (fL 1 fI) a1.bF.Methods,aH 1 (fL 1 fI) a1.bF.fM,.sl 3 (u10 3) 0 a1.aW.length,aH 8 dH.av a1.dG,.sl 4 (u10 4) 0 a.2.length,aH 6 dD.av a1.bL,int a1.Done]],.kp 4 (a.2.map dV.av)]) n ((0:Int),(a1.dO:List dV)) (pw λy1_1 y1_2=>.bB 57 (decide (y1_1<(a1.dO.length:Int))) λx18=>.ifs [57] x18 (.jn 1 [1,2,4,5,55,56] [2,3] [] (λu11 (a:(List dV))=>[(54,.sl 4 (u11 4) 0 a.length)]) (λu11 a=>[.kp 1 [[int a1.bF.fO,int a1.bF.iB,aH 1 fI a1.bF.bN,aH 1 (fL 1 fI) a1.bF.Methods,aH 1 (fL 1 fI) a1.bF.fM,.sl 3 (u11 3) 0 a1.aW.length,aH 8 dH.av a1.dG,.sl 4 (u11 4) 0 a.length,aH 6 dD.av a1.bL,int a1.Done]],.kp 4 (a.map dV.av)]) (.bo (ix y1_2 y1_1) λx19=>.gv 59<|.gv 60<|.al 5<|.dr [(0,[5]),(2,[1]),(3,[1]),(5,[3]),(6,[3]),(7,[3])] [] [1,3,5] [] [0,1,2,3,4,5,6,7,8] (.gv 66<|.gv 67<|.gv 68<|.cl 69 (UB x19 a2 ((x16:aP).fD)) aER aEP λx21=>.ifs [69] x21 (.dr [(0,[1]),(1,[1]),(3,[1]),(4,[1]),(6,[4]),(7,[4]),(9,[4]),(10,[4])] [(8,[1]),(11,[])] [1,4] [8,11] [0,1,2,3,4,5,6,7,8,9,10,11] (.gv 76<|.gv 77<|.bl (y1_2.set (Int.toNat y1_1) ((⟨x19.fG,x19.Item,x19.Loc,x19.aS,x19.jJ,0,x19.bE,x19.qT,x19.qW⟩:dV):dV):List dV) λx22=>.ge 1011008 0<|.gv 78<|.gv 79<|.bl (x22.set (Int.toNat y1_1) ((⟨x19.fG,x19.Item,x19.Loc,x19.aS,x19.jJ,0,0,x19.qT,x19.qW⟩:dV):dV):List dV) λx23=>.ge 1011011 0<|.ret x23)) (.ret y1_2))) (λy2_1=>.bI 80 (bA (y1_1+1)) λx24=>.brk ((x24:Int),y2_1))) (.esc (.ret y1_2)))) (λy3_1=>.ret (((⟨a1.bF,x17,a1.dG,y3_1,a1.bL,a1.Done⟩:aA):aA),0)))))))
def WQ (n:Nat) (a1:aA) (a2:Int):Option (aA×Int):=(aSW n a1 a2).run
theorem aQV {n a1 a2}:PZ (WQ n a1 a2) 17 [.agg (aA.av a1),int a2] (λr=>.bD [.agg (aA.av r.1),int r.2]):=by
 refine wm Tryz.func17 ?_
 intro v3
 intro v4
 refine .mk λx5 e5=>?_
 refine .mk λx6=>?_
 refine .mk .mk ?_
 refine .mk ?_ ?_
 refine .mk λx7 e7=>?_
 refine .mk λx8=>?_
 refine .mk .mk ?_
 refine .mk λx9 e9=>?_
 refine .mk ?_
 refine .mk λx10=>?_
 exact .mk
 intro _ _
 refine .mk .mk ?_
 refine .mk ?_
 refine .mk λp11=>?_
 refine .mk _ ⟨λ_=>eO rfl rfl (.cons rfl .nil) wT (jD (wB.pc (id:=3) (l:=a1.aW) rfl p11) (.cons (.refl _) .nil)),by rintro _ _ ⟨v12,rfl,rfl⟩;exact ⟨rfl,trivial⟩⟩ ?_
 rintro _ _ ⟨v12,rfl,rfl⟩
 refine .mk λp13=>?_
 refine .mk _ ⟨λ_=>eO rfl rfl (.cons rfl .nil) aHB (jD (YJ.pc (id:=4) (l:=a1.dO) rfl p13) (.cons (.refl _) .nil)),by rintro _ _ ⟨v14,rfl,rfl⟩;exact ⟨rfl,trivial⟩⟩ ?_
 rintro _ _ ⟨v14,rfl,rfl⟩
 refine .mk ?_
 refine .mk λx15 e15=>?_
 refine .mk _ (λH hH _=>eY rfl Tryz.underlying28 o8 rfl rfl ((hH _ (by decide)).trans rfl) rfl rfl (Eq.symm rfl) (List.length_map _) e15) ?_
 refine .mk _ (λH hH _=>fZ rfl TD rfl (.pt ((hH _ (by decide)).trans rfl) rfl (gN e15 (aP.dA _))) (.pt _ _ _ _ _)) ?_
 refine .mk _ (λH hH _=>fU rfl EV rfl (.pt ((hH _ (by decide)).trans rfl) rfl (gN e15 (aP.dA _))) rfl) ?_
 refine .mk λx16 e16=>?_
 refine .mk _ (λH hH _=>eY rfl Tryz.underlying28 o8 rfl rfl ((hH _ (by decide)).trans rfl) rfl rfl (Eq.symm rfl) (List.length_map _) e15) ?_
 refine .mk λx17 e17=>?_
 have fx17:=iE e15 e17;have lx17:=iD e17 (rfl:a1.aW.length=a1.aW.length)
 refine .mk _ ⟨λ_=>bY.eX (fH (ob':=(⟨66,8,true,true,_,x17.map aP.av⟩:bH)) (fC rfl o8 rfl rfl rfl rfl rfl (gN e15 (aP.dA _)) rfl rfl rfl) (iC (B8 e17 (aP.dA _)))) (λ_ h=>h) (λ_ _=>trivial),by rintro _ _ ⟨rfl,rfl⟩;exact trivial⟩ ?_
 rintro _ _ ⟨rfl,rfl⟩
 refine .mk ?_ ?_
 refine .mk ?_
 rintro ⟨y1_1,y1_2⟩ _
 refine .mk λx18=>?_
 refine .mk ?_ ?_
 refine .mk ?_ ?_
 refine .mk λx19 e19=>?_
 refine .mk _ (bK (eY rfl Tryz.underlying30 KE rfl rfl rfl rfl rfl (Eq.symm rfl) (List.length_map _) e19)) ?_
 refine .mk _ (bK (fU rfl KE rfl (.pt rfl rfl (dN e19)) rfl)) ?_
 intro v20
 refine .mk ?_
 refine .mk _ (λH hH _=>eY rfl Tryz.underlying28 o8 rfl rfl ((hH _ (by decide)).trans rfl) rfl rfl (Eq.symm lx17) (List.length_map _) fx17) ?_
 refine .mk _ (λH hH _=>fZ rfl T4 rfl (.pt ((hH _ (by decide)).trans rfl) rfl (gN fx17 (aP.dA _))) (.pt _ _ _ _ _)) ?_
 refine .mk _ (λH hH _=>fU rfl dP rfl (.pt ((hH _ (by decide)).trans rfl) rfl (gN fx17 (aP.dA _))) rfl) ?_
 refine .mk λx21 e21=>?_
 refine .mk ?_ ?_
 refine .mk ?_
 refine .mk _ (λH hH _=>eY rfl Tryz.underlying30 KE rfl rfl ((hH _ (by decide)).trans rfl) rfl rfl (Eq.symm rfl) (List.length_map _) e19) ?_
 refine .mk _ (λH hH _=>fZ rfl aMC rfl (.pt ((hH _ (by decide)).trans rfl) rfl (dN e19)) (.pt _ _ _ _ _)) ?_
 refine .mk λx22 e22=>?_
 have fx22:=iE e19 e22;have lx22:=iD e22 (rfl:y1_2.length=y1_2.length)
 refine .mk _ ⟨λ_=>bY.eX (fH (ob':=(⟨117,9,true,true,_,x22.map dV.av⟩:bH)) (fC rfl dP rfl rfl rfl rfl rfl (dN e19) rfl rfl rfl) (iC (jB e22))) (λ_ h=>h) (λ_ _=>trivial),by rintro _ _ ⟨rfl,rfl⟩;exact ⟨rfl,trivial⟩⟩ ?_
 rintro _ _ ⟨rfl,rfl⟩
 refine .mk _ (λH hH _=>eY rfl Tryz.underlying30 KE rfl rfl ((hH _ (by decide)).trans rfl) rfl rfl (Eq.symm lx22) (List.length_map _) fx22) ?_
 refine .mk _ (λH hH _=>fZ rfl aQE rfl (.pt ((hH _ (by decide)).trans rfl) rfl (dN fx22)) (.pt _ _ _ _ _)) ?_
 refine .mk λx23 e23=>?_
 have fx23:=iE fx22 e23;have lx23:=iD e23 lx22
 refine .mk _ ⟨λ_=>bY.eX (fH (ob':=(⟨117,9,true,true,_,x23.map dV.av⟩:bH)) (fC rfl dP rfl rfl rfl rfl rfl (dN fx22) rfl rfl rfl) (iC (jB e23))) (λ_ h=>h) (λ_ _=>trivial),by rintro _ _ ⟨rfl,rfl⟩;exact trivial⟩ ?_
 rintro _ _ ⟨rfl,rfl⟩
 exact .mk ⟨⟨⟨_,rfl,(kJ (Eq.symm lx23))⟩,⟨_,rfl,(.refl _)⟩,⟨_,rfl,(.refl _)⟩,⟨_,rfl,(.refl _)⟩,⟨_,rfl,(.refl _)⟩,⟨_,rfl,(.refl _)⟩,⟨_,rfl,(.refl _)⟩,trivial⟩,⟨⟨_,rfl,⟨rfl,(.cons (.cons (.refl _) (.cons (.refl _) (.cons (.refl _) (.cons (.refl _) (.cons (.refl _) (.cons (.refl _) (.cons (.refl _) (.cons (kJ (Eq.symm lx23)) (.cons (.refl _) (.cons (.refl _) .nil)))))))))) .nil)⟩⟩,⟨_,rfl,(.refl _)⟩,⟨_,rfl,(.refl _)⟩,⟨_,rfl,(.refl _)⟩,trivial⟩⟩
 exact .mk
 intro _ _
 refine .mk λx24=>?_
 exact .mk
 exact .mk
 intro _ _
 exact .mk (bT.bD (.cons (bT.agg (.cons (.refl _) (.cons (.refl _) (.cons (.refl _) (.cons (.refl _) (.cons (.refl _) (.cons (dZ rfl rfl rfl rfl rfl (Eq.symm lx17)) (.cons (.refl _) (.cons (dZ rfl rfl rfl rfl rfl (Eq.symm rfl)) (.cons (.refl _) (.cons (.refl _) .nil))))))))))) (.cons (.refl _) .nil)))
def aK5 (n:Nat) (a1:aA) (a2:Int):WB (aA×Int) :=
 .al 1<|.al 2<|.cl 11 (BP a1 a2) OC UA λx5=>.bB 12 (!x5) λx6=>.ifs [12] x6 (.ret ((a1:aA),4)) (.iF 18 aP.av gE aP.dA a1.aW a2 λx7=>.bB 21 (!x7.Closed) λx8=>.ifs [21] x8 (.ret ((a1:aA),8)) (.dr [(0,[1]),(1,[1]),(6,[1]),(7,[1]),(8,[1])] [] [1] [] [0,1,2,3,4,5,6,7,8,9,10] (.iF 27 aP.av gE aP.dA a1.aW a2 λx9=>.bB 33 (decide (x9.fD>=a1.bF.iB)) λx10=>.ifs [33] x10 (.ret ((a1:aA),11)) (.as (a1.aW.length<=68719476736) inferInstance<|.ge 37 3<|.bo (ix a1.aW a2) λx13=>.gv 42<|.gv 47<|.gv 48<|.gv 49<|.bI 50 (bA (x13.fD+1)) λx14=>.gv 51<|.gv 52<|.bl (a1.aW.set (Int.toNat a2) ((⟨x14,x13.Closed,x13.cK,x13.dM,x13.d9,x13.eH,x13.Down,x13.gK⟩:aP):aP):List aP) λx15=>.ge 1009010 0<|.gv 53<|.gv 54<|.bl (x15.set (Int.toNat a2) ((⟨x14,false,x13.cK,x13.dM,x13.d9,x13.eH,x13.Down,x13.gK⟩:aP):aP):List aP) λx16=>.ge 1009013 0<|.gv 55<|.gv 56<|.ge 1009016 0<|.gv 59<|.gv 60<|.gv 61<|.ln 62 dL.av x13.d9<|.as ((0:Int)<=(x13.d9.length:Int)/\((x13.d9.length:Int):Int)<=1048576) inferInstance<|.bl (List.replicate (Int.toNat (x13.d9.length:Int)) ((⟨0,0,0,0,0,0,0,0,0,0,0⟩:dL):dL):List dL) λx18=>.ge 63 0<|.gv 64<|.gv 65<|.ge 1010009 0<|.gv 67<|.gv 68<|.gv 69<|.jn 0 [2,4,5] [1,2] [] (λ_ (a:(List dL))=>[]) (λu2 a=>[.kp 3 ((x16.map aP.av).set (Int.toNat a2) [int x14,aI false,aH 4 aT.av x13.cK,aH 1 fI x13.dM,.sl 4 (u2 4) 0 a.length,aH 1 fI x13.eH,aH 1 fI x13.Down,.sc (.slice none 0 0)]),.kp 4 (a.map dL.av)]) (.lp [1,2,4,5,6,70] [1,2] [] (λ_ (a:Int×(List dL))=>[(71,int a.1)]) (λu3 a=>[.kp 3 ((x16.map aP.av).set (Int.toNat a2) [int x14,aI false,aH 4 aT.av x13.cK,aH 1 fI x13.dM,.sl 4 (u3 4) 0 a.2.length,aH 1 fI x13.eH,aH 1 fI x13.Down,.sc (.slice none 0 0)]),.kp 4 (a.2.map dL.av)]) n ((0:Int),x18) (pw λy0_1 y0_2=>.bB 72 (decide (y0_1<((Int.toNat (x13.d9.length:Int)):Int))) λx20=>.ifs [72] x20 (.dr [(1,[3]),(2,[3]),(3,[3]),(5,[1]),(8,[3,4]),(10,[4]),(11,[4])] [(12,[])] [1,3,4] [12] [0,1,2,3,4,5,6,7,8,9,10,11,12] (.gv 75<|.gv 76<|.gv 77<|.jF 82 (wM n (⟨a1.bF,(x16.set (Int.toNat a2) (⟨x14,false,x13.cK,x13.dM,y0_2,x13.eH,x13.Down,[]⟩:aP)),a1.dG,a1.dO,a1.bL,a1.Done⟩:aA) a2 y0_1) B9 CW (λ_=>rfl) λx21=>.bo (ix y0_2 y0_1) λx22=>.gv 84<|.gv 85<|.bl (y0_2.set (Int.toNat y0_1) ((⟨x21.Value,x22.lS,x22.lJ,x22.lM,x22.lY,x22.l9,x22.lN,x22.lW,x22.l5,x22.mD,x22.lZ⟩:dL):dL):List dL) λx23=>.ge 1014012 0<|.bI 86 (bA (y0_1+1)) λx24=>.brk ((x24:Int),x23))) (.esc (.ret y0_2)))) (λy1_1=>.ret (((⟨a1.bF,(x16.set (Int.toNat a2) (⟨x14,false,x13.cK,x13.dM,y1_1,x13.eH,x13.Down,[]⟩:aP)),a1.dG,a1.dO,a1.bL,a1.Done⟩:aA):aA),0))))))
def aEQ (n:Nat) (a1:aA) (a2:Int):Option (aA×Int):=(aK5 n a1 a2).run
theorem aO4 {n a1 a2}:PZ (aEQ n a1 a2) 18 [.agg (aA.av a1),int a2] (λr=>.bD [.agg (aA.av r.1),int r.2]):=by
 refine wm Tryz.func18 ?_
 intro v3
 intro v4
 refine .mk λx5 e5=>?_
 refine .mk λx6=>?_
 refine .mk .mk ?_
 refine .mk λx7 e7=>?_
 refine .mk λx8=>?_
 refine .mk .mk ?_
 refine .mk ?_
 refine .mk λx9 e9=>?_
 refine .mk λx10=>?_
 refine .mk .mk ?_
 refine .mk λp11=>?_
 refine .mk _ ⟨λ_=>eO rfl rfl (.cons rfl .nil) wT (jD (wB.pc (id:=3) (l:=a1.aW) rfl p11) (.cons (.refl _) .nil)),λ_ _ _=>trivial⟩ ?_
 rintro _ _ ⟨v12,rfl,rfl⟩
 refine .mk λx13 e13=>?_
 refine .mk _ (bK (eY rfl Tryz.underlying28 o8 rfl rfl rfl rfl rfl (Eq.symm rfl) (List.length_map _) e13)) ?_
 refine .mk _ (bK (mY rfl rfl (.pt rfl rfl (gN e13 (aP.dA _))))) ?_
 refine .mk _ (bK (fZ rfl T4 rfl (.pt rfl rfl (gN e13 (aP.dA _))) (.pt _ _ _ _ _))) ?_
 refine .mk _ (bK (fU rfl dP rfl (.pt rfl rfl (gN e13 (aP.dA _))) rfl)) ?_
 refine .mk λx14=>?_
 refine .mk _ (bK (mY rfl rfl (.pt rfl rfl (gN e13 (aP.dA _))))) ?_
 refine .mk _ (bK (fZ rfl T4 rfl (.pt rfl rfl (gN e13 (aP.dA _))) (.pt _ _ _ _ _))) ?_
 refine .mk λx15 e15=>?_
 have fx15:=iE e13 e15;have lx15:=iD e15 (rfl:a1.aW.length=a1.aW.length)
 refine .mk _ ⟨λ_=>bY.eX (fH (ob':=(⟨66,8,true,true,_,x15.map aP.av⟩:bH)) (fC rfl dP rfl rfl rfl rfl rfl (gN e13 (aP.dA _)) rfl rfl rfl) (iC (B8 e15 (aP.dA _)))) (λ_ h=>h) (λ_ _=>trivial),λ_ _ _=>trivial⟩ ?_
 rintro _ _ ⟨rfl,rfl⟩
 refine .mk _ (bK (mY rfl rfl (.pt rfl rfl (gN fx15 (aP.dA _))))) ?_
 refine .mk _ (bK (fZ rfl aCW rfl (.pt rfl rfl (gN fx15 (aP.dA _))) (.pt _ _ _ _ _))) ?_
 refine .mk λx16 e16=>?_
 have fx16:=iE fx15 e16;have lx16:=iD e16 lx15
 refine .mk _ ⟨λ_=>bY.eX (fH (ob':=(⟨66,8,true,true,_,x16.map aP.av⟩:bH)) (fC rfl zI rfl rfl rfl rfl rfl (gN fx15 (aP.dA _)) rfl rfl rfl) (iC (B8 e16 (aP.dA _)))) (λ_ h=>h) (λ_ _=>trivial),λ_ _ _=>trivial⟩ ?_
 rintro _ _ ⟨rfl,rfl⟩
 refine .mk _ (bK (mY rfl rfl (.pt rfl rfl (gN fx16 (aP.dA _))))) ?_
 refine .mk _ (bK (fZ rfl TD rfl (.pt rfl rfl (gN fx16 (aP.dA _))) (.pt _ _ _ _ _))) ?_
 refine .mk _ ⟨λ_=>bY.eX (fH (ob':=(⟨66,8,true,true,_,(x16.map aP.av).set (Int.toNat a2) [int x14,aI false,aH 4 aT.av x13.cK,aH 1 fI x13.dM,aH 11 dL.av x13.d9,aH 1 fI x13.eH,aH 1 fI x13.Down,.sc (.slice none 0 0)]⟩:bH)) (fC rfl EV rfl rfl rfl rfl rfl (gN fx16 (aP.dA _)) rfl rfl rfl) (iC rfl)) (λ_ h=>h) (λ_ _=>trivial),λ_ _ _=>trivial⟩ ?_
 rintro _ _ ⟨rfl,rfl⟩
 refine .mk _ (bK (mY rfl rfl (.pt rfl rfl (lD fx16)))) ?_
 refine .mk _ (bK (fZ rfl zO rfl (.pt rfl rfl (lD fx16)) (.pt _ _ _ _ _))) ?_
 refine .mk _ (bK (fU rfl AJ rfl (.pt rfl rfl (lD fx16)) rfl)) ?_
 refine .mk ?_
 refine .mk λp17=>?_
 refine .mk λx18 e18=>?_
 have lx18:x18.length=(Int.toNat (x13.d9.length:Int)):=by rw [<- e18];exact List.length_replicate
 refine .mk _ ⟨λ_=>pO 4 (g:=dL.av) (z0:=((⟨0,0,0,0,0,0,0,0,0,0,0⟩:dL):dL)) .any rfl Tryz.underlying64 NC JD rfl rfl rfl p17 (.cons (.sc _) (.cons (.sc _) (.cons (.sc _) (.cons (.sc _) (.cons (.sc _) (.cons (.sc _) (.cons (.sc _) (.cons (.sc _) (.cons (.sc _) (.cons (.sc _) (.cons (.sc _) .nil))))))))))) e18,λ_ _ _=>trivial⟩ ?_
 rintro _ _ ⟨v19,-,rfl,rfl⟩
 refine .mk _ (bK (mY rfl rfl (.pt rfl rfl (lD fx16)))) ?_
 refine .mk _ (bK (fZ rfl zO rfl (.pt rfl rfl (lD fx16)) (.pt _ _ _ _ _))) ?_
 refine .mk _ ⟨λ_=>bY.eX (fH (ob':=(⟨66,8,true,true,_,(x16.map aP.av).set (Int.toNat a2) [int x14,aI false,aH 4 aT.av x13.cK,aH 1 fI x13.dM,.sl 4 v19 0 (Int.toNat (x13.d9.length:Int)),aH 1 fI x13.eH,aH 1 fI x13.Down,.sc (.slice none 0 0)]⟩:bH)) (fC rfl AJ rfl rfl rfl rfl rfl (lD fx16) rfl rfl rfl) (iC PK)) (λ_ h=>h) (λ_ _=>trivial),λ_ _ _=>trivial⟩ ?_
 rintro _ _ ⟨rfl,rfl⟩
 refine .mk _ (bK (mY rfl rfl (.pt rfl rfl (lD fx16)))) ?_
 refine .mk _ (bK (fZ rfl zO rfl (.pt rfl rfl (lD fx16)) (.pt _ _ _ _ _))) ?_
 refine .mk _ (bK (fU rfl AJ rfl (.pt rfl rfl (lD fx16)) rfl)) ?_
 refine .mk ?_ ?_
 refine .mk ?_ ⟨⟨⟨_,rfl,(.refl _)⟩,⟨_,rfl,(.refl _)⟩,⟨_,rfl,(.refl _)⟩,⟨_,rfl,(.refl _)⟩,⟨_,rfl,(.refl _)⟩,⟨_,rfl,(.refl _)⟩,⟨_,rfl,(.refl _)⟩,trivial⟩,⟨⟨_,rfl,⟨rfl,zK (.cons (.refl _) (.cons (.refl _) (.cons (.refl _) (.cons (.refl _) (.cons (kJ (Eq.symm lx18)) (.cons (.refl _) (.cons (.refl _) (.cons (.refl _) .nil))))))))⟩⟩,⟨_,rfl,(.refl _)⟩,⟨_,rfl,(.refl _)⟩,⟨_,rfl,(.refl _)⟩,trivial⟩⟩
 rintro ⟨y0_1,y0_2⟩ _
 refine .mk λx20=>?_
 refine .mk ?_ ?_
 refine .mk ?_
 refine .mk _ (λH hH _=>mY rfl rfl (.pt ((hH _ (by decide)).trans rfl) rfl (lD fx16))) ?_
 refine .mk _ (λH hH _=>fZ rfl zO rfl (.pt ((hH _ (by decide)).trans rfl) rfl (lD fx16)) (.pt _ _ _ _ _)) ?_
 refine .mk _ (λH hH _=>fU rfl AJ rfl (.pt ((hH _ (by decide)).trans rfl) rfl (lD fx16)) rfl) ?_
 refine .mk (λx21 e21=>?_) rfl (λH hH=>(.cons (bT.agg (.cons (.refl _) (.cons (.refl _) (.cons (.refl _) (.cons (.refl _) (.cons (.refl _) (.cons (qI (ob:=(⟨66,8,false,true,v12,(x16.map aP.av).set (Int.toNat a2) [int x14,aI false,aH 4 aT.av x13.cK,aH 1 fI x13.dM,.sl 4 v19 0 y0_2.length,aH 1 fI x13.eH,aH 1 fI x13.Down,.sc (.slice none 0 0)]⟩:bH)) (aEZ ((hH 3 (by decide)).trans rfl)) rfl rfl rfl rfl (Eq.symm lx16) fx16 (pZ (.cons (.refl _) (.cons (.refl _) (.cons (.refl _) (.cons (.refl _) (.cons (dZ (ob:=(⟨121,11,false,true,v19,y0_2.map dL.av⟩:bH)) (aEZ ((hH 4 (by decide)).trans rfl)) rfl rfl rfl rfl (Eq.symm rfl)) (.cons (.refl _) (.cons (.refl _) (.cons (.nil _) .nil)))))))) (aP.dA _))) (.cons (.refl _) (.cons (.refl _) (.cons (.refl _) (.cons (.refl _) .nil))))))))))) (.cons (.refl _) (.cons (.refl _) .nil))))
 refine .mk λx22 e22=>?_
 refine .mk _ (λH hH _=>eY rfl Tryz.underlying64 PM rfl rfl ((hH _ (by decide)).trans rfl) rfl rfl (Eq.symm rfl) (List.length_map _) e22) ?_
 refine .mk _ (λH hH _=>fZ rfl aJ7 rfl (.pt ((hH _ (by decide)).trans rfl) rfl (dN e22)) (.pt _ _ _ _ _)) ?_
 refine .mk λx23 e23=>?_
 have fx23:=iE e22 e23;have lx23:=iD e23 (rfl:y0_2.length=y0_2.length)
 refine .mk _ ⟨λ_=>bY.eX (fH (ob':=(⟨121,11,true,true,_,x23.map dL.av⟩:bH)) (fC rfl dP rfl rfl rfl rfl rfl (dN e22) rfl rfl rfl) (iC (jB e23))) (λ_ h=>h) (λ_ _=>trivial),by rintro _ _ ⟨rfl,rfl⟩;exact trivial⟩ ?_
 rintro _ _ ⟨rfl,rfl⟩
 refine .mk λx24=>?_
 exact .mk ⟨⟨⟨_,rfl,(.refl _)⟩,⟨_,rfl,(.refl _)⟩,⟨_,rfl,(.refl _)⟩,⟨_,rfl,(.refl _)⟩,⟨_,rfl,(.refl _)⟩,⟨_,rfl,(.refl _)⟩,⟨_,rfl,(.refl _)⟩,trivial⟩,⟨⟨_,rfl,⟨rfl,zK (.cons (.refl _) (.cons (.refl _) (.cons (.refl _) (.cons (.refl _) (.cons (kJ (Eq.symm lx23)) (.cons (.refl _) (.cons (.refl _) (.cons (.refl _) .nil))))))))⟩⟩,⟨_,rfl,(.refl _)⟩,⟨_,rfl,(.refl _)⟩,⟨_,rfl,(.refl _)⟩,trivial⟩⟩
 exact .mk
 intro _ _
 exact .mk (bT.bD (.cons (bT.agg (.cons (.refl _) (.cons (.refl _) (.cons (.refl _) (.cons (.refl _) (.cons (.refl _) (.cons (qI rfl rfl rfl rfl rfl (Eq.symm lx16) fx16 (pZ (.cons (.refl _) (.cons (.refl _) (.cons (.refl _) (.cons (.refl _) (.cons (dZ rfl rfl rfl rfl rfl (Eq.symm rfl)) (.cons (.refl _) (.cons (.refl _) (.cons (.nil _) .nil)))))))) (aP.dA _))) (.cons (.refl _) (.cons (.refl _) (.cons (.refl _) (.cons (.refl _) .nil))))))))))) (.cons (.refl _) .nil)))
def aBP (n:Nat) (a1:aA) (a2:bQ):WB (aA×Int) :=
 .al 1<|.al 2<|.al 3<|.bB 16 (decide (a2.Kind≠1)) λx6=>.ifs [16] x6 (.ret ((a1:aA),1)) (.al 4<|.al 5<|.al 6<|.al 7<|.gv 24<|.jn 1 [2,3,4,5,6,9] [1,2,3] [] (λ_ (a:aA×Int)=>[]) (λ_ a=>[.kp 4 [(aA.av a.1)],.kp 7 [[int a.2]]]) (.un 24 (.kB 28 true<|.gv 29<|.inl 32 aV5 Tryz.func129 [1,2,3,4,5,6] [] (λ_ (a:Int)=>.bD []) (λ_ a=>[.kp 7 [[int a]]]) (.cl 8 (nW a1 a2.E a2.Item) pE pG λx11=>.ret x11) (λy0_1=>.bB 34 (decide (y0_1≠0)) λx12=>.ifs [34] x12 (.ret ((a1:aA),y0_1)) (.kI 35 1<|.kB 28 true<|.gv 29<|.inl 32 aR8 Tryz.func131 [1,2,3,4,5,6] [] (λ_ (a:Int)=>.bD []) (λ_ a=>[.kp 7 [[int a]]]) (.ln 4 dH.av a1.dG<|.bB 5 (decide ((a1.dG.length:Int)>=40)) λx13=>.ifs [5] x13 (.ret 6) (.ret y0_1)) (λy0_1_1=>.bB 34 (decide (y0_1_1≠0)) λx14=>.ifs [34] x14 (.ret ((a1:aA),(y0_1_1:Int))) (.kI 35 2<|.kB 28 true<|.gv 29<|.inl 32 aIO Tryz.func132 [1,2,3] [] (λ_ (a:aA×Int×Int×Int)=>.bD []) (λ_ a=>[.kp 4 [(aA.av a.1)],.kp 5 [[int a.2.1]],.kp 6 [[int a.2.2.1]],.kp 7 [[int a.2.2.2]]]) (.cl 19 (uZ n a1 a2.E a2.Item a2.Loc (⟨a2.aS,a2.bO,0⟩:aM)) EZ FT λx15=>.ret ((x15.1:aA),x15.2.1,x15.2.2.1,x15.2.2.2)) (pw λy0_1_2 q0=>(pw λy0_2 q1=>(pw λy0_3 y0_4=>.bB 34 (decide (y0_4≠0)) λx16=>.ifs [34] x16 (.ret ((y0_1_2:aA),y0_4)) (.kI 35 3<|.kB 28 true<|.gv 29<|.inl 32 aTQ Tryz.func134 [1,2,3,5,6] [] (λ_ (a:aA×Int)=>.bD []) (λ_ a=>[.kp 4 [(aA.av a.1)],.kp 7 [[int a.2]]]) (.bI 15 (bA (0-a2.bO)) λx17=>.to 17 (aH 2 aQ.av ([(⟨0,y0_2⟩:aQ),(⟨6,y0_3⟩:aQ),(⟨1,x17⟩:aQ)]:List aQ))<|.cl 18 (nP n y0_1_2 a2.E ([(⟨0,y0_2⟩:aQ),(⟨6,y0_3⟩:aQ),(⟨1,x17⟩:aQ)]:List aQ)) vC tY λx18=>.ret ((x18.1:aA),x18.2)) (pw λy0_1_3 y0_2_1=>.bB 34 (decide (y0_2_1≠0)) λx19=>.ifs [34] x19 (.ret ((y0_1_3:aA),(y0_2_1:Int))) (.kI 35 4<|.kB 28 true<|.gv 29<|.inl 32 aO2 Tryz.func135 [1,2,3,5,6] [] (λ_ (a:aA×Int)=>.bD []) (λ_ a=>[.kp 4 [(aA.av a.1)],.kp 7 [[int a.2]]]) (.cl 12 (nZ y0_1_3 a2.E a2.Item (⟨0,y0_2,0,0,0,0,0,0,0,0,0⟩:dL)) tJ tT λx20=>.ret ((x20.1:aA),x20.2)) (pw λy0_1_4 y0_2_2=>.bB 34 (decide (y0_2_2≠0)) λx21=>.ifs [34] x21 (.ret ((y0_1_4:aA),(y0_2_2:Int))) (.kI 35 5<|.kB 28 false<|.ret ((y0_1_4:aA),(y0_2_2:Int)))))))) q1) q0))))))) (pw λy1_1 y1_2=>.bB 37 (decide (y1_2≠0)) λx22=>.ifs [37] x22 (.dr [(0,[1]),(1,[7])] [(2,[7])] [1,7] [2] [0,1,2,3] (.ret ((a1:aA),y1_2))) (.al 8<|.dr [(0,[4]),(1,[4]),(3,[8]),(6,[4])] [(2,[8]),(5,[]),(7,[])] [4,8] [2,5,7] [0,1,3,4,2,5,6,7] (.to 59 (aH 8 dH.av ([(⟨a2.E,a2.Item,a2.Loc,a2.aS,a2.bO,a2.aS,a2.bO,0⟩:dH)]:List dH))<|.as (y1_1.dG.length<=68719476736) inferInstance<|.ge 57 9<|.bl (y1_1.dG++([(⟨a2.E,a2.Item,a2.Loc,a2.aS,a2.bO,a2.aS,a2.bO,0⟩:dH)]:List dH):List dH) λx26=>.as (x26.length<=68719476736) inferInstance<|.ge 60 0<|.ret (((⟨y1_1.bF,y1_1.aW,x26,y1_1.dO,y1_1.bL,y1_1.Done⟩:aA):aA),0)))))
def AP (n:Nat) (a1:aA) (a2:bQ):Option (aA×Int):=(aBP n a1 a2).run
theorem aLY {n a1 a2}:PZ (AP n a1 a2) 87 [.agg (aA.av a1),.agg (bQ.av a2)] (λr=>.bD [.agg (aA.av r.1),int r.2]):=by
 refine wm Tryz.func87 ?_
 intro v3
 intro v4
 intro v5
 refine .mk λx6=>?_
 refine .mk .mk ?_
 intro v7
 intro v8
 intro v9
 intro v10
 refine .mk _ (bK (gM (ps:=[(0,_),(1,_),(2,_),(3,_),(4,_)]) (rows:=[[.fn (.func 129) [] [.pt 1 v3 0 0,.pt 2 v4 0 0,.pt 7 v10 0 0]],[.fn (.func 131) [] [.pt 1 v3 0 0,.pt 7 v10 0 0]],[.fn (.func 132) [] [.pt 1 v3 0 0,.pt 2 v4 0 0,.pt 4 v7 0 0,.pt 5 v8 0 0,.pt 6 v9 0 0,.pt 7 v10 0 0]],[.fn (.func 134) [] [.pt 4 v7 0 0,.pt 2 v4 0 0,.pt 5 v8 0 0,.pt 6 v9 0 0,.pt 7 v10 0 0]],[.fn (.func 135) [] [.pt 4 v7 0 0,.pt 2 v4 0 0,.pt 5 v8 0 0,.pt 7 v10 0 0]]]) rfl Tryz.underlying218 bz1 (.cons rfl (.cons rfl (.cons rfl (.cons rfl (.cons rfl .nil))))) (by kernel_rfl) rfl rfl rfl)) ?_
 refine .mk ?_ ?_
 refine .mk ?_
 refine .mk _ (bK (lK (j:=0) rfl Tryz.underlying218 vX rfl rfl rfl (.list rfl))) ?_
 refine .mk ?_ ?_
 refine .mk λx11 e11=>?_
 exact .mk
 intro _ _
 refine .mk trivial ?_
 refine .mk λx12=>?_
 refine .mk .mk ?_
 refine .mk ?_
 refine .mk ?_
 refine .mk _ (bK (lK (j:=1) rfl Tryz.underlying218 vX rfl rfl rfl (.list rfl))) ?_
 refine .mk ?_ ?_
 refine .mk ?_
 refine .mk λx13=>?_
 refine .mk .mk ?_
 exact .mk
 intro _ _
 refine .mk trivial ?_
 refine .mk λx14=>?_
 refine .mk .mk ?_
 refine .mk ?_
 refine .mk ?_
 refine .mk _ (bK (lK (j:=2) rfl Tryz.underlying218 vX rfl rfl rfl (.list rfl))) ?_
 refine .mk ?_ ?_
 refine .mk λx15 e15=>?_
 exact .mk
 rintro ⟨y0_1_2,y0_2,y0_3,y0_4⟩ _
 refine .mk trivial ?_
 refine .mk λx16=>?_
 refine .mk .mk ?_
 refine .mk ?_
 refine .mk ?_
 refine .mk _ (bK (lK (j:=3) rfl Tryz.underlying218 vX rfl rfl rfl (.list rfl))) ?_
 refine .mk ?_ ?_
 refine .mk λx17=>?_
 refine .mk (bK (dK (y:=aH 2 aQ.av ([(⟨0,y0_2⟩:aQ),(⟨6,y0_3⟩:aQ),(⟨1,x17⟩:aQ)]:List aQ)) (gM (ps:=[(0,_),(1,_),(2,_)]) (rows:=[[int 0,int y0_2],[int 6,int y0_3],[int 1,int x17]]) rfl Tryz.underlying46 qD (.cons rfl (.cons rfl (.cons rfl .nil))) (by kernel_rfl) rfl rfl rfl) rfl)) ?_
 refine .mk λx18 e18=>?_
 exact .mk
 intro _ _
 refine .mk trivial ?_
 refine .mk λx19=>?_
 refine .mk .mk ?_
 refine .mk ?_
 refine .mk ?_
 refine .mk _ (bK (lK (j:=4) rfl Tryz.underlying218 vX rfl rfl rfl (.list rfl))) ?_
 refine .mk ?_ ?_
 refine .mk λx20 e20=>?_
 exact .mk
 intro _ _
 refine .mk trivial ?_
 refine .mk λx21=>?_
 refine .mk .mk ?_
 refine .mk ?_
 refine .mk ?_
 exact .mk
 rintro ⟨y1_1,y1_2⟩ _
 refine .mk λx22=>?_
 refine .mk ?_ ?_
 refine .mk ?_
 exact .mk
 intro v23
 refine .mk ?_
 refine .mk (λH hH _=>dK (y:=aH 8 dH.av ([(⟨a2.E,a2.Item,a2.Loc,a2.aS,a2.bO,a2.aS,a2.bO,0⟩:dH)]:List dH)) (gM (ps:=[(0,_)]) (rows:=[[int a2.E,int a2.Item,int a2.Loc,int a2.aS,int a2.bO,int a2.aS,int a2.bO,int 0]]) rfl Tryz.underlying29 OW (.cons rfl .nil) (by kernel_rfl) rfl rfl rfl) rfl) ?_
 refine .mk λp24=>?_
 refine .mk _ ⟨λ_=>eO rfl rfl (.cons rfl .nil) aB9 (jD (aET.pc (id:=9) (l:=y1_1.dG) rfl p24) (.cons (.refl _) .nil)),by rintro _ _ ⟨v25,rfl,rfl⟩;exact ⟨rfl,trivial⟩⟩ ?_
 rintro _ _ ⟨v25,rfl,rfl⟩
 refine .mk λx26 e26=>?_
 refine .mk λp27=>?_
 refine .mk _ ⟨λ_=>kQ (g:=dH.av) (l:=y1_1.dG) (m:=([(⟨a2.E,a2.Item,a2.Loc,a2.aS,a2.bO,a2.aS,a2.bO,0⟩:dH)]:List dH)) .any rfl Tryz.underlying29 OW aDV rfl rfl rfl rfl rfl rfl rfl rfl rfl rfl (Eq.symm rfl) (.refl _) (λ_=>rfl) e26 p27,by rintro _ _ ⟨v28,-,rfl,rfl⟩;exact trivial⟩ ?_
 rintro _ _ ⟨v28,-,rfl,rfl⟩
 exact .mk (bT.bD (.cons (bT.agg (.cons (.refl _) (.cons (.refl _) (.cons (.refl _) (.cons (.refl _) (.cons (.refl _) (.cons (.refl _) (.cons (dZ rfl rfl rfl rfl rfl (Eq.symm rfl)) (.cons (.refl _) (.cons (.refl _) (.cons (.refl _) .nil))))))))))) (.cons (.refl _) .nil)))
def aD9 (a1:Int) (a2:Int):WB (aQ) :=
 .al 1<|.ret (((⟨a1,a2⟩:aQ):aQ))
def qA (a1:Int) (a2:Int):Option (aQ):=(aD9 a1 a2).run
theorem sH {a1 a2}:PZ (qA a1 a2) 176 [int a1,int a2] (λr=>.agg (aQ.av r)):=wq Tryz.func176
def aD7 (n:Nat) (a1:aA) (a2:bQ):WB (aA×Int) :=
 .al 1<|.al 2<|.al 3<|.ln 12 dV.av a1.dO<|.bB 13 (decide ((a1.dO.length:Int)>=40)) λx6=>.ifs [13] x6 (.ret ((a1:aA),6)) (.cl 25 (o5 n a1 a2.E a2.Item a2.Loc 0 a2.aS) yP zU λx7=>.al 4<|.al 5<|.bB 31 (decide (x7.2.2.2≠0)) λx10=>.ifs [31] x10 (.ret ((a1:aA),x7.2.2.2)) (.dr [(0,[4]),(1,[2]),(2,[2]),(3,[2]),(4,[2]),(6,[2]),(7,[2]),(10,[5]),(11,[5]),(13,[5]),(14,[5])] [(22,[])] [2,4,5] [22] [0,1,2,3,4,5,6,7,8,9,10,11,12,13,14,15,16,17,18,19,20,21,22,23] (.cl 40 (qA 3 a2.bO) uH sH λx11=>.bI 43 (bA (0-a2.bO)) λx12=>.cl 44 (qA 4 x12) uH sH λx13=>.cl 47 (qA 5 x7.2.1.Value) uH sH λx14=>.bI 50 (bA (0-x7.2.1.Value)) λx15=>.cl 51 (qA 0 x15) uH sH λx16=>.to 52 (aH 2 aQ.av ([x11,x13,x14,x16]:List aQ))<|.cl 53 (nP n x7.1 a2.E ([x11,x13,x14,x16]:List aQ)) vC tY λx17=>.bB 57 (decide (x17.2≠0)) λx18=>.ifs [57] x18 (.ret ((a1:aA),x17.2)) (.cl 69 (nZ x17.1 a2.E a2.Item (⟨0,0,0,0,0,x7.2.1.Value,0,0,0,0,0⟩:dL)) tJ tT λx19=>.bB 73 (decide (x19.2≠0)) λx20=>.ifs [73] x20 (.ret ((a1:aA),x19.2)) (.dr [(0,[4]),(1,[4]),(3,[2]),(4,[2]),(5,[2]),(6,[2]),(7,[2]),(8,[2]),(9,[2]),(10,[2]),(11,[5]),(12,[5]),(13,[5]),(14,[5]),(15,[1]),(16,[1]),(17,[2]),(18,[2]),(26,[4])] [(2,[1,2,5]),(25,[]),(27,[])] [1,2,4,5] [2,25,27] [0,1,3,4,5,6,7,8,9,10,11,12,13,14,15,16,17,18,19,20,21,22,23,24,2,25,26,27] (.iF 95 aP.av gE aP.dA a1.aW a2.E λx21=>.bB 98 (x7.2.2.1) λx22=>.to 100 (aH 9 dV.av ([(⟨a2.E,a2.Item,a2.Loc,a2.aS,0,x7.2.1.Value,x7.2.1.bE,x21.fD,x22⟩:dV)]:List dV))<|.as (x19.1.dO.length<=68719476736) inferInstance<|.ge 78 6<|.bl (x19.1.dO++([(⟨a2.E,a2.Item,a2.Loc,a2.aS,0,x7.2.1.Value,x7.2.1.bE,x21.fD,x22⟩:dV)]:List dV):List dV) λx25=>.as (x25.length<=68719476736) inferInstance<|.ge 101 0<|.ret (((⟨x19.1.bF,x19.1.aW,x19.1.dG,x25,x19.1.bL,x19.1.Done⟩:aA):aA),0)))))))
def R4 (n:Nat) (a1:aA) (a2:bQ):Option (aA×Int):=(aD7 n a1 a2).run
theorem aVK {n a1 a2}:PZ (R4 n a1 a2) 137 [.agg (aA.av a1),.agg (bQ.av a2)] (λr=>.bD [.agg (aA.av r.1),int r.2]):=wq Tryz.func137
def aN8 (a1:aT) (a2:Int) (a3:Int):WB (aT×Int) :=
 .al 1<|.al 2<|.cl 11 (rM a1 a1.bJ) zX AB λx6=>.dU 0 [2,3,6,7] [1,2] [] (λ_ (a:Int)=>[(1,int a)]) (λ_ _=>[]) (.jn 1 [1,2,3,6,7] [1,2] [] (λ_ (a:Bool)=>[(12,aI a)]) (λ_ _=>[]) (.cl 14 (FF a2) YT aDB λx7=>.bB 15 (!x7) λx8=>.ifs [15] x8 (.ret true) (.bB 18 (decide (a3<1)) λx9=>.ret x9)) (λy0_1=>.ifs [12] y0_1 (.esc (.ret ((x6:aT),1))) (.sp [1] a2 0 (.gv 25<|.bB 27 (decide (a3>x6.bR.a0)) λx12=>.ifs [27] x12 (.esc (.ret ((x6:aT),5))) (.brk 0)) (.sp [1] a2 1 (.gv 25<|.bB 27 (decide (a3>x6.bR.a1)) λx11=>.ifs [27] x11 (.esc (.ret ((x6:aT),5))) (.brk 1)) (.sa [1] a2 2 (.gv 25<|.bB 27 (decide (a3>x6.bR.a2)) λx10=>.ifs [27] x10 (.esc (.ret ((x6:aT),5))) (.brk 2))))))) (λy1_1=>.sp [1] y1_1 0 (.gv 31<|.bI 34 (bA (x6.bR.a0-a3)) λx15=>.gv 36<|.ret (((⟨x6.bJ,(⟨x15,x6.bR.a1,x6.bR.a2⟩:jE)⟩:aT):aT),0)) (.sp [1] y1_1 1 (.gv 31<|.bI 34 (bA (x6.bR.a1-a3)) λx14=>.gv 36<|.ret (((⟨x6.bJ,(⟨x6.bR.a0,x14,x6.bR.a2⟩:jE)⟩:aT):aT),0)) (.sa [1] y1_1 2 (.gv 31<|.bI 34 (bA (x6.bR.a2-a3)) λx13=>.gv 36<|.ret (((⟨x6.bJ,(⟨x6.bR.a0,x6.bR.a1,x13⟩:jE)⟩:aT):aT),0)))))
def aAH (a1:aT) (a2:Int) (a3:Int):Option (aT×Int):=(aN8 a1 a2 a3).run
theorem aOK {a1 a2 a3}:PZ (aAH a1 a2 a3) 177 [.agg (aT.av a1),int a2,int a3] (λr=>.bD [.agg (aT.av r.1),int r.2]):=wq Tryz.func177
def aU6 (n:Nat) (a1:aA) (a2:bQ):WB (aA×Int) :=
 .al 1<|.al 2<|.al 3<|.dr [(0,[1]),(1,[2]),(2,[2]),(3,[2]),(4,[2]),(5,[2]),(6,[2]),(8,[2]),(9,[2])] [(15,[])] [1,2] [14,15] [0,1,2,3,4,5,6,7,8,9,10,11,12,13,14,15,16] (.cl 18 (uQ a1 a2.E a2.Item a2.Loc) G8 EI λx6=>.cl 21 (aAH x6 0 a2.aS) aOE aOK λx7=>.al 4<|.bB 25 (decide (x7.2≠0)) λx9=>.ifs [25] x9 (.ret ((a1:aA),x7.2)) (.dr [(0,[1]),(1,[2]),(2,[2]),(3,[2]),(4,[2]),(6,[2]),(7,[2])] [(16,[])] [1,2] [15,16] [0,1,2,3,4,5,6,7,8,9,10,11,12,13,14,15,16,17] (.cl 34 (qA 4 a2.bO) uH sH λx10=>.bI 37 (bA (0-a2.bO)) λx11=>.cl 38 (qA 3 x11) uH sH λx12=>.to 39 (aH 2 aQ.av ([x10,x12]:List aQ))<|.cl 40 (nP n a1 a2.E ([x10,x12]:List aQ)) vC tY λx13=>.al 5<|.bB 44 (decide (x13.2≠0)) λx15=>.ifs [44] x15 (.ret ((a1:aA),x13.2)) (.as (x13.1.aW.length<=68719476736) inferInstance<|.ge 49 6<|.bo (ix x13.1.aW a2.E) λx18=>.gv 55<|.gv 58<|.gv 59<|.gv 60<|.as (x18.cK.length<=68719476736) inferInstance<|.ge 61 7<|.gv 62<|.gv 63<|.ge 1009008 0<|.dr [(1,[6]),(2,[6]),(3,[6]),(4,[2]),(5,[2]),(7,[2]),(8,[2]),(10,[4]),(11,[7])] [(12,[])] [2,4,6,7] [12] [0,1,2,3,4,5,6,7,8,9,10,11,12] (.gv 65<|.gv 66<|.gv 67<|.bI 70 (bA (a2.Item*2)) λx21=>.bI 73 (bA (x21+a2.Loc)) λx22=>.bo (ix x18.cK x22) λx23=>.gv 75<|.bl (x18.cK.set (Int.toNat x22) x7.1:List aT) λx24=>.ge 1010012 0<|.dr [(0,[2]),(1,[2]),(3,[8]),(4,[8]),(5,[8]),(6,[2]),(7,[2]),(9,[8]),(10,[8])] [(2,[2]),(11,[])] [2,8] [2,11] [0,1,6,7,2,3,4,5,8,9,10,11] (.inl 78 YQ Tryz.func178 [1,2,3,4,6,7] [8] (λu2 (a:Unit)=>.pt 8 (u2 8) (Int.toNat a2.Ref) 0) (λu2 _=>[.kp 5 [[int x13.1.bF.fO,int x13.1.bF.iB,aH 1 fI x13.1.bF.bN,aH 1 (fL 1 fI) x13.1.bF.Methods,aH 1 (fL 1 fI) x13.1.bF.fM,.sl 6 (u2 6) 0 x13.1.aW.length,aH 8 dH.av x13.1.dG,.sl 8 (u2 8) 0 x13.1.dO.length,aH 6 dD.av x13.1.bL,int x13.1.Done]],.nw 8 117 9 (x13.1.dO.map dV.av)]) (.as (x13.1.dO.length<=68719476736) inferInstance<|.ge 10 8<|.bo (ix x13.1.dO a2.Ref) λx27=>.gv 18<|.ret ()) (λ_=>.bo (ix x13.1.dO a2.Ref) λx28=>.gv 79<|.gv 80<|.gv 81<|.bI 84 (bA (x28.jJ+a2.aS)) λx29=>.gv 85<|.gv 86<|.bl (x13.1.dO.set (Int.toNat a2.Ref) ((⟨x28.fG,x28.Item,x28.Loc,x28.aS,x29,x28.yD,x28.bE,x28.qT,x28.qW⟩:dV):dV):List dV) λx30=>.ge 1011011 0<|.ret (((⟨x13.1.bF,(x13.1.aW.set (Int.toNat a2.E) (⟨x18.fD,x18.Closed,x24,x18.dM,x18.d9,x18.eH,x18.Down,x18.gK⟩:aP)),x13.1.dG,x30,x13.1.bL,x13.1.Done⟩:aA):aA),0))))))))
def XN (n:Nat) (a1:aA) (a2:bQ):Option (aA×Int):=(aU6 n a1 a2).run
theorem aJF {n a1 a2}:PZ (XN n a1 a2) 138 [.agg (aA.av a1),.agg (bQ.av a2)] (λr=>.bD [.agg (aA.av r.1),int r.2]):=wq Tryz.func138
def aMD (n:Nat) (a1:aA) (a2:bQ) (a3:dV):WB (aA×Int) :=
 .al 1<|.al 2<|.al 3<|.al 4<|.dr [(0,[3]),(1,[3]),(2,[2]),(3,[2]),(4,[3]),(5,[3]),(6,[3]),(7,[3]),(10,[3]),(11,[3]),(12,[2]),(13,[2]),(14,[3]),(15,[3]),(16,[3]),(17,[3])] [] [2,3] [] [0,1,2,3,4,5,6,7,8,9,10,11,12,13,14,15,16,17,18,19,20,21] (.bI 23 (bA (a3.aS-a3.jJ)) λx8=>.cl 24 (oO n a3.yD a2.aS x8) qZ rR λx9=>.bI 33 (bA (a3.aS-a3.jJ)) λx10=>.cl 34 (oO n a3.bE a2.aS x10) qZ rR λx11=>.cl 48 (uZ n a1 a2.E a2.Item a2.Loc (⟨a2.aS,x9,x11⟩:aM)) EZ FT λx12=>.al 5<|.bB 54 (decide (x12.2.2.2≠0)) λx14=>.ifs [54] x14 (.ret ((a1:aA),x12.2.2.2)) (.dr [(0,[5]),(1,[2]),(2,[2]),(10,[2]),(11,[2]),(13,[2]),(14,[2])] [(22,[])] [2,5] [22] [0,1,2,3,4,5,6,7,8,9,10,11,12,13,14,15,16,17,18,19,20,21,22,23] (.cl 62 (qA 0 x12.2.1) uH sH λx15=>.cl 64 (qA 6 x12.2.2.1) uH sH λx16=>.bI 66 (bA (0-x9)) λx17=>.cl 67 (qA 5 x17) uH sH λx18=>.cl 70 (qA 4 a2.bO) uH sH λx19=>.bI 73 (bA (0-a2.bO)) λx20=>.cl 74 (qA 3 x20) uH sH λx21=>.to 75 (aH 2 aQ.av ([x15,x16,x18,x19,x21]:List aQ))<|.cl 76 (nP n x12.1 a2.E ([x15,x16,x18,x19,x21]:List aQ)) vC tY λx22=>.bB 80 (decide (x22.2≠0)) λx23=>.ifs [80] x23 (.ret ((a1:aA),x22.2)) (.cl 91 (nZ x22.1 a2.E a2.Item (⟨0,0,0,0,x12.2.1,0,0,0,0,0,0⟩:dL)) tJ tT λx24=>.bB 95 (decide (x24.2≠0)) λx25=>.ifs [95] x25 (.ret ((a1:aA),x24.2)) (.inl 100 YQ Tryz.func178 [1,2,3,4] [6] (λu2 (a:Unit)=>.pt 6 (u2 6) (Int.toNat a2.Ref) 0) (λu2 _=>[.kp 5 [[int x24.1.bF.fO,int x24.1.bF.iB,aH 1 fI x24.1.bF.bN,aH 1 (fL 1 fI) x24.1.bF.Methods,aH 1 (fL 1 fI) x24.1.bF.fM,aH 8 aP.av x24.1.aW,aH 8 dH.av x24.1.dG,.sl 6 (u2 6) 0 x24.1.dO.length,aH 6 dD.av x24.1.bL,int x24.1.Done]],.nw 6 117 9 (x24.1.dO.map dV.av)]) (.as (x24.1.dO.length<=68719476736) inferInstance<|.ge 10 6<|.bo (ix x24.1.dO a2.Ref) λx28=>.gv 18<|.ret ()) (λ_=>.dr [(4,[6]),(5,[6]),(6,[6]),(10,[6]),(11,[6]),(12,[6]),(16,[6]),(17,[6]),(18,[6]),(19,[2]),(20,[2]),(22,[6]),(23,[6]),(25,[6]),(26,[6]),(28,[6]),(29,[6])] [(24,[2]),(27,[2]),(30,[])] [2,6] [24,27,30] [0,1,2,3,4,5,6,7,8,9,10,11,12,13,14,15,16,17,18,19,20,21,22,23,24,25,26,27,28,29,30] (.bo (ix x24.1.dO a2.Ref) λx29=>.gv 105<|.gv 106<|.gv 107<|.bI 109 (bA (x29.yD-x9)) λx30=>.gv 111<|.gv 112<|.gv 113<|.bI 115 (bA (x29.bE-x11)) λx31=>.gv 117<|.gv 118<|.gv 119<|.bI 122 (bA (x29.jJ+a2.aS)) λx32=>.gv 123<|.gv 124<|.bl (x24.1.dO.set (Int.toNat a2.Ref) ((⟨x29.fG,x29.Item,x29.Loc,x29.aS,x29.jJ,x30,x29.bE,x29.qT,x29.qW⟩:dV):dV):List dV) λx33=>.ge 1012024 0<|.gv 125<|.gv 126<|.bl (x33.set (Int.toNat a2.Ref) ((⟨x29.fG,x29.Item,x29.Loc,x29.aS,x29.jJ,x30,x31,x29.qT,x29.qW⟩:dV):dV):List dV) λx34=>.ge 1012027 0<|.gv 127<|.gv 128<|.bl (x34.set (Int.toNat a2.Ref) ((⟨x29.fG,x29.Item,x29.Loc,x29.aS,x32,x30,x31,x29.qT,x29.qW⟩:dV):dV):List dV) λx35=>.ge 1012030 0<|.ret (((⟨x24.1.bF,x24.1.aW,x24.1.dG,x35,x24.1.bL,x24.1.Done⟩:aA):aA),0))))))))
def aDP (n:Nat) (a1:aA) (a2:bQ) (a3:dV):Option (aA×Int):=(aMD n a1 a2 a3).run
theorem aKP {n a1 a2 a3}:PZ (aDP n a1 a2 a3) 139 [.agg (aA.av a1),.agg (bQ.av a2),.agg (dV.av a3)] (λr=>.bD [.agg (aA.av r.1),int r.2]):=wq Tryz.func139
end
end Go.Pv
