import Derived.Test.YtfamehgkphejnaaGreatXTc
set_option linter.unusedVariables false
set_option linter.unusedSimpArgs false
namespace Go.Pv
open Go.Proofs
set_option maxRecDepth 100000
set_option maxHeartbeats 4000000
noncomputable section
def aGD (n:Nat) (a1:List aB) (a2:Int):WB ((List aB)×aB×Int) :=
 .al 1<|.as (a1.length<=68719476736) inferInstance<|.ge 10 2<|.bB 12 (decide (a2<1)) λx6=>.ifs [12] x6 (.ret ((a1:List aB),((⟨0,0,0⟩:aB):aB),(1:Int))) (.gK 17 (GX n a1 a2) uP UG (λ_=>rfl) λx7=>.bB 18 (!x7) λx8=>.ifs [18] x8 (.ret ((a1:List aB),((⟨0,0,0⟩:aB):aB),(5:Int))) (.al 3<|.jn 0 [4,5,6,7] [1] [] (λu11 (a:Nat×Nat×(List aB)×aB)=>[(0,.sl 2 (u11 2) a.1 a.2.1)]) (λ_ a=>[.kp 2 (a.2.2.1.map aB.av),.kp 3 [[int a.2.2.2.aQ,int a.2.2.2.Value,int a.2.2.2.bO]]]) (.lp [4,5,6,7] [1] [] (λu16 (a:Nat×Nat×Int×(List aB)×aB)=>[(0,.sl 2 (u16 2) a.1 a.2.1),(1,int a.2.2.1)]) (λ_ a=>[.kp 2 (a.2.2.2.1.map aB.av),.kp 3 [[int a.2.2.2.2.aQ,int a.2.2.2.2.Value,int a.2.2.2.2.bO]]]) n ((0:Nat),(a1.length:Nat),(a2:Int),a1,((⟨0,0,0⟩:aB):aB)) (pw λy0_1 q0=>(pw λy0_2 q1=>(pw λy0_3 q2=>(pw λy0_4 y0_5=>.jn 0 [0,1,4,5,6,7] [1,2,3] [] (λ_ (a:Bool)=>[(27,aF a)]) (λ_ _=>[]) (.bB 23 (decide ((y0_2:Int)>0)) λx10=>.ifs [23] x10 (.bB 26 (decide (y0_3>0)) λx11=>.ret x11) (.ret false)) (λy1_1=>.ifs [27] y1_1 (.as ((0:Int)<=0/\0<(y0_2:Int)) inferInstance<|.bo (ix y0_4 (((y0_1:Nat):Int)+0)) λx13=>.gv 29<|.gv 30<|.al 4<|.bB 34 (decide (x13.aQ>y0_3)) λx15=>.jn 0 [1,4,5,6,7,8] [1,3] [] (λu19 (a:Nat×Nat×(List aB)×aB)=>[(0,.sl 2 (u19 2) a.1 a.2.1)]) (λ_ a=>[.kp 2 (a.2.2.1.map aB.av),.kp 4 [[int a.2.2.2.aQ,int a.2.2.2.Value,int a.2.2.2.bO]]]) (.ifs [34] x15 (.dr [(1,[4]),(2,[4]),(4,[4]),(5,[4]),(7,[4]),(8,[4]),(10,[4]),(11,[4])] [(14,[])] [4] [14] [0,1,2,3,4,5,6,7,8,9,10,11,12,13,14] (.cl 41 (mX n x13.Value y0_3 x13.aQ) aKR nU λx16=>.cl 47 (mX n x13.bO y0_3 x13.aQ) aKR nU λx17=>.dr [(4,[2]),(5,[2]),(6,[2]),(7,[4]),(8,[4]),(11,[2]),(12,[2]),(13,[2]),(14,[4]),(15,[4]),(18,[2]),(19,[2]),(20,[2]),(21,[4]),(22,[4]),(24,[2]),(25,[2]),(27,[2]),(28,[2]),(30,[2]),(31,[2])] [(26,[4]),(29,[4]),(32,[])] [2,4] [26,29,32] [0,1,2,3,4,5,6,7,8,9,10,11,12,13,14,15,16,17,18,19,20,21,22,23,24,25,26,27,28,29,30,31,32] (.as ((0:Int)<=0/\0<(y0_2:Int)) inferInstance<|.gv 53<|.gv 54<|.gv 55<|.bI 58 (aI (x13.aQ-y0_3)) λx19=>.as ((0:Int)<=0/\0<(y0_2:Int)) inferInstance<|.gv 60<|.gv 61<|.gv 62<|.bI 65 (aI (x13.Value-x16)) λx21=>.as ((0:Int)<=0/\0<(y0_2:Int)) inferInstance<|.gv 67<|.gv 68<|.gv 69<|.bI 72 (aI (x13.bO-x17)) λx23=>.as ((0:Int)<=0/\0<(y0_2:Int)) inferInstance<|.gv 73<|.gv 74<|.bl (y0_4.set (Int.toNat (((y0_1:Nat):Int)+0)) ((⟨x19,x13.Value,x13.bO⟩:aB):aB):List aB) λx25=>.ge 1011026 0<|.as ((0:Int)<=0/\0<(y0_2:Int)) inferInstance<|.gv 75<|.gv 76<|.bl (x25.set (Int.toNat (((y0_1:Nat):Int)+0)) ((⟨x19,x21,x13.bO⟩:aB):aB):List aB) λx27=>.ge 1011029 0<|.as ((0:Int)<=0/\0<(y0_2:Int)) inferInstance<|.gv 77<|.gv 78<|.bl (x27.set (Int.toNat (((y0_1:Nat):Int)+0)) ((⟨x19,x21,x23⟩:aB):aB):List aB) λx29=>.ge 1011032 0<|.ret ((y0_1:Nat),(y0_2:Nat),x29,((⟨y0_3,x16,x17⟩:aB):aB))))) (.as ((0:Int)<=1/\1<=(y0_2:Int)/\(y0_2:Int)<=(y0_2:Int)/\1<(y0_2+1:Int)) inferInstance<|.bl (if (Int.toNat (y0_2:Int))=1 then y0_1 else y0_1+1:Nat) λx31=>.gv 84<|.ret ((x31:Nat),(((Int.toNat (y0_2:Int))-1):Nat),y0_4,x13))) (pw λy2_1 q0=>(pw λy2_2 q1=>(pw λy2_3 y2_4=>.dr [(0,[3]),(1,[3]),(2,[4]),(3,[4]),(5,[3]),(6,[3]),(7,[4]),(8,[4]),(10,[3]),(11,[3]),(12,[4]),(13,[4]),(15,[3]),(17,[3]),(19,[3])] [(16,[4]),(18,[4]),(20,[])] [3,4] [16,18,20] [0,1,2,3,4,5,6,7,8,9,10,11,12,13,14,15,16,17,18,19,20] (.bI 89 (aI (y0_5.aQ+y2_4.aQ)) λx32=>.bI 94 (aI (y0_5.Value+y2_4.Value)) λx33=>.bI 99 (aI (y0_5.bO+y2_4.bO)) λx34=>.bI 106 (aI (y0_3-y2_4.aQ)) λx35=>.brk ((y2_1:Nat),(y2_2:Nat),(x35:Int),y2_3,((⟨x32,x33,x34⟩:aB):aB)))) q1) q0)) (.esc (.ret ((y0_1:Nat),(y0_2:Nat),y0_4,y0_5))))) q2) q1) q0)) (pw λy3_1 q0=>(pw λy3_2 q1=>(pw λy3_3 y3_4=>.dr [(1,[3])] [(3,[])] [3] [3] [0,1,2,3,4] (.as (y3_1+y3_2<=y3_3.length) inferInstance<|.ret (((((y3_3).drop y3_1).take y3_2):List aB),y3_4,(0:Int)))) q1) q0)))
def IU (n:Nat) (a1:List aB) (a2:Int):Option ((List aB)×aB×Int):=(aGD n a1 a2).run
theorem aWZ {n a1 a2}:PZ (IU n a1 a2) 179 [aD 3 aB.av a1,int a2] (λr=>.aU [aD 3 aB.av r.1,.agg (aB.av r.2.1),int r.2.2]):=by
 refine wm Tryz.func179 ?_
 intro v3
 refine .mk λp4=>?_
 refine .mk _ ⟨λ_=>d9 rfl rfl (.cons rfl .nil) aHH (iK (a3T.pc (id:=2) (l:=a1) rfl p4) (.cons (.refl _) .nil)),λ_ _ _=>trivial⟩ ?_
 rintro _ _ ⟨v5,rfl,rfl⟩
 refine .mk λx6=>?_
 refine .mk ?_ ?_
 exact .mk (bK.aU (.cons (dH rfl rfl rfl rfl rfl (Eq.symm rfl)) (.cons (.refl _) (.cons (.refl _) .nil))))
 refine .mk (λx7 e7=>?_) rfl (by rintro _ rfl;exact (.cons (dH rfl rfl rfl rfl rfl (Eq.symm rfl)) (.cons (.refl _) .nil)))
 refine .mk λx8=>?_
 refine .mk ?_ ?_
 exact .mk (bK.aU (.cons (dH rfl rfl rfl rfl rfl (Eq.symm rfl)) (.cons (.refl _) (.cons (.refl _) .nil))))
 intro v9
 refine .mk ?_ ?_
 refine .mk ?_
 rintro ⟨y0_1,y0_2,y0_3,y0_4,y0_5⟩ _
 refine .mk ?_ ?_
 refine .mk λx10=>?_
 refine .mk ?_ ?_
 refine .mk λx11=>?_
 exact .mk
 exact .mk
 intro _ _
 refine .mk ?_ ?_
 refine .mk λp12=>?_
 refine .mk λx13 e13=>?_
 refine .mk _ (bE (jF rfl Tryz.underlying74 aSL rfl rfl rfl rfl rfl p12 (List.length_map _) e13)) ?_
 refine .mk _ (bE (dV rfl aSL rfl (.pt rfl rfl (cZ e13)) rfl)) ?_
 intro v14
 refine .mk λx15=>?_
 refine .mk ?_ ?_
 refine .mk ?_ ?_
 refine .mk ?_
 refine .mk λx16 e16=>?_
 refine .mk λx17 e17=>?_
 refine .mk ?_
 refine .mk λp18=>?_
 refine .mk _ (λH hH _=>jF rfl Tryz.underlying74 aSL rfl rfl ((hH _ (by decide)).trans rfl) rfl rfl p18 (List.length_map _) e13) ?_
 refine .mk _ (λH hH _=>dK rfl a5V rfl (.pt ((hH _ (by decide)).trans rfl) rfl (cZ e13)) (.pt _ _ _ _ _)) ?_
 refine .mk _ (λH hH _=>dV rfl fC rfl (.pt ((hH _ (by decide)).trans rfl) rfl (cZ e13)) rfl) ?_
 refine .mk λx19=>?_
 refine .mk λp20=>?_
 refine .mk _ (λH hH _=>jF rfl Tryz.underlying74 aSL rfl rfl ((hH _ (by decide)).trans rfl) rfl rfl p20 (List.length_map _) e13) ?_
 refine .mk _ (λH hH _=>dK rfl a3K rfl (.pt ((hH _ (by decide)).trans rfl) rfl (cZ e13)) (.pt _ _ _ _ _)) ?_
 refine .mk _ (λH hH _=>dV rfl fC rfl (.pt ((hH _ (by decide)).trans rfl) rfl (cZ e13)) rfl) ?_
 refine .mk λx21=>?_
 refine .mk λp22=>?_
 refine .mk _ (λH hH _=>jF rfl Tryz.underlying74 aSL rfl rfl ((hH _ (by decide)).trans rfl) rfl rfl p22 (List.length_map _) e13) ?_
 refine .mk _ (λH hH _=>dK rfl a6C rfl (.pt ((hH _ (by decide)).trans rfl) rfl (cZ e13)) (.pt _ _ _ _ _)) ?_
 refine .mk _ (λH hH _=>dV rfl fC rfl (.pt ((hH _ (by decide)).trans rfl) rfl (cZ e13)) rfl) ?_
 refine .mk λx23=>?_
 refine .mk λp24=>?_
 refine .mk _ (λH hH _=>jF rfl Tryz.underlying74 aSL rfl rfl ((hH _ (by decide)).trans rfl) rfl rfl p24 (List.length_map _) e13) ?_
 refine .mk _ (λH hH _=>dK rfl a5V rfl (.pt ((hH _ (by decide)).trans rfl) rfl (cZ e13)) (.pt _ _ _ _ _)) ?_
 refine .mk λx25 e25=>?_
 have fx25:=aQC e13 e25;have lx25:=fH e25 (rfl:y0_4.length=y0_4.length)
 refine .mk _ ⟨λ_=>bQ.dM (eO (ob':=(⟨86,3,true,true,_,x25.map aB.av⟩:bC)) (dZ rfl fC rfl rfl rfl rfl rfl (cZ e13) rfl rfl rfl) (eU (iI e25))) (λ_ h=>h) (λ_ _=>trivial),by rintro _ _ ⟨rfl,rfl⟩;exact ⟨rfl,trivial⟩⟩ ?_
 rintro _ _ ⟨rfl,rfl⟩
 refine .mk λp26=>?_
 refine .mk _ (λH hH _=>jF rfl Tryz.underlying74 aSL rfl rfl ((hH _ (by decide)).trans rfl) rfl rfl p26 (List.length_map _) fx25) ?_
 refine .mk _ (λH hH _=>dK rfl a3K rfl (.pt ((hH _ (by decide)).trans rfl) rfl (cZ fx25)) (.pt _ _ _ _ _)) ?_
 refine .mk λx27 e27=>?_
 have fx27:=aQC fx25 e27;have lx27:=fH e27 lx25
 refine .mk _ ⟨λ_=>bQ.dM (eO (ob':=(⟨86,3,true,true,_,x27.map aB.av⟩:bC)) (dZ rfl fC rfl rfl rfl rfl rfl (cZ fx25) rfl rfl rfl) (eU (iI e27))) (λ_ h=>h) (λ_ _=>trivial),by rintro _ _ ⟨rfl,rfl⟩;exact ⟨rfl,trivial⟩⟩ ?_
 rintro _ _ ⟨rfl,rfl⟩
 refine .mk λp28=>?_
 refine .mk _ (λH hH _=>jF rfl Tryz.underlying74 aSL rfl rfl ((hH _ (by decide)).trans rfl) rfl rfl p28 (List.length_map _) fx27) ?_
 refine .mk _ (λH hH _=>dK rfl a6C rfl (.pt ((hH _ (by decide)).trans rfl) rfl (cZ fx27)) (.pt _ _ _ _ _)) ?_
 refine .mk λx29 e29=>?_
 have fx29:=aQC fx27 e29;have lx29:=fH e29 lx27
 refine .mk _ ⟨λ_=>bQ.dM (eO (ob':=(⟨86,3,true,true,_,x29.map aB.av⟩:bC)) (dZ rfl fC rfl rfl rfl rfl rfl (cZ fx27) rfl rfl rfl) (eU (iI e29))) (λ_ h=>h) (λ_ _=>trivial),by rintro _ _ ⟨rfl,rfl⟩;exact trivial⟩ ?_
 rintro _ _ ⟨rfl,rfl⟩
 exact .mk
 refine .mk λp30=>?_
 refine .mk λx31 e31=>?_
 refine .mk _ (bE (VX (len:=y0_2) (i:=1) (j:=(Int.toNat (y0_2:Int))) rfl Tryz.underlying74 aSL rfl rfl rfl rfl (.yes rfl (by first | omega | (dsimp only;omega) | (dsimp only at *;omega))) (.yes rfl (by first | omega | (dsimp only;omega) | (dsimp only at *;omega))) (.yes rfl (by first | omega | (dsimp only;omega) | (dsimp only at *;omega))) (by first | omega | (dsimp only;omega) | (dsimp only at *;omega)) (by first | omega | (dsimp only;omega) | (dsimp only at *;omega)) e31)) ?_
 exact .mk
 intro _ _
 refine .mk ?_
 refine .mk λx32=>?_
 refine .mk λx33=>?_
 refine .mk λx34=>?_
 refine .mk λx35=>?_
 exact .mk
 exact .mk
 rintro ⟨y3_1,y3_2,y3_3,y3_4⟩ _
 refine .mk ?_
 refine .mk λp36=>?_
 exact .mk (bK.aU (.cons (DK (l:=y3_3) rfl rfl rfl rfl (fD.refl _) (by first | omega | (simp only [List.length_set];omega)) rfl) (.cons (.refl _) (.cons (.refl _) .nil))))
def aEG (n:Nat) (a1:List aB) (a2:Int):WB ((List aB)×aB×Int) :=
 .al 1<|.inl 7 aUV Tryz.func129 [1] [] (λ_ (a:Unit)=>.agg [.fn (.func 178) [] [],.fn (.func 179) [] [],.fn (.func 94) [] []]) (λ_ _=>[]) (.al 2<|.ret ()) (λ_=>.cl 11 (IU n a1 a2) bGA aWZ λx5=>.ret ((x5.1:List aB),x5.2.1,x5.2.2))
def a4Y (n:Nat) (a1:List aB) (a2:Int):Option ((List aB)×aB×Int):=(aEG n a1 a2).run
theorem R7 {n a1 a2}:PZ (a4Y n a1 a2) 84 [aD 3 aB.av a1,int a2] (λr=>.aU [aD 3 aB.av r.1,.agg (aB.av r.2.1),int r.2.2]):=wq Tryz.func84
def aBV (a1:aM) (a2:List aB):WB (aM) :=
 .al 1<|.al 2<|.as (a2.length<=68719476736) inferInstance<|.ge 6 3<|.ret (((⟨a2,a1.bF⟩:aM):aM))
def rG (a1:aM) (a2:List aB):Option (aM):=(aBV a1 a2).run
theorem vY {a1 a2}:PZ (rG a1 a2) 81 [.agg (aM.av a1),aD 3 aB.av a2] (λr=>.agg (aM.av r)):=wq Tryz.func81
def aE2 (a1:Int):WB (Bool) :=
 .jn 1 [] [] [] (λ_ (a:Bool)=>[(2,aF a)]) (λ_ _=>[]) (.bB 4 (decide (a1>=0)) λx2=>.ifs [4] x2 (.bB 7 (decide (a1<3)) λx3=>.ret x3) (.ret false)) (λy0_1=>.ret ((y0_1:Bool)))
def EK (a1:Int):Option (Bool):=(aE2 a1).run
theorem UC {a1}:PZ (EK a1) 191 [int a1] aF:=wq Tryz.func191
def aFO (n:Nat) (a1:aM):WB (Int) :=
 .al 1<|.ln 10 aB.av a1.cO<|.jn 0 [1,2] [1] [] (λ_ (a:Int)=>[(3,int a)]) (λ_ _=>[]) (.lp [1,2,9,10] [1] [] (λ_ (a:Int×Int)=>[(3,int a.1),(11,int a.2)]) (λ_ _=>[]) n ((0:Int),0) (pw λy0_1 y0_2=>.bB 12 (decide (y0_2<(a1.cO.length:Int))) λx3=>.ifs [12] x3 (.ix 13 aB.av a1.cO y0_2 λx4=>.al 2<|.bI 18 (aI (y0_1+x4.aQ)) λx6=>.bI 19 (aI (y0_2+1)) λx7=>.brk ((x6:Int),x7)) (.esc (.ret y0_1)))) (λy1_1=>.jn 1 [2] [] [] (λ_ (a:Int)=>[(3,int a)]) (λ_ _=>[]) (.lp [2,21] [] [] (λ_ (a:Int×Int)=>[(3,int a.1),(22,int a.2)]) (λ_ _=>[]) n ((y1_1:Int),0) (pw λy2_1 y2_2=>.bB 23 (decide (y2_2<3)) λx8=>.ifs [23] x8 (.bo (ix ([a1.bF.a0,a1.bF.a1,a1.bF.a2]:List Int) y2_2) λx9=>.gv 24<|.bI 27 (aI (y2_1-x9)) λx10=>.bI 28 (aI (y2_2+1)) λx11=>.brk ((x10:Int),x11)) (.esc (.ret y2_1)))) (λy3_1=>.ret ((y3_1:Int))))
def AN (n:Nat) (a1:aM):Option (Int):=(aFO n a1).run
theorem IN {n a1}:PZ (AN n a1) 209 [.agg (aM.av a1)] int:=by
 refine wm Tryz.func209 ?_
 intro v2
 refine .mk ?_
 refine .mk ?_ ?_
 refine .mk ?_
 intro _ _
 refine .mk λx3=>?_
 refine .mk ?_ ?_
 refine .mk λx4 e4=>?_
 intro v5
 refine .mk λx6=>?_
 refine .mk λx7=>?_
 exact .mk
 exact .mk
 intro _ _
 refine .mk ?_ ?_
 refine .mk ?_
 intro _ _
 refine .mk λx8=>?_
 refine .mk ?_ ?_
 refine .mk λx9 e9=>?_
 refine .mk _ (bE (uR (g:=fI) (l:=([a1.bF.a0,a1.bF.a1,a1.bF.a2]:List Int)) (v:=x9) (w:=int x9) rfl Tryz.underlying75 fC rfl rfl rfl e9 (λ_=>rfl) hw1)) ?_
 refine .mk λx10=>?_
 refine .mk λx11=>?_
 exact .mk
 exact .mk
 intro _ _
 exact .mk
def aH2 (n:Nat) (a1:aM) (a2:Int) (a3:Int):WB (aM×Int) :=
 .al 1<|.al 2<|.cl 11 (rG a1 a1.cO) aGA vY λx6=>.jn 1 [1,2,3,6,7] [1,2] [] (λ_ (a:Bool)=>[(12,aF a)]) (λ_ _=>[]) (.cl 14 (EK a2) aYT UC λx7=>.bB 15 (!x7) λx8=>.ifs [15] x8 (.ret true) (.bB 18 (decide (a3<1)) λx9=>.ret x9)) (λy0_1=>.ifs [12] y0_1 (.ret ((x6:aM),1)) (.cl 24 (AN n x6) aGZ IN λx10=>.bB 25 (decide (a3>x10)) λx11=>.ifs [25] x11 (.ret ((x6:aM),5)) (.sp [1] a2 0 (.gv 29<|.bI 32 (aI (x6.bF.a0+a3)) λx14=>.gv 34<|.ret (((⟨x6.cO,(⟨x14,x6.bF.a1,x6.bF.a2⟩:gJ)⟩:aM):aM),0)) (.sp [1] a2 1 (.gv 29<|.bI 32 (aI (x6.bF.a1+a3)) λx13=>.gv 34<|.ret (((⟨x6.cO,(⟨x6.bF.a0,x13,x6.bF.a2⟩:gJ)⟩:aM):aM),0)) (.sa [1] a2 2 (.gv 29<|.bI 32 (aI (x6.bF.a2+a3)) λx12=>.gv 34<|.ret (((⟨x6.cO,(⟨x6.bF.a0,x6.bF.a1,x12⟩:gJ)⟩:aM):aM),0)))))))
def LK (n:Nat) (a1:aM) (a2:Int) (a3:Int):Option (aM×Int):=(aH2 n a1 a2 a3).run
theorem aI3 {n a1 a2 a3}:PZ (LK n a1 a2 a3) 208 [.agg (aM.av a1),int a2,int a3] (λr=>.aU [.agg (aM.av r.1),int r.2]):=wq Tryz.func208
def aFK (n:Nat) (a1:aM) (a2:Int):WB (aM×aB×Int) :=
 .al 1<|.al 2<|.al 3<|.bB 12 (decide (a2<1)) λx6=>.ifs [12] x6 (.cl 16 (rG a1 a1.cO) aGA vY λx7=>.ret ((x7:aM),((⟨0,0,0⟩:aB):aB),1)) (.cl 21 (AN n a1) aGZ IN λx8=>.bB 22 (decide (a2>x8)) λx9=>.ifs [22] x9 (.cl 26 (rG a1 a1.cO) aGA vY λx10=>.ret ((x10:aM),((⟨0,0,0⟩:aB):aB),5)) (.cl 32 (a4Y n a1.cO a2) aBP R7 λx11=>.al 4<|.dr [(0,[1]),(3,[4])] [(5,[4]),(6,[])] [1,4] [5,6] [0,1,2,3,4,5,6,7] (.cl 38 (rG a1 x11.1) aGA vY λx13=>.ret ((x13:aM),x11.2.1,x11.2.2))))
def VF (n:Nat) (a1:aM) (a2:Int):Option (aM×aB×Int):=(aFK n a1 a2).run
theorem aAJ {n a1 a2}:PZ (VF n a1 a2) 246 [.agg (aM.av a1),int a2] (λr=>.aU [.agg (aM.av r.1),.agg (aB.av r.2.1),int r.2.2]):=wq Tryz.func246
def aIK (n:Nat) (a1:List aB) (a2:Int) (a3:Int):WB ((List aB)×aB×Int) :=
 .al 1<|.cl 15 (BX a3) V8 aTQ λx5=>.bB 16 (!x5) λx6=>.ifs [16] x6 (.as (a1.length<=68719476736) inferInstance<|.ge 18 2<|.ret ((a1:List aB),((⟨0,0,0⟩:aB):aB),(1:Int))) (.inl 23 aBP Tryz.func84 [1] [6] (λu17 (a:Nat×Nat×aB×Int×(List aB))=>.aU [.sl 6 (u17 6) a.1 a.2.1,.agg [int a.2.2.1.aQ,int a.2.2.1.Value,int a.2.2.1.bO],int a.2.2.2.1]) (λ_ a=>[.nw 6 86 3 (a.2.2.2.2.map aB.av)]) (.al 3<|.inl 7 aUV Tryz.func129 [1,3] [] (λ_ (a:Unit)=>.agg [.fn (.func 178) [] [],.fn (.func 179) [] [],.fn (.func 94) [] []]) (λ_ _=>[]) (.al 4<|.ret ()) (λ_=>.inl 11 bGA Tryz.func179 [1,3] [6] (λu32 (a:Nat×Nat×aB×Int×(List aB))=>.aU [.sl 6 (u32 6) a.1 a.2.1,.agg [int a.2.2.1.aQ,int a.2.2.1.Value,int a.2.2.1.bO],int a.2.2.2.1]) (λ_ a=>[.nw 6 86 3 (a.2.2.2.2.map aB.av)]) (.al 5<|.as (a1.length<=68719476736) inferInstance<|.ge 10 6<|.bB 12 (decide (a2<1)) λx14=>.ifs [12] x14 (.ret ((0:Nat),(a1.length:Nat),((⟨0,0,0⟩:aB):aB),(1:Int),a1)) (.gK 17 (GX n a1 a2) uP UG (λ_=>rfl) λx15=>.bB 18 (!x15) λx16=>.ifs [18] x16 (.ret ((0:Nat),(a1.length:Nat),((⟨0,0,0⟩:aB):aB),(5:Int),a1)) (.al 7<|.jn 0 [4,5,6,7] [1,3,5] [] (λu33 (a:Nat×Nat×(List aB)×aB)=>[(0,.sl 6 (u33 6) a.1 a.2.1)]) (λ_ a=>[.kp 6 (a.2.2.1.map aB.av),.kp 7 [[int a.2.2.2.aQ,int a.2.2.2.Value,int a.2.2.2.bO]]]) (.lp [4,5,6,7] [1,3,5] [] (λu38 (a:Nat×Nat×Int×(List aB)×aB)=>[(0,.sl 6 (u38 6) a.1 a.2.1),(1,int a.2.2.1)]) (λ_ a=>[.kp 6 (a.2.2.2.1.map aB.av),.kp 7 [[int a.2.2.2.2.aQ,int a.2.2.2.2.Value,int a.2.2.2.2.bO]]]) n ((0:Nat),(a1.length:Nat),(a2:Int),a1,((⟨0,0,0⟩:aB):aB)) (pw λy1_1 q0=>(pw λy1_2 q1=>(pw λy1_3 q2=>(pw λy1_4 y1_5=>.jn 0 [0,1,4,5,6,7] [1,3,5,6,7] [] (λ_ (a:Bool)=>[(27,aF a)]) (λ_ _=>[]) (.bB 23 (decide ((y1_2:Int)>0)) λx18=>.ifs [23] x18 (.bB 26 (decide (y1_3>0)) λx19=>.ret x19) (.ret false)) (λy2_1=>.ifs [27] y2_1 (.as ((0:Int)<=0/\0<(y1_2:Int)) inferInstance<|.bo (ix y1_4 (((y1_1:Nat):Int)+0)) λx21=>.gv 29<|.gv 30<|.al 8<|.bB 34 (decide (x21.aQ>y1_3)) λx23=>.jn 0 [1,4,5,6,7,8] [1,3,5,7] [] (λu41 (a:Nat×Nat×(List aB)×aB)=>[(0,.sl 6 (u41 6) a.1 a.2.1)]) (λ_ a=>[.kp 6 (a.2.2.1.map aB.av),.kp 8 [[int a.2.2.2.aQ,int a.2.2.2.Value,int a.2.2.2.bO]]]) (.ifs [34] x23 (.dr [(1,[8]),(2,[8]),(4,[8]),(5,[8]),(7,[8]),(8,[8]),(10,[8]),(11,[8])] [(14,[])] [8] [14] [0,1,2,3,4,5,6,7,8,9,10,11,12,13,14] (.cl 41 (mX n x21.Value y1_3 x21.aQ) aKR nU λx24=>.cl 47 (mX n x21.bO y1_3 x21.aQ) aKR nU λx25=>.dr [(4,[6]),(5,[6]),(6,[6]),(7,[8]),(8,[8]),(11,[6]),(12,[6]),(13,[6]),(14,[8]),(15,[8]),(18,[6]),(19,[6]),(20,[6]),(21,[8]),(22,[8]),(24,[6]),(25,[6]),(27,[6]),(28,[6]),(30,[6]),(31,[6])] [(26,[8]),(29,[8]),(32,[])] [6,8] [26,29,32] [0,1,2,3,4,5,6,7,8,9,10,11,12,13,14,15,16,17,18,19,20,21,22,23,24,25,26,27,28,29,30,31,32] (.as ((0:Int)<=0/\0<(y1_2:Int)) inferInstance<|.gv 53<|.gv 54<|.gv 55<|.bI 58 (aI (x21.aQ-y1_3)) λx27=>.as ((0:Int)<=0/\0<(y1_2:Int)) inferInstance<|.gv 60<|.gv 61<|.gv 62<|.bI 65 (aI (x21.Value-x24)) λx29=>.as ((0:Int)<=0/\0<(y1_2:Int)) inferInstance<|.gv 67<|.gv 68<|.gv 69<|.bI 72 (aI (x21.bO-x25)) λx31=>.as ((0:Int)<=0/\0<(y1_2:Int)) inferInstance<|.gv 73<|.gv 74<|.bl (y1_4.set (Int.toNat (((y1_1:Nat):Int)+0)) ((⟨x27,x21.Value,x21.bO⟩:aB):aB):List aB) λx33=>.ge 1011026 0<|.as ((0:Int)<=0/\0<(y1_2:Int)) inferInstance<|.gv 75<|.gv 76<|.bl (x33.set (Int.toNat (((y1_1:Nat):Int)+0)) ((⟨x27,x29,x21.bO⟩:aB):aB):List aB) λx35=>.ge 1011029 0<|.as ((0:Int)<=0/\0<(y1_2:Int)) inferInstance<|.gv 77<|.gv 78<|.bl (x35.set (Int.toNat (((y1_1:Nat):Int)+0)) ((⟨x27,x29,x31⟩:aB):aB):List aB) λx37=>.ge 1011032 0<|.ret ((y1_1:Nat),(y1_2:Nat),x37,((⟨y1_3,x24,x25⟩:aB):aB))))) (.as ((0:Int)<=1/\1<=(y1_2:Int)/\(y1_2:Int)<=(y1_2:Int)/\1<(y1_2+1:Int)) inferInstance<|.bl (if (Int.toNat (y1_2:Int))=1 then y1_1 else y1_1+1:Nat) λx39=>.gv 84<|.ret ((x39:Nat),(((Int.toNat (y1_2:Int))-1):Nat),y1_4,x21))) (pw λy3_1 q0=>(pw λy3_2 q1=>(pw λy3_3 y3_4=>.dr [(0,[7]),(1,[7]),(2,[8]),(3,[8]),(5,[7]),(6,[7]),(7,[8]),(8,[8]),(10,[7]),(11,[7]),(12,[8]),(13,[8]),(15,[7]),(17,[7]),(19,[7])] [(16,[8]),(18,[8]),(20,[])] [7,8] [16,18,20] [0,1,2,3,4,5,6,7,8,9,10,11,12,13,14,15,16,17,18,19,20] (.bI 89 (aI (y1_5.aQ+y3_4.aQ)) λx40=>.bI 94 (aI (y1_5.Value+y3_4.Value)) λx41=>.bI 99 (aI (y1_5.bO+y3_4.bO)) λx42=>.bI 106 (aI (y1_3-y3_4.aQ)) λx43=>.brk ((y3_1:Nat),(y3_2:Nat),(x43:Int),y3_3,((⟨x40,x41,x42⟩:aB):aB)))) q1) q0)) (.esc (.ret ((y1_1:Nat),(y1_2:Nat),y1_4,y1_5))))) q2) q1) q0)) (pw λy4_1 q0=>(pw λy4_2 q1=>(pw λy4_3 y4_4=>.dr [(1,[7])] [(3,[])] [7] [3] [0,1,2,3,4] (.ret ((y4_1:Nat),(y4_2:Nat),y4_4,(0:Int),y4_3))) q1) q0)))) (pw λy5_2 q0=>(pw λy5_3 q1=>(pw λy5_4 q2=>(pw λy5_5 y5_6=>.ret ((y5_2:Nat),(y5_3:Nat),y5_4,(y5_5:Int),y5_6)) q2) q1) q0))) (pw λy6_2 q0=>(pw λy6_3 q1=>(pw λy6_4 q2=>(pw λy6_5 y6_6=>.al 9<|.jn 0 [1,2,6,7,8,9,10,11] [1,6,9] [] (λ_ (a:Bool)=>[(33,aF a)]) (λ_ _=>[]) (.bB 28 (decide (y6_5≠0)) λx45=>.ifs [28] x45 (.ret true) (.bB 32 (decide ((y6_3:Int)=0)) λx46=>.ret x46)) (λy7_1=>.ifs [33] y7_1 (.dr [(1,[9])] [(4,[])] [9] [4] [0,1,2,3,4,5] (.as (y6_2+y6_3<=y6_6.length) inferInstance<|.ret (((((y6_6).drop y6_2).take y6_3):List aB),y6_4,(y6_5:Int)))) (.cl 40 (CB n a3 a2) R4 FW λx48=>.dr [(1,[6]),(2,[6]),(3,[6]),(4,[9]),(5,[9])] [] [6,9] [] [0,1,2,3,4,5,6,7] (.as ((0:Int)<=0/\0<(y6_3:Int)) inferInstance<|.bo (ix y6_6 (((y6_2:Nat):Int)+0)) λx50=>.gv 44<|.gv 45<|.gv 46<|.bI 49 (aI (x50.Value+y6_4.Value)) λx51=>.jn 0 [6,7,8,9,10,12,13] [1,6,9] [] (λ_ (a:Bool)=>[(56,aF a)]) (λ_ _=>[]) (.bB 51 (decide (x48.2≠0)) λx52=>.ifs [51] x52 (.ret true) (.bB 55 (decide (x48.1>x51)) λx53=>.ret x53)) (λy8_1=>.jn 0 [6,7,8,9,10] [1,6,9] [] (λ_ (a:Int)=>[(12,int a)]) (λ_ _=>[]) (.ifs [56] y8_1 (.ret (x51:Int)) (.ret (x48.1:Int))) (λy9_1=>.dr [(1,[6]),(2,[6]),(3,[6]),(4,[9]),(5,[9]),(9,[6]),(10,[6])] [(11,[])] [6,9] [11] [0,1,2,3,4,5,6,7,8,9,10,11] (.as ((0:Int)<=0/\0<(y6_3:Int)) inferInstance<|.gv 59<|.gv 60<|.gv 61<|.bI 65 (aI (y6_4.Value-y9_1)) λx55=>.bI 66 (aI (x50.Value+x55)) λx56=>.as ((0:Int)<=0/\0<(y6_3:Int)) inferInstance<|.gv 67<|.gv 68<|.bl (y6_6.set (Int.toNat (((y6_2:Nat):Int)+0)) ((⟨x50.aQ,x56,x50.bO⟩:aB):aB):List aB) λx58=>.ge 1010011 0<|.dr [(1,[9])] [(3,[])] [9] [3] [0,1,2,3,4] (.as (y6_2+y6_3<=x58.length) inferInstance<|.ret (((((x58).drop y6_2).take y6_3):List aB),((⟨y6_4.aQ,y9_1,y6_4.bO⟩:aB):aB),(0:Int)))))))))) q2) q1) q0))
def QH (n:Nat) (a1:List aB) (a2:Int) (a3:Int):Option ((List aB)×aB×Int):=(aIK n a1 a2 a3).run
theorem aH6 {n a1 a2 a3}:PZ (QH n a1 a2 a3) 250 [aD 3 aB.av a1,int a2,int a3] (λr=>.aU [aD 3 aB.av r.1,.agg (aB.av r.2.1),int r.2.2]):=by
 refine wm Tryz.func250 ?_
 intro v4
 refine .mk λx5 e5=>?_
 refine .mk λx6=>?_
 refine .mk ?_ ?_
 refine .mk λp7=>?_
 refine .mk _ ⟨λ_=>d9 rfl rfl (.cons rfl .nil) aHH (iK (a3T.pc (id:=2) (l:=a1) rfl p7) (.cons (.refl _) .nil)),λ_ _ _=>trivial⟩ ?_
 rintro _ _ ⟨v8,rfl,rfl⟩
 exact .mk (bK.aU (.cons (dH rfl rfl rfl rfl rfl (Eq.symm rfl)) (.cons (.refl _) (.cons (.refl _) .nil))))
 refine .mk ?_ ?_
 intro v9
 refine .mk ?_ ?_
 intro v10
 exact .mk
 intro _ _
 refine .mk trivial ?_
 refine .mk ?_ ?_
 intro v11
 refine .mk λp12=>?_
 refine .mk _ ⟨λ_=>d9 rfl rfl (.cons rfl .nil) aHH (iK (a3T.pc (id:=6) (l:=a1) rfl p12) (.cons (.refl _) .nil)),λ_ _ _=>trivial⟩ ?_
 rintro _ _ ⟨v13,rfl,rfl⟩
 refine .mk λx14=>?_
 refine .mk .mk ?_
 refine .mk (λx15 e15=>?_) rfl (by rintro _ rfl;exact (.cons (dH rfl rfl rfl rfl rfl (Eq.symm rfl)) (.cons (.refl _) .nil)))
 refine .mk λx16=>?_
 refine .mk .mk ?_
 intro v17
 refine .mk ?_ ?_
 refine .mk ?_
 rintro ⟨y1_1,y1_2,y1_3,y1_4,y1_5⟩ _
 refine .mk ?_ ?_
 refine .mk λx18=>?_
 refine .mk ?_ ?_
 refine .mk λx19=>?_
 exact .mk
 exact .mk
 intro _ _
 refine .mk ?_ ?_
 refine .mk λp20=>?_
 refine .mk λx21 e21=>?_
 refine .mk _ (bE (jF rfl Tryz.underlying74 aSL rfl rfl rfl rfl rfl p20 (List.length_map _) e21)) ?_
 refine .mk _ (bE (dV rfl aSL rfl (.pt rfl rfl (cZ e21)) rfl)) ?_
 intro v22
 refine .mk λx23=>?_
 refine .mk ?_ ?_
 refine .mk ?_ ?_
 refine .mk ?_
 refine .mk λx24 e24=>?_
 refine .mk λx25 e25=>?_
 refine .mk ?_
 refine .mk λp26=>?_
 refine .mk _ (λH hH _=>jF rfl Tryz.underlying74 aSL rfl rfl ((hH _ (by decide)).trans rfl) rfl rfl p26 (List.length_map _) e21) ?_
 refine .mk _ (λH hH _=>dK rfl a5V rfl (.pt ((hH _ (by decide)).trans rfl) rfl (cZ e21)) (.pt _ _ _ _ _)) ?_
 refine .mk _ (λH hH _=>dV rfl fC rfl (.pt ((hH _ (by decide)).trans rfl) rfl (cZ e21)) rfl) ?_
 refine .mk λx27=>?_
 refine .mk λp28=>?_
 refine .mk _ (λH hH _=>jF rfl Tryz.underlying74 aSL rfl rfl ((hH _ (by decide)).trans rfl) rfl rfl p28 (List.length_map _) e21) ?_
 refine .mk _ (λH hH _=>dK rfl a3K rfl (.pt ((hH _ (by decide)).trans rfl) rfl (cZ e21)) (.pt _ _ _ _ _)) ?_
 refine .mk _ (λH hH _=>dV rfl fC rfl (.pt ((hH _ (by decide)).trans rfl) rfl (cZ e21)) rfl) ?_
 refine .mk λx29=>?_
 refine .mk λp30=>?_
 refine .mk _ (λH hH _=>jF rfl Tryz.underlying74 aSL rfl rfl ((hH _ (by decide)).trans rfl) rfl rfl p30 (List.length_map _) e21) ?_
 refine .mk _ (λH hH _=>dK rfl a6C rfl (.pt ((hH _ (by decide)).trans rfl) rfl (cZ e21)) (.pt _ _ _ _ _)) ?_
 refine .mk _ (λH hH _=>dV rfl fC rfl (.pt ((hH _ (by decide)).trans rfl) rfl (cZ e21)) rfl) ?_
 refine .mk λx31=>?_
 refine .mk λp32=>?_
 refine .mk _ (λH hH _=>jF rfl Tryz.underlying74 aSL rfl rfl ((hH _ (by decide)).trans rfl) rfl rfl p32 (List.length_map _) e21) ?_
 refine .mk _ (λH hH _=>dK rfl a5V rfl (.pt ((hH _ (by decide)).trans rfl) rfl (cZ e21)) (.pt _ _ _ _ _)) ?_
 refine .mk λx33 e33=>?_
 have fx33:=aQC e21 e33;have lx33:=fH e33 (rfl:y1_4.length=y1_4.length)
 refine .mk _ ⟨λ_=>bQ.dM (eO (ob':=(⟨86,3,true,true,_,x33.map aB.av⟩:bC)) (dZ rfl fC rfl rfl rfl rfl rfl (cZ e21) rfl rfl rfl) (eU (iI e33))) (λ_ h=>h) (λ_ _=>trivial),by rintro _ _ ⟨rfl,rfl⟩;exact ⟨rfl,trivial⟩⟩ ?_
 rintro _ _ ⟨rfl,rfl⟩
 refine .mk λp34=>?_
 refine .mk _ (λH hH _=>jF rfl Tryz.underlying74 aSL rfl rfl ((hH _ (by decide)).trans rfl) rfl rfl p34 (List.length_map _) fx33) ?_
 refine .mk _ (λH hH _=>dK rfl a3K rfl (.pt ((hH _ (by decide)).trans rfl) rfl (cZ fx33)) (.pt _ _ _ _ _)) ?_
 refine .mk λx35 e35=>?_
 have fx35:=aQC fx33 e35;have lx35:=fH e35 lx33
 refine .mk _ ⟨λ_=>bQ.dM (eO (ob':=(⟨86,3,true,true,_,x35.map aB.av⟩:bC)) (dZ rfl fC rfl rfl rfl rfl rfl (cZ fx33) rfl rfl rfl) (eU (iI e35))) (λ_ h=>h) (λ_ _=>trivial),by rintro _ _ ⟨rfl,rfl⟩;exact ⟨rfl,trivial⟩⟩ ?_
 rintro _ _ ⟨rfl,rfl⟩
 refine .mk λp36=>?_
 refine .mk _ (λH hH _=>jF rfl Tryz.underlying74 aSL rfl rfl ((hH _ (by decide)).trans rfl) rfl rfl p36 (List.length_map _) fx35) ?_
 refine .mk _ (λH hH _=>dK rfl a6C rfl (.pt ((hH _ (by decide)).trans rfl) rfl (cZ fx35)) (.pt _ _ _ _ _)) ?_
 refine .mk λx37 e37=>?_
 have fx37:=aQC fx35 e37;have lx37:=fH e37 lx35
 refine .mk _ ⟨λ_=>bQ.dM (eO (ob':=(⟨86,3,true,true,_,x37.map aB.av⟩:bC)) (dZ rfl fC rfl rfl rfl rfl rfl (cZ fx35) rfl rfl rfl) (eU (iI e37))) (λ_ h=>h) (λ_ _=>trivial),by rintro _ _ ⟨rfl,rfl⟩;exact trivial⟩ ?_
 rintro _ _ ⟨rfl,rfl⟩
 exact .mk
 refine .mk λp38=>?_
 refine .mk λx39 e39=>?_
 refine .mk _ (bE (VX (len:=y1_2) (i:=1) (j:=(Int.toNat (y1_2:Int))) rfl Tryz.underlying74 aSL rfl rfl rfl rfl (.yes rfl (by first | omega | (dsimp only;omega) | (dsimp only at *;omega))) (.yes rfl (by first | omega | (dsimp only;omega) | (dsimp only at *;omega))) (.yes rfl (by first | omega | (dsimp only;omega) | (dsimp only at *;omega))) (by first | omega | (dsimp only;omega) | (dsimp only at *;omega)) (by first | omega | (dsimp only;omega) | (dsimp only at *;omega)) e39)) ?_
 exact .mk
 intro _ _
 refine .mk ?_
 refine .mk λx40=>?_
 refine .mk λx41=>?_
 refine .mk λx42=>?_
 refine .mk λx43=>?_
 exact .mk
 exact .mk
 intro _ _
 refine .mk ?_
 exact .mk
 intro _ _
 refine .mk trivial ?_
 exact .mk
 rintro ⟨y6_2,y6_3,y6_4,y6_5,y6_6⟩ _
 refine .mk trivial ?_
 intro v44
 refine .mk ?_ ?_
 refine .mk λx45=>?_
 refine .mk .mk ?_
 refine .mk λx46=>?_
 exact .mk
 intro _ _
 refine .mk ?_ ?_
 refine .mk ?_
 refine .mk λp47=>?_
 exact .mk (bK.aU (.cons (DK (l:=y6_6) rfl rfl rfl rfl (fD.refl _) (by first | omega | (simp only [List.length_set];omega)) rfl) (.cons (.refl _) (.cons (.refl _) .nil))))
 refine .mk λx48 e48=>?_
 refine .mk ?_
 refine .mk λp49=>?_
 refine .mk λx50 e50=>?_
 refine .mk _ (λH hH _=>jF rfl Tryz.underlying74 aSL rfl rfl ((hH _ (by decide)).trans rfl) rfl rfl p49 (List.length_map _) e50) ?_
 refine .mk _ (λH hH _=>dK rfl a3K rfl (.pt ((hH _ (by decide)).trans rfl) rfl (cZ e50)) (.pt _ _ _ _ _)) ?_
 refine .mk _ (λH hH _=>dV rfl fC rfl (.pt ((hH _ (by decide)).trans rfl) rfl (cZ e50)) rfl) ?_
 refine .mk λx51=>?_
 refine .mk ?_ ?_
 refine .mk λx52=>?_
 refine .mk .mk ?_
 refine .mk λx53=>?_
 exact .mk
 intro _ _
 refine .mk ?_ ?_
 refine .mk .mk ?_
 exact .mk
 intro _ _
 refine .mk ?_
 refine .mk λp54=>?_
 refine .mk _ (λH hH _=>jF rfl Tryz.underlying74 aSL rfl rfl ((hH _ (by decide)).trans rfl) rfl rfl p54 (List.length_map _) e50) ?_
 refine .mk _ (λH hH _=>dK rfl a3K rfl (.pt ((hH _ (by decide)).trans rfl) rfl (cZ e50)) (.pt _ _ _ _ _)) ?_
 refine .mk _ (λH hH _=>dV rfl fC rfl (.pt ((hH _ (by decide)).trans rfl) rfl (cZ e50)) rfl) ?_
 refine .mk λx55=>?_
 refine .mk λx56=>?_
 refine .mk λp57=>?_
 refine .mk _ (λH hH _=>jF rfl Tryz.underlying74 aSL rfl rfl ((hH _ (by decide)).trans rfl) rfl rfl p57 (List.length_map _) e50) ?_
 refine .mk _ (λH hH _=>dK rfl a3K rfl (.pt ((hH _ (by decide)).trans rfl) rfl (cZ e50)) (.pt _ _ _ _ _)) ?_
 refine .mk λx58 e58=>?_
 have fx58:=aQC e50 e58;have lx58:=fH e58 (rfl:y6_6.length=y6_6.length)
 refine .mk _ ⟨λ_=>bQ.dM (eO (ob':=(⟨86,3,true,true,_,x58.map aB.av⟩:bC)) (dZ rfl fC rfl rfl rfl rfl rfl (cZ e50) rfl rfl rfl) (eU (iI e58))) (λ_ h=>h) (λ_ _=>trivial),by rintro _ _ ⟨rfl,rfl⟩;exact trivial⟩ ?_
 rintro _ _ ⟨rfl,rfl⟩
 refine .mk ?_
 refine .mk λp59=>?_
 exact .mk (bK.aU (.cons (DK (l:=x58) rfl rfl rfl rfl (fD.refl _) (by first | omega | (simp only [List.length_set];omega)) rfl) (.cons (.refl _) (.cons (.refl _) .nil))))
def aE0 (n:Nat) (a1:Int) (a2:Int) (a3:aM) (a4:Int) (a5:Int):WB (aM×aB×Bool×Int) :=
 .al 1<|.al 2<|.al 3<|.inl 21 aAT Tryz.func174 [1,2,3] [] (B:=(Unit)⊕(Unit)⊕(Unit)⊕(Unit)⊕(Unit)) (λu2=>Sum.elim (λa=>.dW 259 (.agg [])) (Sum.elim (λa=>.dW 260 (.agg [])) (Sum.elim (λa=>.dW 261 (.agg [])) (Sum.elim (λa=>.dW 263 (.agg [int a2])) (λa=>.sc .nilIface))))) (λu2=>Sum.elim (λa=>[]) (Sum.elim (λa=>[]) (Sum.elim (λa=>[]) (Sum.elim (λa=>[]) (λa=>[]))))) (.bB 7 (decide (a1=1)) λx9=>.ifs [7] x9 (.gv 9<|.ret (.inl ())) (.bB 11 (decide (a1=2)) λx10=>.ifs [11] x10 (.gv 13<|.ret (.inr (.inl ()))) (.bB 15 (decide (a1=3)) λx11=>.ifs [15] x11 (.gv 17<|.ret (.inr (.inr (.inl ())))) (.bB 19 (decide (a1=4)) λx12=>.ifs [19] x12 (.gv 22<|.ret (.inr (.inr (.inr (.inl ()))))) (.ret (.inr (.inr (.inr (.inr ()))))))))) (Sum.elim (λ_=>.gv 23<|.jn 1 [3,4,7,10,11,12,13,14] [1,2,3] [] (λ_ (a:Bool)=>[(32,aF a)]) (λ_ _=>[]) (.bB 28 (decide (a4<0)) λx13=>.ifs [28] x13 (.ret true) (.bB 31 (decide (a4>3)) λx14=>.ret x14)) (λy5_1=>.ifs [32] y5_1 (.cl 34 (aTO a3) aCQ kP λx15=>.ret ((x15:aM),((⟨0,0,0⟩:aB):aB),false,1)) (.al 4<|.al 5<|.inl 37 AT Tryz.func176 [1,2,3,4,5] [] (λ_ (a:Unit)=>aF false) (λ_ _=>[]) (.gv 7<|.al 6<|.ret ()) (λ_=>.iv 54 bDU aT3 Tryz.func239 [1,2,3,4,5] [] (λ_ (a:aM×aB×Int)=>.aU [.agg [aD 3 aB.av a.1.cO,int a.1.bF.a0,int a.1.bF.a1,int a.1.bF.a2],.agg [int a.2.1.aQ,int a.2.1.Value,int a.2.1.bO],int a.2.2]) (λ_ _=>[]) (.al 12<|.al 13<|.al 14<|.al 15<|.cl 16 (IU n a3.cO a5) bGA aWZ λx23=>.al 16<|.dr [(0,[13]),(3,[16])] [(5,[16]),(6,[])] [13,16] [5,6] [0,1,2,3,4,5,6,7] (.cl 22 (rX a3 x23.1) aKP wK λx25=>.ret ((x25:aM),x23.2.1,x23.2.2))) (pw λy8_1 q0=>(pw λy8_2 y8_3=>.bB 59 (decide (y8_3≠0)) λx26=>.ifs [59] x26 (.cl 61 (aTO a3) aCQ kP λx27=>.ret ((x27:aM),((⟨0,0,0⟩:aB):aB),false,y8_3)) (.dr [(0,[5]),(1,[4])] [(3,[4]),(4,[])] [4,5] [3,4] [0,1,2,3,4,5,6] (.ret ((y8_1:aM),y8_2,false,0)))) q0))))) (Sum.elim (λ_=>.gv 23<|.jn 1 [3,4,7,10,11,12,13,14] [1,2,3] [] (λ_ (a:Bool)=>[(32,aF a)]) (λ_ _=>[]) (.bB 28 (decide (a4<0)) λx28=>.ifs [28] x28 (.ret true) (.bB 31 (decide (a4>3)) λx29=>.ret x29)) (λy5_1=>.ifs [32] y5_1 (.cl 34 (aTO a3) aCQ kP λx30=>.ret ((x30:aM),((⟨0,0,0⟩:aB):aB),false,1)) (.al 4<|.al 5<|.inl 37 AT Tryz.func176 [1,2,3,4,5] [] (λ_ (a:Unit)=>aF false) (λ_ _=>[]) (.gv 7<|.al 6<|.ret ()) (λ_=>.iv 54 bB5 aE5 Tryz.func241 [1,2,3,4,5] [] (λ_ (a:aM×aB×Int)=>.aU [.agg [aD 3 aB.av a.1.cO,int a.1.bF.a0,int a.1.bF.a1,int a.1.bF.a2],.agg [int a.2.1.aQ,int a.2.1.Value,int a.2.1.bO],int a.2.2]) (λ_ _=>[]) (.al 22<|.al 23<|.al 24<|.al 25<|.cl 16 (a4Y n a3.cO a5) aBP R7 λx38=>.al 26<|.dr [(0,[23]),(3,[26])] [(5,[26]),(6,[])] [23,26] [5,6] [0,1,2,3,4,5,6,7] (.cl 22 (rX a3 x38.1) aKP wK λx40=>.ret ((x40:aM),x38.2.1,x38.2.2))) (pw λy10_1 q0=>(pw λy10_2 y10_3=>.bB 59 (decide (y10_3≠0)) λx41=>.ifs [59] x41 (.cl 61 (aTO a3) aCQ kP λx42=>.ret ((x42:aM),((⟨0,0,0⟩:aB):aB),false,y10_3)) (.dr [(0,[5]),(1,[4])] [(3,[4]),(4,[])] [4,5] [3,4] [0,1,2,3,4,5,6] (.ret ((y10_1:aM),y10_2,false,0)))) q0))))) (Sum.elim (λ_=>.gv 23<|.jn 1 [3,4,7,10,11,12,13,14] [1,2,3] [] (λ_ (a:Bool)=>[(32,aF a)]) (λ_ _=>[]) (.bB 28 (decide (a4<0)) λx43=>.ifs [28] x43 (.ret true) (.bB 31 (decide (a4>3)) λx44=>.ret x44)) (λy5_1=>.ifs [32] y5_1 (.cl 34 (aTO a3) aCQ kP λx45=>.ret ((x45:aM),((⟨0,0,0⟩:aB):aB),false,1)) (.al 4<|.al 5<|.inl 37 AT Tryz.func176 [1,2,3,4,5] [] (λ_ (a:Unit)=>aF true) (λ_ _=>[]) (.gv 7<|.al 6<|.ret ()) (λ_=>.bB 40 (decide (a4≠3)) λx49=>.jn 1 [7,10,11,12,13,15,16] [1,2,3] [] (λ_ (a:Int×Bool×aB×aM)=>[(17,int a.1),(18,aF a.2.1)]) (λ_ a=>[.kp 4 [[int a.2.2.1.aQ,int a.2.2.1.Value,int a.2.2.1.bO]],.kp 5 [[aD 3 aB.av a.2.2.2.cO,int a.2.2.2.bF.a0,int a.2.2.2.bF.a1,int a.2.2.2.bF.a2]]]) (.ifs [18,40,41,42] x49 (.cl 47 (LK n a3 a4 a5) pN aI3 λx50=>.ret ((x50.2:Int),true,((⟨0,0,0⟩:aB):aB),x50.1)) (.iv 54 bDR aDT Tryz.func244 [1,2,3,4,5] [] (λ_ (a:aM×aB×Int)=>.aU [.agg [aD 3 aB.av a.1.cO,int a.1.bF.a0,int a.1.bF.a1,int a.1.bF.a2],.agg [int a.2.1.aQ,int a.2.1.Value,int a.2.1.bO],int a.2.2]) (λ_ _=>[]) (.al 39<|.al 40<|.al 41<|.al 42<|.cl 11 (VF n a3 a5) aHP aAJ λx55=>.ret ((x55.1:aM),x55.2.1,x55.2.2)) (pw λy15_1 q0=>(pw λy15_2 y15_3=>.ret ((y15_3:Int),false,y15_2,y15_1)) q0))) (pw λy13_1 q0=>(pw λy13_2 q1=>(pw λy13_3 y13_4=>.bB 59 (decide (y13_1≠0)) λx56=>.ifs [59] x56 (.cl 61 (aTO a3) aCQ kP λx57=>.ret ((x57:aM),((⟨0,0,0⟩:aB):aB),false,y13_1)) (.dr [(0,[5]),(1,[4])] [(3,[4]),(4,[])] [4,5] [3,4] [0,1,2,3,4,5,6] (.ret ((y13_4:aM),y13_3,y13_2,0)))) q1) q0))))) (Sum.elim (λ_=>.gv 23<|.jn 1 [3,4,7,10,11,12,13,14] [1,2,3] [] (λ_ (a:Bool)=>[(32,aF a)]) (λ_ _=>[]) (.bB 28 (decide (a4<0)) λx58=>.ifs [28] x58 (.ret true) (.bB 31 (decide (a4>3)) λx59=>.ret x59)) (λy5_1=>.ifs [32] y5_1 (.cl 34 (aTO a3) aCQ kP λx60=>.ret ((x60:aM),((⟨0,0,0⟩:aB):aB),false,1)) (.al 4<|.al 5<|.inl 37 AT Tryz.func176 [1,2,3,4,5] [] (λ_ (a:Unit)=>aF false) (λ_ _=>[]) (.gv 7<|.al 6<|.ret ()) (λ_=>.iv 54 bEG a3I Tryz.func248 [1,2,3,4,5] [] (λ_ (a:aM×aB×Int)=>.aU [.agg [aD 3 aB.av a.1.cO,int a.1.bF.a0,int a.1.bF.a1,int a.1.bF.a2],.agg [int a.2.1.aQ,int a.2.1.Value,int a.2.1.bO],int a.2.2]) (λ_ _=>[]) (.al 48<|.al 49<|.al 50<|.al 51<|.cl 18 (QH n a3.cO a5 a2) aFX aH6 λx68=>.al 52<|.dr [(0,[49]),(3,[52])] [(5,[52]),(6,[])] [49,52] [5,6] [0,1,2,3,4,5,6,7] (.cl 24 (rX a3 x68.1) aKP wK λx70=>.ret ((x70:aM),x68.2.1,x68.2.2))) (pw λy17_1 q0=>(pw λy17_2 y17_3=>.bB 59 (decide (y17_3≠0)) λx71=>.ifs [59] x71 (.cl 61 (aTO a3) aCQ kP λx72=>.ret ((x72:aM),((⟨0,0,0⟩:aB):aB),false,y17_3)) (.dr [(0,[5]),(1,[4])] [(3,[4]),(4,[])] [4,5] [3,4] [0,1,2,3,4,5,6] (.ret ((y17_1:aM),y17_2,false,0)))) q0))))) (λ_=>.gv 23<|.cl 25 (aTO a3) aCQ kP λx73=>.ret ((x73:aM),((⟨0,0,0⟩:aB):aB),false,12))))))
def KL (n:Nat) (a1:Int) (a2:Int) (a3:aM) (a4:Int) (a5:Int):Option (aM×aB×Bool×Int):=(aE0 n a1 a2 a3 a4 a5).run
theorem ZJ {n a1 a2 a3 a4 a5}:PZ (KL n a1 a2 a3 a4 a5) 190 [int a1,int a2,.agg (aM.av a3),int a4,int a5] (λr=>.aU [.agg (aM.av r.1),.agg (aB.av r.2.1),aF r.2.2.1,int r.2.2.2]):=wq Tryz.func190
def aNC (n:Nat) (a1:aA) (a2:Int) (a3:Int) (a4:Int) (a5:Int) (a6:Int):WB (aA×aB×Bool×Int) :=
 .al 1<|.al 2<|.al 3<|.cl 24 (zN a1 a2 a3 a4) aCO FX λx10=>.bB 26 (decide (x10<0)) λx11=>.ifs [26] x11 (.ret ((a1:aA),((⟨0,0,0⟩:aB):aB),false,4)) (.dr [(0,[1]),(1,[1]),(2,[1]),(9,[1]),(10,[1]),(11,[1]),(18,[1]),(19,[1])] [(36,[]),(37,[])] [1] [35,36,37] [0,1,2,3,4,5,6,7,8,9,10,11,12,13,14,15,16,17,18,19,20,21,22,23,24,25,26,27,28,29,30,31,32,33,34,35,36,37,38,39] (.ix 34 (fL 1 fI) a1.bA.Methods a2 λx12=>.ix 37 fI x12 a3 λx13=>.ix 43 (fL 1 fI) a1.bA.dN a2 λx14=>.ix 46 fI x14 a3 λx15=>.gI 51 aP.av gE aP.bW a1.aW a2 λx16=>.ix 55 aM.av x16.dD x10 λx17=>.cl 59 (KL n x13 x15 x17 a5 a6) aWW ZJ λx18=>.al 4<|.bB 14 (x18.2.2.1) λx20=>.bB 65 (decide (x18.2.2.2≠0)) λx21=>.ifs [65] x21 (.ret ((a1:aA),((⟨0,0,0⟩:aB):aB),false,x18.2.2.2)) (.al 5<|.inl 74 aKQ Tryz.func150 [1,2,3,4] [7,8] (λ_ (a:Int×Bool×(List Int)×(List bM)×(List Int)×(List Int)×(List aP)×(List aM))=>.aU []) (λu4 a=>[.kp 5 [[int a1.bA.eH,int a1.bA.aQA,aD 1 fI a1.bA.cB,aD 1 (fL 1 fI) a1.bA.Methods,aD 1 (fL 1 fI) a1.bA.dN,.sl 7 (u4 7) 0 a1.aW.length,aD 8 bH.av a1.bP,aD 9 bS.av a1.bU,aD 6 dB.av a1.bY,int a1.Done]],.nw 7 45 8 ((a1.aW.map aP.av).set (Int.toNat a2) [int a.1,aF a.2.1,.sl 8 (u4 8) 0 a.2.2.2.2.2.2.2.length,aD 1 fI a.2.2.1,aD 11 bM.av a.2.2.2.1,aD 1 fI a.2.2.2.2.1,aD 1 fI a.2.2.2.2.2.1,aD 8 aP.av a.2.2.2.2.2.2.1]),.nw 8 77 4 (a.2.2.2.2.2.2.2.map aM.av)]) (.al 6<|.inl 11 JA Tryz.func87 [1,2,3,4,6] [7] (λu6 (a:Unit)=>.pt 7 (u6 7) (Int.toNat a2) 0) (λu6 _=>[.kp 5 [[int a1.bA.eH,int a1.bA.aQA,aD 1 fI a1.bA.cB,aD 1 (fL 1 fI) a1.bA.Methods,aD 1 (fL 1 fI) a1.bA.dN,.sl 7 (u6 7) 0 a1.aW.length,aD 8 bH.av a1.bP,aD 9 bS.av a1.bU,aD 6 dB.av a1.bY,int a1.Done]],.nw 7 45 8 (a1.aW.map aP.av)]) (.as (a1.aW.length<=68719476736) inferInstance<|.ge 11 7<|.bo (ix a1.aW a2) λx26=>.gv 21<|.ret ()) (λ_=>.bo (ix a1.aW a2) λx27=>.gv 14<|.gv 15<|.gv 16<|.as (x27.dD.length<=68719476736) inferInstance<|.ge 17 8<|.gv 18<|.gv 19<|.ge 1002008 0<|.dr [(1,[7]),(2,[7]),(3,[7]),(5,[6]),(6,[8])] [(7,[])] [6,7,8] [7] [0,1,2,3,4,5,6,7] (.gv 21<|.gv 22<|.gv 23<|.bo (ix x27.dD x10) λx30=>.gv 26<|.bl (x27.dD.set (Int.toNat x10) x18.1:List aM) λx31=>.ge 1003007 0<|.ret ((x27.Now:Int),(x27.Closed:Bool),(x27.dU:List Int),(x27.dI:List bM),(x27.dO:List Int),(x27.Down:List Int),(x27.eT:List aP),x31)))) (pw λy1_2 q0=>(pw λy1_3 q1=>(pw λy1_5 q2=>(pw λy1_6 q3=>(pw λy1_7 q4=>(pw λy1_8 q5=>(pw λy1_9 y1_10=>.bo (ix a1.aW a2) λx32=>.dr [(0,[5]),(1,[5]),(2,[3])] [(4,[3]),(5,[])] [3,5] [4,5] [0,1,2,3,4,5,6,7] (.ret (((⟨a1.bA,(a1.aW.set (Int.toNat a2) (⟨y1_2,y1_3,y1_10,y1_5,y1_6,y1_7,y1_8,y1_9⟩:aP)),a1.bP,a1.bU,a1.bY,a1.Done⟩:aA):aA),x18.2.1,x20,0))) q5) q4) q3) q2) q1) q0))))
def rR (n:Nat) (a1:aA) (a2:Int) (a3:Int) (a4:Int) (a5:Int) (a6:Int):Option (aA×aB×Bool×Int):=(aNC n a1 a2 a3 a4 a5 a6).run
theorem wP {n a1 a2 a3 a4 a5 a6}:PZ (rR n a1 a2 a3 a4 a5 a6) 152 [.agg (aA.av a1),int a2,int a3,int a4,int a5,int a6] (λr=>.aU [.agg (aA.av r.1),.agg (aB.av r.2.1),aF r.2.2.1,int r.2.2.2]):=by
 refine wm Tryz.func152 ?_
 intro v7
 intro v8
 intro v9
 refine .mk λx10 e10=>?_
 refine .mk λx11=>?_
 refine .mk .mk ?_
 refine .mk ?_
 refine .mk λx12 e12=>?_
 refine .mk λx13 e13=>?_
 refine .mk λx14 e14=>?_
 refine .mk λx15 e15=>?_
 refine .mk λx16 e16=>?_
 refine .mk λx17 e17=>?_
 refine .mk λx18 e18=>?_
 intro v19
 refine .mk λx20=>?_
 refine .mk λx21=>?_
 refine .mk .mk ?_
 intro v22
 refine .mk ?_ ?_
 intro v23
 refine .mk ?_ ?_
 refine .mk λp24=>?_
 refine .mk _ ⟨λ_=>d9 rfl rfl (.cons rfl .nil) aHV (iK (a2I.pc (id:=7) (l:=a1.aW) rfl p24) (.cons (.refl _) .nil)),λ_ _ _=>trivial⟩ ?_
 rintro _ _ ⟨v25,rfl,rfl⟩
 refine .mk λx26 e26=>?_
 refine .mk _ (bE (aP4 rfl Tryz.underlying28 aWN rfl rfl rfl rfl rfl (Eq.symm rfl) (List.length_map _) e26)) ?_
 exact .mk
 intro _ _
 refine .mk trivial ?_
 refine .mk λx27 e27=>?_
 refine .mk _ (bE (iH rfl rfl (.pt rfl rfl (dR e27 (aP.bW _))))) ?_
 refine .mk _ (bE (dK rfl a3A rfl (.pt rfl rfl (dR e27 (aP.bW _))) (.pt _ _ _ _ _))) ?_
 refine .mk _ (bE (dV rfl jE rfl (.pt rfl rfl (dR e27 (aP.bW _))) rfl)) ?_
 refine .mk λp28=>?_
 refine .mk _ ⟨λ_=>d9 rfl rfl (.cons rfl .nil) aC8 (iK (a5N.pc (id:=8) (l:=x27.dD) rfl p28) (.cons (.refl _) .nil)),λ_ _ _=>trivial⟩ ?_
 rintro _ _ ⟨v29,rfl,rfl⟩
 refine .mk _ (bE (iH rfl rfl (.pt rfl rfl (dR e27 (aP.bW _))))) ?_
 refine .mk _ (bE (dK rfl a3A rfl (.pt rfl rfl (dR e27 (aP.bW _))) (.pt _ _ _ _ _))) ?_
 refine .mk _ ⟨λ_=>bQ.dM (eO (ob':=(⟨45,8,true,true,_,(a1.aW.map aP.av).set (Int.toNat a2) [int x27.Now,aF x27.Closed,.sl 8 v29 0 x27.dD.length,aD 1 fI x27.dU,aD 11 bM.av x27.dI,aD 1 fI x27.dO,aD 1 fI x27.Down,aD 8 aP.av x27.eT]⟩:bC)) (dZ rfl jE rfl rfl rfl rfl rfl (dR e27 (aP.bW _)) rfl rfl rfl) (eU rfl)) (λ_ h=>h) (λ_ _=>trivial),λ_ _ _=>trivial⟩ ?_
 rintro _ _ ⟨rfl,rfl⟩
 refine .mk ?_
 refine .mk _ (λH hH _=>iH rfl rfl (.pt ((hH _ (by decide)).trans rfl) rfl (eY e27))) ?_
 refine .mk _ (λH hH _=>dK rfl a3A rfl (.pt ((hH _ (by decide)).trans rfl) rfl (eY e27)) (.pt _ _ _ _ _)) ?_
 refine .mk _ (λH hH _=>dV rfl jE rfl (.pt ((hH _ (by decide)).trans rfl) rfl (eY e27)) rfl) ?_
 refine .mk λx30 e30=>?_
 refine .mk _ (λH hH _=>aP4 rfl Tryz.underlying42 a2Q rfl rfl ((hH _ (by decide)).trans rfl) rfl rfl (Eq.symm rfl) (List.length_map _) e30) ?_
 refine .mk λx31 e31=>?_
 have fx31:=aQC e30 e31;have lx31:=fH e31 (rfl:x27.dD.length=x27.dD.length)
 refine .mk _ ⟨λ_=>bQ.dM (eO (ob':=(⟨77,4,true,true,_,x31.map aM.av⟩:bC)) (dZ rfl a2Q rfl rfl rfl rfl rfl (cZ e30) rfl rfl rfl) (eU (iI e31))) (λ_ h=>h) (λ_ _=>trivial),by rintro _ _ ⟨rfl,rfl⟩;exact trivial⟩ ?_
 rintro _ _ ⟨rfl,rfl⟩
 exact .mk rfl ⟨rfl,(by first | rfl | exact lx31 ▸ rfl),rfl,rfl,rfl,rfl,rfl,trivial⟩
 intro _ _
 refine .mk trivial ?_
 refine .mk λx32 e32=>?_
 refine .mk ?_
 exact .mk (bK.aU (.cons (bK.agg (.cons (.refl _) (.cons (.refl _) (.cons (.refl _) (.cons (.refl _) (.cons (.refl _) (.cons (kZ rfl rfl rfl rfl rfl (Eq.symm rfl) e32 (lW (.cons (.refl _) (.cons (.refl _) (.cons (dH rfl rfl rfl rfl rfl (Eq.symm rfl)) (.cons (.refl _) (.cons (.refl _) (.cons (.refl _) (.cons (.refl _) (.cons (.refl _) .nil)))))))) (aP.bW _))) (.cons (.refl _) (.cons (.refl _) (.cons (.refl _) (.cons (.refl _) .nil))))))))))) (.cons (.refl _) (.cons (.refl _) (.cons (.refl _) .nil)))))
def aJB (a1:aB):WB (Bool) :=
 .al 1<|.jn 0 [] [] [] (λ_ (a:Bool)=>[(2,aF a)]) (λ_ _=>[]) (.bB 5 (decide (a1.aQ<1)) λx3=>.ifs [5] x3 (.ret true) (.bB 9 (decide (a1.aQ>288230376151711744)) λx4=>.ifs [9] x4 (.ret true) (.bB 14 (decide (a1.Value<0)) λx5=>.ifs [14] x5 (.ret true) (.bB 19 (decide (a1.Value>288230376151711744)) λx6=>.ifs [19] x6 (.ret true) (.bB 24 (decide (a1.bO<(-288230376151711744))) λx7=>.ifs [24] x7 (.ret true) (.bB 29 (decide (a1.bO>288230376151711744)) λx8=>.ret x8)))))) (λy0_1=>.ret ((y0_1:Bool)))
def TU (a1:aB):Option (Bool):=(aJB a1).run
theorem aFP {a1}:PZ (TU a1) 200 [.agg (aB.av a1)] aF:=wq Tryz.func200
end
end Go.Pv
