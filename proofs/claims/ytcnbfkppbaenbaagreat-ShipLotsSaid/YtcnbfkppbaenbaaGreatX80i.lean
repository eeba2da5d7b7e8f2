import Derived.Test.YtcnbfkppbaenbaaGreatX80h
set_option linter.unusedVariables false
set_option linter.unusedSimpArgs false
namespace Go.Pv
open Go.Proofs
set_option maxRecDepth 100000
set_option maxHeartbeats 4000000
noncomputable section
def aCX (n:Nat) (a1:Int) (a2:Int) (a3:aH) (a4:Int) (a5:Int):WT Tryz.prog (.b (aH×aB×Bool×Int)) :=
 .al 1<|.al 2<|.al 3<|.inl 21 ZH Tryz.func213 [1,2,3] [] (B:=(Unit)⊕(Unit)⊕(Unit)⊕(Unit)⊕(Unit)) (λu2=>Sum.elim (λa=>.iM 243 (.agg [])) (Sum.elim (λa=>.iM 244 (.agg [])) (Sum.elim (λa=>.iM 245 (.agg [])) (Sum.elim (λa=>.iM 247 (.agg [int a2])) (λa=>.sc .nilIface))))) (λu2=>Sum.elim (λa=>[]) (Sum.elim (λa=>[]) (Sum.elim (λa=>[]) (Sum.elim (λa=>[]) (λa=>[]))))) (.bB 7 (decide (a1=1)) λx9=>.ifs [7] x9 (.gv 9<|.ret (.inl ())) (.bB 11 (decide (a1=2)) λx10=>.ifs [11] x10 (.gv 13<|.ret (.inr (.inl ()))) (.bB 15 (decide (a1=3)) λx11=>.ifs [15] x11 (.gv 17<|.ret (.inr (.inr (.inl ())))) (.bB 19 (decide (a1=4)) λx12=>.ifs [19] x12 (.gv 22<|.ret (.inr (.inr (.inr (.inl ()))))) (.ret (.inr (.inr (.inr (.inr ()))))))))) (Sum.elim (λ_=>.gv 23<|.jn 1 [3,4,7,10,11,12,13,14] [1,2,3] [] (λ_ (a:Bool)=>[(32,aT a)]) (λ_ _=>[]) (.bB 28 (decide (a4<0)) λx13=>.ifs [28] x13 (.ret true) (.bB 31 (decide (a4>3)) λx14=>.ret x14)) (λy5_1=>.ifs [32] y5_1 (.cl 34 (nD a3) oH oU λx15=>.ret ((x15:aH),((⟨0,0,0⟩:aB):aB),false,1)) (.al 4<|.al 5<|.inl 37 JB Tryz.func215 [1,2,3,4,5] [] (λ_ (a:Unit)=>aT false) (λ_ _=>[]) (.gv 7<|.al 6<|.ret ()) (λ_=>.iv 54 aXO aOB Tryz.func271 [1,2,3,4,5] [] (λ_ (a:aH×aB×Int)=>.bC [.agg [aP 3 aB.av a.1.aW,int a.1.bN.a0,int a.1.bN.a1,int a.1.bN.a2],.agg [int a.2.1.aG,int a.2.1.Value,int a.2.1.bO],int a.2.2]) (λ_ _=>[]) (.al 12<|.al 13<|.al 14<|.al 15<|.cl 16 (DW n a3.aW a5) QU ZI λx23=>.al 16<|.dr [(0,[13]),(3,[16])] [(5,[16]),(6,[])] [13,16] [5,6] [0,1,2,3,4,5,6,7] (.cl 22 (wL a3 x23.1) xE yT λx25=>.ret ((x25:aH),x23.2.1,x23.2.2))) (pw λy8_1 q0=>(pw λy8_2 y8_3=>.bB 59 (decide (y8_3≠0)) λx26=>.ifs [59] x26 (.cl 61 (nD a3) oH oU λx27=>.ret ((x27:aH),((⟨0,0,0⟩:aB):aB),false,y8_3)) (.dr [(0,[5]),(1,[4])] [(3,[4]),(4,[])] [4,5] [3,4] [0,1,2,3,4,5,6] (.ret ((y8_1:aH),y8_2,false,0)))) q0))))) (Sum.elim (λ_=>.gv 23<|.jn 1 [3,4,7,10,11,12,13,14] [1,2,3] [] (λ_ (a:Bool)=>[(32,aT a)]) (λ_ _=>[]) (.bB 28 (decide (a4<0)) λx28=>.ifs [28] x28 (.ret true) (.bB 31 (decide (a4>3)) λx29=>.ret x29)) (λy5_1=>.ifs [32] y5_1 (.cl 34 (nD a3) oH oU λx30=>.ret ((x30:aH),((⟨0,0,0⟩:aB):aB),false,1)) (.al 4<|.al 5<|.inl 37 JB Tryz.func215 [1,2,3,4,5] [] (λ_ (a:Unit)=>aT false) (λ_ _=>[]) (.gv 7<|.al 6<|.ret ()) (λ_=>.iv 54 aNA aLB Tryz.func281 [1,2,3,4,5] [] (λ_ (a:aH×aB×Int)=>.bC [.agg [aP 3 aB.av a.1.aW,int a.1.bN.a0,int a.1.bN.a1,int a.1.bN.a2],.agg [int a.2.1.aG,int a.2.1.Value,int a.2.1.bO],int a.2.2]) (λ_ _=>[]) (.al 22<|.al 23<|.al 24<|.al 25<|.cl 16 (CL n a3.aW a5) OB XX λx38=>.al 26<|.dr [(0,[23]),(3,[26])] [(5,[26]),(6,[])] [23,26] [5,6] [0,1,2,3,4,5,6,7] (.cl 22 (wL a3 x38.1) xE yT λx40=>.ret ((x40:aH),x38.2.1,x38.2.2))) (pw λy10_1 q0=>(pw λy10_2 y10_3=>.bB 59 (decide (y10_3≠0)) λx41=>.ifs [59] x41 (.cl 61 (nD a3) oH oU λx42=>.ret ((x42:aH),((⟨0,0,0⟩:aB):aB),false,y10_3)) (.dr [(0,[5]),(1,[4])] [(3,[4]),(4,[])] [4,5] [3,4] [0,1,2,3,4,5,6] (.ret ((y10_1:aH),y10_2,false,0)))) q0))))) (Sum.elim (λ_=>.gv 23<|.jn 1 [3,4,7,10,11,12,13,14] [1,2,3] [] (λ_ (a:Bool)=>[(32,aT a)]) (λ_ _=>[]) (.bB 28 (decide (a4<0)) λx43=>.ifs [28] x43 (.ret true) (.bB 31 (decide (a4>3)) λx44=>.ret x44)) (λy5_1=>.ifs [32] y5_1 (.cl 34 (nD a3) oH oU λx45=>.ret ((x45:aH),((⟨0,0,0⟩:aB):aB),false,1)) (.al 4<|.al 5<|.inl 37 JB Tryz.func215 [1,2,3,4,5] [] (λ_ (a:Unit)=>aT true) (λ_ _=>[]) (.gv 7<|.al 6<|.ret ()) (λ_=>.bB 40 (decide (a4≠3)) λx49=>.jn 1 [7,10,11,12,13,15,16] [1,2,3] [] (λ_ (a:Int×Bool×aB×aH)=>[(17,int a.1),(18,aT a.2.1)]) (λ_ a=>[.kp 4 [[int a.2.2.1.aG,int a.2.2.1.Value,int a.2.2.1.bO]],.kp 5 [[aP 3 aB.av a.2.2.2.aW,int a.2.2.2.bN.a0,int a.2.2.2.bN.a1,int a.2.2.2.bN.a2]]]) (.ifs [18,40,41,42] x49 (.cl 47 (H6 n a3 a4 a5) aPK aRK λx50=>.ret ((x50.2:Int),true,((⟨0,0,0⟩:aB):aB),x50.1)) (.iv 54 aVT aRB Tryz.func286 [1,2,3,4,5] [] (λ_ (a:aH×aB×Int)=>.bC [.agg [aP 3 aB.av a.1.aW,int a.1.bN.a0,int a.1.bN.a1,int a.1.bN.a2],.agg [int a.2.1.aG,int a.2.1.Value,int a.2.1.bO],int a.2.2]) (λ_ _=>[]) (.al 39<|.al 40<|.al 41<|.al 42<|.cl 11 (L5 n a3 a5) aU2 aH7 λx55=>.ret ((x55.1:aH),x55.2.1,x55.2.2)) (pw λy15_1 q0=>(pw λy15_2 y15_3=>.ret ((y15_3:Int),false,y15_2,y15_1)) q0))) (pw λy13_1 q0=>(pw λy13_2 q1=>(pw λy13_3 y13_4=>.bB 59 (decide (y13_1≠0)) λx56=>.ifs [59] x56 (.cl 61 (nD a3) oH oU λx57=>.ret ((x57:aH),((⟨0,0,0⟩:aB):aB),false,y13_1)) (.dr [(0,[5]),(1,[4])] [(3,[4]),(4,[])] [4,5] [3,4] [0,1,2,3,4,5,6] (.ret ((y13_4:aH),y13_3,y13_2,0)))) q1) q0))))) (Sum.elim (λ_=>.gv 23<|.jn 1 [3,4,7,10,11,12,13,14] [1,2,3] [] (λ_ (a:Bool)=>[(32,aT a)]) (λ_ _=>[]) (.bB 28 (decide (a4<0)) λx58=>.ifs [28] x58 (.ret true) (.bB 31 (decide (a4>3)) λx59=>.ret x59)) (λy5_1=>.ifs [32] y5_1 (.cl 34 (nD a3) oH oU λx60=>.ret ((x60:aH),((⟨0,0,0⟩:aB):aB),false,1)) (.al 4<|.al 5<|.inl 37 JB Tryz.func215 [1,2,3,4,5] [] (λ_ (a:Unit)=>aT false) (λ_ _=>[]) (.gv 7<|.al 6<|.ret ()) (λ_=>.iv 54 aKE aV2 Tryz.func290 [1,2,3,4,5] [] (λ_ (a:aH×aB×Int)=>.bC [.agg [aP 3 aB.av a.1.aW,int a.1.bN.a0,int a.1.bN.a1,int a.1.bN.a2],.agg [int a.2.1.aG,int a.2.1.Value,int a.2.1.bO],int a.2.2]) (λ_ _=>[]) (.al 48<|.al 49<|.al 50<|.al 51<|.cl 18 (LF n a3.aW a5 a2) aI5 aWG λx68=>.al 52<|.dr [(0,[49]),(3,[52])] [(5,[52]),(6,[])] [49,52] [5,6] [0,1,2,3,4,5,6,7] (.cl 24 (wL a3 x68.1) xE yT λx70=>.ret ((x70:aH),x68.2.1,x68.2.2))) (pw λy17_1 q0=>(pw λy17_2 y17_3=>.bB 59 (decide (y17_3≠0)) λx71=>.ifs [59] x71 (.cl 61 (nD a3) oH oU λx72=>.ret ((x72:aH),((⟨0,0,0⟩:aB):aB),false,y17_3)) (.dr [(0,[5]),(1,[4])] [(3,[4]),(4,[])] [4,5] [3,4] [0,1,2,3,4,5,6] (.ret ((y17_1:aH),y17_2,false,0)))) q0))))) (λ_=>.gv 23<|.cl 25 (nD a3) oH oU λx73=>.ret ((x73:aH),((⟨0,0,0⟩:aB):aB),false,12))))))
def MP (n:Nat) (a1:Int) (a2:Int) (a3:aH) (a4:Int) (a5:Int):Option (aH×aB×Bool×Int):=(aCX n a1 a2 a3 a4 a5).run
theorem aTG {n:Nat} {a1:Int} {a2:Int} {a3:aH} {a4:Int} {a5:Int} {r:aH×aB×Bool×Int} (h0:MP n a1 a2 a3 a4 a5=some r):PP Tryz.prog 154 [int a1,int a2,.agg (aH.av a3),int a4,int a5] (λy=>y=.bC [.agg (aH.av r.1),.agg (aB.av r.2.1),aT r.2.2.1,int r.2.2.2]):=by
 refine bU mixed bR (λ(r:aH×aB×Bool×Int)=>.bC [.agg (aH.av r.1),.agg (aB.av r.2.1),aT r.2.2.1,int r.2.2.2]) h0 Tryz.func154 (λr=>.bC (FI ((λ(a:aH)=>PV.agg (aH.dH a)) (r.1)) ((λ(a:aB)=>PV.agg (aB.dH a)) (r.2.1)) (gF (r.2.2.1)) (bT (r.2.2.2)))) 100000 ?_
 intro v6
 intro v7
 intro v8
 refine .mk ?_ ?_
 refine .mk λx9=>?_
 refine .mk ?_ ?_
 refine .mk _ (eH (CY rfl Tryz.underlying243 (by intro _ h;cases h) rfl)) ?_
 exact .mk
 refine .mk λx10=>?_
 refine .mk ?_ ?_
 refine .mk _ (eH (CY rfl Tryz.underlying244 (by intro _ h;cases h) rfl)) ?_
 exact .mk
 refine .mk λx11=>?_
 refine .mk ?_ ?_
 refine .mk _ (eH (CY rfl Tryz.underlying245 (by intro _ h;cases h) rfl)) ?_
 exact .mk
 refine .mk λx12=>?_
 refine .mk ?_ ?_
 refine .mk _ (eH (CY rfl Tryz.underlying247 (by intro _ h;cases h) rfl)) ?_
 exact .mk
 exact .mk
 rintro (_ | _ | _ | _ | _) _
 refine .mk trivial ?_
 refine .mk _ (eH (FK rfl Tryz.underlying214 rfl rfl)) ?_
 refine .mk ?_ ?_
 refine .mk λx13=>?_
 refine .mk .mk ?_
 refine .mk λx14=>?_
 exact .mk
 intro _ _
 refine .mk ?_ ?_
 refine .mk λx15 e15=>?_
 exact .mk
 intro v16
 intro v17
 refine .mk ?_ ?_
 refine .mk _ (eH (SE rfl Tryz.underlying245 rfl rfl rfl NJ)) ?_
 intro v18
 exact .mk
 intro _ _
 refine .mk trivial ?_
 refine .mk ?_ ?_
 intro v19
 intro v20
 intro v21
 intro v22
 refine .mk λx23 e23=>?_
 intro v24
 refine .mk ?_
 refine .mk λx25 e25=>?_
 exact .mk
 intro _ _
 refine .mk trivial ?_
 refine .mk λx26=>?_
 refine .mk ?_ ?_
 refine .mk λx27 e27=>?_
 exact .mk
 refine .mk ?_
 exact .mk
 refine .mk trivial ?_
 refine .mk _ (eH (FK rfl Tryz.underlying214 rfl rfl)) ?_
 refine .mk ?_ ?_
 refine .mk λx28=>?_
 refine .mk .mk ?_
 refine .mk λx29=>?_
 exact .mk
 intro _ _
 refine .mk ?_ ?_
 refine .mk λx30 e30=>?_
 exact .mk
 intro v31
 intro v32
 refine .mk ?_ ?_
 refine .mk _ (eH (SE rfl Tryz.underlying245 rfl rfl rfl NJ)) ?_
 intro v33
 exact .mk
 intro _ _
 refine .mk trivial ?_
 refine .mk ?_ ?_
 intro v34
 intro v35
 intro v36
 intro v37
 refine .mk λx38 e38=>?_
 intro v39
 refine .mk ?_
 refine .mk λx40 e40=>?_
 exact .mk
 intro _ _
 refine .mk trivial ?_
 refine .mk λx41=>?_
 refine .mk ?_ ?_
 refine .mk λx42 e42=>?_
 exact .mk
 refine .mk ?_
 exact .mk
 refine .mk trivial ?_
 refine .mk _ (eH (FK rfl Tryz.underlying214 rfl rfl)) ?_
 refine .mk ?_ ?_
 refine .mk λx43=>?_
 refine .mk .mk ?_
 refine .mk λx44=>?_
 exact .mk
 intro _ _
 refine .mk ?_ ?_
 refine .mk λx45 e45=>?_
 exact .mk
 intro v46
 intro v47
 refine .mk ?_ ?_
 refine .mk _ (eH (aU8 rfl Tryz.underlying245 rfl rfl)) ?_
 intro v48
 exact .mk
 intro _ _
 refine .mk trivial ?_
 refine .mk λx49=>?_
 refine .mk ?_ ?_
 refine .mk ?_ ?_
 refine .mk λx50 e50=>?_
 exact .mk
 refine .mk ?_ ?_
 intro v51
 intro v52
 intro v53
 intro v54
 refine .mk λx55 e55=>?_
 exact .mk
 intro _ _
 refine .mk trivial ?_
 exact .mk
 intro _ _
 refine .mk λx56=>?_
 refine .mk ?_ ?_
 refine .mk λx57 e57=>?_
 exact .mk
 refine .mk ?_
 exact .mk
 refine .mk trivial ?_
 refine .mk _ (eH (FK rfl Tryz.underlying214 rfl rfl)) ?_
 refine .mk ?_ ?_
 refine .mk λx58=>?_
 refine .mk .mk ?_
 refine .mk λx59=>?_
 exact .mk
 intro _ _
 refine .mk ?_ ?_
 refine .mk λx60 e60=>?_
 exact .mk
 intro v61
 intro v62
 refine .mk ?_ ?_
 refine .mk _ (eH (SE rfl Tryz.underlying245 rfl rfl rfl NJ)) ?_
 intro v63
 exact .mk
 intro _ _
 refine .mk trivial ?_
 refine .mk ?_ ?_
 intro v64
 intro v65
 intro v66
 intro v67
 refine .mk λx68 e68=>?_
 intro v69
 refine .mk ?_
 refine .mk λx70 e70=>?_
 exact .mk
 intro _ _
 refine .mk trivial ?_
 refine .mk λx71=>?_
 refine .mk ?_ ?_
 refine .mk λx72 e72=>?_
 exact .mk
 refine .mk ?_
 exact .mk
 refine .mk trivial ?_
 refine .mk _ (eH (aDT rfl Tryz.underlying214 rfl rfl)) ?_
 refine .mk λx73 e73=>?_
 exact .mk
def SB (n:Nat) (a1:aA) (a2:Int) (a3:Int) (a4:Int) (a5:Int) (a6:Int):WT Tryz.prog (.b (aA×aB×Bool×Int)) :=
 .al 1<|.al 2<|.al 3<|.cl 24 (J8 a1 a2 a3 a4) aUB aXE λx10=>.bB 26 (decide (x10<0)) λx11=>.ifs [26] x11 (.ret ((a1:aA),((⟨0,0,0⟩:aB):aB),false,4)) (.dr [(0,[1]),(1,[1]),(2,[1]),(9,[1]),(10,[1]),(11,[1]),(18,[1]),(19,[1])] [(36,[]),(37,[])] [1] [35,36,37] [0,1,2,3,4,5,6,7,8,9,10,11,12,13,14,15,16,17,18,19,20,21,22,23,24,25,26,27,28,29,30,31,32,33,34,35,36,37,38,39] (.ix 34 (fL 1 fI) a1.bH.Methods a2 λx12=>.ix 37 fI x12 a3 λx13=>.ix 43 (fL 1 fI) a1.bH.gL a2 λx14=>.ix 46 fI x14 a3 λx15=>.iF 51 aQ.av gE aQ.fF a1.bD a2 λx16=>.ix 55 aH.av x16.bX x10 λx17=>.cl 59 (MP n x13 x15 x17 a5 a6) aT6 aTG λx18=>.al 4<|.bB 14 (x18.2.2.1) λx20=>.bB 65 (decide (x18.2.2.2≠0)) λx21=>.ifs [65] x21 (.ret ((a1:aA),((⟨0,0,0⟩:aB):aB),false,x18.2.2.2)) (.al 5<|.inl 74 aRV Tryz.func155 [1,2,3,4] [7,8] (λ_ (a:Int×Bool×(List Int)×(List cO)×(List Int)×(List Int)×(List aQ)×(List aH))=>.bC []) (λu4 a=>[.kp 5 [[int a1.bH.gG,int a1.bH.gQ,aP 1 fI a1.bH.bZ,aP 1 (fL 1 fI) a1.bH.Methods,aP 1 (fL 1 fI) a1.bH.gL,.sl 7 (u4 7) 0 a1.bD.length,aP 8 dG.av a1.bY,aP 9 eZ.av a1.eF,aP 6 fT.av a1.dL,int a1.Done]],.nw 7 60 8 ((a1.bD.map aQ.av).set (Int.toNat a2) [int a.1,aT a.2.1,.sl 8 (u4 8) 0 a.2.2.2.2.2.2.2.length,aP 1 fI a.2.2.1,aP 11 cO.av a.2.2.2.1,aP 1 fI a.2.2.2.2.1,aP 1 fI a.2.2.2.2.2.1,aP 8 aQ.av a.2.2.2.2.2.2.1]),.nw 8 124 4 (a.2.2.2.2.2.2.2.map aH.av)]) (.al 6<|.inl 11 QO Tryz.func152 [1,2,3,4,6] [7] (λu6 (a:Unit)=>.pt 7 (u6 7) (Int.toNat a2) 0) (λu6 _=>[.kp 5 [[int a1.bH.gG,int a1.bH.gQ,aP 1 fI a1.bH.bZ,aP 1 (fL 1 fI) a1.bH.Methods,aP 1 (fL 1 fI) a1.bH.gL,.sl 7 (u6 7) 0 a1.bD.length,aP 8 dG.av a1.bY,aP 9 eZ.av a1.eF,aP 6 fT.av a1.dL,int a1.Done]],.nw 7 60 8 (a1.bD.map aQ.av)]) (.as (a1.bD.length<=68719476736) inferInstance<|.ge 11 7<|.bo (ix a1.bD a2) λx26=>.gv 21<|.ret ()) (λ_=>.bo (ix a1.bD a2) λx27=>.gv 14<|.gv 15<|.gv 16<|.as (x27.bX.length<=68719476736) inferInstance<|.ge 17 8<|.gv 18<|.gv 19<|.ge 1002008 0<|.dr [(1,[7]),(2,[7]),(3,[7]),(5,[6]),(6,[8])] [(7,[])] [6,7,8] [7] [0,1,2,3,4,5,6,7] (.gv 21<|.gv 22<|.gv 23<|.bo (ix x27.bX x10) λx30=>.gv 26<|.bl (x27.bX.set (Int.toNat x10) x18.1:List aH) λx31=>.ge 1003007 0<|.ret ((x27.fU:Int),(x27.Closed:Bool),(x27.dR:List Int),(x27.dQ:List cO),(x27.gI:List Int),(x27.Down:List Int),(x27.fV:List aQ),x31)))) (pw λy1_2 q0=>(pw λy1_3 q1=>(pw λy1_5 q2=>(pw λy1_6 q3=>(pw λy1_7 q4=>(pw λy1_8 q5=>(pw λy1_9 y1_10=>.bo (ix a1.bD a2) λx32=>.dr [(0,[5]),(1,[5]),(2,[3])] [(4,[3]),(5,[])] [3,5] [4,5] [0,1,2,3,4,5,6,7] (.ret (((⟨a1.bH,(a1.bD.set (Int.toNat a2) (⟨y1_2,y1_3,y1_10,y1_5,y1_6,y1_7,y1_8,y1_9⟩:aQ)),a1.bY,a1.eF,a1.dL,a1.Done⟩:aA):aA),x18.2.1,x20,0))) q5) q4) q3) q2) q1) q0))))
def xV (n:Nat) (a1:aA) (a2:Int) (a3:Int) (a4:Int) (a5:Int) (a6:Int):Option (aA×aB×Bool×Int):=(SB n a1 a2 a3 a4 a5 a6).run
theorem aTK {n:Nat} {a1:aA} {a2:Int} {a3:Int} {a4:Int} {a5:Int} {a6:Int} {r:aA×aB×Bool×Int} (h0:xV n a1 a2 a3 a4 a5 a6=some r):PP Tryz.prog 93 [.agg (aA.av a1),int a2,int a3,int a4,int a5,int a6] (λy=>y=.bC [.agg (aA.av r.1),.agg (aB.av r.2.1),aT r.2.2.1,int r.2.2.2]):=by
 refine bU mixed bR (λ(r:aA×aB×Bool×Int)=>.bC [.agg (aA.av r.1),.agg (aB.av r.2.1),aT r.2.2.1,int r.2.2.2]) h0 Tryz.func93 (λr=>.bC (FI ((λ(a:aA)=>PV.agg (aA.dH a)) (r.1)) ((λ(a:aB)=>PV.agg (aB.dH a)) (r.2.1)) (gF (r.2.2.1)) (bT (r.2.2.2)))) 100000 ?_
 intro v7
 intro v8
 intro v9
 refine .mk λx10 e10=>?_
 refine .mk λx11=>?_
 refine .mk .mk ?_
 refine .mk ?_
 refine .mk λx12 e12=>?_
 refine .mk λx13 e13=>?_
 refine .mk λx14 e14=>?_
 refine .mk λx15 e15=>?_
 refine .mk λx16 e16=>?_
 refine .mk λx17 e17=>?_
 refine .mk λx18 e18=>?_
 intro v19
 refine .mk λx20=>?_
 refine .mk λx21=>?_
 refine .mk .mk ?_
 intro v22
 refine .mk ?_ ?_
 intro v23
 refine .mk ?_ ?_
 refine .mk λp24=>?_
 refine .mk _ ⟨λ_=>mM rfl rfl (.cons rfl .nil) SA (nC (QV (id:=7) (l:=a1.bD) rfl p24) (.cons (.refl _) .nil)),λ_ _ _=>trivial⟩ ?_
 rintro _ _ ⟨v25,rfl,rfl⟩
 refine .mk λx26 e26=>?_
 refine .mk _ (eH (iL rfl Tryz.underlying27 qY rfl rfl rfl rfl rfl (Eq.symm rfl) (List.length_map _) e26)) ?_
 exact .mk
 intro _ _
 refine .mk trivial ?_
 refine .mk λx27 e27=>?_
 refine .mk _ (eH (lJ rfl rfl (.pt rfl rfl (jL e27 (aQ.fF _))))) ?_
 refine .mk _ (eH (gN rfl FM rfl (.pt rfl rfl (jL e27 (aQ.fF _))) (.pt _ _ _ _ _))) ?_
 refine .mk _ (eH (iK rfl E7 rfl (.pt rfl rfl (jL e27 (aQ.fF _))) rfl)) ?_
 refine .mk λp28=>?_
 refine .mk _ ⟨λ_=>mM rfl rfl (.cons rfl .nil) aSO (nC (aPW (id:=8) (l:=x27.bX) rfl p28) (.cons (.refl _) .nil)),λ_ _ _=>trivial⟩ ?_
 rintro _ _ ⟨v29,rfl,rfl⟩
 refine .mk _ (eH (lJ rfl rfl (.pt rfl rfl (jL e27 (aQ.fF _))))) ?_
 refine .mk _ (eH (gN rfl FM rfl (.pt rfl rfl (jL e27 (aQ.fF _))) (.pt _ _ _ _ _))) ?_
 refine .mk _ ⟨λ_=>eO.gK (iQ (ob':=(⟨60,8,true,true,_,(a1.bD.map aQ.av).set (Int.toNat a2) [int x27.fU,aT x27.Closed,.sl 8 v29 0 x27.bX.length,aP 1 fI x27.dR,aP 11 cO.av x27.dQ,aP 1 fI x27.gI,aP 1 fI x27.Down,aP 8 aQ.av x27.fV]⟩:cB)) (iG rfl E7 rfl rfl rfl rfl rfl (jL e27 (aQ.fF _)) rfl rfl rfl) (jJ rfl)) (λ_ h=>h) (λ_ _=>trivial),λ_ _ _=>trivial⟩ ?_
 rintro _ _ ⟨rfl,rfl⟩
 refine .mk ?_
 refine .mk _ (λH hH _=>lJ rfl rfl (.pt ((hH _ (by decide)).trans rfl) rfl (jV e27))) ?_
 refine .mk _ (λH hH _=>gN rfl FM rfl (.pt ((hH _ (by decide)).trans rfl) rfl (jV e27)) (.pt _ _ _ _ _)) ?_
 refine .mk _ (λH hH _=>iK rfl E7 rfl (.pt ((hH _ (by decide)).trans rfl) rfl (jV e27)) rfl) ?_
 refine .mk λx30 e30=>?_
 refine .mk _ (λH hH _=>iL rfl Tryz.underlying57 Y9 rfl rfl ((hH _ (by decide)).trans rfl) rfl rfl (Eq.symm rfl) (List.length_map _) e30) ?_
 refine .mk λx31 e31=>?_
 have fx31:=j6 e30 e31;have lx31:=jX e31 (rfl:x27.bX.length=x27.bX.length)
 refine .mk _ ⟨λ_=>eO.gK (iQ (ob':=(⟨124,4,true,true,_,x31.map aH.av⟩:cB)) (iG rfl Y9 rfl rfl rfl rfl rfl (fM e30) rfl rfl rfl) (jJ (kL e31))) (λ_ h=>h) (λ_ _=>trivial),by rintro _ _ ⟨rfl,rfl⟩;exact trivial⟩ ?_
 rintro _ _ ⟨rfl,rfl⟩
 exact .mk rfl ⟨rfl,(by first | rfl | exact lx31 ▸ rfl),rfl,rfl,rfl,rfl,rfl,trivial⟩
 intro _ _
 refine .mk trivial ?_
 refine .mk λx32 e32=>?_
 refine .mk ?_
 exact .mk (dX.bC (.cons (dX.agg (.cons (.refl _) (.cons (.refl _) (.cons (.refl _) (.cons (.refl _) (.cons (.refl _) (.cons (AP rfl rfl rfl rfl rfl (Eq.symm rfl) e32 (yA (.cons (.refl _) (.cons (.refl _) (.cons (gJ rfl rfl rfl rfl rfl (Eq.symm rfl)) (.cons (.refl _) (.cons (.refl _) (.cons (.refl _) (.cons (.refl _) (.cons (.refl _) .nil)))))))) (aQ.fF _))) (.cons (.refl _) (.cons (.refl _) (.cons (.refl _) (.cons (.refl _) .nil))))))))))) (.cons (.refl _) (.cons (.refl _) (.cons (.refl _) .nil)))))
def aF1 (a1:Int):WT Tryz.prog (.b (Bool)) :=
 .jn 1 [] [] [] (λ_ (a:Bool)=>[(2,aT a)]) (λ_ _=>[]) (.bB 4 (decide (a1>=0)) λx2=>.ifs [4] x2 (.bB 7 (decide (a1<17)) λx3=>.ret x3) (.ret false)) (λy0_1=>.ret ((y0_1:Bool)))
def DK (a1:Int):Option (Bool):=(aF1 a1).run
theorem T3 {a1 r} (h0:DK a1=some r):PP Tryz.prog 202 [int a1] (λy=>y=aT r) :=
 bU mixed bR (λr:Bool=>aT r) h0 Tryz.func202 (λr=>gF r) 100000 au
def aBP (a1:Int):WT Tryz.prog (.b (Bool)) :=
 .jn 1 [] [] [] (λ_ (a:Bool)=>[(2,aT a)]) (λ_ _=>[]) (.bB 4 (decide (a1>=(-288230376151711744))) λx2=>.ifs [4] x2 (.bB 7 (decide (a1<=288230376151711744)) λx3=>.ret x3) (.ret false)) (λy0_1=>.ret ((y0_1:Bool)))
def CZ (a1:Int):Option (Bool):=(aBP a1).run
theorem aEZ {a1 r} (h0:CZ a1=some r):PP Tryz.prog 203 [int a1] (λy=>y=aT r) :=
 bU mixed bR (λr:Bool=>aT r) h0 Tryz.func203 (λr=>gF r) 100000 au
def V5 (a1:aN):WT Tryz.prog (.b (Bool)) :=
 .al 1<|.jn 0 [] [] [] (λ_ (a:Bool)=>[(2,aT a)]) (λ_ _=>[]) (.cl 5 (DK a1.dI) VB T3 λx3=>.bB 6 (!x3) λx4=>.ifs [6] x4 (.ret true) (.cl 10 (CZ a1.bM) WJ aEZ λx5=>.bB 11 (!x5) λx6=>.ret x6)) (λy0_1=>.ret ((y0_1:Bool)))
def MW (a1:aN):Option (Bool):=(V5 a1).run
theorem aVD {a1 r} (h0:MW a1=some r):PP Tryz.prog 201 [.agg (aN.av a1)] (λy=>y=aT r) :=
 bU mixed bR (λr:Bool=>aT r) h0 Tryz.func201 (λr=>gF r) 100000 au
def aG5 (a1:aN):WT Tryz.prog (.b (Int)) :=
 .al 1<|.ret ((a1.dI:Int))
def R5 (a1:aN):Option (Int):=(aG5 a1).run
theorem UM {a1 r} (h0:R5 a1=some r):PP Tryz.prog 206 [.agg (aN.av a1)] (λy=>y=int r) :=
 bU mixed bR (λr:Int=>int r) h0 Tryz.func206 (λr=>bT r) 100000 au
def aF2 (a1:Int):WT Tryz.prog (.b (Bool)) :=
 .bB 5 (decide (a1≠a1)) λx2=>.ret ((x2:Bool))
def C7 (a1:Int):Option (Bool):=(aF2 a1).run
theorem aBM {a1 r} (h0:C7 a1=some r):PP Tryz.prog 249 [int a1] (λy=>y=aT r) :=
 bU mixed bR (λr:Bool=>aT r) h0 Tryz.func249 (λr=>gF r) 100000 au
def YK (a1:Int) (a2:Int):WT Tryz.prog (.b (Int)) :=
 .cl 8 (C7 a1) YG aBM λx3=>.cl 10 (C7 a2) YG aBM λx4=>.ifs [5,8] x3 (.ifs [10] x4 (.ret ((0:Int))) (.ret (((-1):Int)))) (.ifs [10] x4 (.ret ((1:Int))) (.bB 16 (decide (a1<a2)) λx5=>.ifs [16] x5 (.ret (((-1):Int))) (.bB 19 (decide (a1>a2)) λx6=>.ifs [19] x6 (.ret ((1:Int))) (.ret ((0:Int))))))
def GD (a1:Int) (a2:Int):Option (Int):=(YK a1 a2).run
theorem aNV {a1 a2 r} (h0:GD a1 a2=some r):PP Tryz.prog 243 [int a1,int a2] (λy=>y=int r) :=
 bU mixed bR (λr:Int=>int r) h0 Tryz.func243 (λr=>bT r) 100000 au
def aEX (a1:Int) (a2:Int):WT Tryz.prog (.b (Int×Int)) :=
 .jn 1 [0,1,4,5] [] [] (λ_ (a:Bool)=>[(20,aT a)]) (λ_ _=>[]) (.cl 7 (xU a1) GQ F5 λx3=>.bB 8 (!x3) λx4=>.ifs [8] x4 (.ret true) (.cl 11 (xU a2) GQ F5 λx5=>.bB 12 (!x5) λx6=>.ifs [12] x6 (.ret true) (.bI 17 (bA (a1+a2)) λx7=>.cl 18 (xU x7) GQ F5 λx8=>.bB 19 (!x8) λx9=>.ret x9))) (λy0_1=>.ifs [20] y0_1 (.ret ((0:Int),2)) (.bI 23 (bA (a1+a2)) λx10=>.ret ((x10:Int),0)))
def mP (a1:Int) (a2:Int):Option (Int×Int):=(aEX a1 a2).run
theorem oO {a1 a2 r} (h0:mP a1 a2=some r):PP Tryz.prog 158 [int a1,int a2] (λy=>y=.bC [int r.1,int r.2]) :=
 bU mixed bR (λr:Int×Int=>.bC [int r.1,int r.2]) h0 Tryz.func158 (λr=>.bC (gD (bT (r.1)) (bT (r.2)))) 100000 au
def aUR (a1:aN):WT Tryz.prog (.b (Bool)) :=
 .al 1<|.bB 5 (decide (a1.bM=0)) λx3=>.ret ((x3:Bool))
def TF (a1:aN):Option (Bool):=(aUR a1).run
theorem aEQ {a1 r} (h0:TF a1=some r):PP Tryz.prog 208 [.agg (aN.av a1)] (λy=>y=aT r) :=
 bU mixed bR (λr:Bool=>aT r) h0 Tryz.func208 (λr=>gF r) 100000 au
def aGC (n:Nat) (a1:List aN):WT Tryz.prog (.b ((List aN)×Int)) :=
 .inl 12 aGL Tryz.func200 [] [] (λ_ (a:Bool)=>aT a) (λ_ _=>[]) (.inl 7 OD Tryz.func240 [] [] (λ_ (a:Int)=>int a) (λ_ _=>[]) (.ln 7 aN.av a1<|.fD 0 [4] [] [] (λ_ (a:Unit)=>[]) (λ_ _=>[]) (.lp [0,1,4,7] [] [] (λ_ (a:Int)=>[(8,int a)]) (λ_ _=>[]) n (0:Int) (λy0_1=>.bB 9 (decide (y0_1<(a1.length:Int))) λx2=>.ifs [9] x2 (.ix 14 aN.av a1 y0_1 λx3=>.cl 16 (MW x3) aO6 aVD λx4=>.ifs [16] x4 (.esc (.esc (.ret (y0_1:Int)))) (.bI 18 (bA (y0_1+1)) λx5=>.brk (x5:Int))) (.esc (.brk ())))) (λ_=>.ret ((-1):Int))) (λy2_1=>.bB 8 (decide (y2_1>=0)) λx6=>.ret x6)) (λy3_1=>.ifs [12] y3_1 (.ret (([]:List aN),(1:Int))) (.as (a1.length<=68719476736) inferInstance<|.ge 14 1<|.inl 16 aQ3 Tryz.func205 [] [] (λ_ (a:(List aN))=>.bC []) (λ_ a=>[.kp 1 (a.map aN.av)]) (.al 2<|.inl 6 aTR Tryz.func241 [2] [] (λ_ (a:(List aN))=>.bC []) (λ_ a=>[.kp 1 (a.map aN.av)]) (.inl 8 aIH Tryz.func248 [2] [] (λ_ (a:(List aN))=>.bC []) (λ_ a=>[.kp 1 (a.map aN.av)]) (.jn 2 [0,1,2,6,7] [1,2] [] (λ_ (a:Unit)=>[]) (λ_ _=>[]) (.lp [0,1,2,6,7,8] [1,2] [] (λ_ (a:Unit)=>[]) (λ_ _=>[]) n () (λ_=>.bB 13 (decide (20<=(a1.length:Int))) λx10=>.az [13] x10 (.esc (.ret ())))) (λ_=>.inl 27 aVS Tryz.func251 [2] [] (λ_ (a:(List aN))=>.bC []) (λ_ a=>[.kp 1 (a.map aN.av)]) (.kI 11 1<|.jn 0 [] [2] [] (λ_ (a:(List aN))=>[]) (λ_ a=>[.kp 1 (a.map aN.av)]) (.lp [1,2,3] [2] [] (λu107 (a:Int×(List aN))=>[(0,.sl 1 (u107 1) 0 a.2.length),(8,int a.1)]) (λ_ a=>[.kp 1 (a.2.map aN.av)]) n ((1:Int),a1) (pw λy6_1 y6_2=>.bB 14 (decide (y6_1<(a1.length:Int))) λx11=>.ifs [14] x11 (.jn 1 [1,2,3,8] [2] [] (λu113 (a:(List aN))=>[(0,.sl 1 (u113 1) 0 a.length)]) (λ_ a=>[.kp 1 (a.map aN.av)]) (.jn 2 [1,2,3,8] [2] [] (λu118 (a:(List aN))=>[(0,.sl 1 (u118 1) 0 a.length)]) (λ_ a=>[.kp 1 (a.map aN.av)]) (.lp [1,2,3,8] [2] [] (λu121 (a:Int×(List aN))=>[(0,.sl 1 (u121 1) 0 a.2.length),(9,int a.1)]) (λ_ a=>[.kp 1 (a.2.map aN.av)]) n ((y6_1:Int),y6_2) (pw λy7_1 y7_2=>.jn 0 [0,1,2,3,8,9] [1,2] [] (λ_ (a:Bool)=>[(34,aT a)]) (λ_ _=>[]) (.dr [(7,[1]),(8,[1]),(12,[1]),(13,[1])] [(14,[])] [1] [14] [0,1,2,3,4,5,6,7,8,9,10,11,12,13,14,15,16] (.bB 20 (decide (y7_1>0)) λx12=>.ifs [20] x12 (.bo (ix y7_2 y7_1) λx13=>.gv 25<|.gv 26<|.bI 29 (bA (y7_1-1)) λx14=>.bo (ix y7_2 x14) λx15=>.gv 30<|.gv 31<|.inl 32 aHR Tryz.func242 [1,2] [] (λ_ (a:Int)=>int a) (λ_ _=>[]) (.al 3<|.al 4<|.dr [(0,[2]),(1,[3]),(3,[2]),(4,[4])] [] [2,3,4] [] [0,1,2,3,4,5,6,7] (.cl 8 (R5 x13) WN UM λx18=>.cl 11 (R5 x15) WN UM λx19=>.cl 12 (GD x18 x19) aLV aNV λx20=>.ret (x20:Int))) (λy8_1=>.bB 33 (decide (y8_1<0)) λx21=>.ret x21)) (.ret false))) (λy9_1=>.ifs [34] y9_1 (.dr [(8,[1]),(9,[1]),(12,[1]),(13,[1]),(14,[1]),(16,[1])] [(15,[]),(17,[])] [1] [15,17] [0,1,2,3,4,5,6,7,8,9,10,11,12,13,14,15,16,17] (.bI 41 (bA (y7_1-1)) λx22=>.bI 44 (bA (y7_1-1)) λx23=>.bo (ix y7_2 x23) λx24=>.gv 45<|.gv 46<|.bo (ix y7_2 y7_1) λx25=>.gv 49<|.gv 50<|.gv 51<|.bl (y7_2.set (Int.toNat y7_1) x24:List aN) λx26=>.ge 1006015 0<|.bo (ix x26 x22) λx27=>.gv 52<|.bl (x26.set (Int.toNat x22) x25:List aN) λx28=>.ge 1006017 0<|.bI 36 (bA (y7_1-1)) λx29=>.brk ((x29:Int),x28))) (.esc (.ret y7_2))))) (λy10_1=>.ret y10_1)) (λy11_1=>.bI 16 (bA (y6_1+1)) λx30=>.brk ((x30:Int),y11_1))) (.esc (.ret y6_2)))) (λy12_1=>.ret y12_1)) (λy13_1=>.as (y13_1.length=a1.length) inferInstance<|.jn 0 [] [1,2] [] (λ_ (a:Unit)=>[]) (λ_ _=>[]) (.lp [0,1,2,6] [1,2] [] (λ_ (a:Unit)=>[]) (λ_ _=>[]) n () (λ_=>.bB 30 (decide (20<(a1.length:Int))) λx32=>.az [30] x32 (.esc (.ret ())))) (λ_=>.ret y13_1)))) (λy16_1=>.ret y16_1)) (λy17_1=>.ret y17_1)) (λy18_1=>.as (y18_1.length=a1.length) inferInstance<|.gv 17<|.fD 0 [2,3] [] [7] (λu137 (a:(List aN))=>[(5,.sl 7 (u137 7) 0 a.length)]) (λ_ a=>[.nw 7 105 2 (a.map aN.av)]) (.no 5 7 105 2<|.lp [2,3,17,18] [1] [7] (λu142 (a:Int×(List aN))=>[(5,.sl 7 (u142 7) 0 a.2.length),(19,int a.1)]) (λ_ a=>[.nw 7 105 2 (a.2.map aN.av)]) n ((0:Int),(([]:List aN):List aN)) (pw λy19_2 y19_3=>.bB 20 (decide (y19_2<(a1.length:Int))) λx35=>.ifs [20] x35 (.fD 1 [2,3,17,18,19] [1] [7] (λu144 (a:(List aN))=>[(5,.sl 7 (u144 7) 0 a.length)]) (λ_ a=>[.nw 7 105 2 (a.map aN.av)]) (.bo (ix y18_1 y19_2) λx36=>.gv 21<|.gv 22<|.al 5<|.bI 25 (bA ((y19_3.length:Int)-1)) λx38=>.jn 0 [2,3,5,7,8,17,18,19] [1,5,7] [] (λ_ (a:Bool)=>[(37,aT a)]) (λ_ _=>[]) (.dr [(5,[7]),(6,[7]),(7,[7]),(8,[5]),(9,[5])] [] [5,7] [] [0,1,2,3,4,5,6,7,8,9,10,11] (.bB 27 (decide (x38>=0)) λx39=>.ifs [27] x39 (.bo (ix y19_3 x38) λx40=>.gv 31<|.gv 32<|.gv 33<|.bB 36 (decide (x40.dI=x36.dI)) λx41=>.ret x41) (.ret false))) (λy20_1=>.ifs [37] y20_1 (.dr [(2,[7]),(3,[7]),(4,[7]),(5,[5]),(6,[5])] [] [5,7] [] [0,1,2,3,4,5,6,7,8,9,10,11,12] (.bo (ix y19_3 x38) λx42=>.gv 41<|.gv 42<|.gv 43<|.cl 46 (mP x42.bM x36.bM) oK oO λx43=>.bB 50 (decide (x43.2≠0)) λx44=>.ifs [50] x44 (.esc (.esc (.esc (.ret (([]:List aN),(x43.2:Int)))))) (.gv 55<|.gv 56<|.bl (y19_3.set (Int.toNat x38) ((⟨x42.dI,x43.1⟩:aN):aN):List aN) λx45=>.ge 1014005 0<|.brk x45))) (.to 59 (aP 2 aN.av ([x36]:List aN))<|.bl (y19_3++([x36]:List aN):List aN) λx46=>.as (x46.length<=68719476736) inferInstance<|.ge 60 0<|.brk x46))) (λy21_2=>.bI 61 (bA (y19_2+1)) λx49=>.brk ((x49:Int),y21_2))) (.esc (.brk y19_3)))) (λy22_2=>.inl 63 aHA Tryz.func207 [] [] (λu157 (a:Nat×Nat×(List aN))=>.sl 7 (u157 7) a.1 a.2.1) (λ_ a=>[.kp 7 (a.2.2.map aN.av)]) (.inl 10 OD Tryz.func240 [7] [] (λ_ (a:Int)=>int a) (λ_ _=>[]) (.fD 2 [4] [7] [] (λ_ (a:Unit)=>[]) (λ_ _=>[]) (.lp [0,1,4,7] [7] [] (λ_ (a:Int)=>[(8,int a)]) (λ_ _=>[]) n (0:Int) (λy23_1=>.bB 9 (decide (y23_1<(y22_2.length:Int))) λx50=>.ifs [9] x50 (.bo (ix y22_2 y23_1) λx51=>.gv 14<|.gv 15<|.cl 16 (TF x51) aET aEQ λx52=>.ifs [16] x52 (.esc (.esc (.ret (y23_1:Int)))) (.bI 18 (bA (y23_1+1)) λx53=>.brk (x53:Int))) (.esc (.brk ())))) (λ_=>.ret ((-1):Int))) (λy25_1=>.bB 12 (decide (y25_1=(-1))) λx54=>.ifs [12] x54 (.ret ((0:Nat),(y22_2.length:Nat),y22_2)) (.bI 15 (bA (y25_1+1)) λx55=>.jn 0 [4] [] [] (λu166 (a:Int×(List aN))=>[(0,.sl 7 (u166 7) 0 a.2.length),(5,int a.1)]) (λ_ a=>[.kp 7 (a.2.map aN.av)]) (.lp [1,4] [] [] (λu169 (a:Int×Int×(List aN))=>[(0,.sl 7 (u169 7) 0 a.2.2.length),(5,int a.1),(6,int a.2.1)]) (λ_ a=>[.kp 7 (a.2.2.map aN.av)]) n ((y25_1:Int),(x55:Int),y22_2) (pw λy26_1 q0=>(pw λy26_2 y26_3=>.bB 19 (decide (y26_2<(y26_3.length:Int))) λx56=>.ifs [19] x56 (.jn 1 [1,4,6] [] [] (λu170 (a:Int×(List aN))=>[(0,.sl 7 (u170 7) 0 a.2.length),(5,int a.1)]) (λ_ a=>[.kp 7 (a.2.map aN.av)]) (.bo (ix y26_3 y26_2) λx57=>.gv 24<|.gv 25<|.al 8<|.cl 28 (TF x57) aET aEQ λx59=>.bB 29 (!x59) λx60=>.ifs [29] x60 (.bo (ix y26_3 y26_1) λx61=>.gv 33<|.bl (y26_3.set (Int.toNat y26_1) x57:List aN) λx62=>.ge 1009004 0<|.bI 35 (bA (y26_1+1)) λx63=>.ret ((x63:Int),x62)) (.ret ((y26_1:Int),y26_3))) (pw λy27_1 y27_2=>.bI 21 (bA (y26_2+1)) λx64=>.brk ((y27_1:Int),(x64:Int),y27_2))) (.esc (.ret ((y26_1:Int),y26_3)))) q0)) (pw λy28_1 y28_2=>.as ((0:Int)<=y28_1/\y28_1<(y28_2.length:Int)) inferInstance<|.gv 38<|.bl (y28_2.take (0+y28_1.toNat):List aN) λx66=>.ge 1011003 0<|.as ((0:Int)<=y28_1/\y28_1<=(y28_2.length:Int)) inferInstance<|.gv 41<|.ret (((0+0):Nat),((y28_1.toNat-0):Nat),x66))))) (pw λy29_1 q0=>(pw λy29_2 y29_3=>.as (y29_1+y29_2<=y29_3.length) inferInstance<|.ret (((((y29_3).drop y29_1).take y29_2):List aN),(0:Int))) q0)))))
def vU (n:Nat) (a1:List aN):Option ((List aN)×Int):=(aGC n a1).run
theorem aDO {n:Nat} {a1:List aN} {r:(List aN)×Int} (h0:vU n a1=some r):PP Tryz.prog 150 [aP 2 aN.av a1] (λy=>y=.bC [aP 2 aN.av r.1,int r.2]):=by
 refine bU mixed bR (λ(r:(List aN)×Int)=>.bC [aP 2 aN.av r.1,int r.2]) h0 Tryz.func150 (λr=>.bC (gD ((iJ aN.dH) (r.1)) (bT (r.2)))) 100000 ?_
 refine .mk ?_ ?_
 refine .mk ?_ ?_
 refine .mk ?_
 refine .mk ?_ ?_
 refine .mk ?_
 intro _ _
 refine .mk λx2=>?_
 refine .mk ?_ ?_
 refine .mk λx3 e3=>?_
 refine .mk λx4 e4=>?_
 refine .mk .mk ?_
 refine .mk λx5=>?_
 exact .mk
 exact .mk
 intro _ _
 exact .mk
 intro _ _
 refine .mk trivial ?_
 refine .mk λx6=>?_
 exact .mk
 intro _ _
 refine .mk trivial ?_
 refine .mk ?_ ?_
 exact .mk (dX.bC (.cons (.nil _) (.cons (.refl _) .nil)))
 refine .mk λp7=>?_
 refine .mk _ ⟨λ_=>mM rfl rfl (.cons rfl .nil) aOV (nC (aI4 (id:=1) (l:=a1) rfl p7) (.cons (.refl _) .nil)),λ_ _ _=>trivial⟩ ?_
 rintro _ _ ⟨v8,rfl,rfl⟩
 refine .mk ?_ ?_
 intro v9
 refine .mk ?_ ?_
 refine .mk ?_ ?_
 refine .mk ?_ ?_
 refine .mk ?_
 intro _ _
 refine .mk λx10=>?_
 refine .mk ?_
 exact .mk
 intro _ _
 refine .mk ?_ ?_
 refine .mk ?_
 refine .mk ?_ ?_
 refine .mk ?_
 intro _ _
 refine .mk λx11=>?_
 refine .mk ?_ ?_
 refine .mk ?_ ?_
 refine .mk ?_ ?_
 refine .mk ?_
 rintro ⟨y7_1,y7_2⟩ _
 refine .mk ?_ ?_
 refine .mk ?_
 refine .mk λx12=>?_
 refine .mk ?_ ?_
 refine .mk λx13 e13=>?_
 refine .mk _ (λH hH _=>iL rfl Tryz.underlying107 kJ rfl rfl ((hH _ (by decide)).trans rfl) rfl rfl (Eq.symm rfl) (List.length_map _) e13) ?_
 refine .mk _ (λH hH _=>iK rfl kJ rfl (.pt ((hH _ (by decide)).trans rfl) rfl (fM e13)) rfl) ?_
 refine .mk λx14=>?_
 refine .mk λx15 e15=>?_
 refine .mk _ (λH hH _=>iL rfl Tryz.underlying107 kJ rfl rfl ((hH _ (by decide)).trans rfl) rfl rfl (Eq.symm rfl) (List.length_map _) e15) ?_
 refine .mk _ (λH hH _=>iK rfl kJ rfl (.pt ((hH _ (by decide)).trans rfl) rfl (fM e15)) rfl) ?_
 refine .mk ?_ ?_
 intro v16
 intro v17
 refine .mk ?_
 refine .mk λx18 e18=>?_
 refine .mk λx19 e19=>?_
 refine .mk λx20 e20=>?_
 exact .mk
 intro _ _
 refine .mk trivial ?_
 refine .mk λx21=>?_
 exact .mk
 exact .mk
 intro _ _
 refine .mk ?_ ?_
 refine .mk ?_
 refine .mk λx22=>?_
 refine .mk λx23=>?_
 refine .mk λx24 e24=>?_
 refine .mk _ (λH hH _=>iL rfl Tryz.underlying107 kJ rfl rfl ((hH _ (by decide)).trans rfl) rfl rfl (Eq.symm rfl) (List.length_map _) e24) ?_
 refine .mk _ (λH hH _=>iK rfl kJ rfl (.pt ((hH _ (by decide)).trans rfl) rfl (fM e24)) rfl) ?_
 refine .mk λx25 e25=>?_
 refine .mk _ (λH hH _=>iL rfl Tryz.underlying107 kJ rfl rfl ((hH _ (by decide)).trans rfl) rfl rfl (Eq.symm rfl) (List.length_map _) e25) ?_
 refine .mk _ (λH hH _=>iK rfl kJ rfl (.pt ((hH _ (by decide)).trans rfl) rfl (fM e25)) rfl) ?_
 refine .mk _ (λH hH _=>iL rfl Tryz.underlying107 kJ rfl rfl ((hH _ (by decide)).trans rfl) rfl rfl (Eq.symm rfl) (List.length_map _) e25) ?_
 refine .mk λx26 e26=>?_
 have fx26:=j6 e25 e26;have lx26:=jX e26 (rfl:y7_2.length=y7_2.length)
 refine .mk _ ⟨λ_=>eO.gK (iQ (ob':=(⟨105,2,true,true,_,x26.map aN.av⟩:cB)) (iG rfl kJ rfl rfl rfl rfl rfl (fM e25) rfl rfl rfl) (jJ (kL e26))) (λ_ h=>h) (λ_ _=>trivial),by rintro _ _ ⟨rfl,rfl⟩;exact trivial⟩ ?_
 rintro _ _ ⟨rfl,rfl⟩
 refine .mk λx27 e27=>?_
 refine .mk _ (λH hH _=>iL rfl Tryz.underlying107 kJ rfl rfl ((hH _ (by decide)).trans rfl) rfl rfl (Eq.symm lx26) (List.length_map _) e27) ?_
 refine .mk λx28 e28=>?_
 have fx28:=j6 e27 e28;have lx28:=jX e28 lx26
 refine .mk _ ⟨λ_=>eO.gK (iQ (ob':=(⟨105,2,true,true,_,x28.map aN.av⟩:cB)) (iG rfl kJ rfl rfl rfl rfl rfl (fM e27) rfl rfl rfl) (jJ (kL e28))) (λ_ h=>h) (λ_ _=>trivial),by rintro _ _ ⟨rfl,rfl⟩;exact trivial⟩ ?_
 rintro _ _ ⟨rfl,rfl⟩
 refine .mk λx29=>?_
 exact .mk ⟨⟨⟨_,rfl,(qJ (Eq.symm lx28))⟩,⟨_,rfl,(.refl _)⟩,⟨_,rfl,(.refl _)⟩,⟨_,rfl,(.refl _)⟩,⟨_,rfl,(.refl _)⟩,⟨_,rfl,(.refl _)⟩,trivial⟩,⟨⟨_,rfl,(.refl _)⟩,⟨_,rfl,(.refl _)⟩,trivial⟩⟩
 exact .mk
 intro _ _
 exact .mk
 intro _ _
 refine .mk λx30=>?_
 exact .mk
 exact .mk
 intro _ _
 exact .mk
 intro _ _
 refine .mk trivial ?_
 refine .mk λp31=>?_
 refine .mk ?_ ?_
 refine .mk ?_
 intro _ _
 refine .mk λx32=>?_
 refine .mk ?_
 exact .mk
 intro _ _
 exact .mk
 intro _ _
 refine .mk trivial ?_
 exact .mk
 intro _ _
 refine .mk trivial ?_
 exact .mk
 intro _ _
 refine .mk trivial ?_
 refine .mk λp33=>?_
 refine .mk _ (eH (lD rfl rfl)) ?_
 refine .mk ?_ ?_
 intro v34
 refine .mk ?_
 rintro ⟨y19_2,y19_3⟩ _
 refine .mk λx35=>?_
 refine .mk ?_ ?_
 refine .mk ?_ ?_
 refine .mk λx36 e36=>?_
 refine .mk _ (eH (iL rfl Tryz.underlying107 kJ rfl rfl rfl rfl rfl (Eq.symm p33) (List.length_map _) e36)) ?_
 refine .mk _ (eH (iK rfl kJ rfl (.pt rfl rfl (fM e36)) rfl)) ?_
 intro v37
 refine .mk λx38=>?_
 refine .mk ?_ ?_
 refine .mk ?_
 refine .mk λx39=>?_
 refine .mk ?_ ?_
 refine .mk λx40 e40=>?_
 refine .mk _ (λH hH _=>iL rfl Tryz.underlying107 kJ rfl rfl ((hH _ (by decide)).trans rfl) rfl rfl (Eq.symm rfl) (List.length_map _) e40) ?_
 refine .mk _ (λH hH _=>gN rfl aPO rfl (.pt ((hH _ (by decide)).trans rfl) rfl (fM e40)) (.pt _ _ _ _ _)) ?_
 refine .mk _ (λH hH _=>iK rfl fO rfl (.pt ((hH _ (by decide)).trans rfl) rfl (fM e40)) rfl) ?_
 refine .mk λx41=>?_
 exact .mk
 exact .mk
 intro _ _
 refine .mk ?_ ?_
 refine .mk ?_
 refine .mk λx42 e42=>?_
 refine .mk _ (λH hH _=>iL rfl Tryz.underlying107 kJ rfl rfl ((hH _ (by decide)).trans rfl) rfl rfl (Eq.symm rfl) (List.length_map _) e42) ?_
 refine .mk _ (λH hH _=>gN rfl aC1 rfl (.pt ((hH _ (by decide)).trans rfl) rfl (fM e42)) (.pt _ _ _ _ _)) ?_
 refine .mk _ (λH hH _=>iK rfl fO rfl (.pt ((hH _ (by decide)).trans rfl) rfl (fM e42)) rfl) ?_
 refine .mk λx43 e43=>?_
 refine .mk λx44=>?_
 refine .mk ?_ ?_
 exact .mk (dX.bC (.cons (.nil _) (.cons (.refl _) .nil)))
 refine .mk _ (eH (iL rfl Tryz.underlying107 kJ rfl rfl rfl rfl rfl (Eq.symm rfl) (List.length_map _) e42)) ?_
 refine .mk _ (eH (gN rfl aC1 rfl (.pt rfl rfl (fM e42)) (.pt _ _ _ _ _))) ?_
 refine .mk λx45 e45=>?_
 have fx45:=j6 e42 e45;have lx45:=jX e45 (rfl:y19_3.length=y19_3.length)
 refine .mk _ ⟨λ_=>eO.gK (iQ (ob':=(⟨105,2,true,true,_,x45.map aN.av⟩:cB)) (iG rfl fO rfl rfl rfl rfl rfl (fM e42) rfl rfl rfl) (jJ (kL e45))) (λ_ h=>h) (λ_ _=>trivial),λ_ _ _=>trivial⟩ ?_
 rintro _ _ ⟨rfl,rfl⟩
 exact .mk ⟨⟨⟨_,rfl,(qJ (Eq.symm lx45))⟩,⟨_,rfl,(.refl _)⟩,⟨_,rfl,(.refl _)⟩,⟨_,rfl,(.refl _)⟩,⟨_,rfl,(.refl _)⟩,⟨_,rfl,(.refl _)⟩,trivial⟩,⟨⟨_,rfl,(.refl _)⟩,⟨_,rfl,(.refl _)⟩,trivial⟩⟩
 refine .mk (eH (iH (y:=aP 2 aN.av ([x36]:List aN)) (jK (ps:=[(0,_)]) (rows:=[[int x36.dI,int x36.bM]]) rfl Tryz.underlying107 qW (.cons rfl .nil) (by kernel_rfl) rfl rfl rfl) rfl)) ?_
 refine .mk λx46 e46=>?_
 refine .mk λp47=>?_
 refine .mk _ ⟨λ_=>kY (g:=aN.av) (l:=y19_3) (m:=([x36]:List aN)) .any rfl Tryz.underlying107 qW RE rfl rfl rfl rfl rfl rfl rfl rfl rfl rfl (Eq.symm rfl) (.refl _) (λ_=>rfl) e46 p47,λ_ _ _=>trivial⟩ ?_
 rintro _ _ ⟨v48,-,rfl,rfl⟩
 exact .mk
 intro _ _
 refine .mk λx49=>?_
 exact .mk
 exact .mk
 intro _ _
 refine .mk ?_ ?_
 refine .mk ?_ ?_
 refine .mk ?_ ?_
 refine .mk ?_
 intro _ _
 refine .mk λx50=>?_
 refine .mk ?_ ?_
 refine .mk λx51 e51=>?_
 refine .mk _ (eH (iL rfl Tryz.underlying107 kJ rfl rfl rfl rfl rfl (Eq.symm rfl) (List.length_map _) e51)) ?_
 refine .mk _ (eH (iK rfl kJ rfl (.pt rfl rfl (fM e51)) rfl)) ?_
 refine .mk λx52 e52=>?_
 refine .mk .mk ?_
 refine .mk λx53=>?_
 exact .mk
 exact .mk
 intro _ _
 exact .mk
 intro _ _
 refine .mk trivial ?_
 refine .mk λx54=>?_
 refine .mk .mk ?_
 refine .mk λx55=>?_
 refine .mk ?_ ?_
 refine .mk ?_
 rintro ⟨y26_1,y26_2,y26_3⟩ _
 refine .mk λx56=>?_
 refine .mk ?_ ?_
 refine .mk ?_ ?_
 refine .mk λx57 e57=>?_
 refine .mk _ (eH (iL rfl Tryz.underlying107 kJ rfl rfl rfl rfl rfl (Eq.symm rfl) (List.length_map _) e57)) ?_
 refine .mk _ (eH (iK rfl kJ rfl (.pt rfl rfl (fM e57)) rfl)) ?_
 intro v58
 refine .mk λx59 e59=>?_
 refine .mk λx60=>?_
 refine .mk ?_ ?_
 refine .mk λx61 e61=>?_
 refine .mk _ (eH (iL rfl Tryz.underlying107 kJ rfl rfl rfl rfl rfl (Eq.symm rfl) (List.length_map _) e61)) ?_
 refine .mk λx62 e62=>?_
 have fx62:=j6 e61 e62;have lx62:=jX e62 (rfl:y26_3.length=y26_3.length)
 refine .mk _ ⟨λ_=>eO.gK (iQ (ob':=(⟨105,2,true,true,_,x62.map aN.av⟩:cB)) (iG rfl kJ rfl rfl rfl rfl rfl (fM e61) rfl rfl rfl) (jJ (kL e62))) (λ_ h=>h) (λ_ _=>trivial),λ_ _ _=>trivial⟩ ?_
 rintro _ _ ⟨rfl,rfl⟩
 refine .mk λx63=>?_
 exact .mk ⟨⟨⟨_,rfl,(qJ (Eq.symm lx62))⟩,⟨_,rfl,(.refl _)⟩,⟨_,rfl,(.refl _)⟩,⟨_,rfl,(.refl _)⟩,⟨_,rfl,(.refl _)⟩,trivial⟩,⟨⟨_,rfl,(.refl _)⟩,trivial⟩⟩
 exact .mk
 intro _ _
 refine .mk λx64=>?_
 exact .mk
 exact .mk
 rintro ⟨y28_1,y28_2⟩ _
 refine .mk λp65=>?_
 refine .mk _ (eH (aBG (len:=y28_2.length) (i:=y28_1.toNat) (j:=y28_2.length) rfl Tryz.underlying107 kJ rfl rfl rfl rfl (.yes rfl (by first | omega | (dsimp only;omega) | (dsimp only at *;omega))) .no (by first | omega | (dsimp only;omega) | (dsimp only at *;omega)) (Nat.le_refl _) (.inl (by first | omega | (dsimp only;omega) | (dsimp only at *;omega))))) ?_
 refine .mk λx66 e66=>?_
 refine .mk _ ⟨λ_=>eO.gK (iQ (ob':=(⟨105,2,true,true,_,x66.map aN.av⟩:cB)) (aM1 rfl Tryz.underlying107 qW rfl rfl rfl rfl rfl rfl e66) rfl) (λ_ h=>h) (λ_ _=>trivial),λ_ _ _=>trivial⟩ ?_
 rintro _ _ ⟨rfl,rfl⟩
 refine .mk λp67=>?_
 refine .mk _ (eH (aBG (len:=y28_2.length) (i:=0) (j:=y28_1.toNat) rfl Tryz.underlying107 kJ rfl rfl rfl rfl .no (.yes rfl (by first | omega | (dsimp only;omega) | (dsimp only at *;omega))) (Nat.zero_le _) (by first | omega | (dsimp only;omega) | (dsimp only at *;omega)) (.inr rfl))) ?_
 exact .mk
 rintro ⟨y29_1,y29_2,y29_3⟩ _
 refine .mk trivial ?_
 refine .mk λp68=>?_
 exact .mk (dX.bC (.cons (IG (l:=y29_3) rfl rfl rfl rfl (jN.refl _) (by first | omega | (simp only [List.length_set];omega)) rfl) (.cons (.refl _) .nil)))
def aC9 (n:Nat) (a1:List Int):WT Tryz.prog (.b (Int×Int)) :=
 .ln 9 fI a1<|.fD 0 [2,3] [] [] (λ_ (a:Int)=>[(4,int a)]) (λ_ _=>[]) (.lp [2,3,8,9] [] [] (λ_ (a:Int×Int)=>[(4,int a.1),(10,int a.2)]) (λ_ _=>[]) n ((0:Int),0) (pw λy0_1 y0_2=>.bB 11 (decide (y0_2<(a1.length:Int))) λx2=>.ifs [11] x2 (.ix 12 fI a1 y0_2 λx3=>.cl 17 (mP y0_1 x3) oK oO λx4=>.bB 21 (decide (x4.2≠0)) λx5=>.ifs [21] x5 (.esc (.esc (.ret ((0:Int),x4.2)))) (.bI 23 (bA (y0_2+1)) λx6=>.brk ((x4.1:Int),x6))) (.esc (.brk y0_1)))) (λy1_1=>.ret ((y1_1:Int),0))
def uD (n:Nat) (a1:List Int):Option (Int×Int):=(aC9 n a1).run
theorem FD {n a1 r} (h0:uD n a1=some r):PP Tryz.prog 221 [aP 1 fI a1] (λy=>y=.bC [int r.1,int r.2]) :=
 bU mixed bR (λr:Int×Int=>.bC [int r.1,int r.2]) h0 Tryz.func221 (λr=>.bC (gD (bT (r.1)) (bT (r.2)))) 100000 au
def aFL (n:Nat) (a1:List aN):WT Tryz.prog (.b (Int×Int)) :=
 .ln 8 aN.av a1<|.jn 0 [2,3] [] [3] (λu2 (a:(List Int))=>[(4,.sl 3 (u2 3) 0 a.length)]) (λ_ a=>[.nw 3 3 1 (a.map fI)]) (.no 4 3 3 1<|.lp [2,3,7,8] [] [3] (λu3 (a:Int×(List Int))=>[(4,.sl 3 (u3 3) 0 a.2.length),(9,int a.1)]) (λ_ a=>[.nw 3 3 1 (a.2.map fI)]) n ((0:Int),(([]:List Int):List Int)) (pw λy0_2 y0_3=>.bB 10 (decide (y0_2<(a1.length:Int))) λx3=>.ifs [10] x3 (.ix 11 aN.av a1 y0_2 λx4=>.al 1<|.to 16 (aP 1 fI ([x4.bM]:List Int))<|.bl (y0_3++([x4.bM]:List Int):List Int) λx6=>.as (x6.length<=68719476736) inferInstance<|.ge 17 0<|.bI 18 (bA (y0_2+1)) λx9=>.brk ((x9:Int),x6)) (.esc (.ret y0_3)))) (λy1_2=>.kS 20 (uD n y1_2) CQ FD (λ_=>rfl) λx10=>.ret ((x10.1:Int),x10.2))
def KH (n:Nat) (a1:List aN):Option (Int×Int):=(aFL n a1).run
theorem aJY {n a1 r} (h0:KH n a1=some r):PP Tryz.prog 245 [aP 2 aN.av a1] (λy=>y=.bC [int r.1,int r.2]) :=
 bU mixed bR (λr:Int×Int=>.bC [int r.1,int r.2]) h0 Tryz.func245 (λr=>.bC (gD (bT (r.1)) (bT (r.2)))) 100000 au
def aGN (a1:aN):WT Tryz.prog (.b (Bool)) :=
 .al 1<|.jn 0 [] [] [] (λ_ (a:Bool)=>[(2,aT a)]) (λ_ _=>[]) (.cl 5 (DK a1.dI) VB T3 λx3=>.bB 6 (!x3) λx4=>.ifs [6] x4 (.ret true) (.bB 10 (decide (a1.bM=0)) λx5=>.ifs [10] x5 (.ret true) (.cl 15 (CZ a1.bM) WJ aEZ λx6=>.bB 16 (!x6) λx7=>.ret x7))) (λy0_1=>.ret ((y0_1:Bool)))
def JS (a1:aN):Option (Bool):=(aGN a1).run
theorem aNY {a1 r} (h0:JS a1=some r):PP Tryz.prog 244 [.agg (aN.av a1)] (λy=>y=aT r) :=
 bU mixed bR (λr:Bool=>aT r) h0 Tryz.func244 (λr=>gF r) 100000 au
end
end Go.Pv
