import Derived.Test.YtcnbfkppbaenbaaGreatX80f
set_option linter.unusedVariables false
set_option linter.unusedSimpArgs false
namespace Go.Pv
open Go.Proofs
set_option maxRecDepth 100000
set_option maxHeartbeats 4000000
noncomputable section
def ZO (n:Nat) (a1:aA) (a2:bK):WT Tryz.prog (.b (aA×Int)) :=
 .al 1<|.al 2<|.al 3<|.cl 18 (oC a1 a2.E a2.Item) sM sJ λx6=>.bB 20 (decide (x6≠0)) λx7=>.ifs [20] x7 (.ret ((a1:aA),x6)) (.cl 28 (oC a1 a2.To a2.Item) sM sJ λx8=>.bB 30 (decide (x8≠0)) λx9=>.ifs [30] x9 (.ret ((a1:aA),x8)) (.ln 35 fT.av a1.dL<|.bB 36 (decide ((a1.dL.length:Int)>=40)) λx10=>.ifs [36] x10 (.ret ((a1:aA),6)) (.cl 48 (oM n a1 a2.E a2.Item a2.Loc 3 a2.aG) zS AY λx11=>.al 4<|.al 5<|.bB 54 (decide (x11.2.2.2≠0)) λx14=>.ifs [54] x14 (.ret ((a1:aA),x11.2.2.2)) (.bI 66 (bA (0-a2.bM)) λx15=>.bI 73 (bA (0-x11.2.1.Value)) λx16=>.to 75 (aP 2 aN.av ([(⟨13,a2.bM⟩:aN),(⟨15,x15⟩:aN),(⟨16,x11.2.1.Value⟩:aN),(⟨0,x16⟩:aN)]:List aN))<|.cl 76 (kV n x11.1 a2.E ([(⟨13,a2.bM⟩:aN),(⟨15,x15⟩:aN),(⟨16,x11.2.1.Value⟩:aN),(⟨0,x16⟩:aN)]:List aN)) o5 pF λx17=>.bB 80 (decide (x17.2≠0)) λx18=>.ifs [80] x18 (.ret ((a1:aA),x17.2)) (.bI 92 (bA (0-a2.bM)) λx19=>.to 94 (aP 2 aN.av ([(⟨12,a2.bM⟩:aN),(⟨14,x19⟩:aN)]:List aN))<|.cl 95 (kV n x17.1 a2.To ([(⟨12,a2.bM⟩:aN),(⟨14,x19⟩:aN)]:List aN)) o5 pF λx20=>.bB 99 (decide (x20.2≠0)) λx21=>.ifs [99] x21 (.ret ((a1:aA),x20.2)) (.cl 111 (nE n x20.1 a2.E a2.Item (⟨0,0,0,0,0,0,x11.2.1.Value,0,0,0,0⟩:cO)) uW tL λx22=>.bB 115 (decide (x22.2≠0)) λx23=>.ifs [115] x23 (.ret ((a1:aA),x22.2)) (.bI 122 (bA (a2.bM-x11.2.1.Value)) λx24=>.bI 125 (bA (x24+x11.2.1.bO)) λx25=>.cl 127 (nU x25) qV rF λx26=>.bB 128 (!x26) λx27=>.ifs [128] x27 (.ret ((a1:aA),2)) (.dr [(0,[4]),(1,[4]),(3,[2]),(4,[2]),(5,[2]),(6,[2]),(7,[2]),(8,[2]),(9,[2]),(10,[2]),(11,[2]),(12,[2]),(17,[4])] [(2,[2]),(16,[]),(18,[])] [2,4] [2,16,18] [0,1,3,4,5,6,7,8,9,10,11,12,13,14,15,2,16,17,18] (.to 145 (aP 6 fT.av ([(⟨a2.E,a2.To,a2.Item,a2.aG,a2.bM,x25⟩:fT)]:List fT))<|.as (x22.1.dL.length<=68719476736) inferInstance<|.ge 132 6<|.bl (x22.1.dL++([(⟨a2.E,a2.To,a2.Item,a2.aG,a2.bM,x25⟩:fT)]:List fT):List fT) λx30=>.as (x30.length<=68719476736) inferInstance<|.ge 146 0<|.ret (((⟨x22.1.bH,x22.1.bD,x22.1.bY,x22.1.eF,x30,x22.1.Done⟩:aA):aA),0))))))))))
def GH (n:Nat) (a1:aA) (a2:bK):Option (aA×Int):=(ZO n a1 a2).run
theorem aMY {n a1 a2 r} (h0:GH n a1 a2=some r):PP Tryz.prog 98 [.agg (aA.av a1),.agg (bK.av a2)] (λy=>y=.bC [.agg (aA.av r.1),int r.2]) :=
 bU mixed bR (λr:aA×Int=>.bC [.agg (aA.av r.1),int r.2]) h0 Tryz.func98 (λr=>.bC (gD ((λ(a:aA)=>PV.agg (aA.dH a)) (r.1)) (bT (r.2)))) 100000 au
def XC (n:Nat) (a1:aA) (a2:bK):WT Tryz.prog (.b (aA×Int)) :=
 .al 1<|.al 2<|.al 3<|.jn 0 [2,3,4,5] [1,2,3] [] (λ_ (a:Bool)=>[(25,aT a)]) (λ_ _=>[]) (.bB 17 (decide (a2.Ref<0)) λx6=>.ifs [17] x6 (.ret true) (.ln 23 fT.av a1.dL<|.bB 24 (decide (a2.Ref>=(a1.dL.length:Int))) λx7=>.ret x7)) (λy0_1=>.ifs [25] y0_1 (.ret ((a1:aA),4)) (.ix 31 fT.av a1.dL a2.Ref λx8=>.al 4<|.cl 38 (oC a1 x8.To x8.Item) sM sJ λx10=>.bB 40 (decide (x10≠0)) λx11=>.ifs [40] x11 (.ret ((a1:aA),x10)) (.bB 47 (decide (a2.aG>x8.aG)) λx12=>.ifs [47] x12 (.ret ((a1:aA),5)) (.dr [(0,[4]),(1,[4]),(2,[2]),(3,[2]),(4,[4]),(5,[4]),(7,[4]),(8,[4]),(9,[2]),(10,[2]),(11,[4]),(12,[4])] [] [2,4] [] [0,1,2,3,4,5,6,7,8,9,10,11,12,13,14,15] (.cl 55 (pN n x8.Value a2.aG x8.aG) sQ sH λx13=>.cl 62 (pN n x8.bO a2.aG x8.aG) sQ sH λx14=>.cl 76 (wN n a1 x8.To x8.Item a2.Loc (⟨a2.aG,x13,x14⟩:aB)) FB DT λx15=>.al 5<|.bB 82 (decide (x15.2.2.2≠0)) λx17=>.ifs [82] x17 (.ret ((a1:aA),x15.2.2.2)) (.bI 94 (bA (0-x13)) λx18=>.to 96 (aP 2 aN.av ([(⟨0,x15.2.1⟩:aN),(⟨6,x15.2.2.1⟩:aN),(⟨12,x18⟩:aN)]:List aN))<|.cl 97 (kV n x15.1 x8.To ([(⟨0,x15.2.1⟩:aN),(⟨6,x15.2.2.1⟩:aN),(⟨12,x18⟩:aN)]:List aN)) o5 pF λx19=>.bB 101 (decide (x19.2≠0)) λx20=>.ifs [101] x20 (.ret ((a1:aA),x19.2)) (.cl 112 (nE n x19.1 x8.To x8.Item (⟨0,0,0,x15.2.1,0,0,0,0,0,0,0⟩:cO)) uW tL λx21=>.bB 116 (decide (x21.2≠0)) λx22=>.ifs [116] x22 (.ret ((a1:aA),x21.2)) (.as (x21.1.dL.length<=68719476736) inferInstance<|.ge 121 6<|.dr [(1,[2]),(2,[2]),(4,[2]),(5,[2]),(7,[2]),(8,[2]),(9,[4]),(10,[4]),(11,[2]),(12,[2]),(14,[4]),(15,[4]),(18,[4]),(19,[4]),(22,[6]),(23,[6]),(25,[6]),(26,[6]),(28,[6]),(29,[6])] [(24,[2,4]),(27,[2,4]),(30,[])] [2,4,6] [24,27,30] [0,1,2,3,4,5,6,7,8,9,10,11,12,13,14,15,16,17,18,19,20,21,22,23,24,25,26,27,28,29,30] (.bI 135 (bA (x8.aG-a2.aG)) λx25=>.bI 139 (bA (x8.Value-x13)) λx26=>.bI 143 (bA (x8.bO-x14)) λx27=>.bo (ix x21.1.dL a2.Ref) λx28=>.gv 144<|.gv 145<|.bl (x21.1.dL.set (Int.toNat a2.Ref) ((⟨x28.rZ,x28.To,x28.Item,x25,x28.Value,x28.bO⟩:fT):fT):List fT) λx29=>.ge 1020024 0<|.gv 146<|.gv 147<|.bl (x29.set (Int.toNat a2.Ref) ((⟨x28.rZ,x28.To,x28.Item,x25,x26,x28.bO⟩:fT):fT):List fT) λx30=>.ge 1020027 0<|.gv 148<|.gv 149<|.bl (x30.set (Int.toNat a2.Ref) ((⟨x28.rZ,x28.To,x28.Item,x25,x26,x27⟩:fT):fT):List fT) λx31=>.ge 1020030 0<|.ret (((⟨x21.1.bH,x21.1.bD,x21.1.bY,x21.1.eF,x31,x21.1.Done⟩:aA):aA),0))))))))))
def KB (n:Nat) (a1:aA) (a2:bK):Option (aA×Int):=(XC n a1 a2).run
theorem aQA {n:Nat} {a1:aA} {a2:bK} {r:aA×Int} (h0:KB n a1 a2=some r):PP Tryz.prog 99 [.agg (aA.av a1),.agg (bK.av a2)] (λy=>y=.bC [.agg (aA.av r.1),int r.2]):=by
 refine bU mixed bR (λ(r:aA×Int)=>.bC [.agg (aA.av r.1),int r.2]) h0 Tryz.func99 (λr=>.bC (gD ((λ(a:aA)=>PV.agg (aA.dH a)) (r.1)) (bT (r.2)))) 100000 ?_
 intro v3
 intro v4
 intro v5
 refine .mk ?_ ?_
 refine .mk λx6=>?_
 refine .mk .mk ?_
 refine .mk ?_
 refine .mk λx7=>?_
 exact .mk
 intro _ _
 refine .mk .mk ?_
 refine .mk λx8 e8=>?_
 intro v9
 refine .mk λx10 e10=>?_
 refine .mk λx11=>?_
 refine .mk .mk ?_
 refine .mk λx12=>?_
 refine .mk .mk ?_
 refine .mk ?_
 refine .mk λx13 e13=>?_
 refine .mk λx14 e14=>?_
 refine .mk λx15 e15=>?_
 intro v16
 refine .mk λx17=>?_
 refine .mk .mk ?_
 refine .mk λx18=>?_
 refine .mk (eH (iH (y:=aP 2 aN.av ([(⟨0,x15.2.1⟩:aN),(⟨6,x15.2.2.1⟩:aN),(⟨12,x18⟩:aN)]:List aN)) (jK (ps:=[(0,_),(1,_),(2,_)]) (rows:=[[int 0,int x15.2.1],[int 6,int x15.2.2.1],[int 12,int x18]]) rfl Tryz.underlying107 qW (.cons rfl (.cons rfl (.cons rfl .nil))) (by kernel_rfl) rfl rfl rfl) rfl)) ?_
 refine .mk λx19 e19=>?_
 refine .mk λx20=>?_
 refine .mk .mk ?_
 refine .mk λx21 e21=>?_
 refine .mk λx22=>?_
 refine .mk .mk ?_
 refine .mk λp23=>?_
 refine .mk _ ⟨λ_=>pQ (g:=fT.av) (m:=x21.1.dL) 6 rfl Tryz.underlying30 aJ6 aMA rfl rfl rfl rfl (.refl _) (λ_=>rfl) p23,λ_ _ _=>trivial⟩ ?_
 rintro _ _ ⟨v24,rfl,rfl⟩
 refine .mk ?_
 refine .mk λx25=>?_
 refine .mk λx26=>?_
 refine .mk λx27=>?_
 refine .mk λx28 e28=>?_
 refine .mk _ (λH hH _=>iL rfl Tryz.underlying30 NM rfl rfl ((hH _ (by decide)).trans rfl) rfl rfl (Eq.symm rfl) (List.length_map _) e28) ?_
 refine .mk _ (λH hH _=>gN rfl aLD rfl (.pt ((hH _ (by decide)).trans rfl) rfl (fM e28)) (.pt _ _ _ _ _)) ?_
 refine .mk λx29 e29=>?_
 have fx29:=j6 e28 e29;have lx29:=jX e29 (rfl:x21.1.dL.length=x21.1.dL.length)
 refine .mk _ ⟨λ_=>eO.gK (iQ (ob':=(⟨73,6,true,true,_,x29.map fT.av⟩:cB)) (iG rfl fO rfl rfl rfl rfl rfl (fM e28) rfl rfl rfl) (jJ (kL e29))) (λ_ h=>h) (λ_ _=>trivial),by rintro _ _ ⟨rfl,rfl⟩;exact ⟨rfl,rfl,trivial⟩⟩ ?_
 rintro _ _ ⟨rfl,rfl⟩
 refine .mk _ (λH hH _=>iL rfl Tryz.underlying30 NM rfl rfl ((hH _ (by decide)).trans rfl) rfl rfl (Eq.symm lx29) (List.length_map _) fx29) ?_
 refine .mk _ (λH hH _=>gN rfl aO5 rfl (.pt ((hH _ (by decide)).trans rfl) rfl (fM fx29)) (.pt _ _ _ _ _)) ?_
 refine .mk λx30 e30=>?_
 have fx30:=j6 fx29 e30;have lx30:=jX e30 lx29
 refine .mk _ ⟨λ_=>eO.gK (iQ (ob':=(⟨73,6,true,true,_,x30.map fT.av⟩:cB)) (iG rfl fO rfl rfl rfl rfl rfl (fM fx29) rfl rfl rfl) (jJ (kL e30))) (λ_ h=>h) (λ_ _=>trivial),by rintro _ _ ⟨rfl,rfl⟩;exact ⟨rfl,rfl,trivial⟩⟩ ?_
 rintro _ _ ⟨rfl,rfl⟩
 refine .mk _ (λH hH _=>iL rfl Tryz.underlying30 NM rfl rfl ((hH _ (by decide)).trans rfl) rfl rfl (Eq.symm lx30) (List.length_map _) fx30) ?_
 refine .mk _ (λH hH _=>gN rfl aLN rfl (.pt ((hH _ (by decide)).trans rfl) rfl (fM fx30)) (.pt _ _ _ _ _)) ?_
 refine .mk λx31 e31=>?_
 have fx31:=j6 fx30 e31;have lx31:=jX e31 lx30
 refine .mk _ ⟨λ_=>eO.gK (iQ (ob':=(⟨73,6,true,true,_,x31.map fT.av⟩:cB)) (iG rfl fO rfl rfl rfl rfl rfl (fM fx30) rfl rfl rfl) (jJ (kL e31))) (λ_ h=>h) (λ_ _=>trivial),by rintro _ _ ⟨rfl,rfl⟩;exact trivial⟩ ?_
 rintro _ _ ⟨rfl,rfl⟩
 exact .mk (dX.bC (.cons (dX.agg (.cons (.refl _) (.cons (.refl _) (.cons (.refl _) (.cons (.refl _) (.cons (.refl _) (.cons (.refl _) (.cons (.refl _) (.cons (.refl _) (.cons (gJ rfl rfl rfl rfl rfl (Eq.symm lx31)) (.cons (.refl _) .nil))))))))))) (.cons (.refl _) .nil)))
def X6 (n:Nat) (a1:aA) (a2:bK):WT Tryz.prog (.b (aA×Int)) :=
 .al 1<|.al 2<|.al 3<|.bB 9 (decide (a2.Kind=12)) λx6=>.ifs [9] x6 (.cl 12 (GH n a1 a2) aJX aMY λx7=>.ret ((x7.1:aA),x7.2)) (.bB 16 (decide (a2.Kind=13)) λx8=>.ifs [16] x8 (.cl 19 (KB n a1 a2) aLC aQA λx9=>.ret ((x9.1:aA),x9.2)) (.ret ((a1:aA),1)))
def KL (n:Nat) (a1:aA) (a2:bK):Option (aA×Int):=(X6 n a1 a2).run
theorem aRW {n a1 a2 r} (h0:KL n a1 a2=some r):PP Tryz.prog 54 [.agg (aA.av a1),.agg (bK.av a2)] (λy=>y=.bC [.agg (aA.av r.1),int r.2]) :=
 bU mixed bR (λr:aA×Int=>.bC [.agg (aA.av r.1),int r.2]) h0 Tryz.func54 (λr=>.bC (gD ((λ(a:aA)=>PV.agg (aA.dH a)) (r.1)) (bT (r.2)))) 100000 au
def aDV (a1:aA) (a2:bK):WT Tryz.prog (.b (aA×Int)) :=
 .al 1<|.al 2<|.al 3<|.bB 10 (decide (a2.Kind≠10)) λx6=>.ifs [10] x6 (.ret ((a1:aA),1)) (.cl 17 (oC a1 a2.E a2.Item) sM sJ λx7=>.bB 19 (decide (x7≠0)) λx8=>.ifs [19] x8 (.ret ((a1:aA),x7)) (.inl 25 xY Tryz.func88 [1,2,3] [6,7,8,9,10,11] (λu2 (a:Int×Bool×(List aQ)×(List aH)×(List Int)×(List cO)×(List Int)×(List Int))=>.agg [int a1.bH.gG,int a1.bH.gQ,aP 1 fI a1.bH.bZ,aP 1 (fL 1 fI) a1.bH.Methods,aP 1 (fL 1 fI) a1.bH.gL,.sl 6 (u2 6) 0 a1.bD.length,aP 8 dG.av a1.bY,aP 9 eZ.av a1.eF,aP 6 fT.av a1.dL,int a1.Done]) (λu2 a=>[.nw 6 60 8 ((a1.bD.map aQ.av).set (Int.toNat a2.E) [int a.1,aT a.2.1,.sl 7 (u2 7) 0 a.2.2.2.1.length,.sl 8 (u2 8) 0 a.2.2.2.2.1.length,.sl 9 (u2 9) 0 a.2.2.2.2.2.1.length,.sl 10 (u2 10) 0 a.2.2.2.2.2.2.1.length,.sl 11 (u2 11) 0 a.2.2.2.2.2.2.2.length,aP 8 aQ.av a.2.2.1]),.nw 7 124 4 (a.2.2.2.1.map aH.av),.nw 8 3 1 (a.2.2.2.2.1.map fI),.nw 9 102 11 (a.2.2.2.2.2.1.map cO.av),.nw 10 3 1 (a.2.2.2.2.2.2.1.map fI),.nw 11 3 1 (a.2.2.2.2.2.2.2.map fI)]) (.al 4<|.al 5<|.as (a1.bD.length<=68719476736) inferInstance<|.ge 8 6<|.bo (ix a1.bD a2.E) λx13=>.gv 13<|.dr [(4,[6]),(5,[6]),(6,[6]),(9,[6]),(10,[6]),(11,[6]),(14,[6]),(15,[6]),(16,[6]),(18,[6]),(19,[6]),(21,[6]),(22,[6]),(24,[6]),(25,[6])] [(17,[]),(20,[]),(23,[]),(26,[])] [6] [7,12,17,20,23,26] [0,1,2,3,4,5,6,8,9,10,11,13,14,15,16,7,12,17,18,19,20,21,22,23,24,25,26] (.gv 18<|.gv 19<|.gv 20<|.gv 23<|.gv 24<|.gv 25<|.gv 28<|.gv 29<|.gv 30<|.as (x13.bX.length<=68719476736) inferInstance<|.ge 21 7<|.as (x13.dR.length<=68719476736) inferInstance<|.ge 26 8<|.as (x13.dQ.length<=68719476736) inferInstance<|.ge 31 9<|.gv 32<|.gv 33<|.ge 1003020 0<|.gv 34<|.gv 35<|.ge 1003023 0<|.gv 36<|.gv 37<|.ge 1003026 0<|.dr [(3,[6]),(4,[6]),(5,[6]),(8,[6]),(9,[6]),(10,[6]),(12,[6]),(13,[6]),(15,[6]),(16,[6])] [(11,[]),(14,[]),(17,[])] [6] [6,11,14,17] [0,1,2,3,4,5,7,8,9,10,6,11,12,13,14,15,16,17] (.gv 41<|.gv 42<|.gv 43<|.gv 46<|.gv 47<|.gv 48<|.as (x13.gI.length<=68719476736) inferInstance<|.ge 44 10<|.as (x13.Down.length<=68719476736) inferInstance<|.ge 49 11<|.gv 50<|.gv 51<|.ge 1004014 0<|.gv 52<|.gv 53<|.ge 1004017 0<|.ret ((x13.fU:Int),(x13.Closed:Bool),(x13.fV:List aQ),(x13.bX:List aH),(x13.dR:List Int),(x13.dQ:List cO),(x13.gI:List Int),(x13.Down:List Int))))) (pw λy0_2 q0=>(pw λy0_3 q1=>(pw λy0_9 q2=>(pw λy0_10 q3=>(pw λy0_11 q4=>(pw λy0_12 q5=>(pw λy0_13 y0_14=>.bo (ix a1.bD a2.E) λx24=>.al 12<|.dr [(0,[12]),(1,[12]),(2,[2]),(3,[2]),(4,[6]),(5,[6]),(6,[6]),(7,[2]),(8,[2]),(9,[2]),(10,[2]),(11,[10])] [(12,[])] [2,6,10,12] [12] [0,1,2,3,4,5,6,7,8,9,10,11,12] (.gv 30<|.gv 31<|.gv 32<|.bo (ix y0_13 a2.Item) λx26=>.gv 37<|.bl (y0_13.set (Int.toNat a2.Item) (a2.bM:Int):List Int) λx27=>.ge 1007012 0<|.ret (((⟨a1.bH,(a1.bD.set (Int.toNat a2.E) (⟨y0_2,y0_3,y0_10,y0_11,y0_12,x27,y0_14,y0_9⟩:aQ)),a1.bY,a1.eF,a1.dL,a1.Done⟩:aA):aA),0))) q5) q4) q3) q2) q1) q0)))
def MI (a1:aA) (a2:bK):Option (aA×Int):=(aDV a1 a2).run
theorem aWN {a1 a2 r} (h0:MI a1 a2=some r):PP Tryz.prog 149 [.agg (aA.av a1),.agg (bK.av a2)] (λy=>y=.bC [.agg (aA.av r.1),int r.2]) :=
 bU mixed bR (λr:aA×Int=>.bC [.agg (aA.av r.1),int r.2]) h0 Tryz.func149 (λr=>.bC (gD ((λ(a:aA)=>PV.agg (aA.dH a)) (r.1)) (bT (r.2)))) 100000 au
def UG (n:Nat) (a1:aA) (a2:bK):WT Tryz.prog (.b (aA×Int)) :=
 .al 1<|.al 2<|.al 3<|.bB 9 (decide (a2.Kind=1)) λx6=>.ifs [9] x6 (.cl 12 (ET n a1 a2) VT aF0 λx7=>.ret ((x7.1:aA),x7.2)) (.bB 16 (decide (a2.Kind=4)) λx8=>.jn 0 [2,3,4,5,7] [1,2,3] [] (λ_ (a:Bool)=>[(15,aT a)]) (λ_ _=>[]) (.ifs [15,16] x8 (.ret true) (.bB 17 (decide (a2.Kind=5)) λx9=>.ret x9)) (λy0_1=>.ifs [15] y0_1 (.cl 20 (LM n a1 a2) aQ1 aJA λx10=>.ret ((x10.1:aA),x10.2)) (.bB 24 (decide (a2.Kind=6)) λx11=>.jn 0 [2,3,4,5,7] [1,2,3] [] (λ_ (a:Bool)=>[(23,aT a)]) (λ_ _=>[]) (.ifs [23,24] x11 (.ret true) (.bB 25 (decide (a2.Kind=7)) λx12=>.ifs [25] x12 (.ret true) (.bB 26 (decide (a2.Kind=8)) λx13=>.ifs [26] x13 (.ret true) (.bB 27 (decide (a2.Kind=9)) λx14=>.ret x14)))) (λy1_1=>.ifs [23] y1_1 (.cl 30 (H7 n a1 a2) aPZ aPP λx15=>.ret ((x15.1:aA),x15.2)) (.bB 34 (decide (a2.Kind=2)) λx16=>.jn 0 [2,3,4,5,7] [1,2,3] [] (λ_ (a:Bool)=>[(33,aT a)]) (λ_ _=>[]) (.ifs [33,34] x16 (.ret true) (.bB 35 (decide (a2.Kind=3)) λx17=>.ret x17)) (λy2_1=>.ifs [33] y2_1 (.cl 38 (qT n a1 a2) VH YD λx18=>.ret ((x18.1:aA),x18.2)) (.bB 42 (decide (a2.Kind=11)) λx19=>.ifs [42] x19 (.cl 45 (IV n a1 a2) aW7 aVN λx20=>.ret ((x20.1:aA),x20.2)) (.bB 49 (decide (a2.Kind=12)) λx21=>.jn 0 [2,3,4,5,7] [1,2,3] [] (λ_ (a:Bool)=>[(48,aT a)]) (λ_ _=>[]) (.ifs [48,49] x21 (.ret true) (.bB 50 (decide (a2.Kind=13)) λx22=>.ret x22)) (λy3_1=>.ifs [48] y3_1 (.cl 53 (KL n a1 a2) aG4 aRW λx23=>.ret ((x23.1:aA),x23.2)) (.bB 57 (decide (a2.Kind=10)) λx24=>.ifs [57] x24 (.cl 60 (MI a1 a2) aWV aWN λx25=>.ret ((x25.1:aA),x25.2)) (.ret ((a1:aA),1))))))))))))
def MB (n:Nat) (a1:aA) (a2:bK):Option (aA×Int):=(UG n a1 a2).run
theorem aWH {n a1 a2 r} (h0:MB n a1 a2=some r):PP Tryz.prog 89 [.agg (aA.av a1),.agg (bK.av a2)] (λy=>y=.bC [.agg (aA.av r.1),int r.2]) :=
 bU mixed bR (λr:aA×Int=>.bC [.agg (aA.av r.1),int r.2]) h0 Tryz.func89 (λr=>.bC (gD ((λ(a:aA)=>PV.agg (aA.dH a)) (r.1)) (bT (r.2)))) 100000 au
def aDC (n:Nat) (a1:aA) (a2:bK):WT Tryz.prog (.b (aA×Int)) :=
 .al 1<|.al 2<|.al 3<|.cl 9 (wI n a2) OW R6 λx6=>.bB 10 (!x6) λx7=>.ifs [10] x7 (.ret ((a1:aA),1)) (.cl 15 (MB n a1 a2) aTH aWH λx8=>.al 4<|.bB 19 (decide (x8.2≠0)) λx10=>.ifs [19] x10 (.ret ((a1:aA),x8.2)) (.bI 24 (bA (x8.1.Done+1)) λx11=>.bl (if 288230376151711744<x11 then 288230376151711744 else x11:Int) λx12=>.gv 25<|.ret (((⟨x8.1.bH,x8.1.bD,x8.1.bY,x8.1.eF,x8.1.dL,x12⟩:aA):aA),0)))
def F3 (n:Nat) (a1:aA) (a2:bK):Option (aA×Int):=(aDC n a1 a2).run
theorem aL3 {n a1 a2 r} (h0:F3 n a1 a2=some r):PP Tryz.prog 47 [.agg (aA.av a1),.agg (bK.av a2)] (λy=>y=.bC [.agg (aA.av r.1),int r.2]) :=
 bU mixed bR (λr:aA×Int=>.bC [.agg (aA.av r.1),int r.2]) h0 Tryz.func47 (λr=>.bC (gD ((λ(a:aA)=>PV.agg (aA.dH a)) (r.1)) (bT (r.2)))) 100000 au
def XU (n:Nat) (a1:aA) (a2:bK):WT Tryz.prog (.b (aA×Int)) :=
 .al 1<|.al 2<|.al 3<|.cl 9 (wI n a2) OW R6 λx6=>.bB 10 (!x6) λx7=>.ifs [10] x7 (.ret ((a1:aA),1)) (.al 4<|.fD 1 [2,4,5,6] [1,3] [] (λ_ (a:Int×aA)=>[(7,int a.1)]) (λ_ a=>[.kp 4 [(aA.av a.2)]]) (.bB 21 (decide (a2.Kind=14)) λx9=>.ifs [21] x9 (.cl 26 (LW n a1 a2.E) aIF aO8 λx10=>.brk ((x10.2:Int),x10.1)) (.bB 30 (decide (a2.Kind=15)) λx11=>.ifs [30] x11 (.cl 35 (K8 n a1 a2.E) aR2 aPF λx12=>.brk ((x12.2:Int),x12.1)) (.bB 39 (decide (a2.Kind=16)) λx13=>.ifs [39] x13 (.cl 44 (KW n a1 a2.E) aI6 aKG λx14=>.brk ((x14.2:Int),x14.1)) (.cl 17 (F3 n a1 a2) aXZ aL3 λx15=>.esc (.ret ((x15.1:aA),x15.2)))))) (pw λy0_1 y0_2=>.bB 48 (decide (y0_1≠0)) λx16=>.ifs [48] x16 (.ret ((a1:aA),y0_1)) (.bI 53 (bA (y0_2.Done+1)) λx17=>.ret (((⟨y0_2.bH,y0_2.bD,y0_2.bY,y0_2.eF,y0_2.dL,x17⟩:aA):aA),0))))
def KJ (n:Nat) (a1:aA) (a2:bK):Option (aA×Int):=(XU n a1 a2).run
theorem aJQ {n a1 a2 r} (h0:KJ n a1 a2=some r):PP Tryz.prog 18 [.agg (aA.av a1),.agg (bK.av a2)] (λy=>y=.bC [.agg (aA.av r.1),int r.2]) :=
 bU mixed bR (λr:aA×Int=>.bC [.agg (aA.av r.1),int r.2]) h0 Tryz.func18 (λr=>.bC (gD ((λ(a:aA)=>PV.agg (aA.dH a)) (r.1)) (bT (r.2)))) 100000 au
def aC2 (n:Nat) (a1:fC) (a2:List Int):WT Tryz.prog (.b (aA)) :=
 .al 1<|.al 2<|.cl 11 (BR n a1) Y3 ZK λx5=>.al 3<|.cl 16 (M3 n a1 a2) aV9 aJL λx7=>.jn 1 [4,5] [2] [] (λ_ (a:aA)=>[]) (λ_ a=>[.kp 3 [(aA.av a)]]) (.lp [4,5,7] [2] [] (λ_ (a:Int×aA)=>[(8,int a.1)]) (λ_ a=>[.kp 3 [(aA.av a.2)]]) n ((0:Int),x5.1) (pw λy0_1 y0_2=>.ln 19 bK.av x7<|.bB 20 (decide (y0_1<(x7.length:Int))) λx8=>.ifs [20] x8 (.dr [(0,[3])] [(9,[])] [3] [9] [0,1,2,3,4,5,6,7,8,9] (.ix 27 bK.av x7 y0_1 λx9=>.cl 29 (KJ n y0_2 x9) aRR aJQ λx10=>.bI 22 (bA (y0_1+1)) λx11=>.brk ((x11:Int),x10.1))) (.esc (.ret y0_2)))) (λy1_1=>.ret ((y1_1:aA)))
def KV (n:Nat) (a1:fC) (a2:List Int):Option (aA):=(aC2 n a1 a2).run
theorem aVX {n a1 a2 r} (h0:KV n a1 a2=some r):PP Tryz.prog 12 [.agg (fC.av a1),aP 1 fI a2] (λy=>y=.agg (aA.av r)) :=
 bU mixed bR (λr:aA=>.agg (aA.av r)) h0 Tryz.func12 (λr=>(λ(a:aA)=>PV.agg (aA.dH a)) r) 100000 au
def aCQ (a1:bK) (a2:Int):WT Tryz.prog (.b (bK)) :=
 .al 1<|.al 2<|.cl 8 (xW a2 1073741824) JZ J7 λx5=>.gv 9<|.bI 11 (bA (x5.tdiv 16)) λx6=>.bI 12 (x6.tmod 12) λx7=>.bo (ix ([0,(-1),1,2,5,40,1073741824,1125899906842624,1125899906842625,(-9223372036854775808),9223372036854775807,3]:List Int) x7) λx8=>.gv 13<|.bI 15 (x5.tmod 16) λx9=>.bB 17 (decide (x9=0)) λx10=>.ifs [17] x10 (.ret (((⟨x8,a1.E,a1.Item,a1.Loc,a1.To,a1.aG,a1.bM,a1.Ref,a1.fA⟩:bK):bK))) (.bB 21 (decide (x9=1)) λx11=>.ifs [21] x11 (.ret (((⟨a1.Kind,x8,a1.Item,a1.Loc,a1.To,a1.aG,a1.bM,a1.Ref,a1.fA⟩:bK):bK))) (.bB 25 (decide (x9=2)) λx12=>.ifs [25] x12 (.ret (((⟨a1.Kind,a1.E,x8,a1.Loc,a1.To,a1.aG,a1.bM,a1.Ref,a1.fA⟩:bK):bK))) (.bB 29 (decide (x9=3)) λx13=>.ifs [29] x13 (.ret (((⟨a1.Kind,a1.E,a1.Item,x8,a1.To,a1.aG,a1.bM,a1.Ref,a1.fA⟩:bK):bK))) (.bB 33 (decide (x9=4)) λx14=>.ifs [33] x14 (.ret (((⟨a1.Kind,a1.E,a1.Item,a1.Loc,x8,a1.aG,a1.bM,a1.Ref,a1.fA⟩:bK):bK))) (.bB 37 (decide (x9=5)) λx15=>.ifs [37] x15 (.ret (((⟨a1.Kind,a1.E,a1.Item,a1.Loc,a1.To,x8,a1.bM,a1.Ref,a1.fA⟩:bK):bK))) (.bB 41 (decide (x9=6)) λx16=>.ifs [41] x16 (.ret (((⟨a1.Kind,a1.E,a1.Item,a1.Loc,a1.To,a1.aG,x8,a1.Ref,a1.fA⟩:bK):bK))) (.bB 45 (decide (x9=7)) λx17=>.ifs [45] x17 (.ret (((⟨a1.Kind,a1.E,a1.Item,a1.Loc,a1.To,a1.aG,a1.bM,x8,a1.fA⟩:bK):bK))) (.bB 49 (decide (x9=8)) λx18=>.ifs [49] x18 (.as (a1.fA.length<=68719476736) inferInstance<|.ge 52 3<|.to 54 (aP 1 fI ([x8]:List Int))<|.bl (a1.fA++([x8]:List Int):List Int) λx21=>.as (x21.length<=68719476736) inferInstance<|.ge 55 0<|.ret (((⟨a1.Kind,a1.E,a1.Item,a1.Loc,a1.To,a1.aG,a1.bM,a1.Ref,x21⟩:bK):bK))) (.ret ((a1:bK)))))))))))
def LX (a1:bK) (a2:Int):Option (bK):=(aCQ a1 a2).run
theorem aK4 {a1:bK} {a2:Int} {r:bK} (h0:LX a1 a2=some r):PP Tryz.prog 35 [.agg (bK.av a1),int a2] (λy=>y=.agg (bK.av r)):=by
 refine bU mixed bR (λ(r:bK)=>.agg (bK.av r)) h0 Tryz.func35 (λr=>(λ(a:bK)=>PV.agg (bK.dH a)) r) 100000 ?_
 intro v3
 intro v4
 refine .mk λx5 e5=>?_
 refine .mk _ (eH (CE (cs:=[int 0,int (-1),int 1,int 2,int 5,int 40,int 1073741824,int 1125899906842624,int 1125899906842625,int (-9223372036854775808),int 9223372036854775807,int 3]) (ps:=[(0,_),(1,_),(2,_),(3,_),(4,_),(5,_),(6,_),(7,_),(8,_),(9,_),(10,_),(11,_)]) rfl Tryz.underlying87 fO z87 rfl (.cons rfl (.cons rfl (.cons rfl (.cons rfl (.cons rfl (.cons rfl (.cons rfl (.cons rfl (.cons rfl (.cons rfl (.cons rfl (.cons rfl .nil)))))))))))) (by kernel_rfl))) ?_
 refine .mk λx6=>?_
 refine .mk λx7=>?_
 refine .mk λx8 e8=>?_
 refine .mk _ (eH (SX (g:=fI) (l:=([0,(-1),1,2,5,40,1073741824,1125899906842624,1125899906842625,(-9223372036854775808),9223372036854775807,3]:List Int)) (v:=x8) (w:=int x8) rfl Tryz.underlying87 fO rfl rfl rfl e8 (λ_=>rfl) hw1)) ?_
 refine .mk λx9=>?_
 refine .mk λx10=>?_
 refine .mk .mk ?_
 refine .mk λx11=>?_
 refine .mk .mk ?_
 refine .mk λx12=>?_
 refine .mk .mk ?_
 refine .mk λx13=>?_
 refine .mk .mk ?_
 refine .mk λx14=>?_
 refine .mk .mk ?_
 refine .mk λx15=>?_
 refine .mk .mk ?_
 refine .mk λx16=>?_
 refine .mk .mk ?_
 refine .mk λx17=>?_
 refine .mk .mk ?_
 refine .mk λx18=>?_
 refine .mk ?_ ?_
 refine .mk λp19=>?_
 refine .mk _ ⟨λ_=>pQ (g:=fI) (m:=a1.fA) 3 rfl Tryz.underlying22 kD nR rfl rfl rfl rfl (.refl _) (λ_=>rfl) p19,λ_ _ _=>trivial⟩ ?_
 rintro _ _ ⟨v20,rfl,rfl⟩
 refine .mk (eH (iH (y:=aP 1 fI ([x8]:List Int)) (jK (ps:=[(0,_)]) (rows:=[[int x8]]) rfl Tryz.underlying22 kD (.cons rfl .nil) (by kernel_rfl) rfl rfl rfl) rfl)) ?_
 refine .mk λx21 e21=>?_
 refine .mk λp22=>?_
 refine .mk _ ⟨λ_=>kY (g:=fI) (l:=a1.fA) (m:=([x8]:List Int)) .any rfl Tryz.underlying22 kD nR rfl rfl rfl rfl rfl rfl rfl rfl rfl rfl (Eq.symm rfl) (.refl _) (λ_=>rfl) e21 p22,λ_ _ _=>trivial⟩ ?_
 rintro _ _ ⟨v23,-,rfl,rfl⟩
 exact .mk (dX.agg (.cons (.refl _) (.cons (.refl _) (.cons (.refl _) (.cons (.refl _) (.cons (.refl _) (.cons (.refl _) (.cons (.refl _) (.cons (.refl _) (.cons (gJ rfl rfl rfl rfl rfl (Eq.symm rfl)) .nil))))))))))
 exact .mk
def TY (a1:aA) (a2:Int) (a3:Int):WT Tryz.prog (.b (Bool)) :=
 .al 1<|.jn 0 [1,3,6] [1] [] (λ_ (a:Bool)=>[(29,aT a)]) (λ_ _=>[]) (.bB 10 (decide (a2<0)) λx5=>.ifs [10] x5 (.ret true) (.ln 15 aQ.av a1.bD<|.bB 16 (decide (a2>=(a1.bD.length:Int))) λx6=>.ifs [16] x6 (.ret true) (.bB 20 (decide (a3<0)) λx7=>.ifs [20] x7 (.ret true) (.ln 27 fI a1.bH.bZ<|.bB 28 (decide (a3>=(a1.bH.bZ.length:Int))) λx8=>.ret x8)))) (λy0_1=>.ifs [29] y0_1 (.ret ((false:Bool))) (.dr [(0,[1]),(1,[1]),(5,[1]),(6,[1]),(7,[1])] [] [1] [9,10] [0,1,2,3,4,5,6,7,8,9,10,11] (.iF 33 aQ.av gE aQ.fF a1.bD a2 λx9=>.ln 38 fI a1.bH.bZ<|.al 2<|.jn 0 [] [] [] (λ_ (a:Bool)=>[(6,aT a)]) (λ_ _=>[]) (.ln 41 aH.av x9.bX<|.bI 43 (bA ((a1.bH.bZ.length:Int)*2)) λx11=>.bB 44 (decide ((x9.bX.length:Int)>=x11)) λx12=>.ifs [44] x12 (.ln 48 cO.av x9.dQ<|.bB 50 (decide ((x9.dQ.length:Int)>=(a1.bH.bZ.length:Int))) λx13=>.ifs [50] x13 (.ln 57 (fL 1 fI) a1.bH.Methods<|.bB 58 (decide (a2<(a1.bH.Methods.length:Int))) λx14=>.ifs [58] x14 (.ln 65 (fL 1 fI) a1.bH.gL<|.bB 66 (decide (a2<(a1.bH.gL.length:Int))) λx15=>.ifs [66] x15 (.ix 73 (fL 1 fI) a1.bH.Methods a2 λx16=>.ln 75 fI x16<|.bB 77 (decide ((x16.length:Int)>=(a1.bH.bZ.length:Int))) λx17=>.ifs [77] x17 (.ix 84 (fL 1 fI) a1.bH.gL a2 λx18=>.ln 86 fI x18<|.bB 88 (decide ((x18.length:Int)>=(a1.bH.bZ.length:Int))) λx19=>.ret x19) (.ret false)) (.ret false)) (.ret false)) (.ret false)) (.ret false)) (λy1_1=>.ret ((y1_1:Bool))))))
def AT (a1:aA) (a2:Int) (a3:Int):Option (Bool):=(TY a1 a2 a3).run
theorem OL {a1 a2 a3 r} (h0:AT a1 a2 a3=some r):PP Tryz.prog 90 [.agg (aA.av a1),int a2,int a3] (λy=>y=aT r) :=
 bU mixed bR (λr:Bool=>aT r) h0 Tryz.func90 (λr=>gF r) 100000 au
def WV (a1:aA) (a2:Int) (a3:Int):WT Tryz.prog (.b (Int)) :=
 .al 1<|.cl 11 (AT a1 a2 a3) QF OL λx5=>.bB 12 (!x5) λx6=>.ifs [12] x6 (.ret ((4:Int))) (.iF 17 aQ.av gE aQ.fF a1.bD a2 λx7=>.wt 13 <|.ifs [13] x7.Closed (.ret ((7:Int))) (.ret ((0:Int))))
def JK (a1:aA) (a2:Int) (a3:Int):Option (Int):=(WV a1 a2 a3).run
theorem aSI {a1 a2 a3 r} (h0:JK a1 a2 a3=some r):PP Tryz.prog 48 [.agg (aA.av a1),int a2,int a3] (λy=>y=int r) :=
 bU mixed bR (λr:Int=>int r) h0 Tryz.func48 (λr=>bT r) 100000 au
def X5 (a1:Int) (a2:Int) (a3:Int):WT Tryz.prog (.b (Bool)) :=
 .jn 1 [] [] [] (λ_ (a:Bool)=>[(6,aT a)]) (λ_ _=>[]) (.bB 9 (decide (a1>=a2)) λx4=>.ifs [9] x4 (.bB 13 (decide (a1<=a3)) λx5=>.ret x5) (.ret false)) (λy0_1=>.ret ((y0_1:Bool)))
def GA (a1:Int) (a2:Int) (a3:Int):Option (Bool):=(X5 a1 a2 a3).run
theorem aUC {a1 a2 a3 r} (h0:GA a1 a2 a3=some r):PP Tryz.prog 212 [int a1,int a2,int a3] (λy=>y=aT r) :=
 bU mixed bR (λr:Bool=>aT r) h0 Tryz.func212 (λr=>gF r) 100000 au
def aGK (a1:aA) (a2:Int) (a3:Int) (a4:Int):WT Tryz.prog (.b (Int)) :=
 .al 1<|.jn 0 [2,3,8] [] [] (λ_ (a:Bool)=>[(18,aT a)]) (λ_ _=>[]) (.cl 12 (AT a1 a2 a3) QF OL λx6=>.bB 13 (!x6) λx7=>.ifs [13] x7 (.ret true) (.cl 16 (GA a4 0 1) aWI aUC λx8=>.bB 17 (!x8) λx9=>.ret x9)) (λy0_1=>.ifs [18] y0_1 (.ret (((-1):Int))) (.bI 20 (bA (a3*2)) λx10=>.bI 22 (bA (x10+a4)) λx11=>.ret ((x11:Int))))
def J8 (a1:aA) (a2:Int) (a3:Int) (a4:Int):Option (Int):=(aGK a1 a2 a3 a4).run
theorem aXE {a1 a2 a3 a4 r} (h0:J8 a1 a2 a3 a4=some r):PP Tryz.prog 153 [.agg (aA.av a1),int a2,int a3,int a4] (λy=>y=int r) :=
 bU mixed bR (λr:Int=>int r) h0 Tryz.func153 (λr=>bT r) 100000 au
def aMC (a1:aH) (a2:List aB):WT Tryz.prog (.b (aH)) :=
 .al 1<|.al 2<|.ret (((⟨a2,a1.bN⟩:aH):aH))
def wL (a1:aH) (a2:List aB):Option (aH):=(aMC a1 a2).run
theorem yT {a1 a2 r} (h0:wL a1 a2=some r):PP Tryz.prog 246 [.agg (aH.av a1),aP 3 aB.av a2] (λy=>y=.agg (aH.av r)) :=
 bU mixed bR (λr:aH=>.agg (aH.av r)) h0 Tryz.func246 (λr=>(λ(a:aH)=>PV.agg (aH.dH a)) r) 100000 au
def aDN (a1:aH):WT Tryz.prog (.b (aH)) :=
 .al 1<|.al 2<|.dr [(0,[1]),(1,[1]),(2,[1])] [(4,[]),(5,[])] [1] [3,4,5] [0,1,2,3,4,5] (.as (a1.aW.length<=68719476736) inferInstance<|.ge 6 3<|.inl 7 xE Tryz.func246 [1,2,3] [] (λu2 (a:Unit)=>.agg [.sl 3 (u2 3) 0 a1.aW.length,int a1.bN.a0,int a1.bN.a1,int a1.bN.a2]) (λ_ _=>[]) (.al 4<|.al 5<|.ret ()) (λ_=>.ret ((a1:aH))))
def nD (a1:aH):Option (aH):=(aDN a1).run
theorem oU {a1:aH} {r:aH} (h0:nD a1=some r):PP Tryz.prog 214 [.agg (aH.av a1)] (λy=>y=.agg (aH.av r)):=by
 refine bU mixed bR (λ(r:aH)=>.agg (aH.av r)) h0 Tryz.func214 (λr=>(λ(a:aH)=>PV.agg (aH.dH a)) r) 100000 ?_
 intro v2
 intro v3
 refine .mk ?_
 refine .mk λp4=>?_
 refine .mk _ ⟨λ_=>mM rfl rfl (.cons rfl .nil) wZ (nC (yL (id:=3) (l:=a1.aW) rfl p4) (.cons (.refl _) .nil)),by rintro _ _ ⟨v5,rfl,rfl⟩;exact ⟨rfl,trivial⟩⟩ ?_
 rintro _ _ ⟨v5,rfl,rfl⟩
 refine .mk ?_ ?_
 intro v6
 intro v7
 exact .mk
 intro _ _
 refine .mk trivial ?_
 exact .mk (dX.agg (.cons (gJ rfl rfl rfl rfl rfl (Eq.symm rfl)) (.cons (.refl _) (.cons (.refl _) (.cons (.refl _) .nil)))))
def aDR (n:Nat) (a1:List aB) (a2:Int):WT Tryz.prog (.b (Bool)) :=
 .ln 8 aB.av a1<|.fD 0 [4] [] [] (λ_ (a:Unit)=>[]) (λ_ _=>[]) (.lp [4,7,8] [] [] (λ_ (a:Int×Int)=>[(1,int a.1),(9,int a.2)]) (λ_ _=>[]) n ((a2:Int),0) (pw λy0_1 y0_2=>.bB 10 (decide (y0_2<(a1.length:Int))) λx3=>.ifs [10] x3 (.ix 11 aB.av a1 y0_2 λx4=>.al 1<|.bl (if 0>x4.aG then 0 else x4.aG:Int) λx6=>.gv 16<|.bl (if y0_1<x6 then y0_1 else x6:Int) λx7=>.gv 18<|.bI 19 (bA (y0_1-x7)) λx8=>.bB 21 (decide (x8=0)) λx9=>.ifs [21] x9 (.esc (.esc (.ret ((true:Bool))))) (.bI 22 (bA (y0_2+1)) λx10=>.brk ((x8:Int),x10))) (.esc (.brk ())))) (λ_=>.ret ((false:Bool)))
def FE (n:Nat) (a1:List aB) (a2:Int):Option (Bool):=(aDR n a1 a2).run
theorem aBX {n a1 a2 r} (h0:FE n a1 a2=some r):PP Tryz.prog 275 [aP 3 aB.av a1,int a2] (λy=>y=aT r) :=
 bU mixed bR (λr:Bool=>aT r) h0 Tryz.func275 (λr=>gF r) 100000 au
def aCO (a1:Int):WT Tryz.prog (.b (Bool)) :=
 .jn 1 [] [] [] (λ_ (a:Bool)=>[(2,aT a)]) (λ_ _=>[]) (.bB 4 (decide (a1>=(-288230376151711744))) λx2=>.ifs [4] x2 (.bB 7 (decide (a1<=288230376151711744)) λx3=>.ret x3) (.ret false)) (λy0_1=>.ret ((y0_1:Bool)))
def xU (a1:Int):Option (Bool):=(aCO a1).run
theorem F5 {a1 r} (h0:xU a1=some r):PP Tryz.prog 162 [int a1] (λy=>y=aT r) :=
 bU mixed bR (λr:Bool=>aT r) h0 Tryz.func162 (λr=>gF r) 100000 au
def aD1 (a1:Int) (a2:Int):WT Tryz.prog (.b (Int×Int)) :=
 .bI 11 (wu64 a1) λx3=>.bI 13 (wu64 a2) λx4=>.bI 15 (x3.tmod 4294967296) λx5=>.bI 17 (x4.tmod 4294967296) λx6=>.bI 18 (wu64 (x5*x6)) λx7=>.bI 20 (wu64 (x3.tdiv 4294967296)) λx8=>.bI 22 (x4.tmod 4294967296) λx9=>.bI 23 (wu64 (x8*x9)) λx10=>.bI 25 (x3.tmod 4294967296) λx11=>.bI 27 (wu64 (x4.tdiv 4294967296)) λx12=>.bI 28 (wu64 (x11*x12)) λx13=>.bI 30 (wu64 (x3.tdiv 4294967296)) λx14=>.bI 32 (wu64 (x4.tdiv 4294967296)) λx15=>.bI 33 (wu64 (x14*x15)) λx16=>.gv 34<|.al 1<|.gv 35<|.bI 37 (wu64 (x7.tdiv 4294967296)) λx18=>.gv 38<|.bI 40 (x10.tmod 4294967296) λx19=>.bI 41 (wu64 (x18+x19)) λx20=>.gv 42<|.bI 44 (x13.tmod 4294967296) λx21=>.bI 45 (wu64 (x20+x21)) λx22=>.gv 46<|.gv 48<|.bI 50 (wu64 (x10.tdiv 4294967296)) λx23=>.bI 51 (wu64 (x16+x23)) λx24=>.gv 52<|.bI 54 (wu64 (x13.tdiv 4294967296)) λx25=>.bI 55 (wu64 (x24+x25)) λx26=>.bI 57 (wu64 (x22.tdiv 4294967296)) λx27=>.bI 58 (wu64 (x26+x27)) λx28=>.bI 61 (wu64 (x3*x4)) λx29=>.ret ((x28:Int),x29)
def G7 (a1:Int) (a2:Int):Option (Int×Int):=(aD1 a1 a2).run
theorem aG8 {a1:Int} {a2:Int} {r:Int×Int} (h0:G7 a1 a2=some r):PP Tryz.prog 218 [int a1,int a2] (λy=>y=.bC [.sc (.int .u64 r.1),.sc (.int .u64 r.2)]):=by
 refine bU mixed bR (λ(r:Int×Int)=>.bC [.sc (.int .u64 r.1),.sc (.int .u64 r.2)]) h0 Tryz.func218 (λr=>.bC (gD ((zT .u64) (r.1)) ((zT .u64) (r.2)))) 100000 ?_
 refine .mk λx3=>?_
 refine .mk λx4=>?_
 refine .mk λx5=>?_
 refine .mk λx6=>?_
 refine .mk λx7=>?_
 refine .mk λx8=>?_
 refine .mk λx9=>?_
 refine .mk λx10=>?_
 refine .mk λx11=>?_
 refine .mk λx12=>?_
 refine .mk λx13=>?_
 refine .mk λx14=>?_
 refine .mk λx15=>?_
 refine .mk λx16=>?_
 refine .mk _ (eH (CE (cs:=[.sc (.int .u64 x7),.sc (.int .u64 x10),.sc (.int .u64 x13),.sc (.int .u64 x16)]) (ps:=[(0,_),(1,_),(2,_),(3,_)]) rfl Tryz.underlying249 xC VM rfl (.cons rfl (.cons rfl (.cons rfl (.cons rfl .nil)))) (by kernel_rfl))) ?_
 intro v17
 refine .mk _ (eH (iH (y:=.pt 1 v17 0 0) (lV rfl Tryz.underlying249 xC rfl rfl rfl rfl rfl (by decide)) rfl)) ?_
 refine .mk λx18=>?_
 refine .mk _ (eH (iH (y:=.pt 1 v17 0 1) (lV rfl Tryz.underlying249 xC rfl rfl rfl rfl rfl (by decide)) rfl)) ?_
 refine .mk λx19=>?_
 refine .mk λx20=>?_
 refine .mk _ (eH (iH (y:=.pt 1 v17 0 2) (lV rfl Tryz.underlying249 xC rfl rfl rfl rfl rfl (by decide)) rfl)) ?_
 refine .mk λx21=>?_
 refine .mk λx22=>?_
 refine .mk _ (eH (iH (y:=.pt 1 v17 0 3) (lV rfl Tryz.underlying249 xC rfl rfl rfl rfl rfl (by decide)) rfl)) ?_
 refine .mk _ (eH (iH (y:=.pt 1 v17 0 1) (lV rfl Tryz.underlying249 xC rfl rfl rfl rfl rfl (by decide)) rfl)) ?_
 refine .mk λx23=>?_
 refine .mk λx24=>?_
 refine .mk _ (eH (iH (y:=.pt 1 v17 0 2) (lV rfl Tryz.underlying249 xC rfl rfl rfl rfl rfl (by decide)) rfl)) ?_
 refine .mk λx25=>?_
 refine .mk λx26=>?_
 refine .mk λx27=>?_
 refine .mk λx28=>?_
 refine .mk λx29=>?_
 exact .mk
def aAY (a1:Int):WT Tryz.prog (.b (Int)) :=
 .bB 4 (decide (a1>=4294967296)) λx2=>.jn 0 [] [] [] (λ_ (a:Int×Int)=>[(0,.sc (.int .u64 a.1)),(2,int a.2)]) (λ_ _=>[]) (.ifs [4] x2 (.bI 6 (a1.fdiv (2 ^ (min (32:Int).toNat IntKind.u64.bits))) λx3=>.ret ((x3:Int),32)) (.ret ((a1:Int),0))) (pw λy0_1 y0_2=>.bB 8 (decide (y0_1>=65536)) λx4=>.jn 0 [] [] [] (λ_ (a:Int×Int)=>[(0,.sc (.int .u64 a.1)),(2,int a.2)]) (λ_ _=>[]) (.ifs [8] x4 (.bI 10 (y0_1.fdiv (2 ^ (min (16:Int).toNat IntKind.u64.bits))) λx5=>.bI 12 (bA (y0_2+16)) λx6=>.ret ((x5:Int),x6)) (.ret ((y0_1:Int),y0_2))) (pw λy1_1 y1_2=>.bB 14 (decide (y1_1>=256)) λx7=>.jn 0 [] [] [] (λ_ (a:Int×Int)=>[(0,.sc (.int .u64 a.1)),(2,int a.2)]) (λ_ _=>[]) (.ifs [14] x7 (.bI 16 (y1_1.fdiv (2 ^ (min (8:Int).toNat IntKind.u64.bits))) λx8=>.bI 18 (bA (y1_2+8)) λx9=>.ret ((x8:Int),x9)) (.ret ((y1_1:Int),y1_2))) (pw λy2_1 y2_2=>.bI 21 (DL y2_1) λx10=>.bo (ix ([0,1,2,2,3,3,3,3,4,4,4,4,4,4,4,4,5,5,5,5,5,5,5,5,5,5,5,5,5,5,5,5,6,6,6,6,6,6,6,6,6,6,6,6,6,6,6,6,6,6,6,6,6,6,6,6,6,6,6,6,6,6,6,6,7,7,7,7,7,7,7,7,7,7,7,7,7,7,7,7,7,7,7,7,7,7,7,7,7,7,7,7,7,7,7,7,7,7,7,7,7,7,7,7,7,7,7,7,7,7,7,7,7,7,7,7,7,7,7,7,7,7,7,7,7,7,7,7,8,8,8,8,8,8,8,8,8,8,8,8,8,8,8,8,8,8,8,8,8,8,8,8,8,8,8,8,8,8,8,8,8,8,8,8,8,8,8,8,8,8,8,8,8,8,8,8,8,8,8,8,8,8,8,8,8,8,8,8,8,8,8,8,8,8,8,8,8,8,8,8,8,8,8,8,8,8,8,8,8,8,8,8,8,8,8,8,8,8,8,8,8,8,8,8,8,8,8,8,8,8,8,8,8,8,8,8,8,8,8,8,8,8,8,8,8,8,8,8,8,8,8,8,8,8,8,8]:List UInt8) x10) λx11=>.gv 22<|.bI 23 (bA (x11.toNat:Int)) λx12=>.bI 24 (bA (y2_2+x12)) λx13=>.ret ((x13:Int)))))
def FX (a1:Int):Option (Int):=(aAY a1).run
theorem aNO {a1 r} (h0:FX a1=some r):PP Tryz.prog 250 [.sc (.int .u64 a1)] (λy=>y=int r) :=
 bU mixed bR (λr:Int=>int r) h0 Tryz.func250 (λr=>bT r) 100000 au
def XJ (a1:Int):WT Tryz.prog (.b (Int)) :=
 .cl 4 (FX a1) aN4 aNO λx2=>.bI 5 (bA (64-x2)) λx3=>.ret ((x3:Int))
def KS (a1:Int):Option (Int):=(XJ a1).run
theorem aJP {a1 r} (h0:KS a1=some r):PP Tryz.prog 247 [.sc (.int .u64 a1)] (λy=>y=int r) :=
 bU mixed bR (λr:Int=>int r) h0 Tryz.func247 (λr=>bT r) 100000 au
end
end Go.Pv
