import Derived.Test.YtkgnickfdedbmabGreatXCl
set_option linter.unusedVariables false
set_option linter.unusedSimpArgs false
namespace Go.Pv
open Go.Proofs
set_option maxRecDepth 100000
set_option maxHeartbeats 4000000
noncomputable section
def aIW (n:Nat) (a1:aA) (a2:aS):WB (aA×Int) :=
 .al 1<|.al 2<|.al 3<|.gv 17<|.dF 0 [2,3,4,5] [1,2,3] [] (λ_ (a:Unit)=>[]) (λ_ _=>[]) (.lp [2,3,4,5,17] [1,2,3] [] (λ_ (a:Int)=>[(18,int a)]) (λ_ _=>[]) n 0 (λy0_1=>.bB 19 (decide (y0_1<2)) λx6=>.ifs [19] x6 (.bo (ix ([a2.E,a2.To]:List Int) y0_1) λx7=>.gv 20<|.cl 25 (lH a1 x7 a2.Item) mI mU λx8=>.bB 27 (decide (x8≠0)) λx9=>.ifs [27] x9 (.esc (.esc (.ret ((a1:aA),x8)))) (.bI 30 (aI (y0_1+1)) λx10=>.brk x10)) (.esc (.brk ())))) (λ_=>.ln 33 dB.av a1.bY<|.bB 34 (decide ((a1.bY.length:Int)>=40)) λx11=>.ifs [34] x11 (.ret ((a1:aA),6)) (.cl 46 (rR n a1 a2.E a2.Item a2.Loc 3 a2.aQ) vS wP λx12=>.al 4<|.bB 52 (decide (x12.2.2.2≠0)) λx14=>.ifs [52] x14 (.ret ((x12.1:aA),x12.2.2.2)) (.dr [(0,[1]),(1,[2]),(2,[2]),(3,[2]),(4,[2]),(6,[2]),(7,[2]),(10,[4]),(11,[4]),(13,[4]),(14,[4]),(19,[2]),(20,[2]),(21,[2]),(22,[2]),(24,[2]),(25,[2])] [(35,[])] [1,2,4] [35] [0,1,2,3,4,5,6,7,8,9,10,11,12,13,14,15,16,17,18,19,20,21,22,23,24,25,26,27,28,29,30,31,32,33,34,35,36] (.cl 61 (nR 13 a2.bD) oP pE λx15=>.bI 64 (aI (0-a2.bD)) λx16=>.cl 65 (nR 15 x16) oP pE λx17=>.cl 68 (nR 16 x12.2.1.Value) oP pE λx18=>.bI 71 (aI (0-x12.2.1.Value)) λx19=>.cl 72 (nR 0 x19) oP pE λx20=>.to 73 (aD 2 aH.av ([x15,x17,x18,x20]:List aH))<|.cl 79 (nR 12 a2.bD) oP pE λx21=>.bI 82 (aI (0-a2.bD)) λx22=>.cl 83 (nR 14 x22) oP pE λx23=>.to 84 (aD 2 aH.av ([x21,x23]:List aH))<|.to 86 (aD 2 gG.av ([(⟨a2.E,([x15,x17,x18,x20]:List aH)⟩:gG),(⟨a2.To,([x21,x23]:List aH)⟩:gG)]:List gG))<|.cl 87 (EC n x12.1 ([(⟨a2.E,([x15,x17,x18,x20]:List aH)⟩:gG),(⟨a2.To,([x21,x23]:List aH)⟩:gG)]:List gG)) OA SG λx24=>.bB 91 (decide (x24.2≠0)) λx25=>.ifs [91] x25 (.ret ((x24.1:aA),x24.2)) (.cl 103 (qD x24.1 a2.E a2.Item (⟨0,0,0,0,0,0,x12.2.1.Value,0,0,0,0⟩:bM)) sH sO λx26=>.bB 107 (decide (x26.2≠0)) λx27=>.ifs [107] x27 (.ret ((x26.1:aA),x26.2)) (.bI 114 (aI (a2.bD-x12.2.1.Value)) λx28=>.bI 117 (aI (x28+x12.2.1.bO)) λx29=>.jn 0 [2,3,4,5,12] [1,2,3] [] (λ_ (a:Bool)=>[(123,aF a)]) (λ_ _=>[]) (.bB 119 (decide (x29<(-288230376151711744))) λx30=>.ifs [119] x30 (.ret true) (.bB 122 (decide (x29>288230376151711744)) λx31=>.ret x31)) (λy2_1=>.ifs [123] y2_1 (.ret ((x26.1:aA),2)) (.dr [(0,[1]),(1,[1]),(3,[2]),(4,[2]),(5,[2]),(6,[2]),(7,[2]),(8,[2]),(9,[2]),(10,[2]),(11,[2]),(12,[2]),(17,[1])] [(2,[2]),(16,[]),(18,[])] [1,2] [2,16,18] [0,1,3,4,5,6,7,8,9,10,11,12,13,14,15,2,16,17,18] (.to 140 (aD 6 dB.av ([(⟨a2.E,a2.To,a2.Item,a2.aQ,a2.bD,x29⟩:dB)]:List dB))<|.as (x26.1.bY.length<=68719476736) inferInstance<|.ge 127 5<|.bl (x26.1.bY++([(⟨a2.E,a2.To,a2.Item,a2.aQ,a2.bD,x29⟩:dB)]:List dB):List dB) λx34=>.as (x34.length<=68719476736) inferInstance<|.ge 141 0<|.ret (((⟨x26.1.bA,x26.1.aW,x26.1.bP,x26.1.bU,x34,x26.1.Done⟩:aA):aA),0))))))))))
def KJ (n:Nat) (a1:aA) (a2:aS):Option (aA×Int):=(aIW n a1 a2).run
theorem Y8 {n a1 a2}:PZ (KJ n a1 a2) 64 [.agg (aA.av a1),.agg (aS.av a2)] (λr=>.aU [.agg (aA.av r.1),int r.2]):=by
 refine wm Tryz.func64 ?_
 intro v3
 intro v4
 intro v5
 refine .mk _ (bE (qJ (cs:=[int a2.E,int a2.To]) (ps:=[(0,_),(1,_)]) rfl Tryz.underlying177 fC aMN rfl (.cons rfl (.cons rfl .nil)) (by kernel_rfl))) ?_
 refine .mk ?_ ?_
 refine .mk ?_
 intro _ _
 refine .mk λx6=>?_
 refine .mk ?_ ?_
 refine .mk λx7 e7=>?_
 refine .mk _ (bE (uR (g:=fI) (l:=([a2.E,a2.To]:List Int)) (v:=x7) (w:=int x7) rfl Tryz.underlying177 fC rfl rfl rfl e7 (λ_=>rfl) hw1)) ?_
 refine .mk λx8 e8=>?_
 refine .mk λx9=>?_
 refine .mk .mk ?_
 refine .mk λx10=>?_
 exact .mk
 exact .mk
 intro _ _
 refine .mk ?_
 refine .mk λx11=>?_
 refine .mk .mk ?_
 refine .mk λx12 e12=>?_
 intro v13
 refine .mk λx14=>?_
 refine .mk .mk ?_
 refine .mk ?_
 refine .mk λx15 e15=>?_
 refine .mk λx16=>?_
 refine .mk λx17 e17=>?_
 refine .mk λx18 e18=>?_
 refine .mk λx19=>?_
 refine .mk λx20 e20=>?_
 refine .mk (λH hH _=>bX (y:=aD 2 aH.av ([x15,x17,x18,x20]:List aH)) (dQ (ps:=[(0,_),(1,_),(2,_),(3,_)]) (rows:=[[int x15.fM,int x15.bD],[int x17.fM,int x17.bD],[int x18.fM,int x18.bD],[int x20.fM,int x20.bD]]) rfl Tryz.underlying94 l5 (.cons rfl (.cons rfl (.cons rfl (.cons rfl .nil)))) (by kernel_rfl) rfl rfl rfl) rfl) ?_
 refine .mk λx21 e21=>?_
 refine .mk λx22=>?_
 refine .mk λx23 e23=>?_
 refine .mk (λH hH _=>bX (y:=aD 2 aH.av ([x21,x23]:List aH)) (dQ (ps:=[(0,_),(1,_)]) (rows:=[[int x21.fM,int x21.bD],[int x23.fM,int x23.bD]]) rfl Tryz.underlying94 l5 (.cons rfl (.cons rfl .nil)) (by kernel_rfl) rfl rfl rfl) rfl) ?_
 refine .mk (λH hH _=>bX (y:=aD 2 gG.av ([(⟨a2.E,([x15,x17,x18,x20]:List aH)⟩:gG),(⟨a2.To,([x21,x23]:List aH)⟩:gG)]:List gG)) (dQ (ps:=[(0,_),(1,_)]) (rows:=[[int a2.E,aD 2 aH.av ([x15,x17,x18,x20]:List aH)],[int a2.To,aD 2 aH.av ([x21,x23]:List aH)]]) rfl Tryz.underlying228 aHU (.cons rfl (.cons rfl .nil)) (by kernel_rfl) rfl rfl rfl) rfl) ?_
 refine .mk λx24 e24=>?_
 refine .mk λx25=>?_
 refine .mk .mk ?_
 refine .mk λx26 e26=>?_
 refine .mk λx27=>?_
 refine .mk .mk ?_
 refine .mk λx28=>?_
 refine .mk λx29=>?_
 refine .mk ?_ ?_
 refine .mk λx30=>?_
 refine .mk .mk ?_
 refine .mk λx31=>?_
 exact .mk
 intro _ _
 refine .mk .mk ?_
 refine .mk ?_
 refine .mk (λH hH _=>bX (y:=aD 6 dB.av ([(⟨a2.E,a2.To,a2.Item,a2.aQ,a2.bD,x29⟩:dB)]:List dB)) (dQ (ps:=[(0,_)]) (rows:=[[int a2.E,int a2.To,int a2.Item,int a2.aQ,int a2.bD,int x29]]) rfl Tryz.underlying29 ET (.cons rfl .nil) (by kernel_rfl) rfl rfl rfl) rfl) ?_
 refine .mk λp32=>?_
 refine .mk _ ⟨λ_=>d9 rfl rfl (.cons rfl .nil) QW (iK (TQ.pc (id:=5) (l:=x26.1.bY) rfl p32) (.cons (.refl _) .nil)),by rintro _ _ ⟨v33,rfl,rfl⟩;exact ⟨rfl,trivial⟩⟩ ?_
 rintro _ _ ⟨v33,rfl,rfl⟩
 refine .mk λx34 e34=>?_
 refine .mk λp35=>?_
 refine .mk _ ⟨λ_=>jU (g:=dB.av) (l:=x26.1.bY) (m:=([(⟨a2.E,a2.To,a2.Item,a2.aQ,a2.bD,x29⟩:dB)]:List dB)) .any rfl Tryz.underlying29 ET K5 rfl rfl rfl rfl rfl rfl rfl rfl rfl rfl (Eq.symm rfl) (.refl _) (λ_=>rfl) e34 p35,by rintro _ _ ⟨v36,-,rfl,rfl⟩;exact trivial⟩ ?_
 rintro _ _ ⟨v36,-,rfl,rfl⟩
 exact .mk (bK.aU (.cons (bK.agg (.cons (.refl _) (.cons (.refl _) (.cons (.refl _) (.cons (.refl _) (.cons (.refl _) (.cons (.refl _) (.cons (.refl _) (.cons (.refl _) (.cons (dH rfl rfl rfl rfl rfl (Eq.symm rfl)) (.cons (.refl _) .nil))))))))))) (.cons (.refl _) .nil)))
def aLH (n:Nat) (a1:aA) (a2:aS):WB (aA×Int) :=
 .al 1<|.al 2<|.al 3<|.jn 0 [2,3,4,5] [1,2,3] [] (λ_ (a:Bool)=>[(23,aF a)]) (λ_ _=>[]) (.bB 15 (decide (a2.Ref<0)) λx6=>.ifs [15] x6 (.ret true) (.ln 21 dB.av a1.bY<|.bB 22 (decide (a2.Ref>=(a1.bY.length:Int))) λx7=>.ret x7)) (λy0_1=>.ifs [23] y0_1 (.ret ((a1:aA),4)) (.ix 29 dB.av a1.bY a2.Ref λx8=>.al 4<|.cl 36 (lH a1 x8.To x8.Item) mI mU λx10=>.bB 38 (decide (x10≠0)) λx11=>.ifs [38] x11 (.ret ((a1:aA),x10)) (.bB 45 (decide (a2.aQ>x8.aQ)) λx12=>.ifs [45] x12 (.ret ((a1:aA),5)) (.dr [(0,[4]),(1,[4]),(2,[2]),(3,[2]),(4,[4]),(5,[4]),(7,[4]),(8,[4]),(9,[2]),(10,[2]),(11,[4]),(12,[4])] [] [2,4] [] [0,1,2,3,4,5,6,7,8,9,10,11,12,13,14,15] (.cl 53 (mX n x8.Value a2.aQ x8.aQ) nN nU λx13=>.cl 60 (mX n x8.bO a2.aQ x8.aQ) nN nU λx14=>.cl 74 (uU n a1 x8.To x8.Item a2.Loc (⟨a2.aQ,x13,x14⟩:aB)) y9 yA λx15=>.bB 80 (decide (x15.2.2.2≠0)) λx16=>.ifs [80] x16 (.ret ((x15.1:aA),x15.2.2.2)) (.dr [(0,[1]),(1,[4]),(2,[4])] [(17,[])] [1,4] [17] [0,1,2,3,4,5,6,7,8,9,10,11,12,13,14,15,16,17,18] (.cl 88 (nR 0 x15.2.1) oP pE λx17=>.cl 90 (nR 6 x15.2.2.1) oP pE λx18=>.bI 92 (aI (0-x13)) λx19=>.cl 93 (nR 12 x19) oP pE λx20=>.to 94 (aD 2 aH.av ([x17,x18,x20]:List aH))<|.to 96 (aD 2 gG.av ([(⟨x8.To,([x17,x18,x20]:List aH)⟩:gG)]:List gG))<|.cl 97 (EC n x15.1 ([(⟨x8.To,([x17,x18,x20]:List aH)⟩:gG)]:List gG)) OA SG λx21=>.bB 101 (decide (x21.2≠0)) λx22=>.ifs [101] x22 (.ret ((x21.1:aA),x21.2)) (.cl 112 (qD x21.1 x8.To x8.Item (⟨0,0,0,x15.2.1,0,0,0,0,0,0,0⟩:bM)) sH sO λx23=>.bB 116 (decide (x23.2≠0)) λx24=>.ifs [116] x24 (.ret ((x23.1:aA),x23.2)) (.as (x23.1.bY.length<=68719476736) inferInstance<|.ge 121 5<|.dr [(0,[1]),(1,[1]),(2,[2]),(3,[2]),(4,[1]),(5,[1]),(6,[2]),(7,[2]),(8,[1]),(9,[1]),(10,[2]),(11,[2]),(12,[4]),(13,[4]),(14,[2]),(15,[2]),(17,[4]),(18,[4]),(21,[4]),(22,[4]),(25,[5]),(26,[5]),(28,[5]),(29,[5]),(31,[5]),(32,[5])] [(27,[1,2,4]),(30,[1,2,4]),(33,[])] [1,2,4,5] [27,30,33] [0,1,2,3,4,5,6,7,8,9,10,11,12,13,14,15,16,17,18,19,20,21,22,23,24,25,26,27,28,29,30,31,32,33] (.bI 139 (aI (x8.aQ-a2.aQ)) λx27=>.bI 143 (aI (x8.Value-x13)) λx28=>.bI 147 (aI (x8.bO-x14)) λx29=>.bo (ix x23.1.bY a2.Ref) λx30=>.gv 148<|.gv 149<|.bl (x23.1.bY.set (Int.toNat a2.Ref) ((⟨x30.tH,x30.To,x30.Item,x27,x30.Value,x30.bO⟩:dB):dB):List dB) λx31=>.ge 1020027 0<|.gv 150<|.gv 151<|.bl (x31.set (Int.toNat a2.Ref) ((⟨x30.tH,x30.To,x30.Item,x27,x28,x30.bO⟩:dB):dB):List dB) λx32=>.ge 1020030 0<|.gv 152<|.gv 153<|.bl (x32.set (Int.toNat a2.Ref) ((⟨x30.tH,x30.To,x30.Item,x27,x28,x29⟩:dB):dB):List dB) λx33=>.ge 1020033 0<|.ret (((⟨x23.1.bA,x23.1.aW,x23.1.bP,x23.1.bU,x33,x23.1.Done⟩:aA):aA),0)))))))))))
def T9 (n:Nat) (a1:aA) (a2:aS):Option (aA×Int):=(aLH n a1 a2).run
theorem aJM {n a1 a2}:PZ (T9 n a1 a2) 65 [.agg (aA.av a1),.agg (aS.av a2)] (λr=>.aU [.agg (aA.av r.1),int r.2]):=wq Tryz.func65
def aEK (n:Nat) (a1:aA) (a2:aS):WB (aA×Int) :=
 .al 1<|.al 2<|.al 3<|.al 4<|.jn 1 [2,4,5,6] [1,3] [] (λ_ (a:Int×aA)=>[(7,int a.1)]) (λ_ a=>[.kp 4 [(aA.av a.2)]]) (.bB 12 (decide (a2.Kind=12)) λx7=>.ifs [12] x7 (.cl 16 (KJ n a1 a2) Y9 Y8 λx8=>.ret ((x8.2:Int),x8.1)) (.bB 20 (decide (a2.Kind=13)) λx9=>.ifs [20] x9 (.cl 24 (T9 n a1 a2) aJL aJM λx10=>.ret ((x10.2:Int),x10.1)) (.ret ((1:Int),a1)))) (pw λy0_1 y0_2=>.bB 28 (decide (y0_1≠0)) λx11=>.ifs [28] x11 (.ret ((a1:aA),y0_1)) (.ret ((y0_2:aA),0)))
def L9 (n:Nat) (a1:aA) (a2:aS):Option (aA×Int):=(aEK n a1 a2).run
theorem X6 {n a1 a2}:PZ (L9 n a1 a2) 27 [.agg (aA.av a1),.agg (aS.av a2)] (λr=>.aU [.agg (aA.av r.1),int r.2]):=wq Tryz.func27
def aOR (a1:aA) (a2:aS):WB (aA×Int) :=
 .al 1<|.al 2<|.al 3<|.bB 10 (decide (a2.Kind≠10)) λx6=>.ifs [10] x6 (.ret ((a1:aA),1)) (.cl 17 (lH a1 a2.E a2.Item) mI mU λx7=>.bB 19 (decide (x7≠0)) λx8=>.ifs [19] x8 (.ret ((a1:aA),x7)) (.dr [(0,[2]),(1,[2]),(2,[1]),(3,[1]),(4,[2]),(5,[2])] [] [1,2] [] [0,1,2,3,4,5,6,7,8,9,10] (.gI 28 aP.av gE aP.bW a1.aW a2.E λx9=>.ln 31 fI x9.dO<|.bB 32 (decide (a2.Item>=(x9.dO.length:Int))) λx10=>.ifs [32] x10 (.ret ((a1:aA),4)) (.as (a1.aW.length<=68719476736) inferInstance<|.ge 36 4<|.bo (ix a1.aW a2.E) λx13=>.gv 42<|.gv 45<|.gv 46<|.gv 47<|.as (x13.dO.length<=68719476736) inferInstance<|.ge 48 5<|.gv 49<|.gv 50<|.ge 1010008 0<|.dr [(1,[4]),(2,[4]),(3,[4]),(4,[2]),(5,[2]),(6,[2]),(7,[2]),(8,[5])] [(9,[])] [2,4,5] [9] [0,1,2,3,4,5,6,7,8,9] (.gv 52<|.gv 53<|.gv 54<|.bo (ix x13.dO a2.Item) λx16=>.gv 59<|.bl (x13.dO.set (Int.toNat a2.Item) (a2.bD:Int):List Int) λx17=>.ge 1011009 0<|.ret (((⟨a1.bA,(a1.aW.set (Int.toNat a2.E) (⟨x13.dS,x13.Closed,x13.dD,x13.dU,x13.dI,x17,x13.Down,x13.eT⟩:aP)),a1.bP,a1.bU,a1.bY,a1.Done⟩:aA):aA),0))))))
def LU (a1:aA) (a2:aS):Option (aA×Int):=(aOR a1 a2).run
theorem aFR {a1 a2}:PZ (LU a1 a2) 28 [.agg (aA.av a1),.agg (aS.av a2)] (λr=>.aU [.agg (aA.av r.1),int r.2]):=wq Tryz.func28
def aFD (n:Nat) (a1:aA) (a2:aS):WB (aA×Int) :=
 .al 1<|.al 2<|.al 3<|.inl 11 aMO Tryz.func11 [1,2,3] [] (B:=(Unit)⊕(Unit)⊕(Unit)⊕(Unit)⊕(Unit)⊕(Unit)⊕(Unit)⊕(Unit)) (λu10=>Sum.elim (λa=>.dW 61 (.fn (.func 22) [] [])) (Sum.elim (λa=>.dW 61 (.fn (.func 23) [] [])) (Sum.elim (λa=>.dW 61 (.fn (.func 24) [] [])) (Sum.elim (λa=>.dW 61 (.fn (.func 25) [] [])) (Sum.elim (λa=>.dW 61 (.fn (.func 26) [] [])) (Sum.elim (λa=>.dW 61 (.fn (.func 27) [] [])) (Sum.elim (λa=>.dW 61 (.fn (.func 28) [] [])) (λa=>.sc .nilIface)))))))) (λu10=>Sum.elim (λa=>[]) (Sum.elim (λa=>[]) (Sum.elim (λa=>[]) (Sum.elim (λa=>[]) (Sum.elim (λa=>[]) (Sum.elim (λa=>[]) (Sum.elim (λa=>[]) (λa=>[])))))))) (.bB 5 (decide (a2.Kind=1)) λx6=>.ifs [5] x6 (.gv 6<|.ret (.inl ())) (.bB 8 (decide (a2.Kind=4)) λx7=>.jn 0 [2,3] [1,2,3] [] (λ_ (a:Bool)=>[(7,aF a)]) (λ_ _=>[]) (.ifs [7,8] x7 (.ret true) (.bB 9 (decide (a2.Kind=5)) λx8=>.ret x8)) (λy0_1=>.ifs [7] y0_1 (.gv 10<|.ret (.inr (.inl ()))) (.bB 12 (decide (a2.Kind=6)) λx9=>.jn 0 [2,3] [1,2,3] [] (λ_ (a:Bool)=>[(11,aF a)]) (λ_ _=>[]) (.ifs [11,12] x9 (.ret true) (.bB 13 (decide (a2.Kind=7)) λx10=>.ifs [13] x10 (.ret true) (.bB 14 (decide (a2.Kind=8)) λx11=>.ifs [14] x11 (.ret true) (.bB 15 (decide (a2.Kind=9)) λx12=>.ret x12)))) (λy1_1=>.ifs [11] y1_1 (.gv 16<|.ret (.inr (.inr (.inl ())))) (.bB 18 (decide (a2.Kind=2)) λx13=>.jn 0 [2,3] [1,2,3] [] (λ_ (a:Bool)=>[(17,aF a)]) (λ_ _=>[]) (.ifs [17,18] x13 (.ret true) (.bB 19 (decide (a2.Kind=3)) λx14=>.ret x14)) (λy2_1=>.ifs [17] y2_1 (.gv 20<|.ret (.inr (.inr (.inr (.inl ()))))) (.bB 22 (decide (a2.Kind=11)) λx15=>.ifs [22] x15 (.gv 23<|.ret (.inr (.inr (.inr (.inr (.inl ())))))) (.bB 25 (decide (a2.Kind=12)) λx16=>.jn 0 [2,3] [1,2,3] [] (λ_ (a:Bool)=>[(24,aF a)]) (λ_ _=>[]) (.ifs [24,25] x16 (.ret true) (.bB 26 (decide (a2.Kind=13)) λx17=>.ret x17)) (λy3_1=>.ifs [24] y3_1 (.gv 27<|.ret (.inr (.inr (.inr (.inr (.inr (.inl ()))))))) (.bB 29 (decide (a2.Kind=10)) λx18=>.ifs [29] x18 (.gv 30<|.ret (.inr (.inr (.inr (.inr (.inr (.inr (.inl ())))))))) (.ret (.inr (.inr (.inr (.inr (.inr (.inr (.inr ()))))))))))))))))))) (Sum.elim (λ_=>.jn 0 [2,3,4,5,6] [1,2,3] [] (λ_ (a:Bool)=>[(18,aF a)]) (λ_ _=>[]) (.cl 13 (nJ n a2) qF (λ_=>qP) λx19=>.bB 14 (!x19) λx20=>.ifs [14] x20 (.ret true) (.gv 17<|.ret false)) (λy12_1=>.ifs [18] y12_1 (.ret ((a1:aA),1)) (.iv 24 rY rD Tryz.func269 [1,2,3] [] (λ_ (a:aA×Int)=>.aU [.agg (aA.av a.1),int a.2]) (λ_ _=>[]) (.al 8<|.al 9<|.al 10<|.cl 11 (VK n a1 a2) XX aK7 λx24=>.ret ((x24.1:aA),x24.2)) (pw λy14_1 y14_2=>.al 7<|.bB 28 (decide (y14_2≠0)) λx26=>.ifs [28] x26 (.ret ((a1:aA),y14_2)) (.bI 33 (aI (y14_1.Done+1)) λx27=>.bl (if 288230376151711744<x27 then 288230376151711744 else x27:Int) λx28=>.gv 34<|.ret (((⟨y14_1.bA,y14_1.aW,y14_1.bP,y14_1.bU,y14_1.bY,x28⟩:aA):aA),0)))))) (Sum.elim (λ_=>.jn 0 [2,3,4,5,6] [1,2,3] [] (λ_ (a:Bool)=>[(18,aF a)]) (λ_ _=>[]) (.cl 13 (nJ n a2) qF (λ_=>qP) λx29=>.bB 14 (!x29) λx30=>.ifs [14] x30 (.ret true) (.gv 17<|.ret false)) (λy12_1=>.ifs [18] y12_1 (.ret ((a1:aA),1)) (.iv 24 rY rD Tryz.func269 [1,2,3] [] (λ_ (a:aA×Int)=>.aU [.agg (aA.av a.1),int a.2]) (λ_ _=>[]) (.al 14<|.al 15<|.al 16<|.cl 11 (N7 n a1 a2) aNY aOK λx34=>.ret ((x34.1:aA),x34.2)) (pw λy16_1 y16_2=>.al 7<|.bB 28 (decide (y16_2≠0)) λx36=>.ifs [28] x36 (.ret ((a1:aA),y16_2)) (.bI 33 (aI (y16_1.Done+1)) λx37=>.bl (if 288230376151711744<x37 then 288230376151711744 else x37:Int) λx38=>.gv 34<|.ret (((⟨y16_1.bA,y16_1.aW,y16_1.bP,y16_1.bU,y16_1.bY,x38⟩:aA):aA),0)))))) (Sum.elim (λ_=>.jn 0 [2,3,4,5,6] [1,2,3] [] (λ_ (a:Bool)=>[(18,aF a)]) (λ_ _=>[]) (.cl 13 (nJ n a2) qF (λ_=>qP) λx39=>.bB 14 (!x39) λx40=>.ifs [14] x40 (.ret true) (.gv 17<|.ret false)) (λy12_1=>.ifs [18] y12_1 (.ret ((a1:aA),1)) (.iv 24 rY rD Tryz.func269 [1,2,3] [] (λ_ (a:aA×Int)=>.aU [.agg (aA.av a.1),int a.2]) (λ_ _=>[]) (.al 25<|.al 26<|.al 27<|.inl 11 aIY Tryz.func24 [1,2,3,25,26,27] [] (λ_ (a:aA×Int)=>.aU [.agg (aA.av a.1),int a.2]) (λ_ _=>[]) (.al 28<|.al 29<|.al 30<|.dr [(1,[29]),(2,[29])] [(8,[])] [29] [7,8] [0,1,2,3,4,5,6,7,8,9] (.gv 12<|.wt 14<|.sp [14] a2.Kind 6 (.gv 15<|.al 31<|.cl 26 (lH a1 a2.E a2.Item) mI mU λx67=>.bB 28 (decide (x67≠0)) λx68=>.ifs [28] x68 (.ret ((a1:aA),x67)) (.cl 36 (OL n a1 a2) aE1 aC4 λx69=>.al 32<|.bB 40 (decide (x69.2≠0)) λx71=>.ifs [40] x71 (.ret ((a1:aA),x69.2)) (.ret ((x69.1:aA),0)))) (.sp [14] a2.Kind 7 (.gv 15<|.al 31<|.cl 26 (lH a1 a2.E a2.Item) mI mU λx61=>.bB 28 (decide (x61≠0)) λx62=>.ifs [28] x62 (.ret ((a1:aA),x61)) (.cl 36 (OB n a1 a2) ZZ aNB λx63=>.al 32<|.bB 40 (decide (x63.2≠0)) λx65=>.ifs [40] x65 (.ret ((a1:aA),x63.2)) (.ret ((x63.1:aA),0)))) (.sp [14] a2.Kind 8 (.gv 15<|.al 31<|.cl 26 (lH a1 a2.E a2.Item) mI mU λx55=>.bB 28 (decide (x55≠0)) λx56=>.ifs [28] x56 (.ret ((a1:aA),x55)) (.cl 36 (U9 n a1 a2) aIO aHY λx57=>.al 32<|.bB 40 (decide (x57.2≠0)) λx59=>.ifs [40] x59 (.ret ((a1:aA),x57.2)) (.ret ((x57.1:aA),0)))) (.sp [14] a2.Kind 9 (.gv 15<|.al 31<|.cl 26 (lH a1 a2.E a2.Item) mI mU λx49=>.bB 28 (decide (x49≠0)) λx50=>.ifs [28] x50 (.ret ((a1:aA),x49)) (.cl 36 (O3 n a1 a2) aA5 aJH λx51=>.al 32<|.bB 40 (decide (x51.2≠0)) λx53=>.ifs [40] x53 (.ret ((a1:aA),x51.2)) (.ret ((x51.1:aA),0)))) (.as (a2.Kind≠6/\a2.Kind≠7/\a2.Kind≠8/\a2.Kind≠9) inferInstance<|.gv 15<|.al 31<|.ret ((a1:aA),1))))))) (pw λy19_1 y19_2=>.ret ((y19_1:aA),y19_2))) (pw λy20_1 y20_2=>.al 7<|.bB 28 (decide (y20_2≠0)) λx73=>.ifs [28] x73 (.ret ((a1:aA),y20_2)) (.bI 33 (aI (y20_1.Done+1)) λx74=>.bl (if 288230376151711744<x74 then 288230376151711744 else x74:Int) λx75=>.gv 34<|.ret (((⟨y20_1.bA,y20_1.aW,y20_1.bP,y20_1.bU,y20_1.bY,x75⟩:aA):aA),0)))))) (Sum.elim (λ_=>.jn 0 [2,3,4,5,6] [1,2,3] [] (λ_ (a:Bool)=>[(18,aF a)]) (λ_ _=>[]) (.cl 13 (nJ n a2) qF (λ_=>qP) λx76=>.bB 14 (!x76) λx77=>.ifs [14] x77 (.ret true) (.gv 17<|.ret false)) (λy12_1=>.ifs [18] y12_1 (.ret ((a1:aA),1)) (.iv 24 rY rD Tryz.func269 [1,2,3] [] (λ_ (a:aA×Int)=>.aU [.agg (aA.av a.1),int a.2]) (λ_ _=>[]) (.al 36<|.al 37<|.al 38<|.cl 11 (SA n a1 a2) aKD ZB λx81=>.ret ((x81.1:aA),x81.2)) (pw λy22_1 y22_2=>.al 7<|.bB 28 (decide (y22_2≠0)) λx83=>.ifs [28] x83 (.ret ((a1:aA),y22_2)) (.bI 33 (aI (y22_1.Done+1)) λx84=>.bl (if 288230376151711744<x84 then 288230376151711744 else x84:Int) λx85=>.gv 34<|.ret (((⟨y22_1.bA,y22_1.aW,y22_1.bP,y22_1.bU,y22_1.bY,x85⟩:aA):aA),0)))))) (Sum.elim (λ_=>.jn 0 [2,3,4,5,6] [1,2,3] [] (λ_ (a:Bool)=>[(18,aF a)]) (λ_ _=>[]) (.cl 13 (nJ n a2) qF (λ_=>qP) λx86=>.bB 14 (!x86) λx87=>.ifs [14] x87 (.ret true) (.gv 17<|.ret false)) (λy12_1=>.ifs [18] y12_1 (.ret ((a1:aA),1)) (.iv 24 rY rD Tryz.func269 [1,2,3] [] (λ_ (a:aA×Int)=>.aU [.agg (aA.av a.1),int a.2]) (λ_ _=>[]) (.al 42<|.al 43<|.al 44<|.cl 11 (JP a1 a2) aII aMA λx91=>.ret ((x91.1:aA),x91.2)) (pw λy24_1 y24_2=>.al 7<|.bB 28 (decide (y24_2≠0)) λx93=>.ifs [28] x93 (.ret ((a1:aA),y24_2)) (.bI 33 (aI (y24_1.Done+1)) λx94=>.bl (if 288230376151711744<x94 then 288230376151711744 else x94:Int) λx95=>.gv 34<|.ret (((⟨y24_1.bA,y24_1.aW,y24_1.bP,y24_1.bU,y24_1.bY,x95⟩:aA):aA),0)))))) (Sum.elim (λ_=>.jn 0 [2,3,4,5,6] [1,2,3] [] (λ_ (a:Bool)=>[(18,aF a)]) (λ_ _=>[]) (.cl 13 (nJ n a2) qF (λ_=>qP) λx96=>.bB 14 (!x96) λx97=>.ifs [14] x97 (.ret true) (.gv 17<|.ret false)) (λy12_1=>.ifs [18] y12_1 (.ret ((a1:aA),1)) (.iv 24 rY rD Tryz.func269 [1,2,3] [] (λ_ (a:aA×Int)=>.aU [.agg (aA.av a.1),int a.2]) (λ_ _=>[]) (.al 48<|.al 49<|.al 50<|.cl 11 (L9 n a1 a2) aLJ X6 λx101=>.ret ((x101.1:aA),x101.2)) (pw λy26_1 y26_2=>.al 7<|.bB 28 (decide (y26_2≠0)) λx103=>.ifs [28] x103 (.ret ((a1:aA),y26_2)) (.bI 33 (aI (y26_1.Done+1)) λx104=>.bl (if 288230376151711744<x104 then 288230376151711744 else x104:Int) λx105=>.gv 34<|.ret (((⟨y26_1.bA,y26_1.aW,y26_1.bP,y26_1.bU,y26_1.bY,x105⟩:aA):aA),0)))))) (Sum.elim (λ_=>.jn 0 [2,3,4,5,6] [1,2,3] [] (λ_ (a:Bool)=>[(18,aF a)]) (λ_ _=>[]) (.cl 13 (nJ n a2) qF (λ_=>qP) λx106=>.bB 14 (!x106) λx107=>.ifs [14] x107 (.ret true) (.gv 17<|.ret false)) (λy12_1=>.ifs [18] y12_1 (.ret ((a1:aA),1)) (.iv 24 rY rD Tryz.func269 [1,2,3] [] (λ_ (a:aA×Int)=>.aU [.agg (aA.av a.1),int a.2]) (λ_ _=>[]) (.al 54<|.al 55<|.al 56<|.cl 11 (LU a1 a2) aJF aFR λx111=>.ret ((x111.1:aA),x111.2)) (pw λy28_1 y28_2=>.al 7<|.bB 28 (decide (y28_2≠0)) λx113=>.ifs [28] x113 (.ret ((a1:aA),y28_2)) (.bI 33 (aI (y28_1.Done+1)) λx114=>.bl (if 288230376151711744<x114 then 288230376151711744 else x114:Int) λx115=>.gv 34<|.ret (((⟨y28_1.bA,y28_1.aW,y28_1.bP,y28_1.bU,y28_1.bY,x115⟩:aA):aA),0)))))) (λ_=>.jn 0 [2,3,4,5,6] [1,2,3] [] (λ_ (a:Unit)=>[(18,aF true)]) (λ_ _=>[]) (.cl 13 (nJ n a2) qF (λ_=>qP) λx116=>.bB 14 (!x116) λx117=>.ifs [14] x117 (.ret ()) (.gv 17<|.ret ())) (λ_=>.ret ((a1:aA),1))))))))))
def lF (n:Nat) (a1:aA) (a2:aS):Option (aA×Int):=(aFD n a1 a2).run
theorem xR {n a1 a2}:PZ (lF n a1 a2) 5 [.agg (aA.av a1),.agg (aS.av a2)] (λr=>.aU [.agg (aA.av r.1),int r.2]):=by
 refine wm Tryz.func5 ?_
 intro v3
 intro v4
 intro v5
 refine .mk ?_ ?_
 refine .mk λx6=>?_
 refine .mk ?_ ?_
 refine .mk _ (bE (qR rfl Tryz.underlying61 (by intro _ h;cases h) rfl)) ?_
 exact .mk
 refine .mk λx7=>?_
 refine .mk ?_ ?_
 refine .mk .mk ?_
 refine .mk λx8=>?_
 exact .mk
 intro _ _
 refine .mk ?_ ?_
 refine .mk _ (bE (qR rfl Tryz.underlying61 (by intro _ h;cases h) rfl)) ?_
 exact .mk
 refine .mk λx9=>?_
 refine .mk ?_ ?_
 refine .mk .mk ?_
 refine .mk λx10=>?_
 refine .mk .mk ?_
 refine .mk λx11=>?_
 refine .mk .mk ?_
 refine .mk λx12=>?_
 exact .mk
 intro _ _
 refine .mk ?_ ?_
 refine .mk _ (bE (qR rfl Tryz.underlying61 (by intro _ h;cases h) rfl)) ?_
 exact .mk
 refine .mk λx13=>?_
 refine .mk ?_ ?_
 refine .mk .mk ?_
 refine .mk λx14=>?_
 exact .mk
 intro _ _
 refine .mk ?_ ?_
 refine .mk _ (bE (qR rfl Tryz.underlying61 (by intro _ h;cases h) rfl)) ?_
 exact .mk
 refine .mk λx15=>?_
 refine .mk ?_ ?_
 refine .mk _ (bE (qR rfl Tryz.underlying61 (by intro _ h;cases h) rfl)) ?_
 exact .mk
 refine .mk λx16=>?_
 refine .mk ?_ ?_
 refine .mk .mk ?_
 refine .mk λx17=>?_
 exact .mk
 intro _ _
 refine .mk ?_ ?_
 refine .mk _ (bE (qR rfl Tryz.underlying61 (by intro _ h;cases h) rfl)) ?_
 exact .mk
 refine .mk λx18=>?_
 refine .mk ?_ ?_
 refine .mk _ (bE (qR rfl Tryz.underlying61 (by intro _ h;cases h) rfl)) ?_
 exact .mk
 exact .mk
 rintro (_ | _ | _ | _ | _ | _ | _ | _) _
 refine .mk trivial ?_
 refine .mk ?_ ?_
 refine .mk λx19 e19=>?_
 refine .mk λx20=>?_
 refine .mk .mk ?_
 refine .mk _ (bE (qU rfl Tryz.underlying51 rfl rfl)) ?_
 exact .mk
 intro _ _
 refine .mk .mk ?_
 refine .mk ?_ ?_
 intro v21
 intro v22
 intro v23
 refine .mk λx24 e24=>?_
 exact .mk
 intro _ _
 refine .mk trivial ?_
 intro v25
 refine .mk λx26=>?_
 refine .mk .mk ?_
 refine .mk λx27=>?_
 refine .mk λx28 e28=>?_
 refine .mk _ (bE (mR rfl rfl rfl e28)) ?_
 exact .mk
 refine .mk trivial ?_
 refine .mk ?_ ?_
 refine .mk λx29 e29=>?_
 refine .mk λx30=>?_
 refine .mk .mk ?_
 refine .mk _ (bE (qU rfl Tryz.underlying51 rfl rfl)) ?_
 exact .mk
 intro _ _
 refine .mk .mk ?_
 refine .mk ?_ ?_
 intro v31
 intro v32
 intro v33
 refine .mk λx34 e34=>?_
 exact .mk
 intro _ _
 refine .mk trivial ?_
 intro v35
 refine .mk λx36=>?_
 refine .mk .mk ?_
 refine .mk λx37=>?_
 refine .mk λx38 e38=>?_
 refine .mk _ (bE (mR rfl rfl rfl e38)) ?_
 exact .mk
 refine .mk trivial ?_
 refine .mk ?_ ?_
 refine .mk λx39 e39=>?_
 refine .mk λx40=>?_
 refine .mk .mk ?_
 refine .mk _ (bE (qU rfl Tryz.underlying51 rfl rfl)) ?_
 exact .mk
 intro _ _
 refine .mk .mk ?_
 refine .mk ?_ ?_
 intro v41
 intro v42
 intro v43
 refine .mk ?_ ?_
 intro v44
 intro v45
 intro v46
 refine .mk ?_
 refine .mk _ (λH hH _=>xQ rfl rfl .nil YO (bK.refl _) aGB) ?_
 refine .mk ?_ ?_
 refine .mk _ (λH hH _=>DF (j:=0) rfl Tryz.underlying104 Tryz.underlying3 rfl rfl rfl rfl) ?_
 intro v66
 refine .mk λx67 e67=>?_
 refine .mk λx68=>?_
 refine .mk .mk ?_
 refine .mk λx69 e69=>?_
 intro v70
 refine .mk λx71=>?_
 refine .mk .mk ?_
 exact .mk
 refine .mk ?_ ?_
 refine .mk _ (λH hH _=>DF (j:=1) rfl Tryz.underlying104 Tryz.underlying3 rfl rfl rfl rfl) ?_
 intro v60
 refine .mk λx61 e61=>?_
 refine .mk λx62=>?_
 refine .mk .mk ?_
 refine .mk λx63 e63=>?_
 intro v64
 refine .mk λx65=>?_
 refine .mk .mk ?_
 exact .mk
 refine .mk ?_ ?_
 refine .mk _ (λH hH _=>DF (j:=2) rfl Tryz.underlying104 Tryz.underlying3 rfl rfl rfl rfl) ?_
 intro v54
 refine .mk λx55 e55=>?_
 refine .mk λx56=>?_
 refine .mk .mk ?_
 refine .mk λx57 e57=>?_
 intro v58
 refine .mk λx59=>?_
 refine .mk .mk ?_
 exact .mk
 refine .mk ?_ ?_
 refine .mk _ (λH hH _=>DF (j:=3) rfl Tryz.underlying104 Tryz.underlying3 rfl rfl rfl rfl) ?_
 intro v48
 refine .mk λx49 e49=>?_
 refine .mk λx50=>?_
 refine .mk .mk ?_
 refine .mk λx51 e51=>?_
 intro v52
 refine .mk λx53=>?_
 refine .mk .mk ?_
 exact .mk
 refine .mk λpk3=>?_
 refine .mk _ (λH hH _=>aLL rfl Tryz.underlying104 Tryz.underlying3 rfl rfl (aFV pk3) aFH) ?_
 intro v47
 exact .mk
 intro _ _
 refine .mk trivial ?_
 exact .mk
 intro _ _
 refine .mk trivial ?_
 intro v72
 refine .mk λx73=>?_
 refine .mk .mk ?_
 refine .mk λx74=>?_
 refine .mk λx75 e75=>?_
 refine .mk _ (bE (mR rfl rfl rfl e75)) ?_
 exact .mk
 refine .mk trivial ?_
 refine .mk ?_ ?_
 refine .mk λx76 e76=>?_
 refine .mk λx77=>?_
 refine .mk .mk ?_
 refine .mk _ (bE (qU rfl Tryz.underlying51 rfl rfl)) ?_
 exact .mk
 intro _ _
 refine .mk .mk ?_
 refine .mk ?_ ?_
 intro v78
 intro v79
 intro v80
 refine .mk λx81 e81=>?_
 exact .mk
 intro _ _
 refine .mk trivial ?_
 intro v82
 refine .mk λx83=>?_
 refine .mk .mk ?_
 refine .mk λx84=>?_
 refine .mk λx85 e85=>?_
 refine .mk _ (bE (mR rfl rfl rfl e85)) ?_
 exact .mk
 refine .mk trivial ?_
 refine .mk ?_ ?_
 refine .mk λx86 e86=>?_
 refine .mk λx87=>?_
 refine .mk .mk ?_
 refine .mk _ (bE (qU rfl Tryz.underlying51 rfl rfl)) ?_
 exact .mk
 intro _ _
 refine .mk .mk ?_
 refine .mk ?_ ?_
 intro v88
 intro v89
 intro v90
 refine .mk λx91 e91=>?_
 exact .mk
 intro _ _
 refine .mk trivial ?_
 intro v92
 refine .mk λx93=>?_
 refine .mk .mk ?_
 refine .mk λx94=>?_
 refine .mk λx95 e95=>?_
 refine .mk _ (bE (mR rfl rfl rfl e95)) ?_
 exact .mk
 refine .mk trivial ?_
 refine .mk ?_ ?_
 refine .mk λx96 e96=>?_
 refine .mk λx97=>?_
 refine .mk .mk ?_
 refine .mk _ (bE (qU rfl Tryz.underlying51 rfl rfl)) ?_
 exact .mk
 intro _ _
 refine .mk .mk ?_
 refine .mk ?_ ?_
 intro v98
 intro v99
 intro v100
 refine .mk λx101 e101=>?_
 exact .mk
 intro _ _
 refine .mk trivial ?_
 intro v102
 refine .mk λx103=>?_
 refine .mk .mk ?_
 refine .mk λx104=>?_
 refine .mk λx105 e105=>?_
 refine .mk _ (bE (mR rfl rfl rfl e105)) ?_
 exact .mk
 refine .mk trivial ?_
 refine .mk ?_ ?_
 refine .mk λx106 e106=>?_
 refine .mk λx107=>?_
 refine .mk .mk ?_
 refine .mk _ (bE (qU rfl Tryz.underlying51 rfl rfl)) ?_
 exact .mk
 intro _ _
 refine .mk .mk ?_
 refine .mk ?_ ?_
 intro v108
 intro v109
 intro v110
 refine .mk λx111 e111=>?_
 exact .mk
 intro _ _
 refine .mk trivial ?_
 intro v112
 refine .mk λx113=>?_
 refine .mk .mk ?_
 refine .mk λx114=>?_
 refine .mk λx115 e115=>?_
 refine .mk _ (bE (mR rfl rfl rfl e115)) ?_
 exact .mk
 refine .mk trivial ?_
 refine .mk ?_ ?_
 refine .mk λx116 e116=>?_
 refine .mk λx117=>?_
 refine .mk .mk ?_
 refine .mk _ (bE (U0 rfl Tryz.underlying51 rfl rfl)) ?_
 exact .mk
 intro _ _
 exact .mk
def aAK (n:Nat) (a1:Int):WB (eZ) :=
 .al 1<|.cl 13 (rQ a1 1073741824) BK AY λx3=>.bI 15 (x3.tmod 2) λx4=>.bI 16 (aI (2+x4)) λx5=>.bI 18 (aI (x3.tdiv 2)) λx6=>.bI 19 (x6.tmod 3) λx7=>.bI 20 (aI (2+x7)) λx8=>.bI 23 (aI (x3.tdiv 6)) λx9=>.bI 24 (x9.tmod 4) λx10=>.bI 25 (aI (1+x10)) λx11=>.al 2<|.jn 1 [2,3,4,5,6] [1] [4] (λ_ (a:(List Int))=>[]) (λu2 a=>[.kp 2 [[int x5,int x11,.sl 4 (u2 4) 0 a.length,.sc (.slice none 0 0),.sc (.slice none 0 0)]],.nw 4 3 1 (a.map fI)]) (.nc 2 0 2 4 3 1<|.lp [2,3,4,5,6] [1] [4] (λ_ (a:Int×(List Int))=>[(7,int a.1)]) (λu3 a=>[.kp 2 [[int x5,int x11,.sl 4 (u3 4) 0 a.2.length,.sc (.slice none 0 0),.sc (.slice none 0 0)]],.nw 4 3 1 (a.2.map fI)]) n ((0:Int),(([]:List Int):List Int)) (pw λy0_1 y0_3=>.bB 29 (decide (y0_1<x8)) λx14=>.ifs [29] x14 (.bI 35 (aI (x3.tdiv 24)) λx15=>.bI 36 (x15.tmod 7) λx16=>.bI 38 (aI (x16+y0_1)) λx17=>.to 39 (aD 1 fI ([x17]:List Int))<|.bl (y0_3++([x17]:List Int):List Int) λx18=>.as (x18.length<=68719476736) inferInstance<|.ge 40 0<|.bI 31 (aI (y0_1+1)) λx21=>.brk ((x21:Int),x18)) (.esc (.ret y0_3)))) (λy1_2=>.jn 1 [2,6] [1,4] [11,12] (λ_ (a:(List (List Int))×(List (List Int)))=>[]) (λu20 a=>[.kp 2 [[int x5,int x11,.sl 4 (u20 4) 0 y1_2.length,.sl 11 (u20 11) 0 a.1.length,.sl 12 (u20 12) 0 a.2.length]],.nw 11 22 1 (a.1.map (fL 1 fI)),.nw 12 22 1 (a.2.map (fL 1 fI))]) (.nc 2 0 3 11 22 1<|.nc 2 0 4 12 22 1<|.lp [2,3,4,5,6] [1,4] [11,12] (λ_ (a:Int×(List (List Int))×(List (List Int)))=>[(8,int a.1)]) (λu25 a=>[.kp 2 [[int x5,int x11,.sl 4 (u25 4) 0 y1_2.length,.sl 11 (u25 11) 0 a.2.1.length,.sl 12 (u25 12) 0 a.2.2.length]],.nw 11 22 1 (a.2.1.map (fL 1 fI)),.nw 12 22 1 (a.2.2.map (fL 1 fI))]) n ((0:Int),(([]:List (List Int)):List (List Int)),(([]:List (List Int)):List (List Int))) (pw λy2_1 q0=>(pw λy2_4 y2_5=>.bB 44 (decide (y2_1<x5)) λx24=>.ifs [44] x24 (.jn 1 [2,3,4,5,6,8] [1,4] [11,12] (λ_ (a:(List (List Int))×(List (List Int)))=>[]) (λu28 a=>[.kp 2 [[int x5,int x11,.sl 4 (u28 4) 0 y1_2.length,.sl 11 (u28 11) 0 a.1.length,.sl 12 (u28 12) 0 a.2.length]],.nw 11 22 1 (a.1.map (fL 1 fI)),.nw 12 22 1 (a.2.map (fL 1 fI))]) (.jn 3 [2,3,4,5,6,8] [1,2,4,11,12] [7,8] (λu30 (a:(List Int)×(List Int))=>[(9,.sl 7 (u30 7) 0 a.1.length),(10,.sl 8 (u30 8) 0 a.2.length)]) (λ_ a=>[.nw 7 3 1 (a.1.map fI),.nw 8 3 1 (a.2.map fI)]) (.no 9 7 3 1<|.no 10 8 3 1<|.lp [2,3,4,5,6,8] [1,2,4,11,12] [7,8] (λu31 (a:Int×(List Int)×(List Int))=>[(9,.sl 7 (u31 7) 0 a.2.1.length),(10,.sl 8 (u31 8) 0 a.2.2.length),(11,int a.1)]) (λ_ a=>[.nw 7 3 1 (a.2.1.map fI),.nw 8 3 1 (a.2.2.map fI)]) n ((0:Int),(([]:List Int):List Int),(([]:List Int):List Int)) (pw λy3_3 q0=>(pw λy3_4 y3_5=>.bB 49 (decide (y3_3<x8)) λx27=>.ifs [49] x27 (.bI 54 (aI (x3.tdiv 168)) λx28=>.bI 56 (aI (x28+y3_3)) λx29=>.bI 59 (aI (x3.tdiv 672)) λx30=>.bI 60 (x30.tmod 4) λx31=>.bI 61 (aI (y2_1*x31)) λx32=>.bI 62 (aI (x29+x32)) λx33=>.bI 63 (x33.tmod 4) λx34=>.bI 64 (aI (1+x34)) λx35=>.to 65 (aD 1 fI ([x35]:List Int))<|.bl (y3_4++([x35]:List Int):List Int) λx36=>.as (x36.length<=68719476736) inferInstance<|.ge 66 0<|.bI 69 (aI (x3.tdiv 2688)) λx39=>.bI 71 (aI (7*y3_3)) λx40=>.bI 72 (aI (x39+x40)) λx41=>.bI 74 (aI (x41+y2_1)) λx42=>.bI 75 (x42.tmod 40) λx43=>.to 76 (aD 1 fI ([x43]:List Int))<|.bl (y3_5++([x43]:List Int):List Int) λx44=>.as (x44.length<=68719476736) inferInstance<|.ge 77 0<|.bI 51 (aI (y3_3+1)) λx47=>.brk ((x47:Int),x36,x44)) (.esc (.ret ((y3_4:List Int),y3_5)))) q0)) (pw λy4_3 y4_4=>.dr [(0,[2]),(1,[2]),(5,[2]),(6,[2]),(10,[2]),(12,[2])] [(11,[]),(13,[])] [2] [4,9,11,13] [0,1,2,3,5,6,7,8,4,10,9,11,12,13] (.gv 81<|.gv 86<|.bl (y2_4++[y4_3]:List (List Int)) λx48=>.as (x48.length<=68719476736) inferInstance<|.ge 82 0<|.bl (y2_5++[y4_4]:List (List Int)) λx51=>.as (x51.length<=68719476736) inferInstance<|.ge 87 0<|.ret ((x48:List (List Int)),(x51:List (List Int)))))) (pw λy5_3 y5_4=>.bI 46 (aI (y2_1+1)) λx54=>.brk ((x54:Int),(y5_3:List (List Int)),(y5_4:List (List Int))))) (.esc (.ret ((y2_4:List (List Int)),(y2_5:List (List Int)))))) q0)) (pw λy6_3 y6_4=>.ret (((⟨x5,x11,y1_2,y6_3,y6_4⟩:eZ):eZ))))
def KX (n:Nat) (a1:Int):Option (eZ):=(aAK n a1).run
theorem aN5 {n a1}:PZ (KX n a1) 13 [int a1] (λr=>.agg (eZ.av r)):=by
 refine wm Tryz.func13 ?_
 intro v2
 refine .mk λx3 e3=>?_
 refine .mk λx4=>?_
 refine .mk λx5=>?_
 refine .mk λx6=>?_
 refine .mk λx7=>?_
 refine .mk λx8=>?_
 refine .mk λx9=>?_
 refine .mk λx10=>?_
 refine .mk λx11=>?_
 intro v12
 refine .mk ?_ ?_
 intro v13
 refine .mk ?_
 rintro ⟨y0_1,y0_3⟩ _
 refine .mk λx14=>?_
 refine .mk ?_ ?_
 refine .mk λx15=>?_
 refine .mk λx16=>?_
 refine .mk λx17=>?_
 refine .mk (bE (bX (y:=aD 1 fI ([x17]:List Int)) (dQ (ps:=[(0,_)]) (rows:=[[int x17]]) rfl Tryz.underlying22 fT (.cons rfl .nil) (by kernel_rfl) rfl rfl rfl) rfl)) ?_
 refine .mk λx18 e18=>?_
 refine .mk λp19=>?_
 refine .mk _ ⟨λ_=>jU (g:=fI) (l:=y0_3) (m:=([x17]:List Int)) .any rfl Tryz.underlying22 fT kY rfl rfl rfl rfl rfl rfl rfl rfl rfl rfl (Eq.symm rfl) (.refl _) (λ_=>rfl) e18 p19,λ_ _ _=>trivial⟩ ?_
 rintro _ _ ⟨v20,-,rfl,rfl⟩
 refine .mk λx21=>?_
 exact .mk
 exact .mk
 intro _ _
 refine .mk ?_ ?_
 intro v22
 intro v23
 refine .mk ?_
 rintro ⟨y2_1,y2_4,y2_5⟩ _
 refine .mk λx24=>?_
 refine .mk ?_ ?_
 refine .mk ?_ ?_
 refine .mk ?_ ?_
 intro v25
 intro v26
 refine .mk ?_
 rintro ⟨y3_3,y3_4,y3_5⟩ _
 refine .mk λx27=>?_
 refine .mk ?_ ?_
 refine .mk λx28=>?_
 refine .mk λx29=>?_
 refine .mk λx30=>?_
 refine .mk λx31=>?_
 refine .mk λx32=>?_
 refine .mk λx33=>?_
 refine .mk λx34=>?_
 refine .mk λx35=>?_
 refine .mk (bE (bX (y:=aD 1 fI ([x35]:List Int)) (dQ (ps:=[(0,_)]) (rows:=[[int x35]]) rfl Tryz.underlying22 fT (.cons rfl .nil) (by kernel_rfl) rfl rfl rfl) rfl)) ?_
 refine .mk λx36 e36=>?_
 refine .mk λp37=>?_
 refine .mk _ ⟨λ_=>jU (g:=fI) (l:=y3_4) (m:=([x35]:List Int)) .any rfl Tryz.underlying22 fT kY rfl rfl rfl rfl rfl rfl rfl rfl rfl rfl (Eq.symm rfl) (.refl _) (λ_=>rfl) e36 p37,λ_ _ _=>trivial⟩ ?_
 rintro _ _ ⟨v38,-,rfl,rfl⟩
 refine .mk λx39=>?_
 refine .mk λx40=>?_
 refine .mk λx41=>?_
 refine .mk λx42=>?_
 refine .mk λx43=>?_
 refine .mk (bE (bX (y:=aD 1 fI ([x43]:List Int)) (dQ (ps:=[(0,_)]) (rows:=[[int x43]]) rfl Tryz.underlying22 fT (.cons rfl .nil) (by kernel_rfl) rfl rfl rfl) rfl)) ?_
 refine .mk λx44 e44=>?_
 refine .mk λp45=>?_
 refine .mk _ ⟨λ_=>jU (g:=fI) (l:=y3_5) (m:=([x43]:List Int)) .any rfl Tryz.underlying22 fT kY rfl rfl rfl rfl rfl rfl rfl rfl rfl rfl (Eq.symm rfl) (.refl _) (λ_=>rfl) e44 p45,λ_ _ _=>trivial⟩ ?_
 rintro _ _ ⟨v46,-,rfl,rfl⟩
 refine .mk λx47=>?_
 exact .mk
 exact .mk
 rintro ⟨y4_3,y4_4⟩ u30
 refine .mk ?_
 refine .mk _ (λH hH _=>dQ (ps:=[(0,_)]) (rows:=[[.sl 7 (u30 7) 0 y4_3.length]]) rfl Tryz.underlying23 rM (.cons rfl .nil) (by kernel_rfl) rfl rfl rfl) ?_
 refine .mk _ (λH hH _=>dQ (ps:=[(0,_)]) (rows:=[[.sl 8 (u30 8) 0 y4_4.length]]) rfl Tryz.underlying23 rM (.cons rfl .nil) (by kernel_rfl) rfl rfl rfl) ?_
 refine .mk λx48 e48=>?_
 refine .mk λp49=>?_
 refine .mk _ ⟨λ_=>bQ.fO 7 rfl (jU (g:=(fL 1 fI)) (l:=y2_4) (m:=[y4_3]) .any rfl Tryz.underlying23 rM HV rfl rfl rfl rfl rfl rfl rfl rfl rfl rfl (Eq.symm rfl) (fD.list (.cons (.cons (dH rfl rfl rfl rfl rfl (Eq.symm rfl)) .nil) .nil)) (λ_=>rfl) e48 p49),by rintro _ _ ⟨v50,-,rfl,rfl⟩;exact ⟨rfl,trivial⟩⟩ ?_
 rintro _ _ ⟨v50,-,rfl,rfl⟩
 refine .mk λx51 e51=>?_
 refine .mk λp52=>?_
 refine .mk _ ⟨λ_=>bQ.fO 8 rfl (jU (g:=(fL 1 fI)) (l:=y2_5) (m:=[y4_4]) .any rfl Tryz.underlying23 rM HV rfl rfl rfl rfl rfl rfl rfl rfl rfl rfl (Eq.symm rfl) (fD.list (.cons (.cons (dH rfl rfl rfl rfl rfl (Eq.symm rfl)) .nil) .nil)) (λ_=>rfl) e51 p52),by rintro _ _ ⟨v53,-,rfl,rfl⟩;exact ⟨rfl,trivial⟩⟩ ?_
 rintro _ _ ⟨v53,-,rfl,rfl⟩
 exact .mk
 intro _ _
 refine .mk λx54=>?_
 exact .mk
 exact .mk
 intro _ _
 exact .mk (bK.agg (.cons (.refl _) (.cons (.refl _) (.cons (dH rfl rfl rfl rfl rfl (Eq.symm rfl)) (.cons (dH rfl rfl rfl rfl rfl (Eq.symm rfl)) (.cons (dH rfl rfl rfl rfl rfl (Eq.symm rfl)) .nil))))))
def aJY (n:Nat) (a1:aA) (a2:List aS):WB (aA×(List Int)) :=
 .al 1<|.al 2<|.ln 12 aS.av a2<|.jn 0 [2,4,5] [2] [6] (λu2 (a:aA×(List Int))=>[(6,.sl 6 (u2 6) 0 a.2.length)]) (λ_ a=>[.kp 1 [(aA.av a.1)],.nw 6 36 1 (a.2.map fI)]) (.no 6 6 36 1<|.lp [2,4,5,11,12] [2] [6] (λu3 (a:Int×aA×(List Int))=>[(6,.sl 6 (u3 6) 0 a.2.2.length),(13,int a.1)]) (λ_ a=>[.kp 1 [(aA.av a.2.1)],.nw 6 36 1 (a.2.2.map fI)]) n ((0:Int),a1,(([]:List Int):List Int)) (pw λy0_2 q0=>(pw λy0_3 y0_4=>.bB 14 (decide (y0_2<(a2.length:Int))) λx6=>.ifs [14] x6 (.ix 15 aS.av a2 y0_2 λx7=>.al 3<|.cl 20 (lF n y0_3 x7) xZ xR λx9=>.al 4<|.dr [(0,[4])] [(5,[])] [4] [4,5] [0,1,2,3,4,5,6] (.to 26 (aD 1 fI ([x9.2]:List Int))<|.bl (y0_4++([x9.2]:List Int):List Int) λx11=>.as (x11.length<=68719476736) inferInstance<|.ge 27 0<|.bI 28 (aI (y0_2+1)) λx14=>.brk ((x14:Int),x9.1,x11))) (.esc (.ret ((y0_3:aA),y0_4)))) q0)) (pw λy1_2 y1_3=>.ret ((y1_2:aA),y1_3))
def TN (n:Nat) (a1:aA) (a2:List aS):Option (aA×(List Int)):=(aJY n a1 a2).run
theorem aHK {n a1 a2}:PZ (TN n a1 a2) 14 [.agg (aA.av a1),aD 9 aS.av a2] (λr=>.aU [.agg (aA.av r.1),aD 1 fI r.2]):=wq Tryz.func14
def aL5 (n:Nat) :WB (Bool) :=
 .cl 4 (KX n 0) X5 aN5 λx1=>.cl 5 (AO n x1 []) SE NF λx2=>.al 1<|.gv 12<|.cl 13 (TN n x2 [(⟨1,0,0,0,0,5,50,0,[]⟩:aS),(⟨4,0,0,0,0,2,30,0,[]⟩:aS),(⟨14,0,0,0,0,0,0,0,[]⟩:aS),(⟨4,0,0,0,0,9,0,0,[]⟩:aS)]) aM1 aHK λx4=>.al 2<|.jn 0 [] [] [] (λ_ (a:Bool)=>[(0,aF a)]) (λ_ _=>[]) (.ln 17 fI x4.2<|.bB 18 (decide ((x4.2.length:Int)=4)) λx6=>.ifs [18] x6 (.ix 21 fI x4.2 0 λx7=>.bB 23 (decide (x7=0)) λx8=>.ifs [23] x8 (.ix 27 fI x4.2 1 λx9=>.bB 29 (decide (x9=0)) λx10=>.ifs [29] x10 (.ix 33 fI x4.2 2 λx11=>.bB 35 (decide (x11=1)) λx12=>.ifs [35] x12 (.ix 39 fI x4.2 3 λx13=>.bB 41 (decide (x13=5)) λx14=>.ifs [41] x14 (.bB 46 (decide (x4.1.Done=2)) λx15=>.ifs [46] x15 (.ln 51 bH.av x4.1.bP<|.bB 52 (decide ((x4.1.bP.length:Int)=1)) λx16=>.ifs [52] x16 (.ln 57 bS.av x4.1.bU<|.bB 58 (decide ((x4.1.bU.length:Int)=1)) λx17=>.ret x17) (.ret false)) (.ret false)) (.ret false)) (.ret false)) (.ret false)) (.ret false)) (.ret false)) (λy0_1=>.ret ((y0_1:Bool)))
def IM (n:Nat) :Option (Bool):=(aL5 n ).run
theorem aKT {n}:PZ (IM n ) 7 [] aF:=by
 refine wm Tryz.func7 ?_
 refine .mk λx1 e1=>?_
 refine .mk (λx2 e2=>?_) rfl (by rintro _ rfl;exact (.cons (.refl _) (.cons (.nil _) .nil)))
 intro v3
 refine .mk _ (bE (dQ (ps:=[(0,_),(1,_),(2,_),(3,_)]) (rows:=[[int 1,int 0,int 0,int 0,int 0,int 5,int 50,int 0,.sc (.slice none 0 0)],[int 4,int 0,int 0,int 0,int 0,int 2,int 30,int 0,.sc (.slice none 0 0)],[int 14,int 0,int 0,int 0,int 0,int 0,int 0,int 0,.sc (.slice none 0 0)],[int 4,int 0,int 0,int 0,int 0,int 9,int 0,int 0,.sc (.slice none 0 0)]]) rfl Tryz.underlying48 aNN (.cons rfl (.cons rfl (.cons rfl (.cons rfl .nil)))) (by kernel_rfl) rfl rfl rfl)) ?_
 refine .mk (λx4 e4=>?_) rfl (by rintro _ rfl;exact (.cons (.refl _) (.cons (fD.list (.cons (.cons (.refl _) (.cons (.refl _) (.cons (.refl _) (.cons (.refl _) (.cons (.refl _) (.cons (.refl _) (.cons (.refl _) (.cons (.refl _) (.cons (.nil _) .nil))))))))) (.cons (.cons (.refl _) (.cons (.refl _) (.cons (.refl _) (.cons (.refl _) (.cons (.refl _) (.cons (.refl _) (.cons (.refl _) (.cons (.refl _) (.cons (.nil _) .nil))))))))) (.cons (.cons (.refl _) (.cons (.refl _) (.cons (.refl _) (.cons (.refl _) (.cons (.refl _) (.cons (.refl _) (.cons (.refl _) (.cons (.refl _) (.cons (.nil _) .nil))))))))) (.cons (.cons (.refl _) (.cons (.refl _) (.cons (.refl _) (.cons (.refl _) (.cons (.refl _) (.cons (.refl _) (.cons (.refl _) (.cons (.refl _) (.cons (.nil _) .nil))))))))) .nil))))) .nil)))
 intro v5
 refine .mk ?_ ?_
 refine .mk ?_
 refine .mk λx6=>?_
 refine .mk ?_ ?_
 refine .mk λx7 e7=>?_
 refine .mk λx8=>?_
 refine .mk ?_ ?_
 refine .mk λx9 e9=>?_
 refine .mk λx10=>?_
 refine .mk ?_ ?_
 refine .mk λx11 e11=>?_
 refine .mk λx12=>?_
 refine .mk ?_ ?_
 refine .mk λx13 e13=>?_
 refine .mk λx14=>?_
 refine .mk ?_ ?_
 refine .mk λx15=>?_
 refine .mk ?_ ?_
 refine .mk ?_
 refine .mk λx16=>?_
 refine .mk ?_ ?_
 refine .mk ?_
 refine .mk λx17=>?_
 exact .mk
 exact .mk
 exact .mk
 exact .mk
 exact .mk
 exact .mk
 exact .mk
 exact .mk
 intro _ _
 exact .mk
end
end Go.Pv
