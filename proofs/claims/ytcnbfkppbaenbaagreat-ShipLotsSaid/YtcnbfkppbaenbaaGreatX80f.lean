import Derived.Test.YtcnbfkppbaenbaaGreatX80e
set_option linter.unusedVariables false
set_option linter.unusedSimpArgs false
namespace Go.Pv
open Go.Proofs
set_option maxRecDepth 100000
set_option maxHeartbeats 4000000
noncomputable section
def YP (n:Nat) (a1:aA) (a2:bK):WT Tryz.prog (.b (aA×Int)) :=
 .al 1<|.al 2<|.al 3<|.jn 0 [2,3,4,5] [1,2,3] [] (λ_ (a:Bool)=>[(30,aT a)]) (λ_ _=>[]) (.bB 22 (decide (a2.Ref<0)) λx6=>.ifs [22] x6 (.ret true) (.ln 28 eZ.av a1.eF<|.bB 29 (decide (a2.Ref>=(a1.eF.length:Int))) λx7=>.ret x7)) (λy0_1=>.ifs [30] y0_1 (.ret ((a1:aA),4)) (.ix 36 eZ.av a1.eF a2.Ref λx8=>.al 4<|.cl 43 (oC a1 x8.eY x8.Item) sM sJ λx10=>.bB 45 (decide (x10≠0)) λx11=>.ifs [45] x11 (.ret ((a1:aA),x10)) (.bI 52 (bA (x8.aG-x8.gP)) λx12=>.bB 56 (decide (a2.aG>x12)) λx13=>.ifs [56] x13 (.ret ((a1:aA),5)) (.bI 63 (bA (0-a2.bM)) λx14=>.ge 65 5<|.al 6<|.bI 71 (bA (x8.gP+a2.aG)) λx17=>.jn 0 [2,3,4,5,6,8,9,10] [1,2,3,4,5,6] [] (λ_ (a:Bool)=>[(86,aT a)]) (λ_ _=>[]) (.dr [(0,[4]),(1,[4]),(3,[4]),(4,[4]),(5,[1]),(6,[1]),(7,[4]),(8,[4])] [] [1,4] [] [0,1,2,3,4,5,6,7,8,9,10,11,12,13] (.bB 75 (x8.pG) λx18=>.ifs [75] x18 (.iF 82 aQ.av gE aQ.fF a1.bD x8.eY λx19=>.bB 85 (decide (x8.nG=x19.fU)) λx20=>.ret x20) (.ret false))) (λy1_1=>.ifs [86] y1_1 (.dr [(0,[1]),(1,[4]),(2,[4]),(3,[4]),(4,[4]),(5,[4]),(6,[4]),(8,[2]),(9,[2])] [(15,[])] [1,2,4] [14,15] [0,1,2,3,4,5,6,7,8,9,10,11,12,13,14,15,16] (.cl 95 (pP a1 x8.eY x8.Item x8.Loc) uO uY λx21=>.cl 98 (C9 x21 0 a2.aG) aLP aQB λx22=>.al 7<|.bB 102 (decide (x22.2≠0)) λx24=>.ifs [102] x24 (.ret ((a1:aA),x22.2)) (.j5 5<|.dr [(0,[1]),(1,[4]),(2,[4]),(3,[4]),(4,[4]),(5,[4]),(6,[4]),(7,[7]),(9,[4]),(10,[4]),(12,[5])] [(17,[])] [1,4,5,7] [16,17] [0,1,2,3,4,5,6,7,8,9,10,11,12,13,14,15,16,17,18] (.cl 114 (uE a1 x8.eY x8.Item x8.Loc x22.1) BF BE λx25=>.cl 118 (kV n x25 x8.eY ([(⟨4,a2.bM⟩:aN),(⟨3,x14⟩:aN)]:List aN)) o5 pF λx26=>.al 8<|.bB 122 (decide (x26.2≠0)) λx28=>.ifs [122] x28 (.ret ((a1:aA),x26.2)) (.cl 129 (CK x26.1 a2.Ref (⟨x8.eY,x8.Item,x8.Loc,x8.aG,x17,x8.pR,x8.bO,x8.nG,x8.pG⟩:eZ)) aFY XO λx29=>.ret ((x29:aA),0)))))) (.dr [(0,[4]),(1,[4]),(2,[2]),(3,[2]),(6,[4]),(7,[4]),(8,[2]),(9,[2])] [] [2,4] [] [0,1,2,3,4,5,6,7,8,9,10,11,12,13] (.cl 135 (pN n x8.pR a2.aG x12) sQ sH λx30=>.cl 141 (pN n x8.bO a2.aG x12) sQ sH λx31=>.cl 155 (wN n a1 x8.eY x8.Item x8.Loc (⟨a2.aG,x30,x31⟩:aB)) FB DT λx32=>.al 9<|.bB 161 (decide (x32.2.2.2≠0)) λx34=>.ifs [161] x34 (.ret ((a1:aA),x32.2.2.2)) (.dr [(0,[9]),(1,[4]),(2,[4])] [(13,[]),(17,[])] [4,9] [12,13,17] [0,1,2,3,4,5,6,7,8,9,10,11,12,13,14,15,16,17,18] (.bI 174 (bA (0-x30)) λx35=>.to 176 (aP 2 aN.av ([(⟨0,x32.2.1⟩:aN),(⟨6,x32.2.2.1⟩:aN),(⟨5,x35⟩:aN)]:List aN))<|.bl (([(⟨4,a2.bM⟩:aN),(⟨3,x14⟩:aN)]:List aN)++([(⟨0,x32.2.1⟩:aN),(⟨6,x32.2.2.1⟩:aN),(⟨5,x35⟩:aN)]:List aN):List aN) λx36=>.as (x36.length<=68719476736) inferInstance<|.ge 177 0<|.bo (kV n x32.1 x8.eY x36) λx39=>.ge 178 0<|.bB 182 (decide (x39.2≠0)) λx40=>.ifs [182] x40 (.ret ((a1:aA),x39.2)) (.cl 193 (nE n x39.1 x8.eY x8.Item (⟨0,0,0,0,x32.2.1,0,0,0,0,0,0⟩:cO)) uW tL λx41=>.bB 197 (decide (x41.2≠0)) λx42=>.ifs [197] x42 (.ret ((a1:aA),x41.2)) (.dr [(0,[4]),(1,[4]),(4,[4]),(5,[4]),(8,[6]),(10,[6])] [(9,[4]),(11,[])] [4,6] [9,11] [0,1,2,3,4,5,6,7,8,9,10,11] (.bI 203 (bA (x8.pR-x30)) λx43=>.bI 207 (bA (x8.bO-x31)) λx44=>.cl 214 (CK x41.1 a2.Ref (⟨x8.eY,x8.Item,x8.Loc,x8.aG,x17,x43,x44,x8.nG,x8.pG⟩:eZ)) aFY XO λx45=>.ret ((x45:aA),0)))))))))))))
def JN (n:Nat) (a1:aA) (a2:bK):Option (aA×Int):=(YP n a1 a2).run
theorem aR5 {n:Nat} {a1:aA} {a2:bK} {r:aA×Int} (h0:JN n a1 a2=some r):PP Tryz.prog 107 [.agg (aA.av a1),.agg (bK.av a2)] (λy=>y=.bC [.agg (aA.av r.1),int r.2]):=by
 refine bU mixed bR (λ(r:aA×Int)=>.bC [.agg (aA.av r.1),int r.2]) h0 Tryz.func107 (λr=>.bC (gD ((λ(a:aA)=>PV.agg (aA.dH a)) (r.1)) (bT (r.2)))) 100000 ?_
 intro v3
 intro v4
 intro v5
 refine .mk ?_ ?_
 refine .mk λx6=>?_
 refine .mk .mk ?_
 refine .mk ?_
 refine .mk λx7=>?_
 exact .mk
 intro _ _
 refine .mk .mk ?_
 refine .mk λx8 e8=>?_
 intro v9
 refine .mk λx10 e10=>?_
 refine .mk λx11=>?_
 refine .mk .mk ?_
 refine .mk λx12=>?_
 refine .mk λx13=>?_
 refine .mk .mk ?_
 refine .mk λx14=>?_
 refine .mk _ ⟨λ_=>wT (ps:=[(0,_),(1,_)]) 5 [[int 4,int a2.bM],[int 3,int x14]] .any rfl Tryz.underlying107 qW (.cons rfl (.cons rfl .nil)) (by kernel_rfl) rfl rfl rfl,λ_ _ _=>trivial⟩ ?_
 rintro _ _ ⟨v15,-,rfl,rfl⟩
 intro v16
 refine .mk λx17=>?_
 refine .mk ?_ ?_
 refine .mk ?_
 refine .mk λx18=>?_
 refine .mk ?_ ?_
 refine .mk λx19 e19=>?_
 refine .mk λx20=>?_
 exact .mk
 exact .mk
 intro _ _
 refine .mk ?_ ?_
 refine .mk ?_
 refine .mk λx21 e21=>?_
 refine .mk λx22 e22=>?_
 intro v23
 refine .mk λx24=>?_
 refine .mk .mk ?_
 refine .mk ?_
 refine .mk λx25 e25=>?_
 refine .mk (λx26 e26=>?_) rfl (λH hH=>(.cons (.refl _) (.cons (.refl _) (.cons (gJ (ob:=(⟨105,2,false,true,v15,([(⟨4,a2.bM⟩:aN),(⟨3,x14⟩:aN)]:List aN).map aN.av⟩:cB)) ((hH 5 (by decide)).trans rfl) rfl rfl rfl rfl (Eq.symm rfl)) .nil))))
 intro v27
 refine .mk λx28=>?_
 refine .mk .mk ?_
 refine .mk λx29 e29=>?_
 exact .mk
 refine .mk ?_
 refine .mk λx30 e30=>?_
 refine .mk λx31 e31=>?_
 refine .mk λx32 e32=>?_
 intro v33
 refine .mk λx34=>?_
 refine .mk .mk ?_
 refine .mk ?_
 refine .mk λx35=>?_
 refine .mk (λH hH _=>iH (y:=aP 2 aN.av ([(⟨0,x32.2.1⟩:aN),(⟨6,x32.2.2.1⟩:aN),(⟨5,x35⟩:aN)]:List aN)) (jK (ps:=[(0,_),(1,_),(2,_)]) (rows:=[[int 0,int x32.2.1],[int 6,int x32.2.2.1],[int 5,int x35]]) rfl Tryz.underlying107 qW (.cons rfl (.cons rfl (.cons rfl .nil))) (by kernel_rfl) rfl rfl rfl) rfl) ?_
 refine .mk λx36 e36=>?_
 refine .mk λp37=>?_
 refine .mk _ ⟨λ_=>kY (g:=aN.av) (l:=([(⟨4,a2.bM⟩:aN),(⟨3,x14⟩:aN)]:List aN)) (m:=([(⟨0,x32.2.1⟩:aN),(⟨6,x32.2.2.1⟩:aN),(⟨5,x35⟩:aN)]:List aN)) .any rfl Tryz.underlying107 qW RE rfl rfl rfl rfl rfl rfl rfl rfl rfl rfl (Eq.symm rfl) (.refl _) (λ_=>rfl) e36 p37,by rintro _ _ ⟨v38,-,rfl,rfl⟩;exact ⟨rfl,rfl,trivial⟩⟩ ?_
 rintro _ _ ⟨v38,-,rfl,rfl⟩
 refine .mk λx39 e39=>?_
 refine .mk _ ⟨λ_=>eO.j5 5 rfl (eO.gK (ND rfl rfl (.cons rfl (.cons rfl (.cons rfl .nil))) o5 (.cons (.refl _) (.cons (.refl _) (.cons (gJ rfl rfl rfl rfl rfl (Eq.symm rfl)) .nil))) (pF e39)) (λ_ h=>h) (λ_ h=>h.elim)),by rintro _ _ ⟨rfl,rfl⟩;exact trivial⟩ ?_
 rintro _ _ ⟨rfl,rfl⟩
 refine .mk λx40=>?_
 refine .mk .mk ?_
 refine .mk λx41 e41=>?_
 refine .mk λx42=>?_
 refine .mk .mk ?_
 refine .mk ?_
 refine .mk λx43=>?_
 refine .mk λx44=>?_
 refine .mk λx45 e45=>?_
 exact .mk
def aGR (n:Nat) (a1:aA) (a2:bK):WT Tryz.prog (.b (aA×Int)) :=
 .al 1<|.al 2<|.al 3<|.bB 9 (decide (a2.Kind=4)) λx6=>.ifs [9] x6 (.cl 12 (IL n a1 a2) aUK aJ1 λx7=>.ret ((x7.1:aA),x7.2)) (.bB 16 (decide (a2.Kind=5)) λx8=>.ifs [16] x8 (.cl 19 (JN n a1 a2) aHJ aR5 λx9=>.ret ((x9.1:aA),x9.2)) (.ret ((a1:aA),1)))
def LM (n:Nat) (a1:aA) (a2:bK):Option (aA×Int):=(aGR n a1 a2).run
theorem aJA {n a1 a2 r} (h0:LM n a1 a2=some r):PP Tryz.prog 58 [.agg (aA.av a1),.agg (bK.av a2)] (λy=>y=.bC [.agg (aA.av r.1),int r.2]) :=
 bU mixed bR (λr:aA×Int=>.bC [.agg (aA.av r.1),int r.2]) h0 Tryz.func58 (λr=>.bC (gD ((λ(a:aA)=>PV.agg (aA.dH a)) (r.1)) (bT (r.2)))) 100000 au
def ZU (n:Nat) (a1:aA) (a2:aA) (a3:Int) (a4:Int) (a5:List aN) (a6:cO):WT Tryz.prog (.b (aA×Int)) :=
 .al 1<|.al 2<|.al 3<|.al 4<|.cl 19 (kV n a2 a3 a5) o5 pF λx11=>.bB 23 (decide (x11.2≠0)) λx12=>.ifs [23] x12 (.ret ((a1:aA),x11.2)) (.cl 31 (nE n x11.1 a3 a4 a6) uW tL λx13=>.bB 35 (decide (x13.2≠0)) λx14=>.ifs [35] x14 (.ret ((a1:aA),x13.2)) (.ret ((x13.1:aA),0)))
def wK (n:Nat) (a1:aA) (a2:aA) (a3:Int) (a4:Int) (a5:List aN) (a6:cO):Option (aA×Int):=(ZU n a1 a2 a3 a4 a5 a6).run
theorem D7 {n a1 a2 a3 a4 a5 a6 r} (h0:wK n a1 a2 a3 a4 a5 a6=some r):PP Tryz.prog 172 [.agg (aA.av a1),.agg (aA.av a2),int a3,int a4,aP 2 aN.av a5,.agg (cO.av a6)] (λy=>y=.bC [.agg (aA.av r.1),int r.2]) :=
 bU mixed bR (λr:aA×Int=>.bC [.agg (aA.av r.1),int r.2]) h0 Tryz.func172 (λr=>.bC (gD ((λ(a:aA)=>PV.agg (aA.dH a)) (r.1)) (bT (r.2)))) 100000 au
def WZ (n:Nat) (a1:aA) (a2:bK):WT Tryz.prog (.b (aA×Int)) :=
 .al 1<|.al 2<|.al 3<|.cl 20 (oM n a1 a2.E a2.Item a2.Loc 1 a2.aG) zS AY λx6=>.al 4<|.al 5<|.bB 26 (decide (x6.2.2.2≠0)) λx9=>.ifs [26] x9 (.ret ((a1:aA),x6.2.2.2)) (.bI 40 (bA (0-x6.2.1.Value)) λx10=>.to 42 (aP 2 aN.av ([(⟨7,x6.2.1.Value⟩:aN),(⟨0,x10⟩:aN)]:List aN))<|.cl 46 (wK n a1 x6.1 a2.E a2.Item ([(⟨7,x6.2.1.Value⟩:aN),(⟨0,x10⟩:aN)]:List aN) (⟨0,0,0,0,0,0,0,0,x6.2.1.Value,0,0⟩:cO)) CU D7 λx11=>.ret ((x11.1:aA),x11.2))
def IS (n:Nat) (a1:aA) (a2:bK):Option (aA×Int):=(WZ n a1 a2).run
theorem aOI {n a1 a2 r} (h0:IS n a1 a2=some r):PP Tryz.prog 116 [.agg (aA.av a1),.agg (bK.av a2)] (λy=>y=.bC [.agg (aA.av r.1),int r.2]) :=
 bU mixed bR (λr:aA×Int=>.bC [.agg (aA.av r.1),int r.2]) h0 Tryz.func116 (λr=>.bC (gD ((λ(a:aA)=>PV.agg (aA.dH a)) (r.1)) (bT (r.2)))) 100000 au
def VE (n:Nat) (a1:Int) (a2:aH):WT Tryz.prog (.b (Int)) :=
 .al 1<|.bB 6 (decide (a1=3)) λx4=>.ifs [6] x4 (.cl 8 (wJ n a2) N8 OC λx5=>.ret ((x5:Int))) (.cl 10 (uX n a2) AU AR λx6=>.ret ((x6.aG:Int)))
def MU (n:Nat) (a1:Int) (a2:aH):Option (Int):=(VE n a1 a2).run
theorem aIQ {n a1 a2 r} (h0:MU n a1 a2=some r):PP Tryz.prog 173 [int a1,.agg (aH.av a2)] (λy=>y=int r) :=
 bU mixed bR (λr:Int=>int r) h0 Tryz.func173 (λr=>bT r) 100000 au
def UL (n:Nat) (a1:aA) (a2:bK):WT Tryz.prog (.b (aA×Int)) :=
 .al 1<|.al 2<|.al 3<|.dr [(0,[1]),(1,[1]),(2,[1]),(3,[2]),(4,[2]),(7,[2]),(8,[2])] [] [1,2] [] [0,1,2,3,4,5,6,7,8,9,10,11] (.ix 24 (fL 1 fI) a1.bH.Methods a2.E λx6=>.ix 28 fI x6 a2.Item λx7=>.cl 37 (pP a1 a2.E a2.Item a2.Loc) uO uY λx8=>.al 4<|.dr [(0,[2]),(1,[2]),(3,[4])] [] [2,4] [] [0,1,2,3,4,5,6] (.cl 42 (MU n x7 x8) aXI aIQ λx10=>.bI 43 (bA (a2.aG-x10)) λx11=>.bB 45 (decide (x11=0)) λx12=>.ifs [45] x12 (.ret ((a1:aA),0)) (.bB 48 (decide (x11<0)) λx13=>.ifs [48] x13 (.bI 58 (bA (0-x11)) λx14=>.cl 59 (oM n a1 a2.E a2.Item a2.Loc 2 x14) zS AY λx15=>.al 5<|.al 6<|.bB 65 (decide (x15.2.2.2≠0)) λx18=>.ifs [65] x18 (.ret ((a1:aA),x15.2.2.2)) (.bI 79 (bA (0-x15.2.1.Value)) λx19=>.to 81 (aP 2 aN.av ([(⟨8,x15.2.1.Value⟩:aN),(⟨0,x19⟩:aN)]:List aN))<|.cl 85 (wK n a1 x15.1 a2.E a2.Item ([(⟨8,x15.2.1.Value⟩:aN),(⟨0,x19⟩:aN)]:List aN) (⟨0,0,0,0,0,0,0,0,0,x15.2.1.Value,0⟩:cO)) CU D7 λx20=>.ret ((x20.1:aA),x20.2))) (.cl 89 (uX n x8) AU AR λx21=>.al 7<|.bB 91 (decide (x7=4)) λx23=>.jn 0 [2,3,4,5,8] [1,2,3] [] (λ_ (a:Int×Int)=>[(14,int a.1),(15,int a.2)]) (λ_ _=>[]) (.ifs [91] x23 (.dr [(1,[1]),(2,[1]),(3,[1]),(4,[2]),(5,[2]),(8,[2]),(9,[2])] [] [1,2] [] [0,1,2,3,4,5,6,7,8,9,10,11,12,13,14,15,16,17,18] (.ix 99 (fL 1 fI) a1.bH.gL a2.E λx24=>.ix 103 fI x24 a2.Item λx25=>.cl 105 (pU n x11 x25 1) vP vS λx26=>.ret ((x26.1:Int),x26.2.2))) (.bB 111 (decide (x21.aG>0)) λx27=>.ifs [111] x27 (.cl 118 (pU n x21.Value x11 x21.aG) vP vS λx28=>.ret ((x28.1:Int),x28.2.2)) (.ret ((0:Int),0)))) (pw λy0_1 y0_2=>.bB 123 (decide (y0_2≠0)) λx29=>.ifs [123] x29 (.ret ((a1:aA),y0_2)) (.cl 137 (wN n a1 a2.E a2.Item a2.Loc (⟨x11,y0_1,0⟩:aB)) FB DT λx30=>.al 8<|.bB 143 (decide (x30.2.2.2≠0)) λx32=>.ifs [143] x32 (.ret ((a1:aA),x30.2.2.2)) (.bI 157 (bA (0-y0_1)) λx33=>.to 159 (aP 2 aN.av ([(⟨0,x30.2.1⟩:aN),(⟨6,x30.2.2.1⟩:aN),(⟨8,x33⟩:aN)]:List aN))<|.bI 161 (bA (0-x30.2.1)) λx34=>.cl 163 (wK n a1 x30.1 a2.E a2.Item ([(⟨0,x30.2.1⟩:aN),(⟨6,x30.2.2.1⟩:aN),(⟨8,x33⟩:aN)]:List aN) (⟨0,0,0,0,0,0,0,0,0,x34,0⟩:cO)) CU D7 λx35=>.ret ((x35.1:aA),x35.2))))))))
def JH (n:Nat) (a1:aA) (a2:bK):Option (aA×Int):=(UL n a1 a2).run
theorem aJS {n a1 a2 r} (h0:JH n a1 a2=some r):PP Tryz.prog 117 [.agg (aA.av a1),.agg (bK.av a2)] (λy=>y=.bC [.agg (aA.av r.1),int r.2]) :=
 bU mixed bR (λr:aA×Int=>.bC [.agg (aA.av r.1),int r.2]) h0 Tryz.func117 (λr=>.bC (gD ((λ(a:aA)=>PV.agg (aA.dH a)) (r.1)) (bT (r.2)))) 100000 au
def aAT (n:Nat) (a1:aA) (a2:bK):WT Tryz.prog (.b (aA×Int)) :=
 .al 1<|.al 2<|.al 3<|.cl 22 (oM n a1 a2.E a2.Item a2.Loc 3 a2.aG) zS AY λx6=>.al 4<|.al 5<|.bB 28 (decide (x6.2.2.2≠0)) λx9=>.ifs [28] x9 (.ret ((a1:aA),x6.2.2.2)) (.cl 40 (wN n x6.1 a2.E a2.Item a2.To x6.2.1) FB DT λx10=>.bB 46 (decide (x10.2.2.2≠0)) λx11=>.ifs [46] x11 (.ret ((a1:aA),x10.2.2.2)) (.bI 58 (bA (x10.2.1-x6.2.1.Value)) λx12=>.to 62 (aP 2 aN.av ([(⟨0,x12⟩:aN),(⟨6,x10.2.2.1⟩:aN)]:List aN))<|.bI 66 (bA (x10.2.1-x6.2.1.Value)) λx13=>.cl 68 (wK n a1 x10.1 a2.E a2.Item ([(⟨0,x12⟩:aN),(⟨6,x10.2.2.1⟩:aN)]:List aN) (⟨0,0,0,0,0,0,0,0,0,0,x13⟩:cO)) CU D7 λx14=>.ret ((x14.1:aA),x14.2)))
def L8 (n:Nat) (a1:aA) (a2:bK):Option (aA×Int):=(aAT n a1 a2).run
theorem aSK {n a1 a2 r} (h0:L8 n a1 a2=some r):PP Tryz.prog 118 [.agg (aA.av a1),.agg (bK.av a2)] (λy=>y=.bC [.agg (aA.av r.1),int r.2]) :=
 bU mixed bR (λr:aA×Int=>.bC [.agg (aA.av r.1),int r.2]) h0 Tryz.func118 (λr=>.bC (gD ((λ(a:aA)=>PV.agg (aA.dH a)) (r.1)) (bT (r.2)))) 100000 au
def aFB (n:Nat) (a1:List aB) (a2:Int):WT Tryz.prog (.b ((List aB)×Int×Int)) :=
 .jn 1 [0,1,4,5,6] [] [] (λ_ (a:Bool)=>[(16,aT a)]) (λ_ _=>[]) (.bB 12 (decide (a2<0)) λx3=>.ifs [12] x3 (.ret true) (.bB 15 (decide (a2>1073741824)) λx4=>.ret x4)) (λy0_1=>.ifs [16] y0_1 (.ret ((a1:List aB),0,1)) (.ln 19 aB.av a1<|.bB 20 (decide ((a1.length:Int)=0)) λx5=>.ifs [20] x5 (.ret ((a1:List aB),0,0)) (.cl 24 (rP n a1) yJ yP λx6=>.al 1<|.cl 31 (y8 n x6.1.aG a2) O3 SC λx8=>.bB 35 (!x8.2) λx9=>.ifs [35] x9 (.ret ((a1:List aB),0,2)) (.dr [(0,[1]),(1,[1]),(3,[1]),(4,[1]),(8,[1]),(9,[1])] [] [1] [] [0,1,2,3,4,5,6,7,8,9,10,11,12,13] (.to 43 (aP 3 aB.av ([(⟨x6.1.aG,x8.1,x6.1.bO⟩:aB)]:List aB))<|.bI 47 (bA (x8.1-x6.1.Value)) λx10=>.ret ((([(⟨x6.1.aG,x8.1,x6.1.bO⟩:aB)]:List aB):List aB),x10,0))))))
def M7 (n:Nat) (a1:List aB) (a2:Int):Option ((List aB)×Int×Int):=(aFB n a1 a2).run
theorem aHU {n a1 a2 r} (h0:M7 n a1 a2=some r):PP Tryz.prog 175 [aP 3 aB.av a1,int a2] (λy=>y=.bC [aP 3 aB.av r.1,int r.2.1,int r.2.2]) :=
 bU mixed bR (λr:(List aB)×Int×Int=>.bC [aP 3 aB.av r.1,int r.2.1,int r.2.2]) h0 Tryz.func175 (λr=>.bC (nM ((iJ aB.dH) (r.1)) (bT (r.2.1)) (bT (r.2.2)))) 100000 au
def aB4 (n:Nat) (a1:aA) (a2:bK):WT Tryz.prog (.b (aA×Int)) :=
 .al 1<|.al 2<|.al 3<|.dr [(0,[1]),(1,[1]),(2,[1]),(3,[2]),(4,[2]),(7,[2]),(8,[2])] [] [1,2] [] [0,1,2,3,4,5,6,7,8,9,10,11] (.ix 18 (fL 1 fI) a1.bH.Methods a2.E λx6=>.ix 22 fI x6 a2.Item λx7=>.bB 24 (decide (x7≠4)) λx8=>.ifs [24] x8 (.ret ((a1:aA),12)) (.al 4<|.fD 2 [2,3,4,5,6] [1,2,3] [] (λ_ (a:Int×aA)=>[(7,int a.1)]) (λ_ a=>[.kp 4 [(aA.av a.2)]]) (.lp [2,3,4,5,6] [1,2,3] [] (λ_ (a:Int×Int×aA)=>[(7,int a.1),(8,int a.2.1)]) (λ_ a=>[.kp 4 [(aA.av a.2.2)]]) n ((0:Int),0,a1) (pw λy0_1 q0=>(pw λy0_2 y0_3=>.bB 28 (decide (y0_2<2)) λx10=>.ifs [28] x10 (.cl 37 (pP y0_3 a2.E a2.Item y0_2) uO uY λx11=>.al 5<|.cl 43 (M7 n x11.aW a2.bM) aST aHU λx13=>.bB 48 (decide (x13.2.2≠0)) λx14=>.ifs [48] x14 (.esc (.esc (.ret ((a1:aA),x13.2.2)))) (.cl 60 (uE y0_3 a2.E a2.Item y0_2 (⟨x13.1,x11.bN⟩:aH)) BF BE λx15=>.bI 63 (bA (y0_1+x13.2.1)) λx16=>.bI 30 (bA (y0_2+1)) λx17=>.brk ((x16:Int),x17,x15))) (.esc (.brk ((y0_1:Int),y0_3)))) q0)) (pw λy1_1 y1_2=>.as (a1.bH.gL.length<=68719476736) inferInstance<|.ge 67 6<|.dr [(0,[4]),(1,[4]),(2,[4]),(3,[2]),(4,[2]),(5,[1]),(6,[1]),(7,[1]),(8,[2]),(9,[2]),(13,[6])] [(12,[2,4]),(14,[])] [1,2,4,6] [12,14] [0,1,2,3,4,5,6,7,8,9,10,11,12,13,14] (.ix 80 (fL 1 fI) a1.bH.gL a2.E λx20=>.as (x20.length<=68719476736) inferInstance<|.ge 82 7<|.bo (ix a1.bH.gL a2.E) λx23=>.gv 83<|.ge 1015014 0<|.dr [(0,[4]),(1,[4]),(2,[4]),(3,[2]),(4,[2]),(5,[6]),(6,[6]),(7,[2]),(8,[2]),(9,[2]),(10,[2]),(11,[7])] [(12,[])] [2,4,6,7] [12] [0,1,2,3,4,5,6,7,8,9,10,11,12] (.gv 89<|.gv 90<|.bo (ix x20 a2.Item) λx24=>.gv 95<|.bl (x20.set (Int.toNat a2.Item) (a2.bM:Int):List Int) λx25=>.ge 1016012 0<|.j5 6<|.j5 7<|.bI 105 (bA (0-y1_1)) λx28=>.to 107 (aP 2 aN.av ([(⟨0,y1_1⟩:aN),(⟨6,x28⟩:aN)]:List aN))<|.cl 110 (wK n a1 (⟨(⟨y1_2.bH.gG,y1_2.bH.gQ,y1_2.bH.bZ,y1_2.bH.Methods,(a1.bH.gL.set (Int.toNat a2.E) x25)⟩:fC),y1_2.bD,y1_2.bY,y1_2.eF,y1_2.dL,y1_2.Done⟩:aA) a2.E a2.Item ([(⟨0,y1_1⟩:aN),(⟨6,x28⟩:aN)]:List aN) (⟨0,0,0,0,0,0,0,0,0,0,y1_1⟩:cO)) CU D7 λx29=>.ret ((x29.1:aA),x29.2))))))
def FU (n:Nat) (a1:aA) (a2:bK):Option (aA×Int):=(aB4 n a1 a2).run
theorem aSF {n a1 a2 r} (h0:FU n a1 a2=some r):PP Tryz.prog 119 [.agg (aA.av a1),.agg (bK.av a2)] (λy=>y=.bC [.agg (aA.av r.1),int r.2]) :=
 bU mixed bR (λr:aA×Int=>.bC [.agg (aA.av r.1),int r.2]) h0 Tryz.func119 (λr=>.bC (gD ((λ(a:aA)=>PV.agg (aA.dH a)) (r.1)) (bT (r.2)))) 100000 au
def XH (n:Nat) (a1:aA) (a2:bK):WT Tryz.prog (.b (aA×Int)) :=
 .al 1<|.al 2<|.al 3<|.jn 0 [2,3,4,5] [1,2,3] [] (λ_ (a:Bool)=>[(14,aT a)]) (λ_ _=>[]) (.bB 9 (decide (a2.Kind<6)) λx6=>.ifs [9] x6 (.ret true) (.bB 13 (decide (a2.Kind>9)) λx7=>.ret x7)) (λy0_1=>.ifs [14] y0_1 (.ret ((a1:aA),1)) (.cl 21 (oC a1 a2.E a2.Item) sM sJ λx8=>.bB 23 (decide (x8≠0)) λx9=>.ifs [23] x9 (.ret ((a1:aA),x8)) (.bB 29 (decide (a2.Kind=6)) λx10=>.ifs [29] x10 (.cl 32 (IS n a1 a2) aP8 aOI λx11=>.ret ((x11.1:aA),x11.2)) (.bB 36 (decide (a2.Kind=7)) λx12=>.ifs [36] x12 (.cl 39 (JH n a1 a2) aGZ aJS λx13=>.ret ((x13.1:aA),x13.2)) (.bB 43 (decide (a2.Kind=8)) λx14=>.ifs [43] x14 (.cl 46 (L8 n a1 a2) aK2 aSK λx15=>.ret ((x15.1:aA),x15.2)) (.cl 51 (FU n a1 a2) aIM aSF λx16=>.ret ((x16.1:aA),x16.2)))))))
def H7 (n:Nat) (a1:aA) (a2:bK):Option (aA×Int):=(XH n a1 a2).run
theorem aPP {n a1 a2 r} (h0:H7 n a1 a2=some r):PP Tryz.prog 63 [.agg (aA.av a1),.agg (bK.av a2)] (λy=>y=.bC [.agg (aA.av r.1),int r.2]) :=
 bU mixed bR (λr:aA×Int=>.bC [.agg (aA.av r.1),int r.2]) h0 Tryz.func63 (λr=>.bC (gD ((λ(a:aA)=>PV.agg (aA.dH a)) (r.1)) (bT (r.2)))) 100000 au
def O1 (n:Nat) (a1:dG) (a2:Int):WT Tryz.prog (.b (Int)) :=
 .al 1<|.bB 8 (decide (a2=a1.Open)) λx4=>.ifs [8] x4 (.ret ((a1.gW:Int))) (.cl 16 (pN n a1.gW a2 a1.Open) sQ sH λx5=>.ret ((x5:Int)))
def tJ (n:Nat) (a1:dG) (a2:Int):Option (Int):=(O1 n a1 a2).run
theorem X8 {n a1 a2 r} (h0:tJ n a1 a2=some r):PP Tryz.prog 129 [.agg (dG.av a1),int a2] (λy=>y=int r) :=
 bU mixed bR (λr:Int=>int r) h0 Tryz.func129 (λr=>bT r) 100000 au
def aFE (a1:aA) (a2:Int) (a3:dG):WT Tryz.prog (.b (aA)) :=
 .al 1<|.al 2<|.al 3<|.as (a1.bY.length<=68719476736) inferInstance<|.ge 10 4<|.bo (ix a1.bY a2) λx9=>.gv 14<|.bl (a1.bY.set (Int.toNat a2) a3:List dG) λx10=>.ge 1002004 0<|.ret (((⟨a1.bH,a1.bD,x10,a1.eF,a1.dL,a1.Done⟩:aA):aA))
def EK (a1:aA) (a2:Int) (a3:dG):Option (aA):=(aFE a1 a2 a3).run
theorem ZD {a1 a2 a3 r} (h0:EK a1 a2 a3=some r):PP Tryz.prog 130 [.agg (aA.av a1),int a2,.agg (dG.av a3)] (λy=>y=.agg (aA.av r)) :=
 bU mixed bR (λr:aA=>.agg (aA.av r)) h0 Tryz.func130 (λr=>(λ(a:aA)=>PV.agg (aA.dH a)) r) 100000 au
def N5 (n:Nat) (a1:aA) (a2:bK) (a3:dG):WT Tryz.prog (.b (aA×Int)) :=
 .al 1<|.al 2<|.al 3<|.al 4<|.bB 15 (decide (a2.aG>a3.Open)) λx8=>.ifs [15] x8 (.ret ((a1:aA),5)) (.cl 20 (tJ n a3 a2.aG) UU X8 λx9=>.bI 30 (bA (a2.bM-x9)) λx10=>.bI 34 (bA (0-a2.bM)) λx11=>.to 36 (aP 2 aN.av ([(⟨1,x9⟩:aN),(⟨6,x10⟩:aN),(⟨2,x11⟩:aN)]:List aN))<|.cl 37 (kV n a1 a3.eY ([(⟨1,x9⟩:aN),(⟨6,x10⟩:aN),(⟨2,x11⟩:aN)]:List aN)) o5 pF λx12=>.al 5<|.bB 41 (decide (x12.2≠0)) λx14=>.ifs [41] x14 (.ret ((a1:aA),x12.2)) (.bI 48 (bA (a3.Open-a2.aG)) λx15=>.bI 52 (bA (a3.gW-x9)) λx16=>.cl 59 (EK x12.1 a2.Ref (⟨a3.eY,a3.Item,a3.Loc,a3.aG,a3.Value,x15,x16,a3.gP⟩:dG)) aE6 ZD λx17=>.ret ((x17:aA),0)))
def vY (n:Nat) (a1:aA) (a2:bK) (a3:dG):Option (aA×Int):=(N5 n a1 a2 a3).run
theorem aTW {n a1 a2 a3 r} (h0:vY n a1 a2 a3=some r):PP Tryz.prog 73 [.agg (aA.av a1),.agg (bK.av a2),.agg (dG.av a3)] (λy=>y=.bC [.agg (aA.av r.1),int r.2]) :=
 bU mixed bR (λr:aA×Int=>.bC [.agg (aA.av r.1),int r.2]) h0 Tryz.func73 (λr=>.bC (gD ((λ(a:aA)=>PV.agg (aA.dH a)) (r.1)) (bT (r.2)))) 100000 au
def QL (n:Nat) (a1:aA) (a2:bK) (a3:dG):WT Tryz.prog (.b (aA×Int)) :=
 .al 1<|.al 2<|.al 3<|.al 4<|.bI 22 (bA (a3.aG-a3.gP)) λx8=>.bB 23 (decide (a2.aG>x8)) λx9=>.ifs [23] x9 (.ret ((a1:aA),5)) (.jn 1 [3,4,5,6,7] [1,2,3,4] [] (λ_ (a:Bool)=>[(25,aT a)]) (λ_ _=>[]) (.bB 28 (decide (a3.Open>0)) λx10=>.ifs [28] x10 (.bB 34 (decide (a3.Open<a2.aG)) λx11=>.ret x11) (.ret false)) (λy0_1=>.ifs [25] y0_1 (.ret ((a1:aA),9)) (.cl 47 (oM n a1 a3.eY a3.Item a3.Loc 3 a2.aG) zS AY λx12=>.al 5<|.al 6<|.bB 53 (decide (x12.2.2.2≠0)) λx15=>.ifs [53] x15 (.ret ((a1:aA),x12.2.2.2)) (.dr [(0,[3]),(1,[3]),(2,[2]),(3,[2]),(4,[3]),(5,[3]),(7,[3])] [(11,[])] [2,3] [8,11] [0,1,2,3,4,5,6,7,8,9,10,11] (.cl 62 (pN n a3.Value a2.aG a3.aG) sQ sH λx16=>.al 7<|.bB 66 (decide (a3.Open>0)) λx18=>.jn 0 [3,4,5,6,7,8,9,14] [1,2,3,4,5,6] [] (λ_ (a:Int×Int×dG)=>[(12,int a.1),(13,int a.2.1)]) (λ_ a=>[.kp 7 [[int a.2.2.eY,int a.2.2.Item,int a.2.2.Loc,int a.2.2.aG,int a.2.2.Value,int a.2.2.Open,int a.2.2.gW,int a.2.2.gP]]]) (.ifs [66] x18 (.cl 70 (tJ n a3 a2.aG) UU X8 λx19=>.dr [(0,[3]),(1,[3]),(2,[2]),(3,[2]),(5,[3]),(6,[3]),(9,[7]),(11,[7])] [(10,[3]),(12,[])] [2,3,7] [10,12] [0,1,2,3,4,5,6,7,8,9,10,11,12] (.bI 75 (bA (a3.Open-a2.aG)) λx20=>.bI 79 (bA (a3.gW-x19)) λx21=>.ret ((1:Int),x19,((⟨a3.eY,a3.Item,a3.Loc,a3.aG,a3.Value,x20,x21,a3.gP⟩:dG):dG)))) (.ret ((2:Int),x16,a3))) (pw λy1_1 q0=>(pw λy1_2 y1_3=>.bI 92 (bA (x12.2.1.Value-y1_2)) λx22=>.bI 96 (bA (0-x12.2.1.Value)) λx23=>.to 98 (aP 2 aN.av ([(⟨y1_1,y1_2⟩:aN),(⟨6,x22⟩:aN),(⟨0,x23⟩:aN)]:List aN))<|.cl 99 (kV n x12.1 a3.eY ([(⟨y1_1,y1_2⟩:aN),(⟨6,x22⟩:aN),(⟨0,x23⟩:aN)]:List aN)) o5 pF λx24=>.bB 103 (decide (x24.2≠0)) λx25=>.ifs [103] x25 (.ret ((a1:aA),x24.2)) (.cl 115 (nE n x24.1 a3.eY a3.Item (⟨0,0,0,0,0,0,0,x12.2.1.Value,0,0,0⟩:cO)) uW tL λx26=>.bB 119 (decide (x26.2≠0)) λx27=>.ifs [119] x27 (.ret ((a1:aA),x26.2)) (.bI 126 (bA (a3.gP+a2.aG)) λx28=>.cl 132 (EK x26.1 a2.Ref (⟨y1_3.eY,y1_3.Item,y1_3.Loc,y1_3.aG,y1_3.Value,y1_3.Open,y1_3.gW,x28⟩:dG)) aE6 ZD λx29=>.ret ((x29:aA),0)))) q0))))))
def vT (n:Nat) (a1:aA) (a2:bK) (a3:dG):Option (aA×Int):=(QL n a1 a2 a3).run
theorem aJ7 {n a1 a2 a3 r} (h0:vT n a1 a2 a3=some r):PP Tryz.prog 74 [.agg (aA.av a1),.agg (bK.av a2),.agg (dG.av a3)] (λy=>y=.bC [.agg (aA.av r.1),int r.2]) :=
 bU mixed bR (λr:aA×Int=>.bC [.agg (aA.av r.1),int r.2]) h0 Tryz.func74 (λr=>.bC (gD ((λ(a:aA)=>PV.agg (aA.dH a)) (r.1)) (bT (r.2)))) 100000 au
def SN (n:Nat) (a1:aA) (a2:bK):WT Tryz.prog (.b (aA×Int)) :=
 .al 1<|.al 2<|.al 3<|.jn 0 [2,3,4,5] [1,2,3] [] (λ_ (a:Bool)=>[(15,aT a)]) (λ_ _=>[]) (.bB 10 (decide (a2.Kind≠2)) λx6=>.ifs [10] x6 (.bB 14 (decide (a2.Kind≠3)) λx7=>.ret x7) (.ret false)) (λy0_1=>.ifs [15] y0_1 (.ret ((a1:aA),1)) (.jn 1 [2,3,4,5] [1,2,3] [] (λ_ (a:Bool)=>[(27,aT a)]) (λ_ _=>[]) (.bB 19 (decide (a2.Ref<0)) λx8=>.ifs [19] x8 (.ret true) (.ln 25 dG.av a1.bY<|.bB 26 (decide (a2.Ref>=(a1.bY.length:Int))) λx9=>.ret x9)) (λy1_1=>.ifs [27] y1_1 (.ret ((a1:aA),4)) (.ix 33 dG.av a1.bY a2.Ref λx10=>.al 4<|.cl 40 (oC a1 x10.eY x10.Item) sM sJ λx12=>.bB 42 (decide (x12≠0)) λx13=>.ifs [42] x13 (.ret ((a1:aA),x12)) (.bB 47 (decide (a2.Kind=2)) λx14=>.ifs [47] x14 (.cl 51 (vY n a1 a2 x10) aHD aTW λx15=>.ret ((x15.1:aA),x15.2)) (.cl 57 (vT n a1 a2 x10) aVP aJ7 λx16=>.ret ((x16.1:aA),x16.2)))))))
def qT (n:Nat) (a1:aA) (a2:bK):Option (aA×Int):=(SN n a1 a2).run
theorem YD {n a1 a2 r} (h0:qT n a1 a2=some r):PP Tryz.prog 41 [.agg (aA.av a1),.agg (bK.av a2)] (λy=>y=.bC [.agg (aA.av r.1),int r.2]) :=
 bU mixed bR (λr:aA×Int=>.bC [.agg (aA.av r.1),int r.2]) h0 Tryz.func41 (λr=>.bC (gD ((λ(a:aA)=>PV.agg (aA.dH a)) (r.1)) (bT (r.2)))) 100000 au
def aDL (n:Nat) (a1:aA) (a2:List Int) (a3:Int):WT Tryz.prog (.b ((List Int))) :=
 .al 1<|.jn 2 [6] [] [4] (λu18 (a:(List Int))=>[(7,.sl 4 (u18 4) 0 a.length)]) (λ_ a=>[.nw 4 3 1 (a.map fI)]) (.no 7 4 3 1<|.lp [1,2,3,6] [1] [4] (λu25 (a:Int×(List Int))=>[(7,.sl 4 (u25 4) 0 a.2.length),(8,int a.1)]) (λ_ a=>[.nw 4 3 1 (a.2.map fI)]) n ((0:Int),(([]:List Int):List Int)) (pw λy0_2 y0_3=>.ln 13 fI a2<|.bB 14 (decide (y0_2<(a2.length:Int))) λx6=>.ifs [14] x6 (.jn 3 [1,2,3,6,7,8,9] [1,4] [] (λ_ (a:Bool)=>[(31,aT a)]) (λ_ _=>[]) (.dr [(10,[1]),(11,[1])] [] [1] [] [0,1,2,3,4,5,6,7,8,9,10,11,12,13,14] (.ix 19 fI a2 y0_2 λx7=>.bB 21 (decide (x7>=0)) λx8=>.ifs [21] x8 (.ix 25 fI a2 y0_2 λx9=>.ln 29 dG.av a1.bY<|.bB 30 (decide (x9<(a1.bY.length:Int))) λx10=>.ret x10) (.ret false))) (λy1_1=>.jn 0 [1,2,3,6,7,8] [1,4] [] (λ_ (a:Int)=>[(9,int a)]) (λ_ _=>[]) (.ifs [31] y1_1 (.dr [(0,[1]),(1,[1])] [(9,[])] [1] [8,9] [0,1,2,3,4,5,6,7,8,9] (.ix 36 fI a2 y0_2 λx11=>.ix 38 dG.av a1.bY x11 λx12=>.al 2<|.bB 42 (decide (a3=0)) λx14=>.ifs [42] x14 (.ret (x12.aG:Int)) (.bB 46 (decide (a3=1)) λx15=>.ifs [46] x15 (.ret (x12.Value:Int)) (.bB 50 (decide (a3=2)) λx16=>.ifs [50] x16 (.dr [(0,[2]),(1,[2]),(2,[1]),(3,[1]),(4,[1]),(5,[2]),(6,[2])] [] [1,2] [] [0,1,2,3,4,5,6,7,8,9,10] (.ix 58 fI a1.bH.bZ x12.Item λx17=>.bI 60 (bA (x12.aG*x17)) λx18=>.ret x18)) (.ret 0))))) (.ret 0)) (λy2_1=>.to 63 (aP 1 fI ([y2_1]:List Int))<|.bl (y0_3++([y2_1]:List Int):List Int) λx19=>.as (x19.length<=68719476736) inferInstance<|.ge 64 0<|.bI 16 (bA (y0_2+1)) λx22=>.brk ((x22:Int),x19)))) (.esc (.ret y0_3)))) (λy3_2=>.ret ((y3_2:List Int)))
def JP (n:Nat) (a1:aA) (a2:List Int) (a3:Int):Option ((List Int)):=(aDL n a1 a2 a3).run
theorem aQZ {n a1 a2 a3 r} (h0:JP n a1 a2 a3=some r):PP Tryz.prog 198 [.agg (aA.av a1),aP 1 fI a2,int a3] (λy=>y=aP 1 fI r) :=
 bU mixed bR (λr:(List Int)=>aP 1 fI r) h0 Tryz.func198 (λr=>(iJ nV) r) 100000 au
def aAA (n:Nat) (a1:Int) (a2:List Int):WT Tryz.prog (.b ((List Int)×Int)) :=
 .fD 3 [0,1,4,5] [] [] (λ_ (a:Bool)=>[(6,aT a)]) (λ_ _=>[]) (.lp [0,1,4,5] [] [] (λ_ (a:Bool×Int)=>[(6,aT a.1),(7,int a.2)]) (λ_ _=>[]) n ((false:Bool),0) (pw λy0_1 y0_2=>.ln 21 fI a2<|.bB 22 (decide (y0_2<(a2.length:Int))) λx3=>.ifs [22] x3 (.jn 2 [0,1,4,5,6,7] [] [] (λ_ (a:Bool)=>[(36,aT a)]) (λ_ _=>[]) (.ix 27 fI a2 y0_2 λx4=>.bB 29 (decide (x4<0)) λx5=>.ifs [29] x5 (.ret true) (.ix 33 fI a2 y0_2 λx6=>.bB 35 (decide (x6>288230376151711744)) λx7=>.ret x7)) (λy1_1=>.ifs [36] y1_1 (.esc (.esc (.ret (([]:List Int),1)))) (.jn 1 [0,1,4,5,7] [] [] (λ_ (a:Bool)=>[(6,aT a)]) (λ_ _=>[]) (.ifs [6] y0_1 (.ret true) (.ix 41 fI a2 y0_2 λx8=>.bB 43 (decide (x8>0)) λx9=>.ret x9)) (λy2_1=>.bI 24 (bA (y0_2+1)) λx10=>.brk ((y2_1:Bool),x10))))) (.esc (.brk y0_1)))) (λy3_1=>.jn 0 [0,1,4,5] [] [] (λ_ (a:Bool)=>[(54,aT a)]) (λ_ _=>[]) (.bB 46 (decide (a1<0)) λx11=>.ifs [46] x11 (.ret true) (.bB 49 (decide (a1>288230376151711744)) λx12=>.ifs [49] x12 (.ret true) (.bB 53 (!y3_1) λx13=>.ret x13))) (λy4_1=>.ifs [54] y4_1 (.ret (([]:List Int),1)) (.cl 57 (nI n a2) rH qP λx14=>.bB 61 (decide (x14.2≠0)) λx15=>.ifs [61] x15 (.ret (([]:List Int),x14.2)) (.jn 4 [4,5] [] [3,4] (λu23 (a:Int×(List Int)×(List Int))=>[(10,.sl 3 (u23 3) 0 a.2.1.length),(11,.sl 4 (u23 4) 0 a.2.2.length),(12,int a.1)]) (λ_ a=>[.nw 3 3 1 (a.2.1.map fI),.nw 4 3 1 (a.2.2.map fI)]) (.no 10 3 3 1<|.no 11 4 3 1<|.lp [0,1,4,5,8] [] [3,4] (λu24 (a:Int×Int×(List Int)×(List Int))=>[(10,.sl 3 (u24 3) 0 a.2.2.1.length),(11,.sl 4 (u24 4) 0 a.2.2.2.length),(12,int a.1),(13,int a.2.1)]) (λ_ a=>[.nw 3 3 1 (a.2.2.1.map fI),.nw 4 3 1 (a.2.2.2.map fI)]) n ((a1:Int),0,(([]:List Int):List Int),(([]:List Int):List Int)) (pw λy5_3 q0=>(pw λy5_4 q1=>(pw λy5_5 y5_6=>.ln 66 fI a2<|.bB 67 (decide (y5_4<(a2.length:Int))) λx18=>.ifs [67] x18 (.ix 74 fI a2 y5_4 λx19=>.cl 77 (pU n a1 x19 x14.1) vP vS λx20=>.to 83 (aP 1 fI ([x20.1]:List Int))<|.bl (y5_5++([x20.1]:List Int):List Int) λx21=>.as (x21.length<=68719476736) inferInstance<|.ge 84 0<|.to 87 (aP 1 fI ([x20.2.1]:List Int))<|.bl (y5_6++([x20.2.1]:List Int):List Int) λx24=>.as (x24.length<=68719476736) inferInstance<|.ge 88 0<|.bI 91 (bA (y5_3-x20.1)) λx27=>.bI 69 (bA (y5_4+1)) λx28=>.brk ((x27:Int),x28,x21,x24)) (.esc (.ret ((y5_3:Int),y5_5,y5_6)))) q1) q0)) (pw λy6_3 q0=>(pw λy6_4 y6_5=>.jn 0 [4,5] [] [] (λu44 (a:(List Int))=>[(10,.sl 3 (u44 3) 0 a.length)]) (λ_ a=>[.kp 3 (a.map fI)]) (.lp [4,5] [] [] (λu47 (a:Int×(List Int)×(List Int))=>[(10,.sl 3 (u47 3) 0 a.2.1.length),(11,.sl 4 (u47 4) 0 a.2.2.length),(12,int a.1)]) (λ_ a=>[.kp 3 (a.2.1.map fI),.kp 4 (a.2.2.map fI)]) n ((y6_3:Int),y6_4,y6_5) (pw λy7_1 q0=>(pw λy7_2 y7_3=>.bB 93 (decide (y7_1>0)) λx29=>.ifs [93] x29 (.jn 1 [4,5,12] [] [] (λu53 (a:(List Int)×(List Int))=>[(10,.sl 3 (u53 3) 0 a.1.length),(11,.sl 4 (u53 4) 0 a.2.length)]) (λ_ a=>[.kp 3 (a.1.map fI),.kp 4 (a.2.map fI)]) (.jn 3 [4,5,10,11,12] [3,4] [] (λ_ (a:Int)=>[(17,int a)]) (λ_ _=>[]) (.lp [4,5,10,11,12] [3,4] [] (λ_ (a:Int×Int)=>[(17,int a.1),(18,int a.2)]) (λ_ _=>[]) n ((0:Int),1) (pw λy8_1 y8_2=>.bB 99 (decide (y8_2<(y7_3.length:Int))) λx30=>.ifs [99] x30 (.jn 1 [4,5,10,11,12,18] [3,4] [] (λ_ (a:Int)=>[(17,int a)]) (λ_ _=>[]) (.dr [(2,[4]),(3,[4]),(6,[4]),(7,[4])] [] [4] [] [0,1,2,3,4,5,6,7,8] (.bo (ix y7_3 y8_2) λx31=>.gv 104<|.gv 105<|.bo (ix y7_3 y8_1) λx32=>.gv 108<|.gv 109<|.bB 110 (decide (x31>x32)) λx33=>.ifs [110] x33 (.ret y8_2) (.ret y8_1))) (λy9_1=>.bI 101 (bA (y8_2+1)) λx34=>.brk ((y9_1:Int),x34))) (.esc (.ret y8_1)))) (λy10_1=>.bo (ix y7_2 y10_1) λx35=>.gv 114<|.gv 115<|.bI 116 (bA (x35+1)) λx36=>.gv 117<|.bl (y7_2.set (Int.toNat y10_1) x36:List Int) λx37=>.ge 1028006 0<|.bo (ix y7_3 y10_1) λx38=>.gv 120<|.bl (y7_3.set (Int.toNat y10_1) (-1):List Int) λx39=>.ge 1029003 0<|.ret ((x37:List Int),x39))) (pw λy11_1 y11_2=>.bI 95 (bA (y7_1-1)) λx40=>.brk ((x40:Int),y11_1,y11_2))) (.esc (.ret y7_2))) q0)) (λy12_1=>.ret ((y12_1:List Int),0))) q0)))))
def EX (n:Nat) (a1:Int) (a2:List Int):Option ((List Int)×Int):=(aAA n a1 a2).run
theorem aLE {n a1 a2 r} (h0:EX n a1 a2=some r):PP Tryz.prog 197 [int a1,aP 1 fI a2] (λy=>y=.bC [aP 1 fI r.1,int r.2]) :=
 bU mixed bR (λr:(List Int)×Int=>.bC [aP 1 fI r.1,int r.2]) h0 Tryz.func197 (λr=>.bC (gD ((iJ nV) (r.1)) (bT (r.2)))) 100000 au
def aBI (n:Nat) (a1:Int) (a2:aH) (a3:Int):WT Tryz.prog (.b (aH×Int)) :=
 .al 1<|.al 2<|.ln 16 aB.av a2.aW<|.jn 1 [2,4,6,7,8] [1,2] [] (λ_ (a:Bool)=>[(17,aT a)]) (λ_ _=>[]) (.bB 19 (decide (a3<0)) λx6=>.ifs [19] x6 (.ret true) (.bB 22 (decide (a1=4)) λx7=>.ret x7)) (λy0_1=>.ifs [17] y0_1 (.ret ((a2:aH),1)) (.bB 27 (decide ((a2.aW.length:Int)=0)) λx8=>.ifs [27] x8 (.ret ((a2:aH),5)) (.bB 31 (decide (a3>288230376151711744)) λx9=>.ifs [31] x9 (.ret ((a2:aH),2)) (.as (a2.aW.length<=68719476736) inferInstance<|.ge 35 3<|.cl 37 (uX n a2) AU AR λx12=>.al 4<|.jn 1 [4,6,7] [1,2] [] (λu10 (a:(List aB))=>[(9,.sl 3 (u10 3) 0 a.length)]) (λ_ a=>[.kp 3 (a.map aB.av)]) (.lp [2,4,6,7,8,10] [1,2,4] [] (λu13 (a:Int×Int×(List aB))=>[(9,.sl 3 (u13 3) 0 a.2.2.length),(11,int a.1),(12,int a.2.1)]) (λ_ a=>[.kp 3 (a.2.2.map aB.av)]) n ((a3:Int),0,(a2.aW:List aB)) (pw λy1_1 q0=>(pw λy1_2 y1_3=>.bB 41 (decide (y1_2<(a2.aW.length:Int))) λx14=>.ifs [41] x14 (.bI 47 (bA ((a2.aW.length:Int)-1)) λx15=>.bB 48 (decide (y1_2<x15)) λx16=>.jn 0 [2,4,6,7,8,9,10,11,12] [1,2,3,4] [] (λ_ (a:Int)=>[(13,int a)]) (λ_ _=>[]) (.ifs [48] x16 (.dr [(3,[3]),(4,[3]),(5,[3]),(6,[4]),(7,[4])] [] [3,4] [] [0,1,2,3,4,5,6,7,8,9] (.bo (ix y1_3 y1_2) λx17=>.gv 52<|.gv 53<|.gv 54<|.cl 57 (pN n a3 x17.aG x12.aG) sQ sH λx18=>.ret x18)) (.ret y1_1)) (λy2_1=>.bo (ix y1_3 y1_2) λx19=>.gv 62<|.gv 63<|.gv 64<|.bI 66 (bA (x19.Value+y2_1)) λx20=>.bI 69 (bA (y1_1-y2_1)) λx21=>.gv 70<|.gv 71<|.bl (y1_3.set (Int.toNat y1_2) ((⟨x19.aG,x20,x19.bO⟩:aB):aB):List aB) λx22=>.ge 1016014 0<|.bI 43 (bA (y1_2+1)) λx23=>.brk ((x21:Int),x23,x22))) (.esc (.ret y1_3))) q0)) (λy3_1=>.kS 73 (yG n y3_1) JC GN (λ_=>rfl) λx24=>.bB 74 (!x24) λx25=>.ifs [74] x25 (.ret ((a2:aH),2)) (.ret (((⟨y3_1,a2.bN⟩:aH):aH),0)))))))
def GR (n:Nat) (a1:Int) (a2:aH) (a3:Int):Option (aH×Int):=(aBI n a1 a2 a3).run
theorem aUX {n:Nat} {a1:Int} {a2:aH} {a3:Int} {r:aH×Int} (h0:GR n a1 a2 a3=some r):PP Tryz.prog 239 [int a1,.agg (aH.av a2),int a3] (λy=>y=.bC [.agg (aH.av r.1),int r.2]):=by
 refine bU mixed bR (λ(r:aH×Int)=>.bC [.agg (aH.av r.1),int r.2]) h0 Tryz.func239 (λr=>.bC (gD ((λ(a:aH)=>PV.agg (aH.dH a)) (r.1)) (bT (r.2)))) 100000 ?_
 intro v4
 intro v5
 refine .mk ?_
 refine .mk ?_ ?_
 refine .mk λx6=>?_
 refine .mk .mk ?_
 refine .mk λx7=>?_
 exact .mk
 intro _ _
 refine .mk .mk ?_
 refine .mk λx8=>?_
 refine .mk .mk ?_
 refine .mk λx9=>?_
 refine .mk .mk ?_
 refine .mk λuS=>?_
 refine .mk _ ⟨λ_=>pQ (g:=aB.av) (m:=a2.aW) 3 rfl Tryz.underlying121 BX SI rfl rfl rfl rfl (.refl _) (λ_=>rfl) uS,λ_ _ _=>trivial⟩ ?_
 rintro _ _ ⟨v11,rfl,rfl⟩
 refine .mk λx12 e12=>?_
 intro v13
 refine .mk ?_ ?_
 refine .mk ?_
 rintro ⟨y1_1,y1_2,y1_3⟩ _
 refine .mk λx14=>?_
 refine .mk ?_ ?_
 refine .mk λx15=>?_
 refine .mk λx16=>?_
 refine .mk ?_ ?_
 refine .mk ?_ ?_
 refine .mk ?_
 refine .mk λx17 e17=>?_
 refine .mk _ (λH hH _=>iL rfl Tryz.underlying121 kN rfl rfl ((hH _ (by decide)).trans rfl) rfl rfl (Eq.symm rfl) (List.length_map _) e17) ?_
 refine .mk _ (λH hH _=>gN rfl B6 rfl (.pt ((hH _ (by decide)).trans rfl) rfl (fM e17)) (.pt _ _ _ _ _)) ?_
 refine .mk _ (λH hH _=>iK rfl fO rfl (.pt ((hH _ (by decide)).trans rfl) rfl (fM e17)) rfl) ?_
 refine .mk λx18 e18=>?_
 exact .mk
 exact .mk
 intro _ _
 refine .mk λx19 e19=>?_
 refine .mk _ (eH (iL rfl Tryz.underlying121 kN rfl rfl rfl rfl rfl (Eq.symm rfl) (List.length_map _) e19)) ?_
 refine .mk _ (eH (gN rfl uJ rfl (.pt rfl rfl (fM e19)) (.pt _ _ _ _ _))) ?_
 refine .mk _ (eH (iK rfl fO rfl (.pt rfl rfl (fM e19)) rfl)) ?_
 refine .mk λx20=>?_
 refine .mk λx21=>?_
 refine .mk _ (eH (iL rfl Tryz.underlying121 kN rfl rfl rfl rfl rfl (Eq.symm rfl) (List.length_map _) e19)) ?_
 refine .mk _ (eH (gN rfl uJ rfl (.pt rfl rfl (fM e19)) (.pt _ _ _ _ _))) ?_
 refine .mk λx22 e22=>?_
 have fx22:=j6 e19 e22;have lx22:=jX e22 (rfl:y1_3.length=y1_3.length)
 refine .mk _ ⟨λ_=>eO.gK (iQ (ob':=(⟨75,3,true,true,_,x22.map aB.av⟩:cB)) (iG rfl fO rfl rfl rfl rfl rfl (fM e19) rfl rfl rfl) (jJ (kL e22))) (λ_ h=>h) (λ_ _=>trivial),λ_ _ _=>trivial⟩ ?_
 rintro _ _ ⟨rfl,rfl⟩
 refine .mk λx23=>?_
 exact .mk ⟨⟨⟨_,rfl,(qJ (Eq.symm lx22))⟩,⟨_,rfl,(.refl _)⟩,⟨_,rfl,(.refl _)⟩,⟨_,rfl,(.refl _)⟩,⟨_,rfl,(.refl _)⟩,⟨_,rfl,(.refl _)⟩,⟨_,rfl,(.refl _)⟩,⟨_,rfl,(.refl _)⟩,⟨_,rfl,(.refl _)⟩,trivial⟩,⟨⟨_,rfl,(.refl _)⟩,⟨_,rfl,(.refl _)⟩,⟨_,rfl,(.refl _)⟩,⟨_,rfl,(.refl _)⟩,trivial⟩⟩
 exact .mk
 intro _ _
 refine .mk (λx24 e24=>?_) rfl (by rintro _ rfl;exact (.cons (gJ rfl rfl rfl rfl rfl (Eq.symm rfl)) .nil))
 refine .mk λx25=>?_
 refine .mk .mk ?_
 exact .mk (dX.bC (.cons (dX.agg (.cons (gJ rfl rfl rfl rfl rfl (Eq.symm rfl)) (.cons (.refl _) (.cons (.refl _) (.cons (.refl _) .nil))))) (.cons (.refl _) .nil)))
def aB6 (n:Nat) (a1:aA) (a2:dG) (a3:Int):WT Tryz.prog (.b (aA×Int×Int)) :=
 .al 1<|.al 2<|.al 3<|.dr [(0,[1]),(1,[1]),(2,[1]),(3,[2]),(4,[2]),(7,[2]),(8,[2])] [] [1,2] [] [0,1,2,3,4,5,6,7,8,9,10,11] (.ix 20 (fL 1 fI) a1.bH.Methods a2.eY λx7=>.ix 24 fI x7 a2.Item λx8=>.cl 33 (pP a1 a2.eY a2.Item a2.Loc) uO uY λx9=>.al 4<|.dr [(1,[2]),(2,[2]),(3,[2]),(4,[2]),(6,[4]),(10,[2]),(11,[2])] [] [2,4] [] [0,1,2,3,4,5,6,7,8,9,10,11,12,13] (.bI 39 (bA (a2.aG-a2.gP)) λx11=>.cl 41 (uX n x9) AU AR λx12=>.bl (if x12.aG<x11 then x12.aG else x11:Int) λx13=>.gv 43<|.cl 46 (pN n a3 x13 a2.aG) sQ sH λx14=>.jn 0 [3,4,6,7,8,9,10,11] [1,2,3,4] [] (λ_ (a:Bool)=>[(52,aT a)]) (λ_ _=>[]) (.bB 48 (decide (x8=4)) λx15=>.ifs [48] x15 (.ret true) (.bB 51 (decide (x14=0)) λx16=>.ret x16)) (λy0_1=>.ifs [52] y0_1 (.ret ((a1:aA),0,0)) (.cl 58 (GR n x8 x9 x14) aJB aUX λx17=>.al 5<|.bB 62 (decide (x17.2≠0)) λx19=>.ifs [62] x19 (.ret ((a1:aA),0,x17.2)) (.dr [(0,[1]),(1,[2]),(2,[2]),(3,[2]),(4,[2]),(5,[2]),(6,[2]),(7,[5]),(9,[2]),(10,[2]),(11,[2]),(12,[2])] [(20,[])] [1,2,5] [19,20] [0,1,2,3,4,5,6,7,8,9,10,11,12,13,14,15,16,17,18,19,20,21] (.cl 74 (uE a1 a2.eY a2.Item a2.Loc x17.1) BF BE λx20=>.cl 81 (nE n x20 a2.eY a2.Item (⟨0,0,x14,0,0,0,0,0,0,0,0⟩:cO)) uW tL λx21=>.al 6<|.ret ((x21.1:aA),x14,x21.2)))))))
def FQ (n:Nat) (a1:aA) (a2:dG) (a3:Int):Option (aA×Int×Int):=(aB6 n a1 a2 a3).run
theorem aKX {n a1 a2 a3 r} (h0:FQ n a1 a2 a3=some r):PP Tryz.prog 199 [.agg (aA.av a1),.agg (dG.av a2),int a3] (λy=>y=.bC [.agg (aA.av r.1),int r.2.1,int r.2.2]) :=
 bU mixed bR (λr:aA×Int×Int=>.bC [.agg (aA.av r.1),int r.2.1,int r.2.2]) h0 Tryz.func199 (λr=>.bC (nM ((λ(a:aA)=>PV.agg (aA.dH a)) (r.1)) (bT (r.2.1)) (bT (r.2.2)))) 100000 au
def YE (n:Nat) (a1:aA) (a2:bK):WT Tryz.prog (.b (aA×Int)) :=
 .al 1<|.al 2<|.al 3<|.jn 0 [2,3,4,5] [1,2,3] [] (λ_ (a:Bool)=>[(26,aT a)]) (λ_ _=>[]) (.bB 20 (decide (a2.Kind≠11)) λx6=>.ifs [20] x6 (.ret true) (.ln 24 fI a2.fA<|.bB 25 (decide ((a2.fA.length:Int)=0)) λx7=>.ret x7)) (λy0_1=>.ifs [26] y0_1 (.ret ((a1:aA),1)) (.fD 2 [2,3,4,5] [1,2,3] [] (λ_ (a:Unit)=>[]) (λ_ _=>[]) (.lp [2,3,4,5] [1,2,3] [] (λ_ (a:Int)=>[(6,int a)]) (λ_ _=>[]) n 0 (λy1_1=>.ln 31 fI a2.fA<|.bB 32 (decide (y1_1<(a2.fA.length:Int))) λx8=>.ifs [32] x8 (.jn 2 [2,3,4,5,6] [1,2,3] [] (λ_ (a:Bool)=>[(51,aT a)]) (λ_ _=>[]) (.dr [(0,[2]),(1,[2]),(7,[2]),(8,[2]),(12,[1]),(13,[1])] [] [1,2] [] [0,1,2,3,4,5,6,7,8,9,10,11,12,13,14,15,16] (.ix 38 fI a2.fA y1_1 λx9=>.bB 40 (decide (x9<0)) λx10=>.ifs [40] x10 (.ret true) (.ix 45 fI a2.fA y1_1 λx11=>.ln 49 dG.av a1.bY<|.bB 50 (decide (x11>=(a1.bY.length:Int))) λx12=>.ret x12))) (λy2_1=>.ifs [51] y2_1 (.esc (.esc (.ret ((a1:aA),4)))) (.bI 34 (bA (y1_1+1)) λx13=>.brk x13))) (.esc (.brk ())))) (λ_=>.dr [(0,[1]),(1,[1]),(2,[2]),(3,[2])] [(9,[])] [1,2] [8,9] [0,1,2,3,4,5,6,7,8,9] (.ix 57 fI a2.fA 0 λx14=>.ix 59 dG.av a1.bY x14 λx15=>.al 4<|.fD 1 [2,3,4,5,7] [1,2,3,4] [] (λ_ (a:Unit)=>[]) (λ_ _=>[]) (.lp [2,3,4,5,7] [1,2,3,4] [] (λ_ (a:Int)=>[(8,int a)]) (λ_ _=>[]) n 1 (λy4_1=>.ln 64 fI a2.fA<|.bB 65 (decide (y4_1<(a2.fA.length:Int))) λx17=>.ifs [65] x17 (.dr [(0,[1]),(1,[1]),(2,[2]),(3,[2]),(10,[4]),(11,[4])] [] [1,2,4] [] [0,1,2,3,4,5,6,7,8,9,10,11,12] (.ix 73 fI a2.fA y4_1 λx18=>.ix 75 dG.av a1.bY x18 λx19=>.bB 80 (decide (x19.eY≠x15.eY)) λx20=>.ifs [80] x20 (.esc (.esc (.ret ((a1:aA),1)))) (.bI 67 (bA (y4_1+1)) λx21=>.brk x21))) (.esc (.brk ())))) (λ_=>.cl 87 (oC a1 x15.eY x15.Item) sM sJ λx22=>.bB 89 (decide (x22≠0)) λx23=>.ifs [89] x23 (.ret ((a1:aA),x22)) (.dr [(0,[2]),(1,[2]),(2,[1]),(3,[2]),(4,[2]),(5,[2]),(6,[2])] [] [1,2] [] [0,1,2,3,4,5,6,7,8,9,10,11,12,13] (.cl 100 (JP n a1 a2.fA a2.To) aJW aQZ λx24=>.cl 101 (EX n a2.bM x24) QR aLE λx25=>.bB 105 (decide (x25.2≠0)) λx26=>.ifs [105] x26 (.ret ((a1:aA),x25.2)) (.al 5<|.fD 1 [2,3,4,5,7,12] [1,2,3,4] [] (λ_ (a:Int×aA)=>[(13,int a.1)]) (λ_ a=>[.kp 5 [(aA.av a.2)]]) (.lp [2,3,4,5,7,10,12] [1,2,3,4] [] (λ_ (a:Int×Int×aA)=>[(13,int a.1),(14,int a.2.1)]) (λ_ a=>[.kp 5 [(aA.av a.2.2)]]) n ((0:Int),0,a1) (pw λy6_1 q0=>(pw λy6_2 y6_3=>.ln 111 fI x25.1<|.bB 112 (decide (y6_2<(x25.1.length:Int))) λx28=>.ifs [112] x28 (.dr [(0,[5]),(1,[1]),(2,[1]),(3,[2]),(4,[2])] [(20,[])] [1,2,5] [19,20] [0,1,2,3,4,5,6,7,8,9,10,11,12,13,14,15,16,17,18,19,20,21,22] (.ix 122 fI a2.fA y6_2 λx29=>.ix 124 dG.av a1.bY x29 λx30=>.ix 128 fI x25.1 y6_2 λx31=>.cl 130 (FQ n y6_3 x30 x31) aXV aKX λx32=>.al 6<|.bB 135 (decide (x32.2.2≠0)) λx34=>.ifs [135] x34 (.esc (.esc (.ret ((a1:aA),x32.2.2)))) (.bI 141 (bA (y6_1+x32.2.1)) λx35=>.bI 114 (bA (y6_2+1)) λx36=>.brk ((x35:Int),x36,x32.1)))) (.esc (.brk ((y6_1:Int),y6_3)))) q0)) (pw λy7_1 y7_2=>.bI 151 (bA (a2.bM-y7_1)) λx37=>.bI 155 (bA (0-a2.bM)) λx38=>.to 157 (aP 2 aN.av ([(⟨0,y7_1⟩:aN),(⟨9,x37⟩:aN),(⟨2,x38⟩:aN)]:List aN))<|.cl 158 (kV n y7_2 x15.eY ([(⟨0,y7_1⟩:aN),(⟨9,x37⟩:aN),(⟨2,x38⟩:aN)]:List aN)) o5 pF λx39=>.bB 162 (decide (x39.2≠0)) λx40=>.ifs [162] x40 (.ret ((a1:aA),x39.2)) (.ret ((x39.1:aA),0)))))))))))
def IV (n:Nat) (a1:aA) (a2:bK):Option (aA×Int):=(YE n a1 a2).run
theorem aVN {n a1 a2 r} (h0:IV n a1 a2=some r):PP Tryz.prog 148 [.agg (aA.av a1),.agg (bK.av a2)] (λy=>y=.bC [.agg (aA.av r.1),int r.2]) :=
 bU mixed bR (λr:aA×Int=>.bC [.agg (aA.av r.1),int r.2]) h0 Tryz.func148 (λr=>.bC (gD ((λ(a:aA)=>PV.agg (aA.dH a)) (r.1)) (bT (r.2)))) 100000 au
end
end Go.Pv
