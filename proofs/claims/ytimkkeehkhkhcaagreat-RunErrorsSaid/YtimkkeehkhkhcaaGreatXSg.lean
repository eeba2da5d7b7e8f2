import Derived.Test.YtimkkeehkhkhcaaGreatXSf
set_option linter.unusedVariables false
set_option linter.unusedSimpArgs false
namespace Go.Pv
open Go.Proofs
set_option maxRecDepth 100000
set_option maxHeartbeats 4000000
noncomputable section
def aH5 (a1:bF) (a2:Int) (a3:Int) (a4:bA):WB (bF×Int) :=
 .al 1<|.al 2<|.al 3<|.cl 21 (AN a1 a2 a3) II FX λx8=>.bB 22 (!x8) λx9=>.az [22] x9 (.lV 27 aH.av gE aH.gI a1.fO a2 λx10=>.ix 31 bA.av x10.iI a3 λx11=>.al 4<|.inl 34 R7 Tryz.func112 [1,2,3,4] [] (λ_ (a:Unit)=>aG 1 fI ([a4.Open,a4.jL,a4.jE,a4.iR,a4.iJ,a4.iB,a4.gW,a4.gL,a4.gH,a4.gD,a4.fU]:List Int)) (λ_ _=>[]) (.al 5<|.to 25 (aG 1 fI ([a4.Open,a4.jL,a4.jE,a4.iR,a4.iJ,a4.iB,a4.gW,a4.gL,a4.gH,a4.gD,a4.fU]:List Int))<|.ret ()) (λ_=>.jn 0 [1,2,4,8,9,10] [1,3] [] (λ_ (a:bA)=>[]) (λ_ a=>[.kp 4 [[int a.Open,int a.jL,int a.jE,int a.iR,int a.iJ,int a.iB,int a.gW,int a.gL,int a.gH,int a.gD,int a.fU]]]) (.un 24 (.kB 37 true<|.ix 39 fI ([a4.Open,a4.jL,a4.jE,a4.iR,a4.iJ,a4.iB,a4.gW,a4.gL,a4.gH,a4.gD,a4.fU]:List Int) 0 λx14=>.inl 41 qB Tryz.func191 [1,2,3,4] [] (λu51 (a:Unit)=>.list 1 [[.pt 4 (u51 4) 0 0],[.pt 4 (u51 4) 0 1],[.pt 4 (u51 4) 0 2],[.pt 4 (u51 4) 0 3],[.pt 4 (u51 4) 0 4],[.pt 4 (u51 4) 0 5],[.pt 4 (u51 4) 0 6],[.pt 4 (u51 4) 0 7],[.pt 4 (u51 4) 0 8],[.pt 4 (u51 4) 0 9],[.pt 4 (u51 4) 0 10]]) (λ_ _=>[]) (.dr [(1,[4]),(2,[4]),(4,[4]),(5,[4]),(7,[4]),(8,[4]),(10,[4]),(11,[4]),(13,[4]),(14,[4]),(16,[4]),(17,[4]),(19,[4]),(20,[4]),(22,[4]),(23,[4]),(25,[4]),(26,[4]),(28,[4]),(29,[4]),(31,[4]),(32,[4])] [] [4] [] [0,1,2,3,4,5,6,7,8,9,10,11,12,13,14,15,16,17,18,19,20,21,22,23,24,25,26,27,28,29,30,31,32,33,34] (.gv 36<|.ret ())) (λ_=>.gv 43<|.cl 50 (nZ x11.Open x14) o5 oG λx15=>.bB 54 (decide (x15.2≠0)) λx16=>.az [54] x16 (.kI 60 1<|.kB 37 true<|.ix 39 fI ([a4.Open,a4.jL,a4.jE,a4.iR,a4.iJ,a4.iB,a4.gW,a4.gL,a4.gH,a4.gD,a4.fU]:List Int) 1 λx17=>.inl 41 qB Tryz.func191 [1,2,3,4] [] (λu55 (a:Unit)=>.list 1 [[.pt 4 (u55 4) 0 0],[.pt 4 (u55 4) 0 1],[.pt 4 (u55 4) 0 2],[.pt 4 (u55 4) 0 3],[.pt 4 (u55 4) 0 4],[.pt 4 (u55 4) 0 5],[.pt 4 (u55 4) 0 6],[.pt 4 (u55 4) 0 7],[.pt 4 (u55 4) 0 8],[.pt 4 (u55 4) 0 9],[.pt 4 (u55 4) 0 10]]) (λ_ _=>[]) (.dr [(1,[4]),(2,[4]),(4,[4]),(5,[4]),(7,[4]),(8,[4]),(10,[4]),(11,[4]),(13,[4]),(14,[4]),(16,[4]),(17,[4]),(19,[4]),(20,[4]),(22,[4]),(23,[4]),(25,[4]),(26,[4]),(28,[4]),(29,[4]),(31,[4]),(32,[4])] [] [4] [] [0,1,2,3,4,5,6,7,8,9,10,11,12,13,14,15,16,17,18,19,20,21,22,23,24,25,26,27,28,29,30,31,32,33,34] (.gv 36<|.ret ())) (λ_=>.gv 43<|.cl 50 (nZ x11.jL x17) o5 oG λx18=>.bB 54 (decide (x18.2≠0)) λx19=>.az [54] x19 (.kI 60 2<|.kB 37 true<|.ix 39 fI ([a4.Open,a4.jL,a4.jE,a4.iR,a4.iJ,a4.iB,a4.gW,a4.gL,a4.gH,a4.gD,a4.fU]:List Int) 2 λx20=>.inl 41 qB Tryz.func191 [1,2,3,4] [] (λu59 (a:Unit)=>.list 1 [[.pt 4 (u59 4) 0 0],[.pt 4 (u59 4) 0 1],[.pt 4 (u59 4) 0 2],[.pt 4 (u59 4) 0 3],[.pt 4 (u59 4) 0 4],[.pt 4 (u59 4) 0 5],[.pt 4 (u59 4) 0 6],[.pt 4 (u59 4) 0 7],[.pt 4 (u59 4) 0 8],[.pt 4 (u59 4) 0 9],[.pt 4 (u59 4) 0 10]]) (λ_ _=>[]) (.dr [(1,[4]),(2,[4]),(4,[4]),(5,[4]),(7,[4]),(8,[4]),(10,[4]),(11,[4]),(13,[4]),(14,[4]),(16,[4]),(17,[4]),(19,[4]),(20,[4]),(22,[4]),(23,[4]),(25,[4]),(26,[4]),(28,[4]),(29,[4]),(31,[4]),(32,[4])] [] [4] [] [0,1,2,3,4,5,6,7,8,9,10,11,12,13,14,15,16,17,18,19,20,21,22,23,24,25,26,27,28,29,30,31,32,33,34] (.gv 36<|.ret ())) (λ_=>.gv 43<|.cl 50 (nZ x11.jE x20) o5 oG λx21=>.bB 54 (decide (x21.2≠0)) λx22=>.az [54] x22 (.kI 60 3<|.kB 37 true<|.ix 39 fI ([a4.Open,a4.jL,a4.jE,a4.iR,a4.iJ,a4.iB,a4.gW,a4.gL,a4.gH,a4.gD,a4.fU]:List Int) 3 λx23=>.inl 41 qB Tryz.func191 [1,2,3,4] [] (λu63 (a:Unit)=>.list 1 [[.pt 4 (u63 4) 0 0],[.pt 4 (u63 4) 0 1],[.pt 4 (u63 4) 0 2],[.pt 4 (u63 4) 0 3],[.pt 4 (u63 4) 0 4],[.pt 4 (u63 4) 0 5],[.pt 4 (u63 4) 0 6],[.pt 4 (u63 4) 0 7],[.pt 4 (u63 4) 0 8],[.pt 4 (u63 4) 0 9],[.pt 4 (u63 4) 0 10]]) (λ_ _=>[]) (.dr [(1,[4]),(2,[4]),(4,[4]),(5,[4]),(7,[4]),(8,[4]),(10,[4]),(11,[4]),(13,[4]),(14,[4]),(16,[4]),(17,[4]),(19,[4]),(20,[4]),(22,[4]),(23,[4]),(25,[4]),(26,[4]),(28,[4]),(29,[4]),(31,[4]),(32,[4])] [] [4] [] [0,1,2,3,4,5,6,7,8,9,10,11,12,13,14,15,16,17,18,19,20,21,22,23,24,25,26,27,28,29,30,31,32,33,34] (.gv 36<|.ret ())) (λ_=>.gv 43<|.cl 50 (nZ x11.iR x23) o5 oG λx24=>.bB 54 (decide (x24.2≠0)) λx25=>.az [54] x25 (.kI 60 4<|.kB 37 true<|.ix 39 fI ([a4.Open,a4.jL,a4.jE,a4.iR,a4.iJ,a4.iB,a4.gW,a4.gL,a4.gH,a4.gD,a4.fU]:List Int) 4 λx26=>.inl 41 qB Tryz.func191 [1,2,3,4] [] (λu67 (a:Unit)=>.list 1 [[.pt 4 (u67 4) 0 0],[.pt 4 (u67 4) 0 1],[.pt 4 (u67 4) 0 2],[.pt 4 (u67 4) 0 3],[.pt 4 (u67 4) 0 4],[.pt 4 (u67 4) 0 5],[.pt 4 (u67 4) 0 6],[.pt 4 (u67 4) 0 7],[.pt 4 (u67 4) 0 8],[.pt 4 (u67 4) 0 9],[.pt 4 (u67 4) 0 10]]) (λ_ _=>[]) (.dr [(1,[4]),(2,[4]),(4,[4]),(5,[4]),(7,[4]),(8,[4]),(10,[4]),(11,[4]),(13,[4]),(14,[4]),(16,[4]),(17,[4]),(19,[4]),(20,[4]),(22,[4]),(23,[4]),(25,[4]),(26,[4]),(28,[4]),(29,[4]),(31,[4]),(32,[4])] [] [4] [] [0,1,2,3,4,5,6,7,8,9,10,11,12,13,14,15,16,17,18,19,20,21,22,23,24,25,26,27,28,29,30,31,32,33,34] (.gv 36<|.ret ())) (λ_=>.gv 43<|.cl 50 (nZ x11.iJ x26) o5 oG λx27=>.bB 54 (decide (x27.2≠0)) λx28=>.az [54] x28 (.kI 60 5<|.kB 37 true<|.ix 39 fI ([a4.Open,a4.jL,a4.jE,a4.iR,a4.iJ,a4.iB,a4.gW,a4.gL,a4.gH,a4.gD,a4.fU]:List Int) 5 λx29=>.inl 41 qB Tryz.func191 [1,2,3,4] [] (λu71 (a:Unit)=>.list 1 [[.pt 4 (u71 4) 0 0],[.pt 4 (u71 4) 0 1],[.pt 4 (u71 4) 0 2],[.pt 4 (u71 4) 0 3],[.pt 4 (u71 4) 0 4],[.pt 4 (u71 4) 0 5],[.pt 4 (u71 4) 0 6],[.pt 4 (u71 4) 0 7],[.pt 4 (u71 4) 0 8],[.pt 4 (u71 4) 0 9],[.pt 4 (u71 4) 0 10]]) (λ_ _=>[]) (.dr [(1,[4]),(2,[4]),(4,[4]),(5,[4]),(7,[4]),(8,[4]),(10,[4]),(11,[4]),(13,[4]),(14,[4]),(16,[4]),(17,[4]),(19,[4]),(20,[4]),(22,[4]),(23,[4]),(25,[4]),(26,[4]),(28,[4]),(29,[4]),(31,[4]),(32,[4])] [] [4] [] [0,1,2,3,4,5,6,7,8,9,10,11,12,13,14,15,16,17,18,19,20,21,22,23,24,25,26,27,28,29,30,31,32,33,34] (.gv 36<|.ret ())) (λ_=>.gv 43<|.cl 50 (nZ x11.iB x29) o5 oG λx30=>.bB 54 (decide (x30.2≠0)) λx31=>.az [54] x31 (.kI 60 6<|.kB 37 true<|.ix 39 fI ([a4.Open,a4.jL,a4.jE,a4.iR,a4.iJ,a4.iB,a4.gW,a4.gL,a4.gH,a4.gD,a4.fU]:List Int) 6 λx32=>.inl 41 qB Tryz.func191 [1,2,3,4] [] (λu75 (a:Unit)=>.list 1 [[.pt 4 (u75 4) 0 0],[.pt 4 (u75 4) 0 1],[.pt 4 (u75 4) 0 2],[.pt 4 (u75 4) 0 3],[.pt 4 (u75 4) 0 4],[.pt 4 (u75 4) 0 5],[.pt 4 (u75 4) 0 6],[.pt 4 (u75 4) 0 7],[.pt 4 (u75 4) 0 8],[.pt 4 (u75 4) 0 9],[.pt 4 (u75 4) 0 10]]) (λ_ _=>[]) (.dr [(1,[4]),(2,[4]),(4,[4]),(5,[4]),(7,[4]),(8,[4]),(10,[4]),(11,[4]),(13,[4]),(14,[4]),(16,[4]),(17,[4]),(19,[4]),(20,[4]),(22,[4]),(23,[4]),(25,[4]),(26,[4]),(28,[4]),(29,[4]),(31,[4]),(32,[4])] [] [4] [] [0,1,2,3,4,5,6,7,8,9,10,11,12,13,14,15,16,17,18,19,20,21,22,23,24,25,26,27,28,29,30,31,32,33,34] (.gv 36<|.ret ())) (λ_=>.gv 43<|.cl 50 (nZ x11.gW x32) o5 oG λx33=>.bB 54 (decide (x33.2≠0)) λx34=>.az [54] x34 (.kI 60 7<|.kB 37 true<|.ix 39 fI ([a4.Open,a4.jL,a4.jE,a4.iR,a4.iJ,a4.iB,a4.gW,a4.gL,a4.gH,a4.gD,a4.fU]:List Int) 7 λx35=>.inl 41 qB Tryz.func191 [1,2,3,4] [] (λu79 (a:Unit)=>.list 1 [[.pt 4 (u79 4) 0 0],[.pt 4 (u79 4) 0 1],[.pt 4 (u79 4) 0 2],[.pt 4 (u79 4) 0 3],[.pt 4 (u79 4) 0 4],[.pt 4 (u79 4) 0 5],[.pt 4 (u79 4) 0 6],[.pt 4 (u79 4) 0 7],[.pt 4 (u79 4) 0 8],[.pt 4 (u79 4) 0 9],[.pt 4 (u79 4) 0 10]]) (λ_ _=>[]) (.dr [(1,[4]),(2,[4]),(4,[4]),(5,[4]),(7,[4]),(8,[4]),(10,[4]),(11,[4]),(13,[4]),(14,[4]),(16,[4]),(17,[4]),(19,[4]),(20,[4]),(22,[4]),(23,[4]),(25,[4]),(26,[4]),(28,[4]),(29,[4]),(31,[4]),(32,[4])] [] [4] [] [0,1,2,3,4,5,6,7,8,9,10,11,12,13,14,15,16,17,18,19,20,21,22,23,24,25,26,27,28,29,30,31,32,33,34] (.gv 36<|.ret ())) (λ_=>.gv 43<|.cl 50 (nZ x11.gL x35) o5 oG λx36=>.bB 54 (decide (x36.2≠0)) λx37=>.az [54] x37 (.kI 60 8<|.kB 37 true<|.ix 39 fI ([a4.Open,a4.jL,a4.jE,a4.iR,a4.iJ,a4.iB,a4.gW,a4.gL,a4.gH,a4.gD,a4.fU]:List Int) 8 λx38=>.inl 41 qB Tryz.func191 [1,2,3,4] [] (λu83 (a:Unit)=>.list 1 [[.pt 4 (u83 4) 0 0],[.pt 4 (u83 4) 0 1],[.pt 4 (u83 4) 0 2],[.pt 4 (u83 4) 0 3],[.pt 4 (u83 4) 0 4],[.pt 4 (u83 4) 0 5],[.pt 4 (u83 4) 0 6],[.pt 4 (u83 4) 0 7],[.pt 4 (u83 4) 0 8],[.pt 4 (u83 4) 0 9],[.pt 4 (u83 4) 0 10]]) (λ_ _=>[]) (.dr [(1,[4]),(2,[4]),(4,[4]),(5,[4]),(7,[4]),(8,[4]),(10,[4]),(11,[4]),(13,[4]),(14,[4]),(16,[4]),(17,[4]),(19,[4]),(20,[4]),(22,[4]),(23,[4]),(25,[4]),(26,[4]),(28,[4]),(29,[4]),(31,[4]),(32,[4])] [] [4] [] [0,1,2,3,4,5,6,7,8,9,10,11,12,13,14,15,16,17,18,19,20,21,22,23,24,25,26,27,28,29,30,31,32,33,34] (.gv 36<|.ret ())) (λ_=>.gv 43<|.cl 50 (nZ x11.gH x38) o5 oG λx39=>.bB 54 (decide (x39.2≠0)) λx40=>.az [54] x40 (.kI 60 9<|.kB 37 true<|.ix 39 fI ([a4.Open,a4.jL,a4.jE,a4.iR,a4.iJ,a4.iB,a4.gW,a4.gL,a4.gH,a4.gD,a4.fU]:List Int) 9 λx41=>.inl 41 qB Tryz.func191 [1,2,3,4] [] (λu87 (a:Unit)=>.list 1 [[.pt 4 (u87 4) 0 0],[.pt 4 (u87 4) 0 1],[.pt 4 (u87 4) 0 2],[.pt 4 (u87 4) 0 3],[.pt 4 (u87 4) 0 4],[.pt 4 (u87 4) 0 5],[.pt 4 (u87 4) 0 6],[.pt 4 (u87 4) 0 7],[.pt 4 (u87 4) 0 8],[.pt 4 (u87 4) 0 9],[.pt 4 (u87 4) 0 10]]) (λ_ _=>[]) (.dr [(1,[4]),(2,[4]),(4,[4]),(5,[4]),(7,[4]),(8,[4]),(10,[4]),(11,[4]),(13,[4]),(14,[4]),(16,[4]),(17,[4]),(19,[4]),(20,[4]),(22,[4]),(23,[4]),(25,[4]),(26,[4]),(28,[4]),(29,[4]),(31,[4]),(32,[4])] [] [4] [] [0,1,2,3,4,5,6,7,8,9,10,11,12,13,14,15,16,17,18,19,20,21,22,23,24,25,26,27,28,29,30,31,32,33,34] (.gv 36<|.ret ())) (λ_=>.gv 43<|.cl 50 (nZ x11.gD x41) o5 oG λx42=>.bB 54 (decide (x42.2≠0)) λx43=>.az [54] x43 (.kI 60 10<|.kB 37 true<|.ix 39 fI ([a4.Open,a4.jL,a4.jE,a4.iR,a4.iJ,a4.iB,a4.gW,a4.gL,a4.gH,a4.gD,a4.fU]:List Int) 10 λx44=>.inl 41 qB Tryz.func191 [1,2,3,4] [] (λu91 (a:Unit)=>.list 1 [[.pt 4 (u91 4) 0 0],[.pt 4 (u91 4) 0 1],[.pt 4 (u91 4) 0 2],[.pt 4 (u91 4) 0 3],[.pt 4 (u91 4) 0 4],[.pt 4 (u91 4) 0 5],[.pt 4 (u91 4) 0 6],[.pt 4 (u91 4) 0 7],[.pt 4 (u91 4) 0 8],[.pt 4 (u91 4) 0 9],[.pt 4 (u91 4) 0 10]]) (λ_ _=>[]) (.dr [(1,[4]),(2,[4]),(4,[4]),(5,[4]),(7,[4]),(8,[4]),(10,[4]),(11,[4]),(13,[4]),(14,[4]),(16,[4]),(17,[4]),(19,[4]),(20,[4]),(22,[4]),(23,[4]),(25,[4]),(26,[4]),(28,[4]),(29,[4]),(31,[4]),(32,[4])] [] [4] [] [0,1,2,3,4,5,6,7,8,9,10,11,12,13,14,15,16,17,18,19,20,21,22,23,24,25,26,27,28,29,30,31,32,33,34] (.gv 36<|.ret ())) (λ_=>.gv 43<|.cl 50 (nZ x11.fU x44) o5 oG λx45=>.bB 54 (decide (x45.2≠0)) λx46=>.az [54] x46 (.kI 60 11<|.kB 37 false<|.ret ((⟨x15.1,x18.1,x21.1,x24.1,x27.1,x30.1,x33.1,x36.1,x39.1,x42.1,x45.1⟩:bA):bA))))))))))))))))))))))))) (λy2_1=>.al 6<|.inl 64 J2 Tryz.func189 [1,3,4] [7] (λu93 (a:Unit)=>.pt 7 (u93 7) (Int.toNat a2) 0) (λu93 _=>[.kp 6 [[int a1.fJ.fT,int a1.fJ.iX,aG 1 fI a1.fJ.bC,aG 1 (fL 1 fI) a1.fJ.Methods,aG 1 (fL 1 fI) a1.fJ.iF,.sl 7 (u93 7) 0 a1.fO.length,aG 8 fP.av a1.jD,aG 9 gV.av a1.jP,aG 6 iD.av a1.jW,int a1.Done]],.nw 7 110 8 (a1.fO.map aH.av)]) (.as (a1.fO.length<=68719476736) inferInstance<|.ge 11 7<|.bo (ix a1.fO a2) λx50=>.gv 21<|.ret ()) (λ_=>.bo (ix a1.fO a2) λx51=>.gv 67<|.gv 68<|.gv 69<|.as (x51.iI.length<=68719476736) inferInstance<|.ge 70 8<|.gv 71<|.gv 72<|.ge 1015008 0<|.dr [(1,[7]),(2,[7]),(3,[7]),(5,[4]),(6,[8])] [(7,[])] [4,7,8] [7] [0,1,2,3,4,5,6,7] (.gv 74<|.gv 75<|.gv 76<|.bo (ix x51.iI a3) λx54=>.gv 79<|.bl (x51.iI.set (Int.toNat a3) y2_1:List bA) λx55=>.ge 1016007 0<|.ret (((⟨a1.fJ,(a1.fO.set (Int.toNat a2) (⟨x51.jR,x51.Closed,x51.gY,x51.jB,x55,x51.iL,x51.Down,x51.iQ⟩:aH)),a1.jD,a1.jP,a1.jW,a1.Done⟩:bF):bF),0))))))
def MG (a1:bF) (a2:Int) (a3:Int) (a4:bA):Option (bF×Int):=(aH5 a1 a2 a3 a4).run
theorem aGM {a1 a2 a3 a4}:PZ (MG a1 a2 a3 a4) 162 [.agg (bF.av a1),int a2,int a3,.agg (bA.av a4)] (λr=>.aM [.agg (bF.av r.1),int r.2]):=by
 refine wm Tryz.func162 ?_
 intro v5
 intro v6
 intro v7
 refine .mk λx8 e8=>?_
 refine .mk λx9=>?_
 refine .mk ?_
 refine .mk λx10 e10=>?_
 refine .mk λx11 e11=>?_
 intro v12
 refine .mk ?_ ?_
 intro v13
 refine .mk (aF (aN (y:=aG 1 fI ([a4.Open,a4.jL,a4.jE,a4.iR,a4.iJ,a4.iB,a4.gW,a4.gL,a4.gH,a4.gD,a4.fU]:List Int)) (dY (ps:=[(0,_),(1,_),(2,_),(3,_),(4,_),(5,_),(6,_),(7,_),(8,_),(9,_),(10,_)]) (rows:=[[int a4.Open],[int a4.jL],[int a4.jE],[int a4.iR],[int a4.iJ],[int a4.iB],[int a4.gW],[int a4.gL],[int a4.gH],[int a4.gD],[int a4.fU]]) rfl Tryz.underlying23 kR (.cons rfl (.cons rfl (.cons rfl (.cons rfl (.cons rfl (.cons rfl (.cons rfl (.cons rfl (.cons rfl (.cons rfl (.cons rfl .nil))))))))))) (by kernel_rfl) rfl rfl rfl) rfl)) ?_
 exact .mk
 intro _ _
 refine .mk trivial ?_
 refine .mk ?_ ?_
 refine .mk ?_
 refine .mk λx14 e14=>?_
 refine .mk ?_ ?_
 refine .mk ?_
 refine .mk _ (λH hH _=>dY (ps:=[(0,_),(1,_),(2,_),(3,_),(4,_),(5,_),(6,_),(7,_),(8,_),(9,_),(10,_)]) (rows:=[[.pt 4 v12 0 0],[.pt 4 v12 0 1],[.pt 4 v12 0 2],[.pt 4 v12 0 3],[.pt 4 v12 0 4],[.pt 4 v12 0 5],[.pt 4 v12 0 6],[.pt 4 v12 0 7],[.pt 4 v12 0 8],[.pt 4 v12 0 9],[.pt 4 v12 0 10]]) rfl Tryz.underlying225 iH (.cons rfl (.cons rfl (.cons rfl (.cons rfl (.cons rfl (.cons rfl (.cons rfl (.cons rfl (.cons rfl (.cons rfl (.cons rfl .nil))))))))))) (by kernel_rfl) rfl rfl rfl) ?_
 exact .mk
 intro _ _
 refine .mk trivial ?_
 refine .mk _ (aF (dA (j:=0) rfl Tryz.underlying225 dM rfl rfl rfl (.list rfl))) ?_
 refine .mk λx15 e15=>?_
 refine .mk λx16=>?_
 refine .mk ?_
 refine .mk ?_
 refine .mk ?_
 refine .mk λx17 e17=>?_
 refine .mk ?_ ?_
 refine .mk ?_
 refine .mk _ (λH hH _=>dY (ps:=[(0,_),(1,_),(2,_),(3,_),(4,_),(5,_),(6,_),(7,_),(8,_),(9,_),(10,_)]) (rows:=[[.pt 4 v12 0 0],[.pt 4 v12 0 1],[.pt 4 v12 0 2],[.pt 4 v12 0 3],[.pt 4 v12 0 4],[.pt 4 v12 0 5],[.pt 4 v12 0 6],[.pt 4 v12 0 7],[.pt 4 v12 0 8],[.pt 4 v12 0 9],[.pt 4 v12 0 10]]) rfl Tryz.underlying225 iH (.cons rfl (.cons rfl (.cons rfl (.cons rfl (.cons rfl (.cons rfl (.cons rfl (.cons rfl (.cons rfl (.cons rfl (.cons rfl .nil))))))))))) (by kernel_rfl) rfl rfl rfl) ?_
 exact .mk
 intro _ _
 refine .mk trivial ?_
 refine .mk _ (aF (dA (j:=1) rfl Tryz.underlying225 dM rfl rfl rfl (.list rfl))) ?_
 refine .mk λx18 e18=>?_
 refine .mk λx19=>?_
 refine .mk ?_
 refine .mk ?_
 refine .mk ?_
 refine .mk λx20 e20=>?_
 refine .mk ?_ ?_
 refine .mk ?_
 refine .mk _ (λH hH _=>dY (ps:=[(0,_),(1,_),(2,_),(3,_),(4,_),(5,_),(6,_),(7,_),(8,_),(9,_),(10,_)]) (rows:=[[.pt 4 v12 0 0],[.pt 4 v12 0 1],[.pt 4 v12 0 2],[.pt 4 v12 0 3],[.pt 4 v12 0 4],[.pt 4 v12 0 5],[.pt 4 v12 0 6],[.pt 4 v12 0 7],[.pt 4 v12 0 8],[.pt 4 v12 0 9],[.pt 4 v12 0 10]]) rfl Tryz.underlying225 iH (.cons rfl (.cons rfl (.cons rfl (.cons rfl (.cons rfl (.cons rfl (.cons rfl (.cons rfl (.cons rfl (.cons rfl (.cons rfl .nil))))))))))) (by kernel_rfl) rfl rfl rfl) ?_
 exact .mk
 intro _ _
 refine .mk trivial ?_
 refine .mk _ (aF (dA (j:=2) rfl Tryz.underlying225 dM rfl rfl rfl (.list rfl))) ?_
 refine .mk λx21 e21=>?_
 refine .mk λx22=>?_
 refine .mk ?_
 refine .mk ?_
 refine .mk ?_
 refine .mk λx23 e23=>?_
 refine .mk ?_ ?_
 refine .mk ?_
 refine .mk _ (λH hH _=>dY (ps:=[(0,_),(1,_),(2,_),(3,_),(4,_),(5,_),(6,_),(7,_),(8,_),(9,_),(10,_)]) (rows:=[[.pt 4 v12 0 0],[.pt 4 v12 0 1],[.pt 4 v12 0 2],[.pt 4 v12 0 3],[.pt 4 v12 0 4],[.pt 4 v12 0 5],[.pt 4 v12 0 6],[.pt 4 v12 0 7],[.pt 4 v12 0 8],[.pt 4 v12 0 9],[.pt 4 v12 0 10]]) rfl Tryz.underlying225 iH (.cons rfl (.cons rfl (.cons rfl (.cons rfl (.cons rfl (.cons rfl (.cons rfl (.cons rfl (.cons rfl (.cons rfl (.cons rfl .nil))))))))))) (by kernel_rfl) rfl rfl rfl) ?_
 exact .mk
 intro _ _
 refine .mk trivial ?_
 refine .mk _ (aF (dA (j:=3) rfl Tryz.underlying225 dM rfl rfl rfl (.list rfl))) ?_
 refine .mk λx24 e24=>?_
 refine .mk λx25=>?_
 refine .mk ?_
 refine .mk ?_
 refine .mk ?_
 refine .mk λx26 e26=>?_
 refine .mk ?_ ?_
 refine .mk ?_
 refine .mk _ (λH hH _=>dY (ps:=[(0,_),(1,_),(2,_),(3,_),(4,_),(5,_),(6,_),(7,_),(8,_),(9,_),(10,_)]) (rows:=[[.pt 4 v12 0 0],[.pt 4 v12 0 1],[.pt 4 v12 0 2],[.pt 4 v12 0 3],[.pt 4 v12 0 4],[.pt 4 v12 0 5],[.pt 4 v12 0 6],[.pt 4 v12 0 7],[.pt 4 v12 0 8],[.pt 4 v12 0 9],[.pt 4 v12 0 10]]) rfl Tryz.underlying225 iH (.cons rfl (.cons rfl (.cons rfl (.cons rfl (.cons rfl (.cons rfl (.cons rfl (.cons rfl (.cons rfl (.cons rfl (.cons rfl .nil))))))))))) (by kernel_rfl) rfl rfl rfl) ?_
 exact .mk
 intro _ _
 refine .mk trivial ?_
 refine .mk _ (aF (dA (j:=4) rfl Tryz.underlying225 dM rfl rfl rfl (.list rfl))) ?_
 refine .mk λx27 e27=>?_
 refine .mk λx28=>?_
 refine .mk ?_
 refine .mk ?_
 refine .mk ?_
 refine .mk λx29 e29=>?_
 refine .mk ?_ ?_
 refine .mk ?_
 refine .mk _ (λH hH _=>dY (ps:=[(0,_),(1,_),(2,_),(3,_),(4,_),(5,_),(6,_),(7,_),(8,_),(9,_),(10,_)]) (rows:=[[.pt 4 v12 0 0],[.pt 4 v12 0 1],[.pt 4 v12 0 2],[.pt 4 v12 0 3],[.pt 4 v12 0 4],[.pt 4 v12 0 5],[.pt 4 v12 0 6],[.pt 4 v12 0 7],[.pt 4 v12 0 8],[.pt 4 v12 0 9],[.pt 4 v12 0 10]]) rfl Tryz.underlying225 iH (.cons rfl (.cons rfl (.cons rfl (.cons rfl (.cons rfl (.cons rfl (.cons rfl (.cons rfl (.cons rfl (.cons rfl (.cons rfl .nil))))))))))) (by kernel_rfl) rfl rfl rfl) ?_
 exact .mk
 intro _ _
 refine .mk trivial ?_
 refine .mk _ (aF (dA (j:=5) rfl Tryz.underlying225 dM rfl rfl rfl (.list rfl))) ?_
 refine .mk λx30 e30=>?_
 refine .mk λx31=>?_
 refine .mk ?_
 refine .mk ?_
 refine .mk ?_
 refine .mk λx32 e32=>?_
 refine .mk ?_ ?_
 refine .mk ?_
 refine .mk _ (λH hH _=>dY (ps:=[(0,_),(1,_),(2,_),(3,_),(4,_),(5,_),(6,_),(7,_),(8,_),(9,_),(10,_)]) (rows:=[[.pt 4 v12 0 0],[.pt 4 v12 0 1],[.pt 4 v12 0 2],[.pt 4 v12 0 3],[.pt 4 v12 0 4],[.pt 4 v12 0 5],[.pt 4 v12 0 6],[.pt 4 v12 0 7],[.pt 4 v12 0 8],[.pt 4 v12 0 9],[.pt 4 v12 0 10]]) rfl Tryz.underlying225 iH (.cons rfl (.cons rfl (.cons rfl (.cons rfl (.cons rfl (.cons rfl (.cons rfl (.cons rfl (.cons rfl (.cons rfl (.cons rfl .nil))))))))))) (by kernel_rfl) rfl rfl rfl) ?_
 exact .mk
 intro _ _
 refine .mk trivial ?_
 refine .mk _ (aF (dA (j:=6) rfl Tryz.underlying225 dM rfl rfl rfl (.list rfl))) ?_
 refine .mk λx33 e33=>?_
 refine .mk λx34=>?_
 refine .mk ?_
 refine .mk ?_
 refine .mk ?_
 refine .mk λx35 e35=>?_
 refine .mk ?_ ?_
 refine .mk ?_
 refine .mk _ (λH hH _=>dY (ps:=[(0,_),(1,_),(2,_),(3,_),(4,_),(5,_),(6,_),(7,_),(8,_),(9,_),(10,_)]) (rows:=[[.pt 4 v12 0 0],[.pt 4 v12 0 1],[.pt 4 v12 0 2],[.pt 4 v12 0 3],[.pt 4 v12 0 4],[.pt 4 v12 0 5],[.pt 4 v12 0 6],[.pt 4 v12 0 7],[.pt 4 v12 0 8],[.pt 4 v12 0 9],[.pt 4 v12 0 10]]) rfl Tryz.underlying225 iH (.cons rfl (.cons rfl (.cons rfl (.cons rfl (.cons rfl (.cons rfl (.cons rfl (.cons rfl (.cons rfl (.cons rfl (.cons rfl .nil))))))))))) (by kernel_rfl) rfl rfl rfl) ?_
 exact .mk
 intro _ _
 refine .mk trivial ?_
 refine .mk _ (aF (dA (j:=7) rfl Tryz.underlying225 dM rfl rfl rfl (.list rfl))) ?_
 refine .mk λx36 e36=>?_
 refine .mk λx37=>?_
 refine .mk ?_
 refine .mk ?_
 refine .mk ?_
 refine .mk λx38 e38=>?_
 refine .mk ?_ ?_
 refine .mk ?_
 refine .mk _ (λH hH _=>dY (ps:=[(0,_),(1,_),(2,_),(3,_),(4,_),(5,_),(6,_),(7,_),(8,_),(9,_),(10,_)]) (rows:=[[.pt 4 v12 0 0],[.pt 4 v12 0 1],[.pt 4 v12 0 2],[.pt 4 v12 0 3],[.pt 4 v12 0 4],[.pt 4 v12 0 5],[.pt 4 v12 0 6],[.pt 4 v12 0 7],[.pt 4 v12 0 8],[.pt 4 v12 0 9],[.pt 4 v12 0 10]]) rfl Tryz.underlying225 iH (.cons rfl (.cons rfl (.cons rfl (.cons rfl (.cons rfl (.cons rfl (.cons rfl (.cons rfl (.cons rfl (.cons rfl (.cons rfl .nil))))))))))) (by kernel_rfl) rfl rfl rfl) ?_
 exact .mk
 intro _ _
 refine .mk trivial ?_
 refine .mk _ (aF (dA (j:=8) rfl Tryz.underlying225 dM rfl rfl rfl (.list rfl))) ?_
 refine .mk λx39 e39=>?_
 refine .mk λx40=>?_
 refine .mk ?_
 refine .mk ?_
 refine .mk ?_
 refine .mk λx41 e41=>?_
 refine .mk ?_ ?_
 refine .mk ?_
 refine .mk _ (λH hH _=>dY (ps:=[(0,_),(1,_),(2,_),(3,_),(4,_),(5,_),(6,_),(7,_),(8,_),(9,_),(10,_)]) (rows:=[[.pt 4 v12 0 0],[.pt 4 v12 0 1],[.pt 4 v12 0 2],[.pt 4 v12 0 3],[.pt 4 v12 0 4],[.pt 4 v12 0 5],[.pt 4 v12 0 6],[.pt 4 v12 0 7],[.pt 4 v12 0 8],[.pt 4 v12 0 9],[.pt 4 v12 0 10]]) rfl Tryz.underlying225 iH (.cons rfl (.cons rfl (.cons rfl (.cons rfl (.cons rfl (.cons rfl (.cons rfl (.cons rfl (.cons rfl (.cons rfl (.cons rfl .nil))))))))))) (by kernel_rfl) rfl rfl rfl) ?_
 exact .mk
 intro _ _
 refine .mk trivial ?_
 refine .mk _ (aF (dA (j:=9) rfl Tryz.underlying225 dM rfl rfl rfl (.list rfl))) ?_
 refine .mk λx42 e42=>?_
 refine .mk λx43=>?_
 refine .mk ?_
 refine .mk ?_
 refine .mk ?_
 refine .mk λx44 e44=>?_
 refine .mk ?_ ?_
 refine .mk ?_
 refine .mk _ (λH hH _=>dY (ps:=[(0,_),(1,_),(2,_),(3,_),(4,_),(5,_),(6,_),(7,_),(8,_),(9,_),(10,_)]) (rows:=[[.pt 4 v12 0 0],[.pt 4 v12 0 1],[.pt 4 v12 0 2],[.pt 4 v12 0 3],[.pt 4 v12 0 4],[.pt 4 v12 0 5],[.pt 4 v12 0 6],[.pt 4 v12 0 7],[.pt 4 v12 0 8],[.pt 4 v12 0 9],[.pt 4 v12 0 10]]) rfl Tryz.underlying225 iH (.cons rfl (.cons rfl (.cons rfl (.cons rfl (.cons rfl (.cons rfl (.cons rfl (.cons rfl (.cons rfl (.cons rfl (.cons rfl .nil))))))))))) (by kernel_rfl) rfl rfl rfl) ?_
 exact .mk
 intro _ _
 refine .mk trivial ?_
 refine .mk _ (aF (dA (j:=10) rfl Tryz.underlying225 dM rfl rfl rfl (.list rfl))) ?_
 refine .mk λx45 e45=>?_
 refine .mk λx46=>?_
 refine .mk ?_
 refine .mk ?_
 refine .mk ?_
 exact .mk
 intro _ _
 intro v47
 refine .mk ?_ ?_
 refine .mk λp48=>?_
 refine .mk _ ⟨λ_=>aQ rfl rfl (.cons rfl .nil) zM (nU (yC.pc (id:=7) (l:=a1.fO) rfl p48) (.cons (.refl _) .nil)),λ_ _ _=>trivial⟩ ?_
 rintro _ _ ⟨v49,rfl,rfl⟩
 refine .mk λx50 e50=>?_
 refine .mk _ (aF (iY rfl Tryz.underlying55 sQ rfl rfl rfl rfl rfl (Eq.symm rfl) (List.length_map _) e50)) ?_
 exact .mk
 intro _ _
 refine .mk trivial ?_
 refine .mk λx51 e51=>?_
 refine .mk _ (aF (bK rfl rfl (.pt rfl rfl (kG e51 (aH.gI _))))) ?_
 refine .mk _ (aF (dX rfl xJ rfl (.pt rfl rfl (kG e51 (aH.gI _))) (.pt _ _ _ _ _))) ?_
 refine .mk _ (aF (fG rfl y8 rfl (.pt rfl rfl (kG e51 (aH.gI _))) rfl)) ?_
 refine .mk λp52=>?_
 refine .mk _ ⟨λ_=>aQ rfl rfl (.cons rfl .nil) SL (nU (L3.pc (id:=8) (l:=x51.iI) rfl p52) (.cons (.refl _) .nil)),λ_ _ _=>trivial⟩ ?_
 rintro _ _ ⟨v53,rfl,rfl⟩
 refine .mk _ (aF (bK rfl rfl (.pt rfl rfl (kG e51 (aH.gI _))))) ?_
 refine .mk _ (aF (dX rfl xJ rfl (.pt rfl rfl (kG e51 (aH.gI _))) (.pt _ _ _ _ _))) ?_
 refine .mk _ ⟨λ_=>bW.d9 (fH (ob':=(⟨110,8,true,true,_,(a1.fO.map aH.av).set (Int.toNat a2) [int x51.jR,aA x51.Closed,aG 4 aT.av x51.gY,aG 1 fI x51.jB,.sl 8 v53 0 x51.iI.length,aG 1 fI x51.iL,aG 1 fI x51.Down,aG 8 aH.av x51.iQ]⟩:aW)) (dZ rfl y8 rfl rfl rfl rfl rfl (kG e51 (aH.gI _)) rfl rfl rfl) (fQ rfl)) (λ_ h=>h) (λ_ _=>trivial),λ_ _ _=>trivial⟩ ?_
 rintro _ _ ⟨rfl,rfl⟩
 refine .mk ?_
 refine .mk _ (λH hH _=>bK rfl rfl (.pt ((hH _ (by decide)).trans rfl) rfl (bY e51))) ?_
 refine .mk _ (λH hH _=>dX rfl xJ rfl (.pt ((hH _ (by decide)).trans rfl) rfl (bY e51)) (.pt _ _ _ _ _)) ?_
 refine .mk _ (λH hH _=>fG rfl y8 rfl (.pt ((hH _ (by decide)).trans rfl) rfl (bY e51)) rfl) ?_
 refine .mk λx54 e54=>?_
 refine .mk _ (λH hH _=>iY rfl Tryz.underlying108 B5 rfl rfl ((hH _ (by decide)).trans rfl) rfl rfl (Eq.symm rfl) (List.length_map _) e54) ?_
 refine .mk λx55 e55=>?_
 have fx55:=gT e54 e55;have lx55:=gQ e55 (rfl:x51.iI.length=x51.iI.length)
 refine .mk _ ⟨λ_=>bW.d9 (fH (ob':=(⟨193,11,true,true,_,x55.map bA.av⟩:aW)) (dZ rfl B5 rfl rfl rfl rfl rfl (bZ e54) rfl rfl rfl) (fQ (iE e55))) (λ_ h=>h) (λ_ _=>trivial),by rintro _ _ ⟨rfl,rfl⟩;exact trivial⟩ ?_
 rintro _ _ ⟨rfl,rfl⟩
 exact .mk (cO.aM (.cons (cO.agg (.cons (.refl _) (.cons (.refl _) (.cons (.refl _) (.cons (.refl _) (.cons (.refl _) (.cons (vL rfl rfl rfl rfl rfl (Eq.symm rfl) e51 (rG (.cons (.refl _) (.cons (.refl _) (.cons (.refl _) (.cons (.refl _) (.cons (gB rfl rfl rfl rfl rfl (Eq.symm lx55)) (.cons (.refl _) (.cons (.refl _) (.cons (.refl _) .nil)))))))) (aH.gI _))) (.cons (.refl _) (.cons (.refl _) (.cons (.refl _) (.cons (.refl _) .nil))))))))))) (.cons (.refl _) .nil)))
def aGN (n:Nat) (a1:bF) (a2:aP):WB (bF×Int) :=
 .al 1<|.al 2<|.al 3<|.bB 16 (decide (a2.Kind≠1)) λx6=>.az [16] x6 (.al 4<|.al 5<|.al 6<|.al 7<|.gv 24<|.jn 1 [2,3,4,5,6,9] [1,2,3] [] (λ_ (a:bF×Int)=>[]) (λ_ a=>[.kp 4 [(bF.av a.1)],.kp 7 [[int a.2]]]) (.un 24 (.kB 28 true<|.gv 29<|.inl 32 aJK Tryz.func195 [1,2,3,4,5,6] [] (λ_ (a:Int)=>.aM []) (λ_ a=>[.kp 7 [[int a]]]) (.cl 8 (TG a1 a2.E a2.Item) aGJ aCH λx11=>.ret x11) (λy0_1=>.bB 34 (decide (y0_1≠0)) λx12=>.ifs [34] x12 (.ret ((a1:bF),y0_1)) (.kI 35 1<|.kB 28 true<|.gv 29<|.inl 32 aIB Tryz.func197 [1,2,3,4,5,6,7] [] (λ_ (a:Unit)=>.aM []) (λ_ _=>[]) (.ln 4 fP.av a1.jD<|.bB 5 (decide ((a1.jD.length:Int)>=40)) λx13=>.az [5] x13 (.ret ())) (λ_=>.bB 34 (decide (y0_1≠0)) λx14=>.ifs [34] x14 (.ret ((a1:bF),y0_1)) (.kI 35 2<|.kB 28 true<|.gv 29<|.inl 32 aJP Tryz.func198 [1,2,3] [] (λ_ (a:bF×Int×Int×Int)=>.aM []) (λ_ a=>[.kp 4 [(bF.av a.1)],.kp 5 [[int a.2.1]],.kp 6 [[int a.2.2.1]],.kp 7 [[int a.2.2.2]]]) (.cl 19 (QR n a1 a2.E a2.Item a2.Loc (⟨a2.dJ,a2.fM,0⟩:bQ)) aEM aMF λx15=>.ret ((x15.1:bF),x15.2.1,x15.2.2.1,x15.2.2.2)) (pw λy0_1_1 q0=>(pw λy0_2 q1=>(pw λy0_3 y0_4=>.bB 34 (decide (y0_4≠0)) λx16=>.ifs [34] x16 (.ret ((y0_1_1:bF),y0_4)) (.kI 35 3<|.kB 28 true<|.gv 29<|.inl 32 aAX Tryz.func200 [1,2,3,5,6] [] (λ_ (a:bF×Int)=>.aM []) (λ_ a=>[.kp 4 [(bF.av a.1)],.kp 7 [[int a.2]]]) (.bI 15 (bL (0-a2.fM)) λx17=>.to 17 (aG 2 dK.av ([(⟨0,y0_2⟩:dK),(⟨6,y0_3⟩:dK),(⟨1,x17⟩:dK)]:List dK))<|.cl 18 (IL n y0_1_1 a2.E ([(⟨0,y0_2⟩:dK),(⟨6,y0_3⟩:dK),(⟨1,x17⟩:dK)]:List dK)) OF NE λx18=>.ret ((x18.1:bF),x18.2)) (pw λy0_1_2 y0_2_1=>.bB 34 (decide (y0_2_1≠0)) λx19=>.ifs [34] x19 (.ret ((y0_1_2:bF),(y0_2_1:Int))) (.kI 35 4<|.kB 28 true<|.gv 29<|.inl 32 aDP Tryz.func201 [1,2,3,5,6] [] (λ_ (a:bF×Int)=>.aM []) (λ_ a=>[.kp 4 [(bF.av a.1)],.kp 7 [[int a.2]]]) (.cl 12 (MG y0_1_2 a2.E a2.Item (⟨0,y0_2,0,0,0,0,0,0,0,0,0⟩:bA)) YB aGM λx20=>.ret ((x20.1:bF),x20.2)) (pw λy0_1_3 y0_2_2=>.bB 34 (decide (y0_2_2≠0)) λx21=>.ifs [34] x21 (.ret ((y0_1_3:bF),(y0_2_2:Int))) (.kI 35 5<|.kB 28 false<|.ret ((y0_1_3:bF),(y0_2_2:Int)))))))) q1) q0))))))) (pw λy1_1 y1_2=>.bB 37 (decide (y1_2≠0)) λx22=>.az [37] x22 (.al 8<|.dr [(0,[4]),(1,[4]),(3,[8]),(6,[4])] [(2,[8]),(5,[]),(7,[])] [4,8] [2,5,7] [0,1,3,4,2,5,6,7] (.to 59 (aG 8 fP.av ([(⟨a2.E,a2.Item,a2.Loc,a2.dJ,a2.fM,a2.dJ,a2.fM,0⟩:fP)]:List fP))<|.as (y1_1.jD.length<=68719476736) inferInstance<|.ge 57 9<|.bl (y1_1.jD++([(⟨a2.E,a2.Item,a2.Loc,a2.dJ,a2.fM,a2.dJ,a2.fM,0⟩:fP)]:List fP):List fP) λx26=>.as (x26.length<=68719476736) inferInstance<|.ge 60 0<|.ret (((⟨y1_1.fJ,y1_1.fO,x26,y1_1.jP,y1_1.jW,y1_1.Done⟩:bF):bF),0)))))
def N8 (n:Nat) (a1:bF) (a2:aP):Option (bF×Int):=(aGN n a1 a2).run
theorem aHB {n a1 a2}:PZ (N8 n a1 a2) 166 [.agg (bF.av a1),.agg (aP.av a2)] (λr=>.aM [.agg (bF.av r.1),int r.2]):=by
 refine wm Tryz.func166 ?_
 intro v3
 intro v4
 intro v5
 refine .mk λx6=>?_
 refine .mk ?_
 intro v7
 intro v8
 intro v9
 intro v10
 refine .mk _ (aF (dY (ps:=[(0,_),(1,_),(2,_),(3,_),(4,_)]) (rows:=[[.fn (.func 195) [] [.pt 1 v3 0 0,.pt 2 v4 0 0,.pt 7 v10 0 0]],[.fn (.func 197) [] [.pt 1 v3 0 0,.pt 7 v10 0 0]],[.fn (.func 198) [] [.pt 1 v3 0 0,.pt 2 v4 0 0,.pt 4 v7 0 0,.pt 5 v8 0 0,.pt 6 v9 0 0,.pt 7 v10 0 0]],[.fn (.func 200) [] [.pt 4 v7 0 0,.pt 2 v4 0 0,.pt 5 v8 0 0,.pt 6 v9 0 0,.pt 7 v10 0 0]],[.fn (.func 201) [] [.pt 4 v7 0 0,.pt 2 v4 0 0,.pt 5 v8 0 0,.pt 7 v10 0 0]]]) rfl Tryz.underlying306 bz1 (.cons rfl (.cons rfl (.cons rfl (.cons rfl (.cons rfl .nil))))) (by kernel_rfl) rfl rfl rfl)) ?_
 refine .mk ?_ ?_
 refine .mk ?_
 refine .mk _ (aF (dA (j:=0) rfl Tryz.underlying306 zQ rfl rfl rfl (.list rfl))) ?_
 refine .mk ?_ ?_
 refine .mk λx11 e11=>?_
 exact .mk
 intro _ _
 refine .mk trivial ?_
 refine .mk λx12=>?_
 refine .mk .mk ?_
 refine .mk ?_
 refine .mk ?_
 refine .mk _ (aF (dA (j:=1) rfl Tryz.underlying306 zQ rfl rfl rfl (.list rfl))) ?_
 refine .mk ?_ ?_
 refine .mk ?_
 refine .mk λx13=>?_
 refine .mk ?_
 exact .mk
 intro _ _
 refine .mk trivial ?_
 refine .mk λx14=>?_
 refine .mk .mk ?_
 refine .mk ?_
 refine .mk ?_
 refine .mk _ (aF (dA (j:=2) rfl Tryz.underlying306 zQ rfl rfl rfl (.list rfl))) ?_
 refine .mk ?_ ?_
 refine .mk λx15 e15=>?_
 exact .mk
 rintro ⟨y0_1_1,y0_2,y0_3,y0_4⟩ _
 refine .mk trivial ?_
 refine .mk λx16=>?_
 refine .mk .mk ?_
 refine .mk ?_
 refine .mk ?_
 refine .mk _ (aF (dA (j:=3) rfl Tryz.underlying306 zQ rfl rfl rfl (.list rfl))) ?_
 refine .mk ?_ ?_
 refine .mk λx17=>?_
 refine .mk (aF (aN (y:=aG 2 dK.av ([(⟨0,y0_2⟩:dK),(⟨6,y0_3⟩:dK),(⟨1,x17⟩:dK)]:List dK)) (dY (ps:=[(0,_),(1,_),(2,_)]) (rows:=[[int 0,int y0_2],[int 6,int y0_3],[int 1,int x17]]) rfl Tryz.underlying39 yH (.cons rfl (.cons rfl (.cons rfl .nil))) (by kernel_rfl) rfl rfl rfl) rfl)) ?_
 refine .mk λx18 e18=>?_
 exact .mk
 intro _ _
 refine .mk trivial ?_
 refine .mk λx19=>?_
 refine .mk .mk ?_
 refine .mk ?_
 refine .mk ?_
 refine .mk _ (aF (dA (j:=4) rfl Tryz.underlying306 zQ rfl rfl rfl (.list rfl))) ?_
 refine .mk ?_ ?_
 refine .mk λx20 e20=>?_
 exact .mk
 intro _ _
 refine .mk trivial ?_
 refine .mk λx21=>?_
 refine .mk .mk ?_
 refine .mk ?_
 refine .mk ?_
 exact .mk
 rintro ⟨y1_1,y1_2⟩ _
 refine .mk λx22=>?_
 refine .mk ?_
 intro v23
 refine .mk ?_
 refine .mk (λH hH _=>aN (y:=aG 8 fP.av ([(⟨a2.E,a2.Item,a2.Loc,a2.dJ,a2.fM,a2.dJ,a2.fM,0⟩:fP)]:List fP)) (dY (ps:=[(0,_)]) (rows:=[[int a2.E,int a2.Item,int a2.Loc,int a2.dJ,int a2.fM,int a2.dJ,int a2.fM,int 0]]) rfl Tryz.underlying56 AX (.cons rfl .nil) (by kernel_rfl) rfl rfl rfl) rfl) ?_
 refine .mk λp24=>?_
 refine .mk _ ⟨λ_=>aQ rfl rfl (.cons rfl .nil) RU (nU (MR.pc (id:=9) (l:=y1_1.jD) rfl p24) (.cons (.refl _) .nil)),by rintro _ _ ⟨v25,rfl,rfl⟩;exact ⟨rfl,trivial⟩⟩ ?_
 rintro _ _ ⟨v25,rfl,rfl⟩
 refine .mk λx26 e26=>?_
 refine .mk λp27=>?_
 refine .mk _ ⟨λ_=>iP (g:=fP.av) (l:=y1_1.jD) (m:=([(⟨a2.E,a2.Item,a2.Loc,a2.dJ,a2.fM,a2.dJ,a2.fM,0⟩:fP)]:List fP)) .any rfl Tryz.underlying56 AX KA rfl rfl rfl rfl rfl rfl rfl rfl rfl rfl (Eq.symm rfl) (.refl _) (λ_=>rfl) e26 p27,by rintro _ _ ⟨v28,-,rfl,rfl⟩;exact trivial⟩ ?_
 rintro _ _ ⟨v28,-,rfl,rfl⟩
 exact .mk (cO.aM (.cons (cO.agg (.cons (.refl _) (.cons (.refl _) (.cons (.refl _) (.cons (.refl _) (.cons (.refl _) (.cons (.refl _) (.cons (gB rfl rfl rfl rfl rfl (Eq.symm rfl)) (.cons (.refl _) (.cons (.refl _) (.cons (.refl _) .nil))))))))))) (.cons (.refl _) .nil)))
def ZO (n:Nat) (a1:bF) (a2:aP):WB (bF×Int) :=
 .al 1<|.al 2<|.al 3<|.inl 11 aG9 Tryz.func135 [1,2,3] [] (B:=(Unit)⊕(Unit)) (λu10=>Sum.elim (λa=>.iG 269 (.fn (.func 166) [] [])) (λa=>.sc .nilIface)) (λu10=>Sum.elim (λa=>[]) (λa=>[])) (.bB 5 (decide (a2.Kind=1)) λx6=>.ifs [5] x6 (.gv 6<|.ret (.inl ())) (.bB 8 (decide (a2.Kind=4)) λx7=>.jn 0 [2,3] [1,2,3] [] (λ_ (a:Bool)=>[(7,aA a)]) (λ_ _=>[]) (.ifs [7,8] x7 (.ret true) (.bB 9 (decide (a2.Kind=5)) λx8=>.ret x8)) (λy0_1=>.az [7] y0_1 (.bB 12 (decide (a2.Kind=6)) λx9=>.jn 0 [2,3] [1,2,3] [] (λ_ (a:Bool)=>[(11,aA a)]) (λ_ _=>[]) (.ifs [11,12] x9 (.ret true) (.bB 13 (decide (a2.Kind=7)) λx10=>.ifs [13] x10 (.ret true) (.bB 14 (decide (a2.Kind=8)) λx11=>.ifs [14] x11 (.ret true) (.bB 15 (decide (a2.Kind=9)) λx12=>.ret x12)))) (λy1_1=>.az [11] y1_1 (.bB 18 (decide (a2.Kind=2)) λx13=>.jn 0 [2,3] [1,2,3] [] (λ_ (a:Bool)=>[(17,aA a)]) (λ_ _=>[]) (.ifs [17,18] x13 (.ret true) (.bB 19 (decide (a2.Kind=3)) λx14=>.ret x14)) (λy2_1=>.az [17] y2_1 (.bB 22 (decide (a2.Kind=11)) λx15=>.az [22] x15 (.bB 25 (decide (a2.Kind=12)) λx16=>.jn 0 [2,3] [1,2,3] [] (λ_ (a:Bool)=>[(24,aA a)]) (λ_ _=>[]) (.ifs [24,25] x16 (.ret true) (.bB 26 (decide (a2.Kind=13)) λx17=>.ret x17)) (λy3_1=>.az [24] y3_1 (.bB 29 (decide (a2.Kind=10)) λx18=>.az [29] x18 (.ret (.inr ()))))))))))))) (Sum.elim (λ_=>.jn 0 [2,3,4,5,6] [1,2,3] [] (λ_ (a:Bool)=>[(18,aA a)]) (λ_ _=>[]) (.cl 13 (kW a2) lM (λ_=>lK) λx19=>.bB 14 (!x19) λx20=>.ifs [14] x20 (.ret true) (.gv 17<|.ret false)) (λy6_1=>.az [18] y6_1 (.iv 24 aGX aIV Tryz.func301 [1,2,3] [] (λ_ (a:bF×Int)=>.aM [.agg (bF.av a.1),int a.2]) (λ_ _=>[]) (.al 8<|.al 9<|.al 10<|.cl 11 (N8 n a1 a2) X4 aHB λx24=>.ret ((x24.1:bF),x24.2)) (pw λy8_1 y8_2=>.al 7<|.bB 28 (decide (y8_2≠0)) λx26=>.az [28] x26 (.bI 33 (bL (y8_1.Done+1)) λx27=>.bl (if 288230376151711744<x27 then 288230376151711744 else x27:Int) λx28=>.gv 34<|.ret (((⟨y8_1.fJ,y8_1.fO,y8_1.jD,y8_1.jP,y8_1.jW,x28⟩:bF):bF),0)))))) (λ_=>.jn 0 [2,3,4,5,6] [1,2,3] [] (λ_ (a:Unit)=>[(18,aA true)]) (λ_ _=>[]) (.cl 13 (kW a2) lM (λ_=>lK) λx29=>.bB 14 (!x29) λx30=>.ifs [14] x30 (.ret ()) (.gv 17<|.ret ())) (λ_=>.ret ((a1:bF),1))))
def RI (n:Nat) (a1:bF) (a2:aP):Option (bF×Int):=(ZO n a1 a2).run
theorem aA7 {n a1 a2}:PZ (RI n a1 a2) 90 [.agg (bF.av a1),.agg (aP.av a2)] (λr=>.aM [.agg (bF.av r.1),int r.2]):=by
 refine wm Tryz.func90 ?_
 intro v3
 intro v4
 intro v5
 refine .mk ?_ ?_
 refine .mk λx6=>?_
 refine .mk ?_ ?_
 refine .mk _ (aF (zK rfl Tryz.underlying269 (by intro _ h;cases h) rfl)) ?_
 exact .mk
 refine .mk λx7=>?_
 refine .mk ?_ ?_
 refine .mk .mk ?_
 refine .mk λx8=>?_
 exact .mk
 intro _ _
 refine .mk ?_
 refine .mk λx9=>?_
 refine .mk ?_ ?_
 refine .mk .mk ?_
 refine .mk λx10=>?_
 refine .mk .mk ?_
 refine .mk λx11=>?_
 refine .mk .mk ?_
 refine .mk λx12=>?_
 exact .mk
 intro _ _
 refine .mk ?_
 refine .mk λx13=>?_
 refine .mk ?_ ?_
 refine .mk .mk ?_
 refine .mk λx14=>?_
 exact .mk
 intro _ _
 refine .mk ?_
 refine .mk λx15=>?_
 refine .mk ?_
 refine .mk λx16=>?_
 refine .mk ?_ ?_
 refine .mk .mk ?_
 refine .mk λx17=>?_
 exact .mk
 intro _ _
 refine .mk ?_
 refine .mk λx18=>?_
 refine .mk ?_
 exact .mk
 rintro (_ | _) _
 refine .mk trivial ?_
 refine .mk ?_ ?_
 refine .mk λx19 e19=>?_
 refine .mk λx20=>?_
 refine .mk .mk ?_
 refine .mk _ (aF (zL rfl Tryz.underlying232 rfl rfl)) ?_
 exact .mk
 intro _ _
 refine .mk ?_
 refine .mk ?_ ?_
 intro v21
 intro v22
 intro v23
 refine .mk λx24 e24=>?_
 exact .mk
 intro _ _
 refine .mk trivial ?_
 intro v25
 refine .mk λx26=>?_
 refine .mk ?_
 refine .mk λx27=>?_
 refine .mk λx28 e28=>?_
 refine .mk _ (aF (DF rfl rfl rfl e28)) ?_
 exact .mk
 refine .mk trivial ?_
 refine .mk ?_ ?_
 refine .mk λx29 e29=>?_
 refine .mk λx30=>?_
 refine .mk .mk ?_
 refine .mk _ (aF (KP rfl Tryz.underlying232 rfl rfl)) ?_
 exact .mk
 intro _ _
 exact .mk
def YY (n:Nat) (a1:bF) (a2:aP):WB (bF×Int) :=
 .al 1<|.al 2<|.al 3<|.cl 9 (kW a2) lM (λ_=>lK) λx6=>.bB 10 (!x6) λx7=>.az [10] x7 (.al 4<|.bB 21 (decide (a2.Kind=14)) λx9=>.ifs [21] x9 (.cl 26 (MY n a1 a2.E) aMG aFQ λx10=>.bB 48 (decide (x10.2≠0)) λx11=>.az [48] x11 (.bI 53 (bL (x10.1.Done+1)) λx12=>.ret (((⟨x10.1.fJ,x10.1.fO,x10.1.jD,x10.1.jP,x10.1.jW,x12⟩:bF):bF),0))) (.bB 30 (decide (a2.Kind=15)) λx13=>.az [30] x13 (.bB 39 (decide (a2.Kind=16)) λx14=>.az [39] x14 (.cl 17 (RI n a1 a2) YM aA7 λx15=>.ret ((x15.1:bF),x15.2)))))
def R5 (n:Nat) (a1:bF) (a2:aP):Option (bF×Int):=(YY n a1 a2).run
theorem aMD {n a1 a2}:PZ (R5 n a1 a2) 47 [.agg (bF.av a1),.agg (aP.av a2)] (λr=>.aM [.agg (bF.av r.1),int r.2]):=wq Tryz.func47
end
end Go.Pv
