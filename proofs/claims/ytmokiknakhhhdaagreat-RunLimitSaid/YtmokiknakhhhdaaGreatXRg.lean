import Derived.Test.YtmokiknakhhhdaaGreatXRf
set_option linter.unusedVariables false
set_option linter.unusedSimpArgs false
namespace Go.Pv
open Go.Proofs
set_option maxRecDepth 100000
set_option maxHeartbeats 4000000
noncomputable section
def aBS (a1:bD) (a2:Int) (a3:Int) (a4:gI):WB (bD×Int) :=
 .al 1<|.al 2<|.al 3<|.cl 21 (ET a1 a2 a3) IU NC λx8=>.bB 22 (!x8) λx9=>.az [22] x9 (.oC 27 bC.av gE bC.gU a1.dX a2 λx10=>.ix 31 gI.av x10.gZ a3 λx11=>.al 4<|.inl 34 TA Tryz.func120 [1,2,3,4] [] (λ_ (a:Unit)=>aG 1 fI ([a4.Open,a4.kD,a4.jP,a4.jL,a4.jG,a4.jA,a4.iY,a4.iU,a4.iP,a4.iK,a4.iI]:List Int)) (λ_ _=>[]) (.al 5<|.to 25 (aG 1 fI ([a4.Open,a4.kD,a4.jP,a4.jL,a4.jG,a4.jA,a4.iY,a4.iU,a4.iP,a4.iK,a4.iI]:List Int))<|.ret ()) (λ_=>.jn 0 [1,2,4,8,9,10] [1,3] [] (λ_ (a:gI)=>[]) (λ_ a=>[.kp 4 [[int a.Open,int a.kD,int a.jP,int a.jL,int a.jG,int a.jA,int a.iY,int a.iU,int a.iP,int a.iK,int a.iI]]]) (.un 24 (.kB 37 true<|.ix 39 fI ([a4.Open,a4.kD,a4.jP,a4.jL,a4.jG,a4.jA,a4.iY,a4.iU,a4.iP,a4.iK,a4.iI]:List Int) 0 λx14=>.inl 41 qZ Tryz.func187 [1,2,3,4] [] (λu51 (a:Unit)=>.list 1 [[.pt 4 (u51 4) 0 0],[.pt 4 (u51 4) 0 1],[.pt 4 (u51 4) 0 2],[.pt 4 (u51 4) 0 3],[.pt 4 (u51 4) 0 4],[.pt 4 (u51 4) 0 5],[.pt 4 (u51 4) 0 6],[.pt 4 (u51 4) 0 7],[.pt 4 (u51 4) 0 8],[.pt 4 (u51 4) 0 9],[.pt 4 (u51 4) 0 10]]) (λ_ _=>[]) (.dr [(1,[4]),(2,[4]),(4,[4]),(5,[4]),(7,[4]),(8,[4]),(10,[4]),(11,[4]),(13,[4]),(14,[4]),(16,[4]),(17,[4]),(19,[4]),(20,[4]),(22,[4]),(23,[4]),(25,[4]),(26,[4]),(28,[4]),(29,[4]),(31,[4]),(32,[4])] [] [4] [] [0,1,2,3,4,5,6,7,8,9,10,11,12,13,14,15,16,17,18,19,20,21,22,23,24,25,26,27,28,29,30,31,32,33,34] (.gv 36<|.ret ())) (λ_=>.gv 43<|.cl 50 (o8 x11.Open x14) pO pW λx15=>.bB 54 (decide (x15.2≠0)) λx16=>.az [54] x16 (.kI 60 1<|.kB 37 true<|.ix 39 fI ([a4.Open,a4.kD,a4.jP,a4.jL,a4.jG,a4.jA,a4.iY,a4.iU,a4.iP,a4.iK,a4.iI]:List Int) 1 λx17=>.inl 41 qZ Tryz.func187 [1,2,3,4] [] (λu55 (a:Unit)=>.list 1 [[.pt 4 (u55 4) 0 0],[.pt 4 (u55 4) 0 1],[.pt 4 (u55 4) 0 2],[.pt 4 (u55 4) 0 3],[.pt 4 (u55 4) 0 4],[.pt 4 (u55 4) 0 5],[.pt 4 (u55 4) 0 6],[.pt 4 (u55 4) 0 7],[.pt 4 (u55 4) 0 8],[.pt 4 (u55 4) 0 9],[.pt 4 (u55 4) 0 10]]) (λ_ _=>[]) (.dr [(1,[4]),(2,[4]),(4,[4]),(5,[4]),(7,[4]),(8,[4]),(10,[4]),(11,[4]),(13,[4]),(14,[4]),(16,[4]),(17,[4]),(19,[4]),(20,[4]),(22,[4]),(23,[4]),(25,[4]),(26,[4]),(28,[4]),(29,[4]),(31,[4]),(32,[4])] [] [4] [] [0,1,2,3,4,5,6,7,8,9,10,11,12,13,14,15,16,17,18,19,20,21,22,23,24,25,26,27,28,29,30,31,32,33,34] (.gv 36<|.ret ())) (λ_=>.gv 43<|.cl 50 (o8 x11.kD x17) pO pW λx18=>.bB 54 (decide (x18.2≠0)) λx19=>.az [54] x19 (.kI 60 2<|.kB 37 true<|.ix 39 fI ([a4.Open,a4.kD,a4.jP,a4.jL,a4.jG,a4.jA,a4.iY,a4.iU,a4.iP,a4.iK,a4.iI]:List Int) 2 λx20=>.inl 41 qZ Tryz.func187 [1,2,3,4] [] (λu59 (a:Unit)=>.list 1 [[.pt 4 (u59 4) 0 0],[.pt 4 (u59 4) 0 1],[.pt 4 (u59 4) 0 2],[.pt 4 (u59 4) 0 3],[.pt 4 (u59 4) 0 4],[.pt 4 (u59 4) 0 5],[.pt 4 (u59 4) 0 6],[.pt 4 (u59 4) 0 7],[.pt 4 (u59 4) 0 8],[.pt 4 (u59 4) 0 9],[.pt 4 (u59 4) 0 10]]) (λ_ _=>[]) (.dr [(1,[4]),(2,[4]),(4,[4]),(5,[4]),(7,[4]),(8,[4]),(10,[4]),(11,[4]),(13,[4]),(14,[4]),(16,[4]),(17,[4]),(19,[4]),(20,[4]),(22,[4]),(23,[4]),(25,[4]),(26,[4]),(28,[4]),(29,[4]),(31,[4]),(32,[4])] [] [4] [] [0,1,2,3,4,5,6,7,8,9,10,11,12,13,14,15,16,17,18,19,20,21,22,23,24,25,26,27,28,29,30,31,32,33,34] (.gv 36<|.ret ())) (λ_=>.gv 43<|.cl 50 (o8 x11.jP x20) pO pW λx21=>.bB 54 (decide (x21.2≠0)) λx22=>.az [54] x22 (.kI 60 3<|.kB 37 true<|.ix 39 fI ([a4.Open,a4.kD,a4.jP,a4.jL,a4.jG,a4.jA,a4.iY,a4.iU,a4.iP,a4.iK,a4.iI]:List Int) 3 λx23=>.inl 41 qZ Tryz.func187 [1,2,3,4] [] (λu63 (a:Unit)=>.list 1 [[.pt 4 (u63 4) 0 0],[.pt 4 (u63 4) 0 1],[.pt 4 (u63 4) 0 2],[.pt 4 (u63 4) 0 3],[.pt 4 (u63 4) 0 4],[.pt 4 (u63 4) 0 5],[.pt 4 (u63 4) 0 6],[.pt 4 (u63 4) 0 7],[.pt 4 (u63 4) 0 8],[.pt 4 (u63 4) 0 9],[.pt 4 (u63 4) 0 10]]) (λ_ _=>[]) (.dr [(1,[4]),(2,[4]),(4,[4]),(5,[4]),(7,[4]),(8,[4]),(10,[4]),(11,[4]),(13,[4]),(14,[4]),(16,[4]),(17,[4]),(19,[4]),(20,[4]),(22,[4]),(23,[4]),(25,[4]),(26,[4]),(28,[4]),(29,[4]),(31,[4]),(32,[4])] [] [4] [] [0,1,2,3,4,5,6,7,8,9,10,11,12,13,14,15,16,17,18,19,20,21,22,23,24,25,26,27,28,29,30,31,32,33,34] (.gv 36<|.ret ())) (λ_=>.gv 43<|.cl 50 (o8 x11.jL x23) pO pW λx24=>.bB 54 (decide (x24.2≠0)) λx25=>.az [54] x25 (.kI 60 4<|.kB 37 true<|.ix 39 fI ([a4.Open,a4.kD,a4.jP,a4.jL,a4.jG,a4.jA,a4.iY,a4.iU,a4.iP,a4.iK,a4.iI]:List Int) 4 λx26=>.inl 41 qZ Tryz.func187 [1,2,3,4] [] (λu67 (a:Unit)=>.list 1 [[.pt 4 (u67 4) 0 0],[.pt 4 (u67 4) 0 1],[.pt 4 (u67 4) 0 2],[.pt 4 (u67 4) 0 3],[.pt 4 (u67 4) 0 4],[.pt 4 (u67 4) 0 5],[.pt 4 (u67 4) 0 6],[.pt 4 (u67 4) 0 7],[.pt 4 (u67 4) 0 8],[.pt 4 (u67 4) 0 9],[.pt 4 (u67 4) 0 10]]) (λ_ _=>[]) (.dr [(1,[4]),(2,[4]),(4,[4]),(5,[4]),(7,[4]),(8,[4]),(10,[4]),(11,[4]),(13,[4]),(14,[4]),(16,[4]),(17,[4]),(19,[4]),(20,[4]),(22,[4]),(23,[4]),(25,[4]),(26,[4]),(28,[4]),(29,[4]),(31,[4]),(32,[4])] [] [4] [] [0,1,2,3,4,5,6,7,8,9,10,11,12,13,14,15,16,17,18,19,20,21,22,23,24,25,26,27,28,29,30,31,32,33,34] (.gv 36<|.ret ())) (λ_=>.gv 43<|.cl 50 (o8 x11.jG x26) pO pW λx27=>.bB 54 (decide (x27.2≠0)) λx28=>.az [54] x28 (.kI 60 5<|.kB 37 true<|.ix 39 fI ([a4.Open,a4.kD,a4.jP,a4.jL,a4.jG,a4.jA,a4.iY,a4.iU,a4.iP,a4.iK,a4.iI]:List Int) 5 λx29=>.inl 41 qZ Tryz.func187 [1,2,3,4] [] (λu71 (a:Unit)=>.list 1 [[.pt 4 (u71 4) 0 0],[.pt 4 (u71 4) 0 1],[.pt 4 (u71 4) 0 2],[.pt 4 (u71 4) 0 3],[.pt 4 (u71 4) 0 4],[.pt 4 (u71 4) 0 5],[.pt 4 (u71 4) 0 6],[.pt 4 (u71 4) 0 7],[.pt 4 (u71 4) 0 8],[.pt 4 (u71 4) 0 9],[.pt 4 (u71 4) 0 10]]) (λ_ _=>[]) (.dr [(1,[4]),(2,[4]),(4,[4]),(5,[4]),(7,[4]),(8,[4]),(10,[4]),(11,[4]),(13,[4]),(14,[4]),(16,[4]),(17,[4]),(19,[4]),(20,[4]),(22,[4]),(23,[4]),(25,[4]),(26,[4]),(28,[4]),(29,[4]),(31,[4]),(32,[4])] [] [4] [] [0,1,2,3,4,5,6,7,8,9,10,11,12,13,14,15,16,17,18,19,20,21,22,23,24,25,26,27,28,29,30,31,32,33,34] (.gv 36<|.ret ())) (λ_=>.gv 43<|.cl 50 (o8 x11.jA x29) pO pW λx30=>.bB 54 (decide (x30.2≠0)) λx31=>.az [54] x31 (.kI 60 6<|.kB 37 true<|.ix 39 fI ([a4.Open,a4.kD,a4.jP,a4.jL,a4.jG,a4.jA,a4.iY,a4.iU,a4.iP,a4.iK,a4.iI]:List Int) 6 λx32=>.inl 41 qZ Tryz.func187 [1,2,3,4] [] (λu75 (a:Unit)=>.list 1 [[.pt 4 (u75 4) 0 0],[.pt 4 (u75 4) 0 1],[.pt 4 (u75 4) 0 2],[.pt 4 (u75 4) 0 3],[.pt 4 (u75 4) 0 4],[.pt 4 (u75 4) 0 5],[.pt 4 (u75 4) 0 6],[.pt 4 (u75 4) 0 7],[.pt 4 (u75 4) 0 8],[.pt 4 (u75 4) 0 9],[.pt 4 (u75 4) 0 10]]) (λ_ _=>[]) (.dr [(1,[4]),(2,[4]),(4,[4]),(5,[4]),(7,[4]),(8,[4]),(10,[4]),(11,[4]),(13,[4]),(14,[4]),(16,[4]),(17,[4]),(19,[4]),(20,[4]),(22,[4]),(23,[4]),(25,[4]),(26,[4]),(28,[4]),(29,[4]),(31,[4]),(32,[4])] [] [4] [] [0,1,2,3,4,5,6,7,8,9,10,11,12,13,14,15,16,17,18,19,20,21,22,23,24,25,26,27,28,29,30,31,32,33,34] (.gv 36<|.ret ())) (λ_=>.gv 43<|.cl 50 (o8 x11.iY x32) pO pW λx33=>.bB 54 (decide (x33.2≠0)) λx34=>.az [54] x34 (.kI 60 7<|.kB 37 true<|.ix 39 fI ([a4.Open,a4.kD,a4.jP,a4.jL,a4.jG,a4.jA,a4.iY,a4.iU,a4.iP,a4.iK,a4.iI]:List Int) 7 λx35=>.inl 41 qZ Tryz.func187 [1,2,3,4] [] (λu79 (a:Unit)=>.list 1 [[.pt 4 (u79 4) 0 0],[.pt 4 (u79 4) 0 1],[.pt 4 (u79 4) 0 2],[.pt 4 (u79 4) 0 3],[.pt 4 (u79 4) 0 4],[.pt 4 (u79 4) 0 5],[.pt 4 (u79 4) 0 6],[.pt 4 (u79 4) 0 7],[.pt 4 (u79 4) 0 8],[.pt 4 (u79 4) 0 9],[.pt 4 (u79 4) 0 10]]) (λ_ _=>[]) (.dr [(1,[4]),(2,[4]),(4,[4]),(5,[4]),(7,[4]),(8,[4]),(10,[4]),(11,[4]),(13,[4]),(14,[4]),(16,[4]),(17,[4]),(19,[4]),(20,[4]),(22,[4]),(23,[4]),(25,[4]),(26,[4]),(28,[4]),(29,[4]),(31,[4]),(32,[4])] [] [4] [] [0,1,2,3,4,5,6,7,8,9,10,11,12,13,14,15,16,17,18,19,20,21,22,23,24,25,26,27,28,29,30,31,32,33,34] (.gv 36<|.ret ())) (λ_=>.gv 43<|.cl 50 (o8 x11.iU x35) pO pW λx36=>.bB 54 (decide (x36.2≠0)) λx37=>.az [54] x37 (.kI 60 8<|.kB 37 true<|.ix 39 fI ([a4.Open,a4.kD,a4.jP,a4.jL,a4.jG,a4.jA,a4.iY,a4.iU,a4.iP,a4.iK,a4.iI]:List Int) 8 λx38=>.inl 41 qZ Tryz.func187 [1,2,3,4] [] (λu83 (a:Unit)=>.list 1 [[.pt 4 (u83 4) 0 0],[.pt 4 (u83 4) 0 1],[.pt 4 (u83 4) 0 2],[.pt 4 (u83 4) 0 3],[.pt 4 (u83 4) 0 4],[.pt 4 (u83 4) 0 5],[.pt 4 (u83 4) 0 6],[.pt 4 (u83 4) 0 7],[.pt 4 (u83 4) 0 8],[.pt 4 (u83 4) 0 9],[.pt 4 (u83 4) 0 10]]) (λ_ _=>[]) (.dr [(1,[4]),(2,[4]),(4,[4]),(5,[4]),(7,[4]),(8,[4]),(10,[4]),(11,[4]),(13,[4]),(14,[4]),(16,[4]),(17,[4]),(19,[4]),(20,[4]),(22,[4]),(23,[4]),(25,[4]),(26,[4]),(28,[4]),(29,[4]),(31,[4]),(32,[4])] [] [4] [] [0,1,2,3,4,5,6,7,8,9,10,11,12,13,14,15,16,17,18,19,20,21,22,23,24,25,26,27,28,29,30,31,32,33,34] (.gv 36<|.ret ())) (λ_=>.gv 43<|.cl 50 (o8 x11.iP x38) pO pW λx39=>.bB 54 (decide (x39.2≠0)) λx40=>.az [54] x40 (.kI 60 9<|.kB 37 true<|.ix 39 fI ([a4.Open,a4.kD,a4.jP,a4.jL,a4.jG,a4.jA,a4.iY,a4.iU,a4.iP,a4.iK,a4.iI]:List Int) 9 λx41=>.inl 41 qZ Tryz.func187 [1,2,3,4] [] (λu87 (a:Unit)=>.list 1 [[.pt 4 (u87 4) 0 0],[.pt 4 (u87 4) 0 1],[.pt 4 (u87 4) 0 2],[.pt 4 (u87 4) 0 3],[.pt 4 (u87 4) 0 4],[.pt 4 (u87 4) 0 5],[.pt 4 (u87 4) 0 6],[.pt 4 (u87 4) 0 7],[.pt 4 (u87 4) 0 8],[.pt 4 (u87 4) 0 9],[.pt 4 (u87 4) 0 10]]) (λ_ _=>[]) (.dr [(1,[4]),(2,[4]),(4,[4]),(5,[4]),(7,[4]),(8,[4]),(10,[4]),(11,[4]),(13,[4]),(14,[4]),(16,[4]),(17,[4]),(19,[4]),(20,[4]),(22,[4]),(23,[4]),(25,[4]),(26,[4]),(28,[4]),(29,[4]),(31,[4]),(32,[4])] [] [4] [] [0,1,2,3,4,5,6,7,8,9,10,11,12,13,14,15,16,17,18,19,20,21,22,23,24,25,26,27,28,29,30,31,32,33,34] (.gv 36<|.ret ())) (λ_=>.gv 43<|.cl 50 (o8 x11.iK x41) pO pW λx42=>.bB 54 (decide (x42.2≠0)) λx43=>.az [54] x43 (.kI 60 10<|.kB 37 true<|.ix 39 fI ([a4.Open,a4.kD,a4.jP,a4.jL,a4.jG,a4.jA,a4.iY,a4.iU,a4.iP,a4.iK,a4.iI]:List Int) 10 λx44=>.inl 41 qZ Tryz.func187 [1,2,3,4] [] (λu91 (a:Unit)=>.list 1 [[.pt 4 (u91 4) 0 0],[.pt 4 (u91 4) 0 1],[.pt 4 (u91 4) 0 2],[.pt 4 (u91 4) 0 3],[.pt 4 (u91 4) 0 4],[.pt 4 (u91 4) 0 5],[.pt 4 (u91 4) 0 6],[.pt 4 (u91 4) 0 7],[.pt 4 (u91 4) 0 8],[.pt 4 (u91 4) 0 9],[.pt 4 (u91 4) 0 10]]) (λ_ _=>[]) (.dr [(1,[4]),(2,[4]),(4,[4]),(5,[4]),(7,[4]),(8,[4]),(10,[4]),(11,[4]),(13,[4]),(14,[4]),(16,[4]),(17,[4]),(19,[4]),(20,[4]),(22,[4]),(23,[4]),(25,[4]),(26,[4]),(28,[4]),(29,[4]),(31,[4]),(32,[4])] [] [4] [] [0,1,2,3,4,5,6,7,8,9,10,11,12,13,14,15,16,17,18,19,20,21,22,23,24,25,26,27,28,29,30,31,32,33,34] (.gv 36<|.ret ())) (λ_=>.gv 43<|.cl 50 (o8 x11.iI x44) pO pW λx45=>.bB 54 (decide (x45.2≠0)) λx46=>.az [54] x46 (.kI 60 11<|.kB 37 false<|.ret ((⟨x15.1,x18.1,x21.1,x24.1,x27.1,x30.1,x33.1,x36.1,x39.1,x42.1,x45.1⟩:gI):gI))))))))))))))))))))))))) (λy2_1=>.al 6<|.inl 64 LC Tryz.func185 [1,3,4] [7] (λu93 (a:Unit)=>.pt 7 (u93 7) (Int.toNat a2) 0) (λu93 _=>[.kp 6 [[int a1.dR.iD,int a1.dR.kV,aG 1 fI a1.dR.dH,aG 1 (fL 1 fI) a1.dR.Methods,aG 1 (fL 1 fI) a1.dR.jO,.sl 7 (u93 7) 0 a1.dX.length,aG 8 iJ.av a1.iO,aG 9 mG.av a1.jH,aG 6 mO.av a1.jQ,int a1.Done]],.nw 7 47 8 (a1.dX.map bC.av)]) (.as (a1.dX.length<=68719476736) inferInstance<|.ge 11 7<|.bo (ix a1.dX a2) λx50=>.gv 21<|.ret ()) (λ_=>.bo (ix a1.dX a2) λx51=>.gv 67<|.gv 68<|.gv 69<|.as (x51.gZ.length<=68719476736) inferInstance<|.ge 70 8<|.gv 71<|.gv 72<|.ge 1015008 0<|.dr [(1,[7]),(2,[7]),(3,[7]),(5,[4]),(6,[8])] [(7,[])] [4,7,8] [7] [0,1,2,3,4,5,6,7] (.gv 74<|.gv 75<|.gv 76<|.bo (ix x51.gZ a3) λx54=>.gv 79<|.bl (x51.gZ.set (Int.toNat a3) y2_1:List gI) λx55=>.ge 1016007 0<|.ret (((⟨a1.dR,(a1.dX.set (Int.toNat a2) (⟨x51.l5,x51.Closed,x51.iF,x51.jJ,x55,x51.gW,x51.Down,x51.iX⟩:bC)),a1.iO,a1.jH,a1.jQ,a1.Done⟩:bD):bD),0))))))
def UR (a1:bD) (a2:Int) (a3:Int) (a4:gI):Option (bD×Int):=(aBS a1 a2 a3 a4).run
theorem aHA {a1 a2 a3 a4}:PZ (UR a1 a2 a3 a4) 153 [.agg (bD.av a1),int a2,int a3,.agg (gI.av a4)] (λr=>.aS [.agg (bD.av r.1),int r.2]):=by
 refine wm Tryz.func153 ?_
 intro v5
 intro v6
 intro v7
 refine .mk λx8 e8=>?_
 refine .mk λx9=>?_
 refine .mk ?_
 refine .mk λx10 e10=>?_
 refine .mk λx11 e11=>?_
 intro v12
 refine .mk ?_ ?_
 intro v13
 refine .mk (aT (aH (y:=aG 1 fI ([a4.Open,a4.kD,a4.jP,a4.jL,a4.jG,a4.jA,a4.iY,a4.iU,a4.iP,a4.iK,a4.iI]:List Int)) (dQ (ps:=[(0,_),(1,_),(2,_),(3,_),(4,_),(5,_),(6,_),(7,_),(8,_),(9,_),(10,_)]) (rows:=[[int a4.Open],[int a4.kD],[int a4.jP],[int a4.jL],[int a4.jG],[int a4.jA],[int a4.iY],[int a4.iU],[int a4.iP],[int a4.iK],[int a4.iI]]) rfl Tryz.underlying23 kN (.cons rfl (.cons rfl (.cons rfl (.cons rfl (.cons rfl (.cons rfl (.cons rfl (.cons rfl (.cons rfl (.cons rfl (.cons rfl .nil))))))))))) (by kernel_rfl) rfl rfl rfl) rfl)) ?_
 exact .mk
 intro _ _
 refine .mk trivial ?_
 refine .mk ?_ ?_
 refine .mk ?_
 refine .mk λx14 e14=>?_
 refine .mk ?_ ?_
 refine .mk ?_
 refine .mk _ (λH hH _=>dQ (ps:=[(0,_),(1,_),(2,_),(3,_),(4,_),(5,_),(6,_),(7,_),(8,_),(9,_),(10,_)]) (rows:=[[.pt 4 v12 0 0],[.pt 4 v12 0 1],[.pt 4 v12 0 2],[.pt 4 v12 0 3],[.pt 4 v12 0 4],[.pt 4 v12 0 5],[.pt 4 v12 0 6],[.pt 4 v12 0 7],[.pt 4 v12 0 8],[.pt 4 v12 0 9],[.pt 4 v12 0 10]]) rfl Tryz.underlying233 lI (.cons rfl (.cons rfl (.cons rfl (.cons rfl (.cons rfl (.cons rfl (.cons rfl (.cons rfl (.cons rfl (.cons rfl (.cons rfl .nil))))))))))) (by kernel_rfl) rfl rfl rfl) ?_
 exact .mk
 intro _ _
 refine .mk trivial ?_
 refine .mk _ (aT (dV (j:=0) rfl Tryz.underlying233 fC rfl rfl rfl (.list rfl))) ?_
 refine .mk λx15 e15=>?_
 refine .mk λx16=>?_
 refine .mk ?_
 refine .mk ?_
 refine .mk ?_
 refine .mk λx17 e17=>?_
 refine .mk ?_ ?_
 refine .mk ?_
 refine .mk _ (λH hH _=>dQ (ps:=[(0,_),(1,_),(2,_),(3,_),(4,_),(5,_),(6,_),(7,_),(8,_),(9,_),(10,_)]) (rows:=[[.pt 4 v12 0 0],[.pt 4 v12 0 1],[.pt 4 v12 0 2],[.pt 4 v12 0 3],[.pt 4 v12 0 4],[.pt 4 v12 0 5],[.pt 4 v12 0 6],[.pt 4 v12 0 7],[.pt 4 v12 0 8],[.pt 4 v12 0 9],[.pt 4 v12 0 10]]) rfl Tryz.underlying233 lI (.cons rfl (.cons rfl (.cons rfl (.cons rfl (.cons rfl (.cons rfl (.cons rfl (.cons rfl (.cons rfl (.cons rfl (.cons rfl .nil))))))))))) (by kernel_rfl) rfl rfl rfl) ?_
 exact .mk
 intro _ _
 refine .mk trivial ?_
 refine .mk _ (aT (dV (j:=1) rfl Tryz.underlying233 fC rfl rfl rfl (.list rfl))) ?_
 refine .mk λx18 e18=>?_
 refine .mk λx19=>?_
 refine .mk ?_
 refine .mk ?_
 refine .mk ?_
 refine .mk λx20 e20=>?_
 refine .mk ?_ ?_
 refine .mk ?_
 refine .mk _ (λH hH _=>dQ (ps:=[(0,_),(1,_),(2,_),(3,_),(4,_),(5,_),(6,_),(7,_),(8,_),(9,_),(10,_)]) (rows:=[[.pt 4 v12 0 0],[.pt 4 v12 0 1],[.pt 4 v12 0 2],[.pt 4 v12 0 3],[.pt 4 v12 0 4],[.pt 4 v12 0 5],[.pt 4 v12 0 6],[.pt 4 v12 0 7],[.pt 4 v12 0 8],[.pt 4 v12 0 9],[.pt 4 v12 0 10]]) rfl Tryz.underlying233 lI (.cons rfl (.cons rfl (.cons rfl (.cons rfl (.cons rfl (.cons rfl (.cons rfl (.cons rfl (.cons rfl (.cons rfl (.cons rfl .nil))))))))))) (by kernel_rfl) rfl rfl rfl) ?_
 exact .mk
 intro _ _
 refine .mk trivial ?_
 refine .mk _ (aT (dV (j:=2) rfl Tryz.underlying233 fC rfl rfl rfl (.list rfl))) ?_
 refine .mk λx21 e21=>?_
 refine .mk λx22=>?_
 refine .mk ?_
 refine .mk ?_
 refine .mk ?_
 refine .mk λx23 e23=>?_
 refine .mk ?_ ?_
 refine .mk ?_
 refine .mk _ (λH hH _=>dQ (ps:=[(0,_),(1,_),(2,_),(3,_),(4,_),(5,_),(6,_),(7,_),(8,_),(9,_),(10,_)]) (rows:=[[.pt 4 v12 0 0],[.pt 4 v12 0 1],[.pt 4 v12 0 2],[.pt 4 v12 0 3],[.pt 4 v12 0 4],[.pt 4 v12 0 5],[.pt 4 v12 0 6],[.pt 4 v12 0 7],[.pt 4 v12 0 8],[.pt 4 v12 0 9],[.pt 4 v12 0 10]]) rfl Tryz.underlying233 lI (.cons rfl (.cons rfl (.cons rfl (.cons rfl (.cons rfl (.cons rfl (.cons rfl (.cons rfl (.cons rfl (.cons rfl (.cons rfl .nil))))))))))) (by kernel_rfl) rfl rfl rfl) ?_
 exact .mk
 intro _ _
 refine .mk trivial ?_
 refine .mk _ (aT (dV (j:=3) rfl Tryz.underlying233 fC rfl rfl rfl (.list rfl))) ?_
 refine .mk λx24 e24=>?_
 refine .mk λx25=>?_
 refine .mk ?_
 refine .mk ?_
 refine .mk ?_
 refine .mk λx26 e26=>?_
 refine .mk ?_ ?_
 refine .mk ?_
 refine .mk _ (λH hH _=>dQ (ps:=[(0,_),(1,_),(2,_),(3,_),(4,_),(5,_),(6,_),(7,_),(8,_),(9,_),(10,_)]) (rows:=[[.pt 4 v12 0 0],[.pt 4 v12 0 1],[.pt 4 v12 0 2],[.pt 4 v12 0 3],[.pt 4 v12 0 4],[.pt 4 v12 0 5],[.pt 4 v12 0 6],[.pt 4 v12 0 7],[.pt 4 v12 0 8],[.pt 4 v12 0 9],[.pt 4 v12 0 10]]) rfl Tryz.underlying233 lI (.cons rfl (.cons rfl (.cons rfl (.cons rfl (.cons rfl (.cons rfl (.cons rfl (.cons rfl (.cons rfl (.cons rfl (.cons rfl .nil))))))))))) (by kernel_rfl) rfl rfl rfl) ?_
 exact .mk
 intro _ _
 refine .mk trivial ?_
 refine .mk _ (aT (dV (j:=4) rfl Tryz.underlying233 fC rfl rfl rfl (.list rfl))) ?_
 refine .mk λx27 e27=>?_
 refine .mk λx28=>?_
 refine .mk ?_
 refine .mk ?_
 refine .mk ?_
 refine .mk λx29 e29=>?_
 refine .mk ?_ ?_
 refine .mk ?_
 refine .mk _ (λH hH _=>dQ (ps:=[(0,_),(1,_),(2,_),(3,_),(4,_),(5,_),(6,_),(7,_),(8,_),(9,_),(10,_)]) (rows:=[[.pt 4 v12 0 0],[.pt 4 v12 0 1],[.pt 4 v12 0 2],[.pt 4 v12 0 3],[.pt 4 v12 0 4],[.pt 4 v12 0 5],[.pt 4 v12 0 6],[.pt 4 v12 0 7],[.pt 4 v12 0 8],[.pt 4 v12 0 9],[.pt 4 v12 0 10]]) rfl Tryz.underlying233 lI (.cons rfl (.cons rfl (.cons rfl (.cons rfl (.cons rfl (.cons rfl (.cons rfl (.cons rfl (.cons rfl (.cons rfl (.cons rfl .nil))))))))))) (by kernel_rfl) rfl rfl rfl) ?_
 exact .mk
 intro _ _
 refine .mk trivial ?_
 refine .mk _ (aT (dV (j:=5) rfl Tryz.underlying233 fC rfl rfl rfl (.list rfl))) ?_
 refine .mk λx30 e30=>?_
 refine .mk λx31=>?_
 refine .mk ?_
 refine .mk ?_
 refine .mk ?_
 refine .mk λx32 e32=>?_
 refine .mk ?_ ?_
 refine .mk ?_
 refine .mk _ (λH hH _=>dQ (ps:=[(0,_),(1,_),(2,_),(3,_),(4,_),(5,_),(6,_),(7,_),(8,_),(9,_),(10,_)]) (rows:=[[.pt 4 v12 0 0],[.pt 4 v12 0 1],[.pt 4 v12 0 2],[.pt 4 v12 0 3],[.pt 4 v12 0 4],[.pt 4 v12 0 5],[.pt 4 v12 0 6],[.pt 4 v12 0 7],[.pt 4 v12 0 8],[.pt 4 v12 0 9],[.pt 4 v12 0 10]]) rfl Tryz.underlying233 lI (.cons rfl (.cons rfl (.cons rfl (.cons rfl (.cons rfl (.cons rfl (.cons rfl (.cons rfl (.cons rfl (.cons rfl (.cons rfl .nil))))))))))) (by kernel_rfl) rfl rfl rfl) ?_
 exact .mk
 intro _ _
 refine .mk trivial ?_
 refine .mk _ (aT (dV (j:=6) rfl Tryz.underlying233 fC rfl rfl rfl (.list rfl))) ?_
 refine .mk λx33 e33=>?_
 refine .mk λx34=>?_
 refine .mk ?_
 refine .mk ?_
 refine .mk ?_
 refine .mk λx35 e35=>?_
 refine .mk ?_ ?_
 refine .mk ?_
 refine .mk _ (λH hH _=>dQ (ps:=[(0,_),(1,_),(2,_),(3,_),(4,_),(5,_),(6,_),(7,_),(8,_),(9,_),(10,_)]) (rows:=[[.pt 4 v12 0 0],[.pt 4 v12 0 1],[.pt 4 v12 0 2],[.pt 4 v12 0 3],[.pt 4 v12 0 4],[.pt 4 v12 0 5],[.pt 4 v12 0 6],[.pt 4 v12 0 7],[.pt 4 v12 0 8],[.pt 4 v12 0 9],[.pt 4 v12 0 10]]) rfl Tryz.underlying233 lI (.cons rfl (.cons rfl (.cons rfl (.cons rfl (.cons rfl (.cons rfl (.cons rfl (.cons rfl (.cons rfl (.cons rfl (.cons rfl .nil))))))))))) (by kernel_rfl) rfl rfl rfl) ?_
 exact .mk
 intro _ _
 refine .mk trivial ?_
 refine .mk _ (aT (dV (j:=7) rfl Tryz.underlying233 fC rfl rfl rfl (.list rfl))) ?_
 refine .mk λx36 e36=>?_
 refine .mk λx37=>?_
 refine .mk ?_
 refine .mk ?_
 refine .mk ?_
 refine .mk λx38 e38=>?_
 refine .mk ?_ ?_
 refine .mk ?_
 refine .mk _ (λH hH _=>dQ (ps:=[(0,_),(1,_),(2,_),(3,_),(4,_),(5,_),(6,_),(7,_),(8,_),(9,_),(10,_)]) (rows:=[[.pt 4 v12 0 0],[.pt 4 v12 0 1],[.pt 4 v12 0 2],[.pt 4 v12 0 3],[.pt 4 v12 0 4],[.pt 4 v12 0 5],[.pt 4 v12 0 6],[.pt 4 v12 0 7],[.pt 4 v12 0 8],[.pt 4 v12 0 9],[.pt 4 v12 0 10]]) rfl Tryz.underlying233 lI (.cons rfl (.cons rfl (.cons rfl (.cons rfl (.cons rfl (.cons rfl (.cons rfl (.cons rfl (.cons rfl (.cons rfl (.cons rfl .nil))))))))))) (by kernel_rfl) rfl rfl rfl) ?_
 exact .mk
 intro _ _
 refine .mk trivial ?_
 refine .mk _ (aT (dV (j:=8) rfl Tryz.underlying233 fC rfl rfl rfl (.list rfl))) ?_
 refine .mk λx39 e39=>?_
 refine .mk λx40=>?_
 refine .mk ?_
 refine .mk ?_
 refine .mk ?_
 refine .mk λx41 e41=>?_
 refine .mk ?_ ?_
 refine .mk ?_
 refine .mk _ (λH hH _=>dQ (ps:=[(0,_),(1,_),(2,_),(3,_),(4,_),(5,_),(6,_),(7,_),(8,_),(9,_),(10,_)]) (rows:=[[.pt 4 v12 0 0],[.pt 4 v12 0 1],[.pt 4 v12 0 2],[.pt 4 v12 0 3],[.pt 4 v12 0 4],[.pt 4 v12 0 5],[.pt 4 v12 0 6],[.pt 4 v12 0 7],[.pt 4 v12 0 8],[.pt 4 v12 0 9],[.pt 4 v12 0 10]]) rfl Tryz.underlying233 lI (.cons rfl (.cons rfl (.cons rfl (.cons rfl (.cons rfl (.cons rfl (.cons rfl (.cons rfl (.cons rfl (.cons rfl (.cons rfl .nil))))))))))) (by kernel_rfl) rfl rfl rfl) ?_
 exact .mk
 intro _ _
 refine .mk trivial ?_
 refine .mk _ (aT (dV (j:=9) rfl Tryz.underlying233 fC rfl rfl rfl (.list rfl))) ?_
 refine .mk λx42 e42=>?_
 refine .mk λx43=>?_
 refine .mk ?_
 refine .mk ?_
 refine .mk ?_
 refine .mk λx44 e44=>?_
 refine .mk ?_ ?_
 refine .mk ?_
 refine .mk _ (λH hH _=>dQ (ps:=[(0,_),(1,_),(2,_),(3,_),(4,_),(5,_),(6,_),(7,_),(8,_),(9,_),(10,_)]) (rows:=[[.pt 4 v12 0 0],[.pt 4 v12 0 1],[.pt 4 v12 0 2],[.pt 4 v12 0 3],[.pt 4 v12 0 4],[.pt 4 v12 0 5],[.pt 4 v12 0 6],[.pt 4 v12 0 7],[.pt 4 v12 0 8],[.pt 4 v12 0 9],[.pt 4 v12 0 10]]) rfl Tryz.underlying233 lI (.cons rfl (.cons rfl (.cons rfl (.cons rfl (.cons rfl (.cons rfl (.cons rfl (.cons rfl (.cons rfl (.cons rfl (.cons rfl .nil))))))))))) (by kernel_rfl) rfl rfl rfl) ?_
 exact .mk
 intro _ _
 refine .mk trivial ?_
 refine .mk _ (aT (dV (j:=10) rfl Tryz.underlying233 fC rfl rfl rfl (.list rfl))) ?_
 refine .mk λx45 e45=>?_
 refine .mk λx46=>?_
 refine .mk ?_
 refine .mk ?_
 refine .mk ?_
 exact .mk
 intro _ _
 intro v47
 refine .mk ?_ ?_
 refine .mk λp48=>?_
 refine .mk _ ⟨λ_=>aN rfl rfl (.cons rfl .nil) F7 (pN (C7.pc (id:=7) (l:=a1.dX) rfl p48) (.cons (.refl _) .nil)),λ_ _ _=>trivial⟩ ?_
 rintro _ _ ⟨v49,rfl,rfl⟩
 refine .mk λx50 e50=>?_
 refine .mk _ (aT (lY rfl Tryz.underlying30 E8 rfl rfl rfl rfl rfl (Eq.symm rfl) (List.length_map _) e50)) ?_
 exact .mk
 intro _ _
 refine .mk trivial ?_
 refine .mk λx51 e51=>?_
 refine .mk _ (aT (fU rfl rfl (.pt rfl rfl (nQ e51 (bC.gU _))))) ?_
 refine .mk _ (aT (fT rfl N8 rfl (.pt rfl rfl (nQ e51 (bC.gU _))) (.pt _ _ _ _ _))) ?_
 refine .mk _ (aT (eT rfl LX rfl (.pt rfl rfl (nQ e51 (bC.gU _))) rfl)) ?_
 refine .mk λp52=>?_
 refine .mk _ ⟨λ_=>aN rfl rfl (.cons rfl .nil) X6 (pN (VN.pc (id:=8) (l:=x51.gZ) rfl p52) (.cons (.refl _) .nil)),λ_ _ _=>trivial⟩ ?_
 rintro _ _ ⟨v53,rfl,rfl⟩
 refine .mk _ (aT (fU rfl rfl (.pt rfl rfl (nQ e51 (bC.gU _))))) ?_
 refine .mk _ (aT (fT rfl N8 rfl (.pt rfl rfl (nQ e51 (bC.gU _))) (.pt _ _ _ _ _))) ?_
 refine .mk _ ⟨λ_=>bZ.fA (gM (ob':=(⟨47,8,true,true,_,(a1.dX.map bC.av).set (Int.toNat a2) [int x51.l5,aB x51.Closed,aG 4 dK.av x51.iF,aG 1 fI x51.jJ,.sl 8 v53 0 x51.gZ.length,aG 1 fI x51.gW,aG 1 fI x51.Down,aG 8 bC.av x51.iX]⟩:bA)) (dZ rfl LX rfl rfl rfl rfl rfl (nQ e51 (bC.gU _)) rfl rfl rfl) (qO rfl)) (λ_ h=>h) (λ_ _=>trivial),λ_ _ _=>trivial⟩ ?_
 rintro _ _ ⟨rfl,rfl⟩
 refine .mk ?_
 refine .mk _ (λH hH _=>fU rfl rfl (.pt ((hH _ (by decide)).trans rfl) rfl (wG e51))) ?_
 refine .mk _ (λH hH _=>fT rfl N8 rfl (.pt ((hH _ (by decide)).trans rfl) rfl (wG e51)) (.pt _ _ _ _ _)) ?_
 refine .mk _ (λH hH _=>eT rfl LX rfl (.pt ((hH _ (by decide)).trans rfl) rfl (wG e51)) rfl) ?_
 refine .mk λx54 e54=>?_
 refine .mk _ (λH hH _=>lY rfl Tryz.underlying45 QL rfl rfl ((hH _ (by decide)).trans rfl) rfl rfl (Eq.symm rfl) (List.length_map _) e54) ?_
 refine .mk λx55 e55=>?_
 have fx55:=oU e54 e55;have lx55:=nX e55 (rfl:x51.gZ.length=x51.gZ.length)
 refine .mk _ ⟨λ_=>bZ.fA (gM (ob':=(⟨195,11,true,true,_,x55.map gI.av⟩:bA)) (dZ rfl QL rfl rfl rfl rfl rfl (kK e54) rfl rfl rfl) (qO (sH e55))) (λ_ h=>h) (λ_ _=>trivial),by rintro _ _ ⟨rfl,rfl⟩;exact trivial⟩ ?_
 rintro _ _ ⟨rfl,rfl⟩
 exact .mk (bO.aS (.cons (bO.agg (.cons (.refl _) (.cons (.refl _) (.cons (.refl _) (.cons (.refl _) (.cons (.refl _) (.cons (xL rfl rfl rfl rfl rfl (Eq.symm rfl) e51 (wB (.cons (.refl _) (.cons (.refl _) (.cons (.refl _) (.cons (.refl _) (.cons (gJ rfl rfl rfl rfl rfl (Eq.symm lx55)) (.cons (.refl _) (.cons (.refl _) (.cons (.refl _) .nil)))))))) (bC.gU _))) (.cons (.refl _) (.cons (.refl _) (.cons (.refl _) (.cons (.refl _) .nil))))))))))) (.cons (.refl _) .nil)))
def aAA (n:Nat) (a1:bD) (a2:aF):WB (bD×Int) :=
 .al 1<|.al 2<|.al 3<|.bB 16 (decide (a2.Kind≠1)) λx6=>.az [16] x6 (.al 4<|.al 5<|.al 6<|.al 7<|.gv 24<|.jn 1 [2,3,4,5,6,9] [1,2,3] [] (λ_ (a:bD×Int)=>[]) (λ_ a=>[.kp 4 [(bD.av a.1)],.kp 7 [[int a.2]]]) (.un 24 (.kB 28 true<|.gv 29<|.inl 32 aIZ Tryz.func191 [1,2,3,4,5,6] [] (λ_ (a:Int)=>.aS []) (λ_ a=>[.kp 7 [[int a]]]) (.cl 8 (KC a1 a2.E a2.Item) OJ TH λx11=>.ret x11) (λy0_1=>.bB 34 (decide (y0_1≠0)) λx12=>.ifs [34] x12 (.ret ((a1:bD),y0_1)) (.kI 35 1<|.kB 28 true<|.gv 29<|.inl 32 aM8 Tryz.func193 [1,2,3,4,5,6,7] [] (λ_ (a:Unit)=>.aS []) (λ_ _=>[]) (.ln 4 iJ.av a1.iO<|.bB 5 (decide ((a1.iO.length:Int)>=40)) λx13=>.az [5] x13 (.ret ())) (λ_=>.bB 34 (decide (y0_1≠0)) λx14=>.ifs [34] x14 (.ret ((a1:bD),y0_1)) (.kI 35 2<|.kB 28 true<|.gv 29<|.inl 32 aIJ Tryz.func194 [1,2,3] [] (λ_ (a:bD×Int×Int×Int)=>.aS []) (λ_ a=>[.kp 4 [(bD.av a.1)],.kp 5 [[int a.2.1]],.kp 6 [[int a.2.2.1]],.kp 7 [[int a.2.2.2]]]) (.cl 19 (QI n a1 a2.E a2.Item a2.Loc (⟨a2.aM,a2.aQ,0⟩:dB)) aJA aA7 λx15=>.ret ((x15.1:bD),x15.2.1,x15.2.2.1,x15.2.2.2)) (pw λy0_1_1 q0=>(pw λy0_2 q1=>(pw λy0_3 y0_4=>.bB 34 (decide (y0_4≠0)) λx16=>.ifs [34] x16 (.ret ((y0_1_1:bD),y0_4)) (.kI 35 3<|.kB 28 true<|.gv 29<|.inl 32 aH1 Tryz.func196 [1,2,3,5,6] [] (λ_ (a:bD×Int)=>.aS []) (λ_ a=>[.kp 4 [(bD.av a.1)],.kp 7 [[int a.2]]]) (.bI 15 (bM (0-a2.aQ)) λx17=>.to 17 (aG 2 bY.av ([(⟨0,y0_2⟩:bY),(⟨6,y0_3⟩:bY),(⟨1,x17⟩:bY)]:List bY))<|.cl 18 (XH n y0_1_1 a2.E ([(⟨0,y0_2⟩:bY),(⟨6,y0_3⟩:bY),(⟨1,x17⟩:bY)]:List bY)) aH3 aIQ λx18=>.ret ((x18.1:bD),x18.2)) (pw λy0_1_2 y0_2_1=>.bB 34 (decide (y0_2_1≠0)) λx19=>.ifs [34] x19 (.ret ((y0_1_2:bD),(y0_2_1:Int))) (.kI 35 4<|.kB 28 true<|.gv 29<|.inl 32 aMC Tryz.func197 [1,2,3,5,6] [] (λ_ (a:bD×Int)=>.aS []) (λ_ a=>[.kp 4 [(bD.av a.1)],.kp 7 [[int a.2]]]) (.cl 12 (UR y0_1_2 a2.E a2.Item (⟨0,y0_2,0,0,0,0,0,0,0,0,0⟩:gI)) aAS aHA λx20=>.ret ((x20.1:bD),x20.2)) (pw λy0_1_3 y0_2_2=>.bB 34 (decide (y0_2_2≠0)) λx21=>.ifs [34] x21 (.ret ((y0_1_3:bD),(y0_2_2:Int))) (.kI 35 5<|.kB 28 false<|.ret ((y0_1_3:bD),(y0_2_2:Int)))))))) q1) q0))))))) (pw λy1_1 y1_2=>.bB 37 (decide (y1_2≠0)) λx22=>.az [37] x22 (.al 8<|.dr [(0,[4]),(1,[4]),(3,[8]),(6,[4])] [(2,[8]),(5,[]),(7,[])] [4,8] [2,5,7] [0,1,3,4,2,5,6,7] (.to 59 (aG 8 iJ.av ([(⟨a2.E,a2.Item,a2.Loc,a2.aM,a2.aQ,a2.aM,a2.aQ,0⟩:iJ)]:List iJ))<|.as (y1_1.iO.length<=68719476736) inferInstance<|.ge 57 9<|.bl (y1_1.iO++([(⟨a2.E,a2.Item,a2.Loc,a2.aM,a2.aQ,a2.aM,a2.aQ,0⟩:iJ)]:List iJ):List iJ) λx26=>.as (x26.length<=68719476736) inferInstance<|.ge 60 0<|.ret (((⟨y1_1.dR,y1_1.dX,x26,y1_1.jH,y1_1.jQ,y1_1.Done⟩:bD):bD),0)))))
def XD (n:Nat) (a1:bD) (a2:aF):Option (bD×Int):=(aAA n a1 a2).run
theorem aC1 {n a1 a2}:PZ (XD n a1 a2) 157 [.agg (bD.av a1),.agg (aF.av a2)] (λr=>.aS [.agg (bD.av r.1),int r.2]):=by
 refine wm Tryz.func157 ?_
 intro v3
 intro v4
 intro v5
 refine .mk λx6=>?_
 refine .mk ?_
 intro v7
 intro v8
 intro v9
 intro v10
 refine .mk _ (aT (dQ (ps:=[(0,_),(1,_),(2,_),(3,_),(4,_)]) (rows:=[[.fn (.func 191) [] [.pt 1 v3 0 0,.pt 2 v4 0 0,.pt 7 v10 0 0]],[.fn (.func 193) [] [.pt 1 v3 0 0,.pt 7 v10 0 0]],[.fn (.func 194) [] [.pt 1 v3 0 0,.pt 2 v4 0 0,.pt 4 v7 0 0,.pt 5 v8 0 0,.pt 6 v9 0 0,.pt 7 v10 0 0]],[.fn (.func 196) [] [.pt 4 v7 0 0,.pt 2 v4 0 0,.pt 5 v8 0 0,.pt 6 v9 0 0,.pt 7 v10 0 0]],[.fn (.func 197) [] [.pt 4 v7 0 0,.pt 2 v4 0 0,.pt 5 v8 0 0,.pt 7 v10 0 0]]]) rfl Tryz.underlying295 ZQ (.cons rfl (.cons rfl (.cons rfl (.cons rfl (.cons rfl .nil))))) (by kernel_rfl) rfl rfl rfl)) ?_
 refine .mk ?_ ?_
 refine .mk ?_
 refine .mk _ (aT (dV (j:=0) rfl Tryz.underlying295 CG rfl rfl rfl (.list rfl))) ?_
 refine .mk ?_ ?_
 refine .mk λx11 e11=>?_
 exact .mk
 intro _ _
 refine .mk trivial ?_
 refine .mk λx12=>?_
 refine .mk .mk ?_
 refine .mk ?_
 refine .mk ?_
 refine .mk _ (aT (dV (j:=1) rfl Tryz.underlying295 CG rfl rfl rfl (.list rfl))) ?_
 refine .mk ?_ ?_
 refine .mk ?_
 refine .mk λx13=>?_
 refine .mk ?_
 exact .mk
 intro _ _
 refine .mk trivial ?_
 refine .mk λx14=>?_
 refine .mk .mk ?_
 refine .mk ?_
 refine .mk ?_
 refine .mk _ (aT (dV (j:=2) rfl Tryz.underlying295 CG rfl rfl rfl (.list rfl))) ?_
 refine .mk ?_ ?_
 refine .mk λx15 e15=>?_
 exact .mk
 rintro ⟨y0_1_1,y0_2,y0_3,y0_4⟩ _
 refine .mk trivial ?_
 refine .mk λx16=>?_
 refine .mk .mk ?_
 refine .mk ?_
 refine .mk ?_
 refine .mk _ (aT (dV (j:=3) rfl Tryz.underlying295 CG rfl rfl rfl (.list rfl))) ?_
 refine .mk ?_ ?_
 refine .mk λx17=>?_
 refine .mk (aT (aH (y:=aG 2 bY.av ([(⟨0,y0_2⟩:bY),(⟨6,y0_3⟩:bY),(⟨1,x17⟩:bY)]:List bY)) (dQ (ps:=[(0,_),(1,_),(2,_)]) (rows:=[[int 0,int y0_2],[int 6,int y0_3],[int 1,int x17]]) rfl Tryz.underlying53 BV (.cons rfl (.cons rfl (.cons rfl .nil))) (by kernel_rfl) rfl rfl rfl) rfl)) ?_
 refine .mk λx18 e18=>?_
 exact .mk
 intro _ _
 refine .mk trivial ?_
 refine .mk λx19=>?_
 refine .mk .mk ?_
 refine .mk ?_
 refine .mk ?_
 refine .mk _ (aT (dV (j:=4) rfl Tryz.underlying295 CG rfl rfl rfl (.list rfl))) ?_
 refine .mk ?_ ?_
 refine .mk λx20 e20=>?_
 exact .mk
 intro _ _
 refine .mk trivial ?_
 refine .mk λx21=>?_
 refine .mk .mk ?_
 refine .mk ?_
 refine .mk ?_
 exact .mk
 rintro ⟨y1_1,y1_2⟩ _
 refine .mk λx22=>?_
 refine .mk ?_
 intro v23
 refine .mk ?_
 refine .mk (λH hH _=>aH (y:=aG 8 iJ.av ([(⟨a2.E,a2.Item,a2.Loc,a2.aM,a2.aQ,a2.aM,a2.aQ,0⟩:iJ)]:List iJ)) (dQ (ps:=[(0,_)]) (rows:=[[int a2.E,int a2.Item,int a2.Loc,int a2.aM,int a2.aQ,int a2.aM,int a2.aQ,int 0]]) rfl Tryz.underlying31 KX (.cons rfl .nil) (by kernel_rfl) rfl rfl rfl) rfl) ?_
 refine .mk λp24=>?_
 refine .mk _ ⟨λ_=>aN rfl rfl (.cons rfl .nil) YK (pN (TZ.pc (id:=9) (l:=y1_1.iO) rfl p24) (.cons (.refl _) .nil)),by rintro _ _ ⟨v25,rfl,rfl⟩;exact ⟨rfl,trivial⟩⟩ ?_
 rintro _ _ ⟨v25,rfl,rfl⟩
 refine .mk λx26 e26=>?_
 refine .mk λp27=>?_
 refine .mk _ ⟨λ_=>iB (g:=iJ.av) (l:=y1_1.iO) (m:=([(⟨a2.E,a2.Item,a2.Loc,a2.aM,a2.aQ,a2.aM,a2.aQ,0⟩:iJ)]:List iJ)) .any rfl Tryz.underlying31 KX RA rfl rfl rfl rfl rfl rfl rfl rfl rfl rfl (Eq.symm rfl) (.refl _) (λ_=>rfl) e26 p27,by rintro _ _ ⟨v28,-,rfl,rfl⟩;exact trivial⟩ ?_
 rintro _ _ ⟨v28,-,rfl,rfl⟩
 exact .mk (bO.aS (.cons (bO.agg (.cons (.refl _) (.cons (.refl _) (.cons (.refl _) (.cons (.refl _) (.cons (.refl _) (.cons (.refl _) (.cons (gJ rfl rfl rfl rfl rfl (Eq.symm rfl)) (.cons (.refl _) (.cons (.refl _) (.cons (.refl _) .nil))))))))))) (.cons (.refl _) .nil)))
def aOQ (a1:bD) (a2:aF):WB (bD×Int) :=
 .al 1<|.al 2<|.al 3<|.bB 10 (decide (a2.Kind≠10)) λx6=>.az [10] x6 (.cl 17 (KC a1 a2.E a2.Item) OJ TH λx7=>.bB 19 (decide (x7≠0)) λx8=>.az [19] x8 (.dr [(0,[2]),(1,[2]),(2,[1]),(3,[1]),(4,[2]),(5,[2])] [] [1,2] [] [0,1,2,3,4,5,6,7,8,9,10] (.oC 28 bC.av gE bC.gU a1.dX a2.E λx9=>.ln 31 fI x9.gW<|.bB 32 (decide (a2.Item>=(x9.gW.length:Int))) λx10=>.az [32] x10 (.as (a1.dX.length<=68719476736) inferInstance<|.ge 36 4<|.bo (ix a1.dX a2.E) λx13=>.gv 42<|.gv 45<|.gv 46<|.gv 47<|.as (x13.gW.length<=68719476736) inferInstance<|.ge 48 5<|.gv 49<|.gv 50<|.ge 1010008 0<|.dr [(1,[4]),(2,[4]),(3,[4]),(4,[2]),(5,[2]),(6,[2]),(7,[2]),(8,[5])] [(9,[])] [2,4,5] [9] [0,1,2,3,4,5,6,7,8,9] (.gv 52<|.gv 53<|.gv 54<|.bo (ix x13.gW a2.Item) λx16=>.gv 59<|.bl (x13.gW.set (Int.toNat a2.Item) (a2.aQ:Int):List Int) λx17=>.ge 1011009 0<|.ret (((⟨a1.dR,(a1.dX.set (Int.toNat a2.E) (⟨x13.l5,x13.Closed,x13.iF,x13.jJ,x13.gZ,x17,x13.Down,x13.iX⟩:bC)),a1.iO,a1.jH,a1.jQ,a1.Done⟩:bD):bD),0))))))
def I6 (a1:bD) (a2:aF):Option (bD×Int):=(aOQ a1 a2).run
theorem aJ5 {a1 a2}:PZ (I6 a1 a2) 163 [.agg (bD.av a1),.agg (aF.av a2)] (λr=>.aS [.agg (bD.av r.1),int r.2]):=wq Tryz.func163
def PL (n:Nat) (a1:bD) (a2:aF):WB (bD×Int) :=
 .al 1<|.al 2<|.al 3<|.inl 11 aMQ Tryz.func116 [1,2,3] [] (B:=(Unit)⊕(Unit)⊕(Unit)) (λu10=>Sum.elim (λa=>.gQ 253 (.fn (.func 157) [] [])) (Sum.elim (λa=>.gQ 253 (.fn (.func 163) [] [])) (λa=>.sc .nilIface))) (λu10=>Sum.elim (λa=>[]) (Sum.elim (λa=>[]) (λa=>[]))) (.bB 5 (decide (a2.Kind=1)) λx6=>.ifs [5] x6 (.gv 6<|.ret (.inl ())) (.bB 8 (decide (a2.Kind=4)) λx7=>.jn 0 [2,3] [1,2,3] [] (λ_ (a:Bool)=>[(7,aB a)]) (λ_ _=>[]) (.ifs [7,8] x7 (.ret true) (.bB 9 (decide (a2.Kind=5)) λx8=>.ret x8)) (λy0_1=>.az [7] y0_1 (.bB 12 (decide (a2.Kind=6)) λx9=>.jn 0 [2,3] [1,2,3] [] (λ_ (a:Bool)=>[(11,aB a)]) (λ_ _=>[]) (.ifs [11,12] x9 (.ret true) (.bB 13 (decide (a2.Kind=7)) λx10=>.ifs [13] x10 (.ret true) (.bB 14 (decide (a2.Kind=8)) λx11=>.ifs [14] x11 (.ret true) (.bB 15 (decide (a2.Kind=9)) λx12=>.ret x12)))) (λy1_1=>.az [11] y1_1 (.bB 18 (decide (a2.Kind=2)) λx13=>.jn 0 [2,3] [1,2,3] [] (λ_ (a:Bool)=>[(17,aB a)]) (λ_ _=>[]) (.ifs [17,18] x13 (.ret true) (.bB 19 (decide (a2.Kind=3)) λx14=>.ret x14)) (λy2_1=>.az [17] y2_1 (.bB 22 (decide (a2.Kind=11)) λx15=>.az [22] x15 (.bB 25 (decide (a2.Kind=12)) λx16=>.jn 0 [2,3] [1,2,3] [] (λ_ (a:Bool)=>[(24,aB a)]) (λ_ _=>[]) (.ifs [24,25] x16 (.ret true) (.bB 26 (decide (a2.Kind=13)) λx17=>.ret x17)) (λy3_1=>.az [24] y3_1 (.bB 29 (decide (a2.Kind=10)) λx18=>.ifs [29] x18 (.gv 30<|.ret (.inr (.inl ()))) (.ret (.inr (.inr ())))))))))))))) (Sum.elim (λ_=>.jn 0 [2,3,4,5,6] [1,2,3] [] (λ_ (a:Bool)=>[(18,aB a)]) (λ_ _=>[]) (.cl 13 (dL n a2) lM (λ_=>lS) λx19=>.bB 14 (!x19) λx20=>.ifs [14] x20 (.ret true) (.gv 17<|.ret false)) (λy7_1=>.az [18] y7_1 (.iv 24 ON QV Tryz.func302 [1,2,3] [] (λ_ (a:bD×Int)=>.aS [.agg (bD.av a.1),int a.2]) (λ_ _=>[]) (.al 8<|.al 9<|.al 10<|.cl 11 (XD n a1 a2) aME aC1 λx24=>.ret ((x24.1:bD),x24.2)) (pw λy9_1 y9_2=>.al 7<|.bB 28 (decide (y9_2≠0)) λx26=>.az [28] x26 (.bI 33 (bM (y9_1.Done+1)) λx27=>.bl (if 288230376151711744<x27 then 288230376151711744 else x27:Int) λx28=>.gv 34<|.ret (((⟨y9_1.dR,y9_1.dX,y9_1.iO,y9_1.jH,y9_1.jQ,x28⟩:bD):bD),0)))))) (Sum.elim (λ_=>.jn 0 [2,3,4,5,6] [1,2,3] [] (λ_ (a:Bool)=>[(18,aB a)]) (λ_ _=>[]) (.cl 13 (dL n a2) lM (λ_=>lS) λx29=>.bB 14 (!x29) λx30=>.ifs [14] x30 (.ret true) (.gv 17<|.ret false)) (λy7_1=>.az [18] y7_1 (.iv 24 ON QV Tryz.func302 [1,2,3] [] (λ_ (a:bD×Int)=>.aS [.agg (bD.av a.1),int a.2]) (λ_ _=>[]) (.al 14<|.al 15<|.al 16<|.cl 11 (I6 a1 a2) aK7 aJ5 λx34=>.ret ((x34.1:bD),x34.2)) (pw λy11_1 y11_2=>.al 7<|.bB 28 (decide (y11_2≠0)) λx36=>.az [28] x36 (.bI 33 (bM (y11_1.Done+1)) λx37=>.bl (if 288230376151711744<x37 then 288230376151711744 else x37:Int) λx38=>.gv 34<|.ret (((⟨y11_1.dR,y11_1.dX,y11_1.iO,y11_1.jH,y11_1.jQ,x38⟩:bD):bD),0)))))) (λ_=>.jn 0 [2,3,4,5,6] [1,2,3] [] (λ_ (a:Unit)=>[(18,aB true)]) (λ_ _=>[]) (.cl 13 (dL n a2) lM (λ_=>lS) λx39=>.bB 14 (!x39) λx40=>.ifs [14] x40 (.ret ()) (.gv 17<|.ret ())) (λ_=>.ret ((a1:bD),1)))))
def DU (n:Nat) (a1:bD) (a2:aF):Option (bD×Int):=(PL n a1 a2).run
theorem aGE {n a1 a2}:PZ (DU n a1 a2) 67 [.agg (bD.av a1),.agg (aF.av a2)] (λr=>.aS [.agg (bD.av r.1),int r.2]):=by
 refine wm Tryz.func67 ?_
 intro v3
 intro v4
 intro v5
 refine .mk ?_ ?_
 refine .mk λx6=>?_
 refine .mk ?_ ?_
 refine .mk _ (aT (AM rfl Tryz.underlying253 (by intro _ h;cases h) rfl)) ?_
 exact .mk
 refine .mk λx7=>?_
 refine .mk ?_ ?_
 refine .mk .mk ?_
 refine .mk λx8=>?_
 exact .mk
 intro _ _
 refine .mk ?_
 refine .mk λx9=>?_
 refine .mk ?_ ?_
 refine .mk .mk ?_
 refine .mk λx10=>?_
 refine .mk .mk ?_
 refine .mk λx11=>?_
 refine .mk .mk ?_
 refine .mk λx12=>?_
 exact .mk
 intro _ _
 refine .mk ?_
 refine .mk λx13=>?_
 refine .mk ?_ ?_
 refine .mk .mk ?_
 refine .mk λx14=>?_
 exact .mk
 intro _ _
 refine .mk ?_
 refine .mk λx15=>?_
 refine .mk ?_
 refine .mk λx16=>?_
 refine .mk ?_ ?_
 refine .mk .mk ?_
 refine .mk λx17=>?_
 exact .mk
 intro _ _
 refine .mk ?_
 refine .mk λx18=>?_
 refine .mk ?_ ?_
 refine .mk _ (aT (AM rfl Tryz.underlying253 (by intro _ h;cases h) rfl)) ?_
 exact .mk
 exact .mk
 rintro (_ | _ | _) _
 refine .mk trivial ?_
 refine .mk ?_ ?_
 refine .mk λx19 e19=>?_
 refine .mk λx20=>?_
 refine .mk .mk ?_
 refine .mk _ (aT (B7 rfl Tryz.underlying197 rfl rfl)) ?_
 exact .mk
 intro _ _
 refine .mk ?_
 refine .mk ?_ ?_
 intro v21
 intro v22
 intro v23
 refine .mk λx24 e24=>?_
 exact .mk
 intro _ _
 refine .mk trivial ?_
 intro v25
 refine .mk λx26=>?_
 refine .mk ?_
 refine .mk λx27=>?_
 refine .mk λx28 e28=>?_
 refine .mk _ (aT (wT rfl rfl rfl e28)) ?_
 exact .mk
 refine .mk trivial ?_
 refine .mk ?_ ?_
 refine .mk λx29 e29=>?_
 refine .mk λx30=>?_
 refine .mk .mk ?_
 refine .mk _ (aT (B7 rfl Tryz.underlying197 rfl rfl)) ?_
 exact .mk
 intro _ _
 refine .mk ?_
 refine .mk ?_ ?_
 intro v31
 intro v32
 intro v33
 refine .mk λx34 e34=>?_
 exact .mk
 intro _ _
 refine .mk trivial ?_
 intro v35
 refine .mk λx36=>?_
 refine .mk ?_
 refine .mk λx37=>?_
 refine .mk λx38 e38=>?_
 refine .mk _ (aT (wT rfl rfl rfl e38)) ?_
 exact .mk
 refine .mk trivial ?_
 refine .mk ?_ ?_
 refine .mk λx39 e39=>?_
 refine .mk λx40=>?_
 refine .mk .mk ?_
 refine .mk _ (aT (KA rfl Tryz.underlying197 rfl rfl)) ?_
 exact .mk
 intro _ _
 exact .mk
def YQ (n:Nat) (a1:bD) (a2:aF):WB (bD×Int) :=
 .al 1<|.al 2<|.al 3<|.cl 9 (dL n a2) lM (λ_=>lS) λx6=>.bB 10 (!x6) λx7=>.az [10] x7 (.al 4<|.bB 21 (decide (a2.Kind=14)) λx9=>.az [21] x9 (.bB 30 (decide (a2.Kind=15)) λx10=>.az [30] x10 (.bB 39 (decide (a2.Kind=16)) λx11=>.az [39] x11 (.cl 17 (DU n a1 a2) aBI aGE λx12=>.ret ((x12.1:bD),x12.2)))))
def vY (n:Nat) (a1:bD) (a2:aF):Option (bD×Int):=(YQ n a1 a2).run
theorem aBY {n a1 a2}:PZ (vY n a1 a2) 31 [.agg (bD.av a1),.agg (aF.av a2)] (λr=>.aS [.agg (bD.av r.1),int r.2]):=wq Tryz.func31
end
end Go.Pv
