import Derived.Test.YtgoihillpibdjaaGreatX90h
set_option linter.unusedVariables false
set_option linter.unusedSimpArgs false
namespace Go.Pv
open Go.Proofs
set_option maxRecDepth 100000
set_option maxHeartbeats 4000000
noncomputable section
def U4 (a1:aA) (a2:Int) (a3:Int) (a4:cK):WB (aA×Int) :=
 .al 1<|.al 2<|.al 3<|.cl 21 (DC a1 a2 a3) UB TK λx8=>.bB 22 (!x8) λx9=>.ifs [22] x9 (.ret ((a1:aA),4)) (.iG 27 aP.av gE aP.eP a1.bC a2 λx10=>.ix 31 cK.av x10.dH a3 λx11=>.al 4<|.inl 34 aT9 Tryz.func176 [1,2,3,4] [] (λ_ (a:Unit)=>aN 1 fI ([a4.Open,a4.jC,a4.jE,a4.jD,a4.jB,a4.iZ,a4.jG,a4.iX,a4.iV,a4.jF,a4.jH]:List Int)) (λ_ _=>[]) (.al 5<|.to 25 (aN 1 fI ([a4.Open,a4.jC,a4.jE,a4.jD,a4.jB,a4.iZ,a4.jG,a4.iX,a4.iV,a4.jF,a4.jH]:List Int))<|.ret ()) (λ_=>.eZ 0 [1,2,4,8,9,10] [1,3] [] (λ_ (a:cK)=>[]) (λ_ a=>[.kp 4 [[int a.Open,int a.jC,int a.jE,int a.jD,int a.jB,int a.iZ,int a.jG,int a.iX,int a.iV,int a.jF,int a.jH]]]) (.un 24 (.kB 37 true<|.ix 39 fI ([a4.Open,a4.jC,a4.jE,a4.jD,a4.jB,a4.iZ,a4.jG,a4.iX,a4.iV,a4.jF,a4.jH]:List Int) 0 λx14=>.inl 41 sQ Tryz.func177 [1,2,3,4] [] (λu51 (a:Unit)=>.list 1 [[.pt 4 (u51 4) 0 0],[.pt 4 (u51 4) 0 1],[.pt 4 (u51 4) 0 2],[.pt 4 (u51 4) 0 3],[.pt 4 (u51 4) 0 4],[.pt 4 (u51 4) 0 5],[.pt 4 (u51 4) 0 6],[.pt 4 (u51 4) 0 7],[.pt 4 (u51 4) 0 8],[.pt 4 (u51 4) 0 9],[.pt 4 (u51 4) 0 10]]) (λ_ _=>[]) (.dr [(1,[4]),(2,[4]),(4,[4]),(5,[4]),(7,[4]),(8,[4]),(10,[4]),(11,[4]),(13,[4]),(14,[4]),(16,[4]),(17,[4]),(19,[4]),(20,[4]),(22,[4]),(23,[4]),(25,[4]),(26,[4]),(28,[4]),(29,[4]),(31,[4]),(32,[4])] [] [4] [] [0,1,2,3,4,5,6,7,8,9,10,11,12,13,14,15,16,17,18,19,20,21,22,23,24,25,26,27,28,29,30,31,32,33,34] (.gv 36<|.ret ())) (λ_=>.gv 43<|.cl 50 (nG x11.Open x14) oW oO λx15=>.bB 54 (decide (x15.2≠0)) λx16=>.ifs [54] x16 (.esc (.ret ((a1:aA),x15.2))) (.kI 60 1<|.kB 37 true<|.ix 39 fI ([a4.Open,a4.jC,a4.jE,a4.jD,a4.jB,a4.iZ,a4.jG,a4.iX,a4.iV,a4.jF,a4.jH]:List Int) 1 λx17=>.inl 41 sQ Tryz.func177 [1,2,3,4] [] (λu55 (a:Unit)=>.list 1 [[.pt 4 (u55 4) 0 0],[.pt 4 (u55 4) 0 1],[.pt 4 (u55 4) 0 2],[.pt 4 (u55 4) 0 3],[.pt 4 (u55 4) 0 4],[.pt 4 (u55 4) 0 5],[.pt 4 (u55 4) 0 6],[.pt 4 (u55 4) 0 7],[.pt 4 (u55 4) 0 8],[.pt 4 (u55 4) 0 9],[.pt 4 (u55 4) 0 10]]) (λ_ _=>[]) (.dr [(1,[4]),(2,[4]),(4,[4]),(5,[4]),(7,[4]),(8,[4]),(10,[4]),(11,[4]),(13,[4]),(14,[4]),(16,[4]),(17,[4]),(19,[4]),(20,[4]),(22,[4]),(23,[4]),(25,[4]),(26,[4]),(28,[4]),(29,[4]),(31,[4]),(32,[4])] [] [4] [] [0,1,2,3,4,5,6,7,8,9,10,11,12,13,14,15,16,17,18,19,20,21,22,23,24,25,26,27,28,29,30,31,32,33,34] (.gv 36<|.ret ())) (λ_=>.gv 43<|.cl 50 (nG x11.jC x17) oW oO λx18=>.bB 54 (decide (x18.2≠0)) λx19=>.ifs [54] x19 (.esc (.ret ((a1:aA),x18.2))) (.kI 60 2<|.kB 37 true<|.ix 39 fI ([a4.Open,a4.jC,a4.jE,a4.jD,a4.jB,a4.iZ,a4.jG,a4.iX,a4.iV,a4.jF,a4.jH]:List Int) 2 λx20=>.inl 41 sQ Tryz.func177 [1,2,3,4] [] (λu59 (a:Unit)=>.list 1 [[.pt 4 (u59 4) 0 0],[.pt 4 (u59 4) 0 1],[.pt 4 (u59 4) 0 2],[.pt 4 (u59 4) 0 3],[.pt 4 (u59 4) 0 4],[.pt 4 (u59 4) 0 5],[.pt 4 (u59 4) 0 6],[.pt 4 (u59 4) 0 7],[.pt 4 (u59 4) 0 8],[.pt 4 (u59 4) 0 9],[.pt 4 (u59 4) 0 10]]) (λ_ _=>[]) (.dr [(1,[4]),(2,[4]),(4,[4]),(5,[4]),(7,[4]),(8,[4]),(10,[4]),(11,[4]),(13,[4]),(14,[4]),(16,[4]),(17,[4]),(19,[4]),(20,[4]),(22,[4]),(23,[4]),(25,[4]),(26,[4]),(28,[4]),(29,[4]),(31,[4]),(32,[4])] [] [4] [] [0,1,2,3,4,5,6,7,8,9,10,11,12,13,14,15,16,17,18,19,20,21,22,23,24,25,26,27,28,29,30,31,32,33,34] (.gv 36<|.ret ())) (λ_=>.gv 43<|.cl 50 (nG x11.jE x20) oW oO λx21=>.bB 54 (decide (x21.2≠0)) λx22=>.ifs [54] x22 (.esc (.ret ((a1:aA),x21.2))) (.kI 60 3<|.kB 37 true<|.ix 39 fI ([a4.Open,a4.jC,a4.jE,a4.jD,a4.jB,a4.iZ,a4.jG,a4.iX,a4.iV,a4.jF,a4.jH]:List Int) 3 λx23=>.inl 41 sQ Tryz.func177 [1,2,3,4] [] (λu63 (a:Unit)=>.list 1 [[.pt 4 (u63 4) 0 0],[.pt 4 (u63 4) 0 1],[.pt 4 (u63 4) 0 2],[.pt 4 (u63 4) 0 3],[.pt 4 (u63 4) 0 4],[.pt 4 (u63 4) 0 5],[.pt 4 (u63 4) 0 6],[.pt 4 (u63 4) 0 7],[.pt 4 (u63 4) 0 8],[.pt 4 (u63 4) 0 9],[.pt 4 (u63 4) 0 10]]) (λ_ _=>[]) (.dr [(1,[4]),(2,[4]),(4,[4]),(5,[4]),(7,[4]),(8,[4]),(10,[4]),(11,[4]),(13,[4]),(14,[4]),(16,[4]),(17,[4]),(19,[4]),(20,[4]),(22,[4]),(23,[4]),(25,[4]),(26,[4]),(28,[4]),(29,[4]),(31,[4]),(32,[4])] [] [4] [] [0,1,2,3,4,5,6,7,8,9,10,11,12,13,14,15,16,17,18,19,20,21,22,23,24,25,26,27,28,29,30,31,32,33,34] (.gv 36<|.ret ())) (λ_=>.gv 43<|.cl 50 (nG x11.jD x23) oW oO λx24=>.bB 54 (decide (x24.2≠0)) λx25=>.ifs [54] x25 (.esc (.ret ((a1:aA),x24.2))) (.kI 60 4<|.kB 37 true<|.ix 39 fI ([a4.Open,a4.jC,a4.jE,a4.jD,a4.jB,a4.iZ,a4.jG,a4.iX,a4.iV,a4.jF,a4.jH]:List Int) 4 λx26=>.inl 41 sQ Tryz.func177 [1,2,3,4] [] (λu67 (a:Unit)=>.list 1 [[.pt 4 (u67 4) 0 0],[.pt 4 (u67 4) 0 1],[.pt 4 (u67 4) 0 2],[.pt 4 (u67 4) 0 3],[.pt 4 (u67 4) 0 4],[.pt 4 (u67 4) 0 5],[.pt 4 (u67 4) 0 6],[.pt 4 (u67 4) 0 7],[.pt 4 (u67 4) 0 8],[.pt 4 (u67 4) 0 9],[.pt 4 (u67 4) 0 10]]) (λ_ _=>[]) (.dr [(1,[4]),(2,[4]),(4,[4]),(5,[4]),(7,[4]),(8,[4]),(10,[4]),(11,[4]),(13,[4]),(14,[4]),(16,[4]),(17,[4]),(19,[4]),(20,[4]),(22,[4]),(23,[4]),(25,[4]),(26,[4]),(28,[4]),(29,[4]),(31,[4]),(32,[4])] [] [4] [] [0,1,2,3,4,5,6,7,8,9,10,11,12,13,14,15,16,17,18,19,20,21,22,23,24,25,26,27,28,29,30,31,32,33,34] (.gv 36<|.ret ())) (λ_=>.gv 43<|.cl 50 (nG x11.jB x26) oW oO λx27=>.bB 54 (decide (x27.2≠0)) λx28=>.ifs [54] x28 (.esc (.ret ((a1:aA),x27.2))) (.kI 60 5<|.kB 37 true<|.ix 39 fI ([a4.Open,a4.jC,a4.jE,a4.jD,a4.jB,a4.iZ,a4.jG,a4.iX,a4.iV,a4.jF,a4.jH]:List Int) 5 λx29=>.inl 41 sQ Tryz.func177 [1,2,3,4] [] (λu71 (a:Unit)=>.list 1 [[.pt 4 (u71 4) 0 0],[.pt 4 (u71 4) 0 1],[.pt 4 (u71 4) 0 2],[.pt 4 (u71 4) 0 3],[.pt 4 (u71 4) 0 4],[.pt 4 (u71 4) 0 5],[.pt 4 (u71 4) 0 6],[.pt 4 (u71 4) 0 7],[.pt 4 (u71 4) 0 8],[.pt 4 (u71 4) 0 9],[.pt 4 (u71 4) 0 10]]) (λ_ _=>[]) (.dr [(1,[4]),(2,[4]),(4,[4]),(5,[4]),(7,[4]),(8,[4]),(10,[4]),(11,[4]),(13,[4]),(14,[4]),(16,[4]),(17,[4]),(19,[4]),(20,[4]),(22,[4]),(23,[4]),(25,[4]),(26,[4]),(28,[4]),(29,[4]),(31,[4]),(32,[4])] [] [4] [] [0,1,2,3,4,5,6,7,8,9,10,11,12,13,14,15,16,17,18,19,20,21,22,23,24,25,26,27,28,29,30,31,32,33,34] (.gv 36<|.ret ())) (λ_=>.gv 43<|.cl 50 (nG x11.iZ x29) oW oO λx30=>.bB 54 (decide (x30.2≠0)) λx31=>.ifs [54] x31 (.esc (.ret ((a1:aA),x30.2))) (.kI 60 6<|.kB 37 true<|.ix 39 fI ([a4.Open,a4.jC,a4.jE,a4.jD,a4.jB,a4.iZ,a4.jG,a4.iX,a4.iV,a4.jF,a4.jH]:List Int) 6 λx32=>.inl 41 sQ Tryz.func177 [1,2,3,4] [] (λu75 (a:Unit)=>.list 1 [[.pt 4 (u75 4) 0 0],[.pt 4 (u75 4) 0 1],[.pt 4 (u75 4) 0 2],[.pt 4 (u75 4) 0 3],[.pt 4 (u75 4) 0 4],[.pt 4 (u75 4) 0 5],[.pt 4 (u75 4) 0 6],[.pt 4 (u75 4) 0 7],[.pt 4 (u75 4) 0 8],[.pt 4 (u75 4) 0 9],[.pt 4 (u75 4) 0 10]]) (λ_ _=>[]) (.dr [(1,[4]),(2,[4]),(4,[4]),(5,[4]),(7,[4]),(8,[4]),(10,[4]),(11,[4]),(13,[4]),(14,[4]),(16,[4]),(17,[4]),(19,[4]),(20,[4]),(22,[4]),(23,[4]),(25,[4]),(26,[4]),(28,[4]),(29,[4]),(31,[4]),(32,[4])] [] [4] [] [0,1,2,3,4,5,6,7,8,9,10,11,12,13,14,15,16,17,18,19,20,21,22,23,24,25,26,27,28,29,30,31,32,33,34] (.gv 36<|.ret ())) (λ_=>.gv 43<|.cl 50 (nG x11.jG x32) oW oO λx33=>.bB 54 (decide (x33.2≠0)) λx34=>.ifs [54] x34 (.esc (.ret ((a1:aA),x33.2))) (.kI 60 7<|.kB 37 true<|.ix 39 fI ([a4.Open,a4.jC,a4.jE,a4.jD,a4.jB,a4.iZ,a4.jG,a4.iX,a4.iV,a4.jF,a4.jH]:List Int) 7 λx35=>.inl 41 sQ Tryz.func177 [1,2,3,4] [] (λu79 (a:Unit)=>.list 1 [[.pt 4 (u79 4) 0 0],[.pt 4 (u79 4) 0 1],[.pt 4 (u79 4) 0 2],[.pt 4 (u79 4) 0 3],[.pt 4 (u79 4) 0 4],[.pt 4 (u79 4) 0 5],[.pt 4 (u79 4) 0 6],[.pt 4 (u79 4) 0 7],[.pt 4 (u79 4) 0 8],[.pt 4 (u79 4) 0 9],[.pt 4 (u79 4) 0 10]]) (λ_ _=>[]) (.dr [(1,[4]),(2,[4]),(4,[4]),(5,[4]),(7,[4]),(8,[4]),(10,[4]),(11,[4]),(13,[4]),(14,[4]),(16,[4]),(17,[4]),(19,[4]),(20,[4]),(22,[4]),(23,[4]),(25,[4]),(26,[4]),(28,[4]),(29,[4]),(31,[4]),(32,[4])] [] [4] [] [0,1,2,3,4,5,6,7,8,9,10,11,12,13,14,15,16,17,18,19,20,21,22,23,24,25,26,27,28,29,30,31,32,33,34] (.gv 36<|.ret ())) (λ_=>.gv 43<|.cl 50 (nG x11.iX x35) oW oO λx36=>.bB 54 (decide (x36.2≠0)) λx37=>.ifs [54] x37 (.esc (.ret ((a1:aA),x36.2))) (.kI 60 8<|.kB 37 true<|.ix 39 fI ([a4.Open,a4.jC,a4.jE,a4.jD,a4.jB,a4.iZ,a4.jG,a4.iX,a4.iV,a4.jF,a4.jH]:List Int) 8 λx38=>.inl 41 sQ Tryz.func177 [1,2,3,4] [] (λu83 (a:Unit)=>.list 1 [[.pt 4 (u83 4) 0 0],[.pt 4 (u83 4) 0 1],[.pt 4 (u83 4) 0 2],[.pt 4 (u83 4) 0 3],[.pt 4 (u83 4) 0 4],[.pt 4 (u83 4) 0 5],[.pt 4 (u83 4) 0 6],[.pt 4 (u83 4) 0 7],[.pt 4 (u83 4) 0 8],[.pt 4 (u83 4) 0 9],[.pt 4 (u83 4) 0 10]]) (λ_ _=>[]) (.dr [(1,[4]),(2,[4]),(4,[4]),(5,[4]),(7,[4]),(8,[4]),(10,[4]),(11,[4]),(13,[4]),(14,[4]),(16,[4]),(17,[4]),(19,[4]),(20,[4]),(22,[4]),(23,[4]),(25,[4]),(26,[4]),(28,[4]),(29,[4]),(31,[4]),(32,[4])] [] [4] [] [0,1,2,3,4,5,6,7,8,9,10,11,12,13,14,15,16,17,18,19,20,21,22,23,24,25,26,27,28,29,30,31,32,33,34] (.gv 36<|.ret ())) (λ_=>.gv 43<|.cl 50 (nG x11.iV x38) oW oO λx39=>.bB 54 (decide (x39.2≠0)) λx40=>.ifs [54] x40 (.esc (.ret ((a1:aA),x39.2))) (.kI 60 9<|.kB 37 true<|.ix 39 fI ([a4.Open,a4.jC,a4.jE,a4.jD,a4.jB,a4.iZ,a4.jG,a4.iX,a4.iV,a4.jF,a4.jH]:List Int) 9 λx41=>.inl 41 sQ Tryz.func177 [1,2,3,4] [] (λu87 (a:Unit)=>.list 1 [[.pt 4 (u87 4) 0 0],[.pt 4 (u87 4) 0 1],[.pt 4 (u87 4) 0 2],[.pt 4 (u87 4) 0 3],[.pt 4 (u87 4) 0 4],[.pt 4 (u87 4) 0 5],[.pt 4 (u87 4) 0 6],[.pt 4 (u87 4) 0 7],[.pt 4 (u87 4) 0 8],[.pt 4 (u87 4) 0 9],[.pt 4 (u87 4) 0 10]]) (λ_ _=>[]) (.dr [(1,[4]),(2,[4]),(4,[4]),(5,[4]),(7,[4]),(8,[4]),(10,[4]),(11,[4]),(13,[4]),(14,[4]),(16,[4]),(17,[4]),(19,[4]),(20,[4]),(22,[4]),(23,[4]),(25,[4]),(26,[4]),(28,[4]),(29,[4]),(31,[4]),(32,[4])] [] [4] [] [0,1,2,3,4,5,6,7,8,9,10,11,12,13,14,15,16,17,18,19,20,21,22,23,24,25,26,27,28,29,30,31,32,33,34] (.gv 36<|.ret ())) (λ_=>.gv 43<|.cl 50 (nG x11.jF x41) oW oO λx42=>.bB 54 (decide (x42.2≠0)) λx43=>.ifs [54] x43 (.esc (.ret ((a1:aA),x42.2))) (.kI 60 10<|.kB 37 true<|.ix 39 fI ([a4.Open,a4.jC,a4.jE,a4.jD,a4.jB,a4.iZ,a4.jG,a4.iX,a4.iV,a4.jF,a4.jH]:List Int) 10 λx44=>.inl 41 sQ Tryz.func177 [1,2,3,4] [] (λu91 (a:Unit)=>.list 1 [[.pt 4 (u91 4) 0 0],[.pt 4 (u91 4) 0 1],[.pt 4 (u91 4) 0 2],[.pt 4 (u91 4) 0 3],[.pt 4 (u91 4) 0 4],[.pt 4 (u91 4) 0 5],[.pt 4 (u91 4) 0 6],[.pt 4 (u91 4) 0 7],[.pt 4 (u91 4) 0 8],[.pt 4 (u91 4) 0 9],[.pt 4 (u91 4) 0 10]]) (λ_ _=>[]) (.dr [(1,[4]),(2,[4]),(4,[4]),(5,[4]),(7,[4]),(8,[4]),(10,[4]),(11,[4]),(13,[4]),(14,[4]),(16,[4]),(17,[4]),(19,[4]),(20,[4]),(22,[4]),(23,[4]),(25,[4]),(26,[4]),(28,[4]),(29,[4]),(31,[4]),(32,[4])] [] [4] [] [0,1,2,3,4,5,6,7,8,9,10,11,12,13,14,15,16,17,18,19,20,21,22,23,24,25,26,27,28,29,30,31,32,33,34] (.gv 36<|.ret ())) (λ_=>.gv 43<|.cl 50 (nG x11.jH x44) oW oO λx45=>.bB 54 (decide (x45.2≠0)) λx46=>.ifs [54] x46 (.esc (.ret ((a1:aA),x45.2))) (.kI 60 11<|.kB 37 false<|.brk ((⟨x15.1,x18.1,x21.1,x24.1,x27.1,x30.1,x33.1,x36.1,x39.1,x42.1,x45.1⟩:cK):cK))))))))))))))))))))))))) (λy2_1=>.al 6<|.inl 64 IK Tryz.func173 [1,3,4] [7] (λu93 (a:Unit)=>.pt 7 (u93 7) (Int.toNat a2) 0) (λu93 _=>[.kp 6 [[int a1.bJ.gD,int a1.bJ.gP,aN 1 fI a1.bJ.cB,aN 1 (fL 1 fI) a1.bJ.Methods,aN 1 (fL 1 fI) a1.bJ.gB,.sl 7 (u93 7) 0 a1.bC.length,aN 8 eU.av a1.cZ,aN 9 eH.av a1.dY,aN 6 fU.av a1.dJ,int a1.Done]],.nw 7 60 8 (a1.bC.map aP.av)]) (.as (a1.bC.length<=68719476736) inferInstance<|.ge 11 7<|.bo (ix a1.bC a2) λx50=>.gv 21<|.ret ()) (λ_=>.bo (ix a1.bC a2) λx51=>.gv 67<|.gv 68<|.gv 69<|.as (x51.dH.length<=68719476736) inferInstance<|.ge 70 8<|.gv 71<|.gv 72<|.ge 1015008 0<|.dr [(1,[7]),(2,[7]),(3,[7]),(5,[4]),(6,[8])] [(7,[])] [4,7,8] [7] [0,1,2,3,4,5,6,7] (.gv 74<|.gv 75<|.gv 76<|.bo (ix x51.dH a3) λx54=>.gv 79<|.bl (x51.dH.set (Int.toNat a3) y2_1:List cK) λx55=>.ge 1016007 0<|.ret (((⟨a1.bJ,(a1.bC.set (Int.toNat a2) (⟨x51.fO,x51.Closed,x51.bS,x51.dK,x55,x51.fZ,x51.Down,x51.fP⟩:aP)),a1.cZ,a1.dY,a1.dJ,a1.Done⟩:aA):aA),0))))))
def yK (a1:aA) (a2:Int) (a3:Int) (a4:cK):Option (aA×Int):=(U4 a1 a2 a3 a4).run
theorem aLO {a1 a2 a3 a4}:PZ (yK a1 a2 a3 a4) 139 [.agg (aA.av a1),int a2,int a3,.agg (cK.av a4)] (λr=>.bT [.agg (aA.av r.1),int r.2]):=by
 refine wm Tryz.func139 ?_
 intro v5
 intro v6
 intro v7
 refine .mk λx8 e8=>?_
 refine .mk λx9=>?_
 refine .mk .mk ?_
 refine .mk λx10 e10=>?_
 refine .mk λx11 e11=>?_
 intro v12
 refine .mk ?_ ?_
 intro v13
 refine .mk (fD (jY (y:=aN 1 fI ([a4.Open,a4.jC,a4.jE,a4.jD,a4.jB,a4.iZ,a4.jG,a4.iX,a4.iV,a4.jF,a4.jH]:List Int)) (jM (ps:=[(0,_),(1,_),(2,_),(3,_),(4,_),(5,_),(6,_),(7,_),(8,_),(9,_),(10,_)]) (rows:=[[int a4.Open],[int a4.jC],[int a4.jE],[int a4.jD],[int a4.jB],[int a4.iZ],[int a4.jG],[int a4.iX],[int a4.iV],[int a4.jF],[int a4.jH]]) rfl Tryz.underlying22 kE (.cons rfl (.cons rfl (.cons rfl (.cons rfl (.cons rfl (.cons rfl (.cons rfl (.cons rfl (.cons rfl (.cons rfl (.cons rfl .nil))))))))))) (by kernel_rfl) rfl rfl rfl) rfl)) ?_
 exact .mk
 intro _ _
 refine .mk trivial ?_
 refine .mk ?_ ?_
 refine .mk ?_
 refine .mk λx14 e14=>?_
 refine .mk ?_ ?_
 refine .mk ?_
 refine .mk _ (λH hH _=>jM (ps:=[(0,_),(1,_),(2,_),(3,_),(4,_),(5,_),(6,_),(7,_),(8,_),(9,_),(10,_)]) (rows:=[[.pt 4 v12 0 0],[.pt 4 v12 0 1],[.pt 4 v12 0 2],[.pt 4 v12 0 3],[.pt 4 v12 0 4],[.pt 4 v12 0 5],[.pt 4 v12 0 6],[.pt 4 v12 0 7],[.pt 4 v12 0 8],[.pt 4 v12 0 9],[.pt 4 v12 0 10]]) rfl Tryz.underlying209 rF (.cons rfl (.cons rfl (.cons rfl (.cons rfl (.cons rfl (.cons rfl (.cons rfl (.cons rfl (.cons rfl (.cons rfl (.cons rfl .nil))))))))))) (by kernel_rfl) rfl rfl rfl) ?_
 exact .mk
 intro _ _
 refine .mk trivial ?_
 refine .mk _ (fD (mX (j:=0) rfl Tryz.underlying209 rX rfl rfl rfl (.list rfl))) ?_
 refine .mk λx15 e15=>?_
 refine .mk λx16=>?_
 refine .mk .mk ?_
 refine .mk ?_
 refine .mk ?_
 refine .mk λx17 e17=>?_
 refine .mk ?_ ?_
 refine .mk ?_
 refine .mk _ (λH hH _=>jM (ps:=[(0,_),(1,_),(2,_),(3,_),(4,_),(5,_),(6,_),(7,_),(8,_),(9,_),(10,_)]) (rows:=[[.pt 4 v12 0 0],[.pt 4 v12 0 1],[.pt 4 v12 0 2],[.pt 4 v12 0 3],[.pt 4 v12 0 4],[.pt 4 v12 0 5],[.pt 4 v12 0 6],[.pt 4 v12 0 7],[.pt 4 v12 0 8],[.pt 4 v12 0 9],[.pt 4 v12 0 10]]) rfl Tryz.underlying209 rF (.cons rfl (.cons rfl (.cons rfl (.cons rfl (.cons rfl (.cons rfl (.cons rfl (.cons rfl (.cons rfl (.cons rfl (.cons rfl .nil))))))))))) (by kernel_rfl) rfl rfl rfl) ?_
 exact .mk
 intro _ _
 refine .mk trivial ?_
 refine .mk _ (fD (mX (j:=1) rfl Tryz.underlying209 rX rfl rfl rfl (.list rfl))) ?_
 refine .mk λx18 e18=>?_
 refine .mk λx19=>?_
 refine .mk .mk ?_
 refine .mk ?_
 refine .mk ?_
 refine .mk λx20 e20=>?_
 refine .mk ?_ ?_
 refine .mk ?_
 refine .mk _ (λH hH _=>jM (ps:=[(0,_),(1,_),(2,_),(3,_),(4,_),(5,_),(6,_),(7,_),(8,_),(9,_),(10,_)]) (rows:=[[.pt 4 v12 0 0],[.pt 4 v12 0 1],[.pt 4 v12 0 2],[.pt 4 v12 0 3],[.pt 4 v12 0 4],[.pt 4 v12 0 5],[.pt 4 v12 0 6],[.pt 4 v12 0 7],[.pt 4 v12 0 8],[.pt 4 v12 0 9],[.pt 4 v12 0 10]]) rfl Tryz.underlying209 rF (.cons rfl (.cons rfl (.cons rfl (.cons rfl (.cons rfl (.cons rfl (.cons rfl (.cons rfl (.cons rfl (.cons rfl (.cons rfl .nil))))))))))) (by kernel_rfl) rfl rfl rfl) ?_
 exact .mk
 intro _ _
 refine .mk trivial ?_
 refine .mk _ (fD (mX (j:=2) rfl Tryz.underlying209 rX rfl rfl rfl (.list rfl))) ?_
 refine .mk λx21 e21=>?_
 refine .mk λx22=>?_
 refine .mk .mk ?_
 refine .mk ?_
 refine .mk ?_
 refine .mk λx23 e23=>?_
 refine .mk ?_ ?_
 refine .mk ?_
 refine .mk _ (λH hH _=>jM (ps:=[(0,_),(1,_),(2,_),(3,_),(4,_),(5,_),(6,_),(7,_),(8,_),(9,_),(10,_)]) (rows:=[[.pt 4 v12 0 0],[.pt 4 v12 0 1],[.pt 4 v12 0 2],[.pt 4 v12 0 3],[.pt 4 v12 0 4],[.pt 4 v12 0 5],[.pt 4 v12 0 6],[.pt 4 v12 0 7],[.pt 4 v12 0 8],[.pt 4 v12 0 9],[.pt 4 v12 0 10]]) rfl Tryz.underlying209 rF (.cons rfl (.cons rfl (.cons rfl (.cons rfl (.cons rfl (.cons rfl (.cons rfl (.cons rfl (.cons rfl (.cons rfl (.cons rfl .nil))))))))))) (by kernel_rfl) rfl rfl rfl) ?_
 exact .mk
 intro _ _
 refine .mk trivial ?_
 refine .mk _ (fD (mX (j:=3) rfl Tryz.underlying209 rX rfl rfl rfl (.list rfl))) ?_
 refine .mk λx24 e24=>?_
 refine .mk λx25=>?_
 refine .mk .mk ?_
 refine .mk ?_
 refine .mk ?_
 refine .mk λx26 e26=>?_
 refine .mk ?_ ?_
 refine .mk ?_
 refine .mk _ (λH hH _=>jM (ps:=[(0,_),(1,_),(2,_),(3,_),(4,_),(5,_),(6,_),(7,_),(8,_),(9,_),(10,_)]) (rows:=[[.pt 4 v12 0 0],[.pt 4 v12 0 1],[.pt 4 v12 0 2],[.pt 4 v12 0 3],[.pt 4 v12 0 4],[.pt 4 v12 0 5],[.pt 4 v12 0 6],[.pt 4 v12 0 7],[.pt 4 v12 0 8],[.pt 4 v12 0 9],[.pt 4 v12 0 10]]) rfl Tryz.underlying209 rF (.cons rfl (.cons rfl (.cons rfl (.cons rfl (.cons rfl (.cons rfl (.cons rfl (.cons rfl (.cons rfl (.cons rfl (.cons rfl .nil))))))))))) (by kernel_rfl) rfl rfl rfl) ?_
 exact .mk
 intro _ _
 refine .mk trivial ?_
 refine .mk _ (fD (mX (j:=4) rfl Tryz.underlying209 rX rfl rfl rfl (.list rfl))) ?_
 refine .mk λx27 e27=>?_
 refine .mk λx28=>?_
 refine .mk .mk ?_
 refine .mk ?_
 refine .mk ?_
 refine .mk λx29 e29=>?_
 refine .mk ?_ ?_
 refine .mk ?_
 refine .mk _ (λH hH _=>jM (ps:=[(0,_),(1,_),(2,_),(3,_),(4,_),(5,_),(6,_),(7,_),(8,_),(9,_),(10,_)]) (rows:=[[.pt 4 v12 0 0],[.pt 4 v12 0 1],[.pt 4 v12 0 2],[.pt 4 v12 0 3],[.pt 4 v12 0 4],[.pt 4 v12 0 5],[.pt 4 v12 0 6],[.pt 4 v12 0 7],[.pt 4 v12 0 8],[.pt 4 v12 0 9],[.pt 4 v12 0 10]]) rfl Tryz.underlying209 rF (.cons rfl (.cons rfl (.cons rfl (.cons rfl (.cons rfl (.cons rfl (.cons rfl (.cons rfl (.cons rfl (.cons rfl (.cons rfl .nil))))))))))) (by kernel_rfl) rfl rfl rfl) ?_
 exact .mk
 intro _ _
 refine .mk trivial ?_
 refine .mk _ (fD (mX (j:=5) rfl Tryz.underlying209 rX rfl rfl rfl (.list rfl))) ?_
 refine .mk λx30 e30=>?_
 refine .mk λx31=>?_
 refine .mk .mk ?_
 refine .mk ?_
 refine .mk ?_
 refine .mk λx32 e32=>?_
 refine .mk ?_ ?_
 refine .mk ?_
 refine .mk _ (λH hH _=>jM (ps:=[(0,_),(1,_),(2,_),(3,_),(4,_),(5,_),(6,_),(7,_),(8,_),(9,_),(10,_)]) (rows:=[[.pt 4 v12 0 0],[.pt 4 v12 0 1],[.pt 4 v12 0 2],[.pt 4 v12 0 3],[.pt 4 v12 0 4],[.pt 4 v12 0 5],[.pt 4 v12 0 6],[.pt 4 v12 0 7],[.pt 4 v12 0 8],[.pt 4 v12 0 9],[.pt 4 v12 0 10]]) rfl Tryz.underlying209 rF (.cons rfl (.cons rfl (.cons rfl (.cons rfl (.cons rfl (.cons rfl (.cons rfl (.cons rfl (.cons rfl (.cons rfl (.cons rfl .nil))))))))))) (by kernel_rfl) rfl rfl rfl) ?_
 exact .mk
 intro _ _
 refine .mk trivial ?_
 refine .mk _ (fD (mX (j:=6) rfl Tryz.underlying209 rX rfl rfl rfl (.list rfl))) ?_
 refine .mk λx33 e33=>?_
 refine .mk λx34=>?_
 refine .mk .mk ?_
 refine .mk ?_
 refine .mk ?_
 refine .mk λx35 e35=>?_
 refine .mk ?_ ?_
 refine .mk ?_
 refine .mk _ (λH hH _=>jM (ps:=[(0,_),(1,_),(2,_),(3,_),(4,_),(5,_),(6,_),(7,_),(8,_),(9,_),(10,_)]) (rows:=[[.pt 4 v12 0 0],[.pt 4 v12 0 1],[.pt 4 v12 0 2],[.pt 4 v12 0 3],[.pt 4 v12 0 4],[.pt 4 v12 0 5],[.pt 4 v12 0 6],[.pt 4 v12 0 7],[.pt 4 v12 0 8],[.pt 4 v12 0 9],[.pt 4 v12 0 10]]) rfl Tryz.underlying209 rF (.cons rfl (.cons rfl (.cons rfl (.cons rfl (.cons rfl (.cons rfl (.cons rfl (.cons rfl (.cons rfl (.cons rfl (.cons rfl .nil))))))))))) (by kernel_rfl) rfl rfl rfl) ?_
 exact .mk
 intro _ _
 refine .mk trivial ?_
 refine .mk _ (fD (mX (j:=7) rfl Tryz.underlying209 rX rfl rfl rfl (.list rfl))) ?_
 refine .mk λx36 e36=>?_
 refine .mk λx37=>?_
 refine .mk .mk ?_
 refine .mk ?_
 refine .mk ?_
 refine .mk λx38 e38=>?_
 refine .mk ?_ ?_
 refine .mk ?_
 refine .mk _ (λH hH _=>jM (ps:=[(0,_),(1,_),(2,_),(3,_),(4,_),(5,_),(6,_),(7,_),(8,_),(9,_),(10,_)]) (rows:=[[.pt 4 v12 0 0],[.pt 4 v12 0 1],[.pt 4 v12 0 2],[.pt 4 v12 0 3],[.pt 4 v12 0 4],[.pt 4 v12 0 5],[.pt 4 v12 0 6],[.pt 4 v12 0 7],[.pt 4 v12 0 8],[.pt 4 v12 0 9],[.pt 4 v12 0 10]]) rfl Tryz.underlying209 rF (.cons rfl (.cons rfl (.cons rfl (.cons rfl (.cons rfl (.cons rfl (.cons rfl (.cons rfl (.cons rfl (.cons rfl (.cons rfl .nil))))))))))) (by kernel_rfl) rfl rfl rfl) ?_
 exact .mk
 intro _ _
 refine .mk trivial ?_
 refine .mk _ (fD (mX (j:=8) rfl Tryz.underlying209 rX rfl rfl rfl (.list rfl))) ?_
 refine .mk λx39 e39=>?_
 refine .mk λx40=>?_
 refine .mk .mk ?_
 refine .mk ?_
 refine .mk ?_
 refine .mk λx41 e41=>?_
 refine .mk ?_ ?_
 refine .mk ?_
 refine .mk _ (λH hH _=>jM (ps:=[(0,_),(1,_),(2,_),(3,_),(4,_),(5,_),(6,_),(7,_),(8,_),(9,_),(10,_)]) (rows:=[[.pt 4 v12 0 0],[.pt 4 v12 0 1],[.pt 4 v12 0 2],[.pt 4 v12 0 3],[.pt 4 v12 0 4],[.pt 4 v12 0 5],[.pt 4 v12 0 6],[.pt 4 v12 0 7],[.pt 4 v12 0 8],[.pt 4 v12 0 9],[.pt 4 v12 0 10]]) rfl Tryz.underlying209 rF (.cons rfl (.cons rfl (.cons rfl (.cons rfl (.cons rfl (.cons rfl (.cons rfl (.cons rfl (.cons rfl (.cons rfl (.cons rfl .nil))))))))))) (by kernel_rfl) rfl rfl rfl) ?_
 exact .mk
 intro _ _
 refine .mk trivial ?_
 refine .mk _ (fD (mX (j:=9) rfl Tryz.underlying209 rX rfl rfl rfl (.list rfl))) ?_
 refine .mk λx42 e42=>?_
 refine .mk λx43=>?_
 refine .mk .mk ?_
 refine .mk ?_
 refine .mk ?_
 refine .mk λx44 e44=>?_
 refine .mk ?_ ?_
 refine .mk ?_
 refine .mk _ (λH hH _=>jM (ps:=[(0,_),(1,_),(2,_),(3,_),(4,_),(5,_),(6,_),(7,_),(8,_),(9,_),(10,_)]) (rows:=[[.pt 4 v12 0 0],[.pt 4 v12 0 1],[.pt 4 v12 0 2],[.pt 4 v12 0 3],[.pt 4 v12 0 4],[.pt 4 v12 0 5],[.pt 4 v12 0 6],[.pt 4 v12 0 7],[.pt 4 v12 0 8],[.pt 4 v12 0 9],[.pt 4 v12 0 10]]) rfl Tryz.underlying209 rF (.cons rfl (.cons rfl (.cons rfl (.cons rfl (.cons rfl (.cons rfl (.cons rfl (.cons rfl (.cons rfl (.cons rfl (.cons rfl .nil))))))))))) (by kernel_rfl) rfl rfl rfl) ?_
 exact .mk
 intro _ _
 refine .mk trivial ?_
 refine .mk _ (fD (mX (j:=10) rfl Tryz.underlying209 rX rfl rfl rfl (.list rfl))) ?_
 refine .mk λx45 e45=>?_
 refine .mk λx46=>?_
 refine .mk .mk ?_
 refine .mk ?_
 refine .mk ?_
 exact .mk
 intro _ _
 intro v47
 refine .mk ?_ ?_
 refine .mk λp48=>?_
 refine .mk _ ⟨λ_=>kZ rfl rfl (.cons rfl .nil) zX (lT (CX.pc (id:=7) (l:=a1.bC) rfl p48) (.cons (.refl _) .nil)),λ_ _ _=>trivial⟩ ?_
 rintro _ _ ⟨v49,rfl,rfl⟩
 refine .mk λx50 e50=>?_
 refine .mk _ (fD (iJ rfl Tryz.underlying27 nY rfl rfl rfl rfl rfl (Eq.symm rfl) (List.length_map _) e50)) ?_
 exact .mk
 intro _ _
 refine .mk trivial ?_
 refine .mk λx51 e51=>?_
 refine .mk _ (fD (kR rfl rfl (.pt rfl rfl (iE e51 (aP.eP _))))) ?_
 refine .mk _ (fD (gT rfl FT rfl (.pt rfl rfl (iE e51 (aP.eP _))) (.pt _ _ _ _ _))) ?_
 refine .mk _ (fD (iB rfl FO rfl (.pt rfl rfl (iE e51 (aP.eP _))) rfl)) ?_
 refine .mk λp52=>?_
 refine .mk _ ⟨λ_=>kZ rfl rfl (.cons rfl .nil) aBK (lT (aGM.pc (id:=8) (l:=x51.dH) rfl p52) (.cons (.refl _) .nil)),λ_ _ _=>trivial⟩ ?_
 rintro _ _ ⟨v53,rfl,rfl⟩
 refine .mk _ (fD (kR rfl rfl (.pt rfl rfl (iE e51 (aP.eP _))))) ?_
 refine .mk _ (fD (gT rfl FT rfl (.pt rfl rfl (iE e51 (aP.eP _))) (.pt _ _ _ _ _))) ?_
 refine .mk _ ⟨λ_=>eG.gV (iR (ob':=(⟨60,8,true,true,_,(a1.bC.map aP.av).set (Int.toNat a2) [int x51.fO,bD x51.Closed,aN 4 aQ.av x51.bS,aN 1 fI x51.dK,.sl 8 v53 0 x51.dH.length,aN 1 fI x51.fZ,aN 1 fI x51.Down,aN 8 aP.av x51.fP]⟩:bZ)) (iH rfl FO rfl rfl rfl rfl rfl (iE e51 (aP.eP _)) rfl rfl rfl) (jJ rfl)) (λ_ h=>h) (λ_ _=>trivial),λ_ _ _=>trivial⟩ ?_
 rintro _ _ ⟨rfl,rfl⟩
 refine .mk ?_
 refine .mk _ (λH hH _=>kR rfl rfl (.pt ((hH _ (by decide)).trans rfl) rfl (iW e51))) ?_
 refine .mk _ (λH hH _=>gT rfl FT rfl (.pt ((hH _ (by decide)).trans rfl) rfl (iW e51)) (.pt _ _ _ _ _)) ?_
 refine .mk _ (λH hH _=>iB rfl FO rfl (.pt ((hH _ (by decide)).trans rfl) rfl (iW e51)) rfl) ?_
 refine .mk λx54 e54=>?_
 refine .mk _ (λH hH _=>iJ rfl Tryz.underlying58 aGJ rfl rfl ((hH _ (by decide)).trans rfl) rfl rfl (Eq.symm rfl) (List.length_map _) e54) ?_
 refine .mk λx55 e55=>?_
 have fx55:=jW e54 e55;have lx55:=jU e55 (rfl:x51.dH.length=x51.dH.length)
 refine .mk _ ⟨λ_=>eG.gV (iR (ob':=(⟨89,11,true,true,_,x55.map cK.av⟩:bZ)) (iH rfl aGJ rfl rfl rfl rfl rfl (fV e54) rfl rfl rfl) (jJ (kU e55))) (λ_ h=>h) (λ_ _=>trivial),by rintro _ _ ⟨rfl,rfl⟩;exact trivial⟩ ?_
 rintro _ _ ⟨rfl,rfl⟩
 exact .mk (dX.bT (.cons (dX.agg (.cons (.refl _) (.cons (.refl _) (.cons (.refl _) (.cons (.refl _) (.cons (.refl _) (.cons (pO rfl rfl rfl rfl rfl (Eq.symm rfl) e51 (qG (.cons (.refl _) (.cons (.refl _) (.cons (.refl _) (.cons (.refl _) (.cons (gQ rfl rfl rfl rfl rfl (Eq.symm lx55)) (.cons (.refl _) (.cons (.refl _) (.cons (.refl _) .nil)))))))) (aP.eP _))) (.cons (.refl _) (.cons (.refl _) (.cons (.refl _) (.cons (.refl _) .nil))))))))))) (.cons (.refl _) .nil)))
def aIT (n:Nat) (a1:aA) (a2:bM) (a3:cK) (a4:List aS):WB (aA×Int) :=
 .al 1<|.al 2<|.al 3<|.al 4<|.cl 16 (uP n a1 a2.E a4) aUO aYW λx9=>.bB 20 (decide (x9.2≠0)) λx10=>.ifs [20] x10 (.ret ((x9.1:aA),x9.2)) (.cl 29 (yK x9.1 a2.E a2.Item a3) aY3 aLO λx11=>.ret ((x11.1:aA),x11.2))
def vT (n:Nat) (a1:aA) (a2:bM) (a3:cK) (a4:List aS):Option (aA×Int):=(aIT n a1 a2 a3 a4).run
theorem H7 {n a1 a2 a3 a4}:PZ (vT n a1 a2 a3 a4) 96 [.agg (aA.av a1),.agg (bM.av a2),.agg (cK.av a3),aN 2 aS.av a4] (λr=>.bT [.agg (aA.av r.1),int r.2]):=wq Tryz.func96
def aBM (n:Nat) (a1:aA) (a2:bM):WB (aA×Int) :=
 .al 1<|.al 2<|.al 3<|.dr [(0,[1]),(1,[1]),(2,[1]),(3,[2]),(4,[2]),(7,[2]),(8,[2])] [] [1,2] [] [0,1,2,3,4,5,6,7,8,9,10,11] (.ix 18 (fL 1 fI) a1.bJ.Methods a2.E λx6=>.ix 22 fI x6 a2.Item λx7=>.bB 24 (decide (x7≠4)) λx8=>.ifs [24] x8 (.ret ((a1:aA),(12:Int))) (.as (a1.bJ.gB.length<=68719476736) inferInstance<|.ge 29 4<|.dr [(0,[1]),(1,[1]),(2,[1]),(3,[2]),(4,[2]),(5,[1]),(6,[1]),(7,[1]),(8,[2]),(9,[2]),(10,[4]),(11,[4]),(13,[4])] [(12,[1,2]),(14,[])] [1,2,4] [12,14] [0,1,2,3,4,5,6,7,8,9,10,11,12,13,14] (.bo (ix a1.bJ.gB a2.E) λx11=>.gv 42<|.gv 43<|.as (x11.length<=68719476736) inferInstance<|.ge 44 5<|.gv 45<|.ge 1004014 0<|.dr [(0,[1]),(1,[1]),(2,[1]),(3,[2]),(4,[2]),(5,[4]),(6,[4]),(7,[2]),(8,[2]),(9,[2]),(10,[2]),(11,[5])] [(12,[])] [1,2,4,5] [12] [0,1,2,3,4,5,6,7,8,9,10,11,12] (.gv 51<|.gv 52<|.bo (ix x11 a2.Item) λx14=>.gv 57<|.bl (x11.set (Int.toNat a2.Item) (a2.bO:Int):List Int) λx15=>.ge 1005012 0<|.as (a1.bC.length<=68719476736) inferInstance<|.ge 60 6<|.dr [(0,[1]),(1,[1]),(2,[2]),(3,[2]),(4,[1]),(5,[1]),(6,[2]),(7,[2]),(8,[6]),(9,[6]),(10,[6]),(12,[6]),(13,[6])] [(11,[1,2]),(14,[])] [1,2,6] [11,14] [0,1,2,3,4,5,6,7,8,9,10,11,12,13,14] (.bo (ix a1.bC a2.E) λx18=>.gv 70<|.gv 71<|.gv 72<|.as (x18.bS.length<=68719476736) inferInstance<|.ge 73 7<|.gv 74<|.gv 75<|.ge 1007014 0<|.dr [(0,[1]),(1,[1]),(2,[2]),(3,[2]),(4,[6]),(5,[6]),(6,[6]),(7,[2]),(8,[2]),(10,[2]),(11,[2]),(14,[7])] [] [1,2,6,7] [] [0,1,2,3,4,5,6,7,8,9,10,11,12,13,14,15] (.gv 80<|.gv 81<|.gv 82<|.bI 85 (aW (a2.Item*2)) λx21=>.bI 88 (aW (a2.Item+1)) λx22=>.bI 89 (aW (x22*2)) λx23=>.as ((0:Int)<=x21/\x21<=x23/\x23<=(x18.bS.length:Int)/\x21<(x18.bS.length:Int)) inferInstance<|.gv 90<|.eZ 2 [2,3,4,5] [1,2,3,4,5] [] (λ_ (a:Int×(List aQ))=>[(7,int a.1)]) (λu2 a=>[.kp 6 ((a1.bC.map aP.av).set (Int.toNat a2.E) [int x18.fO,bD x18.Closed,.sl 7 (u2 7) 0 a.2.length,aN 1 fI x18.dK,aN 11 cK.av x18.dH,aN 1 fI x18.fZ,aN 1 fI x18.Down,aN 8 aP.av x18.fP]),.kp 7 (a.2.map aQ.av)]) (.lp [2,3,4,5,6,91,92] [1,2,3,4,5] [] (λ_ (a:Int×Int×(List aQ))=>[(7,int a.1),(93,int a.2.1)]) (λu3 a=>[.kp 6 ((a1.bC.map aP.av).set (Int.toNat a2.E) [int x18.fO,bD x18.Closed,.sl 7 (u3 7) 0 a.2.2.length,aN 1 fI x18.dK,aN 11 cK.av x18.dH,aN 1 fI x18.fZ,aN 1 fI x18.Down,aN 8 aP.av x18.fP]),.kp 7 (a.2.2.map aQ.av)]) n ((0:Int),(0:Int),(x18.bS:List aQ)) (pw λy0_1 q0=>(pw λy0_2 y0_3=>.bB 94 (decide (y0_2<(((x23.toNat-x21.toNat):Nat):Int))) λx25=>.ifs [94] x25 (.as ((0:Int)<=y0_2/\y0_2<(((x23.toNat-x21.toNat):Nat):Int)) inferInstance<|.bo (ix y0_3 ((((0+x21.toNat):Nat):Int)+y0_2)) λx27=>.gv 96<|.gv 97<|.al 8<|.cl 103 (AL n x27.aG a2.bO) aJO aQ0 λx29=>.bB 108 (decide (x29.2.2≠0)) λx30=>.ifs [108] x30 (.esc (.esc (.ret (((⟨(⟨a1.bJ.gD,a1.bJ.gP,a1.bJ.cB,a1.bJ.Methods,(a1.bJ.gB.set (Int.toNat a2.E) x15)⟩:fG),(a1.bC.set (Int.toNat a2.E) (⟨x18.fO,x18.Closed,y0_3,x18.dK,x18.dH,x18.fZ,x18.Down,x18.fP⟩:aP)),a1.cZ,a1.dY,a1.dJ,a1.Done⟩:aA):aA),(x29.2.2:Int))))) (.as ((0:Int)<=y0_2/\y0_2<(((x23.toNat-x21.toNat):Nat):Int)) inferInstance<|.gv 114<|.gv 115<|.bl (y0_3.set (Int.toNat ((((0+x21.toNat):Nat):Int)+y0_2)) ((⟨x29.1,x27.bH⟩:aQ):aQ):List aQ) λx32=>.ge 1016005 0<|.bI 118 (aW (y0_1+x29.2.1)) λx33=>.bI 119 (aW (y0_2+1)) λx34=>.brk ((x33:Int),(x34:Int),x32))) (.esc (.brk ((y0_1:Int),y0_3)))) q0)) (pw λy1_1 y1_2=>.jS 4<|.jS 5<|.jS 6<|.jS 7<|.dr [(0,[1]),(1,[2]),(10,[4,5,6,7])] [(13,[])] [1,2,4,5,6,7] [13] [0,1,2,3,4,5,6,7,8,9,10,11,12,13,14] (.cl 125 (pJ 0 y1_1) rU sN λx35=>.bI 127 (aW (0-y1_1)) λx36=>.cl 128 (pJ 6 x36) rU sN λx37=>.to 129 (aN 2 aS.av ([x35,x37]:List aS))<|.cl 130 (vT n (⟨(⟨a1.bJ.gD,a1.bJ.gP,a1.bJ.cB,a1.bJ.Methods,(a1.bJ.gB.set (Int.toNat a2.E) x15)⟩:fG),(a1.bC.set (Int.toNat a2.E) (⟨x18.fO,x18.Closed,y1_2,x18.dK,x18.dH,x18.fZ,x18.Down,x18.fP⟩:aP)),a1.cZ,a1.dY,a1.dJ,a1.Done⟩:aA) a2 (⟨0,0,0,0,0,0,0,0,0,0,y1_1⟩:cK) ([x35,x37]:List aS)) D6 H7 λx38=>.ret ((x38.1:aA),(x38.2:Int))))))))))
def zJ (n:Nat) (a1:aA) (a2:bM):Option (aA×Int):=(aBM n a1 a2).run
theorem IR {n a1 a2}:PZ (zJ n a1 a2) 61 [.agg (aA.av a1),.agg (bM.av a2)] (λr=>.bT [.agg (aA.av r.1),int r.2]):=by
 refine wm Tryz.func61 ?_
 intro v3
 intro v4
 intro v5
 refine .mk ?_
 refine .mk λx6 e6=>?_
 refine .mk λx7 e7=>?_
 refine .mk λx8=>?_
 refine .mk .mk ?_
 refine .mk λp9=>?_
 refine .mk _ ⟨λ_=>kZ rfl rfl (.cons rfl .nil) aB3 (lT (aEA.pc (id:=4) (l:=a1.bJ.gB) rfl p9) (.cons (.refl _) .nil)),λ_ _ _=>trivial⟩ ?_
 rintro _ _ ⟨v10,rfl,rfl⟩
 refine .mk ?_
 refine .mk λx11 e11=>?_
 refine .mk _ (λH hH _=>iJ rfl Tryz.underlying23 oJ rfl rfl ((hH _ (by decide)).trans rfl) rfl rfl (Eq.symm rfl) (List.length_map _) e11) ?_
 refine .mk _ (λH hH _=>iB rfl oJ rfl (.pt ((hH _ (by decide)).trans rfl) rfl (fV e11)) rfl) ?_
 refine .mk λpW=>?_
 refine .mk _ ⟨λ_=>kZ rfl rfl (.cons rfl .nil) J5 (lT (L8.pc (id:=5) (l:=x11) rfl pW) (.cons (.refl _) .nil)),by rintro _ _ ⟨v13,rfl,rfl⟩;exact ⟨rfl,rfl,trivial⟩⟩ ?_
 rintro _ _ ⟨v13,rfl,rfl⟩
 refine .mk _ (λH hH _=>iJ rfl Tryz.underlying23 oJ rfl rfl ((hH _ (by decide)).trans rfl) rfl rfl (Eq.symm rfl) (List.length_map _) e11) ?_
 refine .mk _ ⟨λ_=>eG.gV (iR (ob':=(⟨22,1,true,true,_,(a1.bJ.gB.map (fL 1 fI)).set (Int.toNat a2.E) [.sl 5 v13 0 x11.length]⟩:bZ)) (iH rfl oJ rfl rfl rfl rfl rfl (fV e11) rfl rfl rfl) (jJ rfl)) (λ_ h=>h) (λ_ _=>trivial),by rintro _ _ ⟨rfl,rfl⟩;exact trivial⟩ ?_
 rintro _ _ ⟨rfl,rfl⟩
 refine .mk ?_
 refine .mk _ (λH hH _=>iJ rfl Tryz.underlying23 oJ rfl rfl ((hH _ (by decide)).trans rfl) rfl rfl (Eq.symm rfl) AA e11) ?_
 refine .mk _ (λH hH _=>iB rfl oJ rfl (.pt ((hH _ (by decide)).trans rfl) rfl (iW e11)) rfl) ?_
 refine .mk λx14 e14=>?_
 refine .mk _ (λH hH _=>iJ rfl Tryz.underlying22 gI rfl rfl ((hH _ (by decide)).trans rfl) rfl rfl (Eq.symm rfl) (List.length_map _) e14) ?_
 refine .mk λx15 e15=>?_
 have fx15:=jW e14 e15;have lx15:=jU e15 (rfl:x11.length=x11.length)
 refine .mk _ ⟨λ_=>eG.gV (iR (ob':=(⟨3,1,true,true,_,x15.map fI⟩:bZ)) (iH rfl gI rfl rfl rfl rfl rfl (fV e14) rfl rfl rfl) (jJ (kU e15))) (λ_ h=>h) (λ_ _=>trivial),by rintro _ _ ⟨rfl,rfl⟩;exact trivial⟩ ?_
 rintro _ _ ⟨rfl,rfl⟩
 refine .mk λp16=>?_
 refine .mk _ ⟨λ_=>kZ rfl rfl (.cons rfl .nil) zX (lT (CX.pc (id:=6) (l:=a1.bC) rfl p16) (.cons (.refl _) .nil)),λ_ _ _=>trivial⟩ ?_
 rintro _ _ ⟨v17,rfl,rfl⟩
 refine .mk ?_
 refine .mk λx18 e18=>?_
 refine .mk _ (λH hH _=>iJ rfl Tryz.underlying27 nY rfl rfl ((hH _ (by decide)).trans rfl) rfl rfl (Eq.symm rfl) (List.length_map _) e18) ?_
 refine .mk _ (λH hH _=>gT rfl rH rfl (.pt ((hH _ (by decide)).trans rfl) rfl (iE e18 (aP.eP _))) (.pt _ _ _ _ _)) ?_
 refine .mk _ (λH hH _=>iB rfl rZ rfl (.pt ((hH _ (by decide)).trans rfl) rfl (iE e18 (aP.eP _))) rfl) ?_
 refine .mk λp19=>?_
 refine .mk _ ⟨λ_=>kZ rfl rfl (.cons rfl .nil) IY (lT (K5.pc (id:=7) (l:=x18.bS) rfl p19) (.cons (.refl _) .nil)),by rintro _ _ ⟨v20,rfl,rfl⟩;exact ⟨rfl,rfl,trivial⟩⟩ ?_
 rintro _ _ ⟨v20,rfl,rfl⟩
 refine .mk _ (λH hH _=>iJ rfl Tryz.underlying27 nY rfl rfl ((hH _ (by decide)).trans rfl) rfl rfl (Eq.symm rfl) (List.length_map _) e18) ?_
 refine .mk _ (λH hH _=>gT rfl rH rfl (.pt ((hH _ (by decide)).trans rfl) rfl (iE e18 (aP.eP _))) (.pt _ _ _ _ _)) ?_
 refine .mk _ ⟨λ_=>eG.gV (iR (ob':=(⟨60,8,true,true,_,(a1.bC.map aP.av).set (Int.toNat a2.E) [int x18.fO,bD x18.Closed,.sl 7 v20 0 x18.bS.length,aN 1 fI x18.dK,aN 11 cK.av x18.dH,aN 1 fI x18.fZ,aN 1 fI x18.Down,aN 8 aP.av x18.fP]⟩:bZ)) (iH rfl rZ rfl rfl rfl rfl rfl (iE e18 (aP.eP _)) rfl rfl rfl) (jJ rfl)) (λ_ h=>h) (λ_ _=>trivial),by rintro _ _ ⟨rfl,rfl⟩;exact trivial⟩ ?_
 rintro _ _ ⟨rfl,rfl⟩
 refine .mk ?_
 refine .mk _ (λH hH _=>iJ rfl Tryz.underlying27 nY rfl rfl ((hH _ (by decide)).trans rfl) rfl rfl (Eq.symm rfl) AA e18) ?_
 refine .mk _ (λH hH _=>gT rfl rH rfl (.pt ((hH _ (by decide)).trans rfl) rfl (iW e18)) (.pt _ _ _ _ _)) ?_
 refine .mk _ (λH hH _=>iB rfl rZ rfl (.pt ((hH _ (by decide)).trans rfl) rfl (iW e18)) rfl) ?_
 refine .mk λx21=>?_
 refine .mk λx22=>?_
 refine .mk λx23=>?_
 refine .mk λp24=>?_
 refine .mk _ (λH hH _=>SA (len:=x18.bS.length) (i:=x21.toNat) (j:=x23.toNat) rfl Tryz.underlying57 xB rfl ((hH _ (by decide)).trans rfl) rfl rfl (.yes rfl (by first | omega | (dsimp only;omega) | (dsimp only at *;omega))) (.yes rfl (by first | omega | (dsimp only;omega) | (dsimp only at *;omega))) (by first | omega | (dsimp only;omega) | (dsimp only at *;omega)) (by first | omega | (dsimp only;omega) | (dsimp only at *;omega)) (.inl (by first | omega | (dsimp only;omega) | (dsimp only at *;omega)))) ?_
 refine .mk ?_ ?_
 refine .mk ?_
 rintro ⟨y0_1,y0_2,y0_3⟩ _
 refine .mk λx25=>?_
 refine .mk ?_ ?_
 refine .mk λp26=>?_
 refine .mk λx27 e27=>?_
 refine .mk _ (fD (mD rfl Tryz.underlying57 xB rfl rfl rfl rfl rfl p26 (List.length_map _) e27)) ?_
 refine .mk _ (fD (iB rfl xB rfl (.pt rfl rfl (fV e27)) rfl)) ?_
 intro v28
 refine .mk λx29 e29=>?_
 refine .mk λx30=>?_
 refine .mk ?_ ?_
 exact .mk (dX.bT (.cons (dX.agg (.cons (.refl _) (.cons (.refl _) (.cons (.refl _) (.cons (.refl _) (.cons (pO rfl rfl rfl rfl rfl (Eq.symm rfl) e11 (.cons (gQ rfl rfl rfl rfl rfl (Eq.symm lx15)) .nil)) (.cons (pO rfl rfl rfl rfl rfl (Eq.symm rfl) e18 (qG (.cons (.refl _) (.cons (.refl _) (.cons (gQ rfl rfl rfl rfl rfl (Eq.symm rfl)) (.cons (.refl _) (.cons (.refl _) (.cons (.refl _) (.cons (.refl _) (.cons (.refl _) .nil)))))))) (aP.eP _))) (.cons (.refl _) (.cons (.refl _) (.cons (.refl _) (.cons (.refl _) .nil))))))))))) (.cons (.refl _) .nil)))
 refine .mk λp31=>?_
 refine .mk _ (fD (mD rfl Tryz.underlying57 xB rfl rfl rfl rfl rfl p31 (List.length_map _) e27)) ?_
 refine .mk _ (fD (gT rfl aN6 rfl (.pt rfl rfl (fV e27)) (.pt _ _ _ _ _))) ?_
 refine .mk λx32 e32=>?_
 have fx32:=jW e27 e32;have lx32:=jU e32 (rfl:y0_3.length=y0_3.length)
 refine .mk _ ⟨λ_=>eG.gV (iR (ob':=(⟨107,4,true,true,_,x32.map aQ.av⟩:bZ)) (iH rfl aU1 rfl rfl rfl rfl rfl (fV e27) rfl rfl rfl) (jJ (kU e32))) (λ_ h=>h) (λ_ _=>trivial),λ_ _ _=>trivial⟩ ?_
 rintro _ _ ⟨rfl,rfl⟩
 refine .mk λx33=>?_
 refine .mk λx34=>?_
 exact .mk ⟨⟨⟨_,rfl,(.refl _)⟩,⟨_,rfl,(.refl _)⟩,⟨_,rfl,(.refl _)⟩,⟨_,rfl,(.refl _)⟩,⟨_,rfl,(.refl _)⟩,⟨_,rfl,(.refl _)⟩,⟨_,rfl,(.refl _)⟩,⟨_,rfl,(.refl _)⟩,⟨_,rfl,(.refl _)⟩,trivial⟩,⟨⟨_,rfl,⟨rfl,E9 (.cons (.refl _) (.cons (.refl _) (.cons (sM (Eq.symm lx32)) (.cons (.refl _) (.cons (.refl _) (.cons (.refl _) (.cons (.refl _) (.cons (.refl _) .nil))))))))⟩⟩,⟨_,rfl,(.refl _)⟩,⟨_,rfl,(.refl _)⟩,⟨_,rfl,(.refl _)⟩,⟨_,rfl,(.refl _)⟩,⟨_,rfl,(.refl _)⟩,⟨_,rfl,(.refl _)⟩,trivial⟩⟩
 exact .mk
 rintro ⟨y1_1,y1_2⟩ _
 refine .mk ?_
 refine .mk λx35 e35=>?_
 refine .mk λx36=>?_
 refine .mk λx37 e37=>?_
 refine .mk (λH hH _=>jY (y:=aN 2 aS.av ([x35,x37]:List aS)) (jM (ps:=[(0,_),(1,_)]) (rows:=[[int x35.dM,int x35.bO],[int x37.dM,int x37.bO]]) rfl Tryz.underlying96 xA (.cons rfl (.cons rfl .nil)) (by kernel_rfl) rfl rfl rfl) rfl) ?_
 refine .mk (λx38 e38=>?_) rfl (λH hH=>(.cons (dX.agg (.cons (.refl _) (.cons (.refl _) (.cons (.refl _) (.cons (.refl _) (.cons (pO (ob:=(⟨22,1,false,true,v10,(a1.bJ.gB.map (fL 1 fI)).set (Int.toNat a2.E) [.sl 5 v13 0 x11.length]⟩:bZ)) ((hH 4 (by decide)).trans rfl) rfl rfl rfl rfl (Eq.symm rfl) e11 (.cons (gQ (ob:=(⟨3,1,false,true,v13,x15.map fI⟩:bZ)) ((hH 5 (by decide)).trans rfl) rfl rfl rfl rfl (Eq.symm lx15)) .nil)) (.cons (pO (ob:=(⟨60,8,false,true,v17,(a1.bC.map aP.av).set (Int.toNat a2.E) [int x18.fO,bD x18.Closed,.sl 7 v20 0 y1_2.length,aN 1 fI x18.dK,aN 11 cK.av x18.dH,aN 1 fI x18.fZ,aN 1 fI x18.Down,aN 8 aP.av x18.fP]⟩:bZ)) ((hH 6 (by decide)).trans rfl) rfl rfl rfl rfl (Eq.symm rfl) e18 (qG (.cons (.refl _) (.cons (.refl _) (.cons (gQ (ob:=(⟨107,4,false,true,v20,y1_2.map aQ.av⟩:bZ)) ((hH 7 (by decide)).trans rfl) rfl rfl rfl rfl (Eq.symm rfl)) (.cons (.refl _) (.cons (.refl _) (.cons (.refl _) (.cons (.refl _) (.cons (.refl _) .nil)))))))) (aP.eP _))) (.cons (.refl _) (.cons (.refl _) (.cons (.refl _) (.cons (.refl _) .nil))))))))))) (.cons (.refl _) (.cons (.refl _) (.cons (.refl _) .nil)))))
 exact .mk
def aGG (a1:Int) (a2:Int) (a3:Int):WB (Bool) :=
 .jn 1 [] [] [] (λ_ (a:Bool)=>[(6,bD a)]) (λ_ _=>[]) (.bB 9 (decide (a1>=a2)) λx4=>.ifs [9] x4 (.bB 13 (decide (a1<=a3)) λx5=>.ret x5) (.ret false)) (λy0_1=>.ret ((y0_1:Bool)))
def MS (a1:Int) (a2:Int) (a3:Int):Option (Bool):=(aGG a1 a2 a3).run
theorem aQI {a1 a2 a3}:PZ (MS a1 a2 a3) 168 [int a1,int a2,int a3] bD:=wq Tryz.func168
def aIB (a1:aA) (a2:Int) (a3:Int) (a4:Int):WB (Int) :=
 .al 1<|.jn 0 [2,3,8] [] [] (λ_ (a:Bool)=>[(18,bD a)]) (λ_ _=>[]) (.cl 12 (DC a1 a2 a3) UB TK λx6=>.bB 13 (!x6) λx7=>.ifs [13] x7 (.ret true) (.cl 16 (MS a4 0 1) aRM aQI λx8=>.bB 17 (!x8) λx9=>.ret x9)) (λy0_1=>.ifs [18] y0_1 (.ret (((-1):Int))) (.bI 20 (aW (a3*2)) λx10=>.bI 22 (aW (x10+a4)) λx11=>.ret ((x11:Int))))
def CE (a1:aA) (a2:Int) (a3:Int) (a4:Int):Option (Int):=(aIB a1 a2 a3 a4).run
theorem VS {a1 a2 a3 a4}:PZ (CE a1 a2 a3 a4) 135 [.agg (aA.av a1),int a2,int a3,int a4] int:=wq Tryz.func135
def aOD (a1:aQ) (a2:List aB):WB (aQ) :=
 .al 1<|.al 2<|.ret (((⟨a2,a1.bH⟩:aQ):aQ))
def wL (a1:aQ) (a2:List aB):Option (aQ):=(aOD a1 a2).run
theorem BG {a1 a2}:PZ (wL a1 a2) 182 [.agg (aQ.av a1),aN 3 aB.av a2] (λr=>.agg (aQ.av r)):=wq Tryz.func182
def aD4 (a1:aQ):WB (aQ) :=
 .al 1<|.al 2<|.dr [(0,[1]),(1,[1]),(2,[1])] [(4,[]),(5,[])] [1] [3,4,5] [0,1,2,3,4,5] (.as (a1.aG.length<=68719476736) inferInstance<|.ge 6 3<|.inl 7 yG Tryz.func182 [1,2,3] [] (λu2 (a:Unit)=>.agg [.sl 3 (u2 3) 0 a1.aG.length,int a1.bH.a0,int a1.bH.a1,int a1.bH.a2]) (λ_ _=>[]) (.al 4<|.al 5<|.ret ()) (λ_=>.ret ((a1:aQ))))
def mY (a1:aQ):Option (aQ):=(aD4 a1).run
theorem o5 {a1}:PZ (mY a1) 170 [.agg (aQ.av a1)] (λr=>.agg (aQ.av r)):=wq Tryz.func170
def YS (n:Nat) (a1:List aB) (a2:Int):WB (Bool) :=
 .ln 8 aB.av a1<|.eZ 0 [4] [] [] (λ_ (a:Unit)=>[]) (λ_ _=>[]) (.lp [4,7,8] [] [] (λ_ (a:Int×Int)=>[(1,int a.1),(9,int a.2)]) (λ_ _=>[]) n ((a2:Int),0) (pw λy0_1 y0_2=>.bB 10 (decide (y0_2<(a1.length:Int))) λx3=>.ifs [10] x3 (.ix 11 aB.av a1 y0_2 λx4=>.al 1<|.bl (if 0>x4.aI then 0 else x4.aI:Int) λx6=>.gv 16<|.bl (if y0_1<x6 then y0_1 else x6:Int) λx7=>.gv 18<|.bI 19 (aW (y0_1-x7)) λx8=>.bB 21 (decide (x8=0)) λx9=>.ifs [21] x9 (.esc (.esc (.ret ((true:Bool))))) (.bI 22 (aW (y0_2+1)) λx10=>.brk ((x8:Int),x10))) (.esc (.brk ())))) (λ_=>.ret ((false:Bool)))
def H9 (n:Nat) (a1:List aB) (a2:Int):Option (Bool):=(YS n a1 a2).run
theorem aHH {n a1 a2}:PZ (H9 n a1 a2) 231 [aN 3 aB.av a1,int a2] bD:=wq Tryz.func231
def aAQ (n:Nat) (a1:Int) (a2:Int) (a3:Int):WB (Int) :=
 .jn 2 [0,1,2,6] [] [] (λ_ (a:Bool)=>[(13,bD a)]) (λ_ _=>[]) (.bB 15 (decide (a3<1)) λx4=>.ifs [15] x4 (.ret true) (.bB 18 (decide (a2<0)) λx5=>.ifs [18] x5 (.ret true) (.bB 23 (decide (a2>a3)) λx6=>.ifs [23] x6 (.ret true) (.cl 27 (zG a1) LF KJ λx7=>.bB 28 (!x7) λx8=>.ret x8)))) (λy0_1=>.ifs [13] y0_1 (.ret ((0:Int))) (.bB 33 (decide (a2=a3)) λx9=>.ifs [33] x9 (.ret ((a1:Int))) (.bB 37 (decide (a1<0)) λx10=>.ifs [37] x10 (.bI 40 (aW (0-a1)) λx11=>.cl 43 (tF n x11 a2 a3) DW GQ λx12=>.bI 48 (aW (0-x12.1)) λx13=>.ret ((x13:Int))) (.cl 53 (tF n a1 a2 a3) DW GQ λx14=>.ret ((x14.1:Int))))))
def vK (n:Nat) (a1:Int) (a2:Int) (a3:Int):Option (Int):=(aAQ n a1 a2 a3).run
theorem KQ {n a1 a2 a3}:PZ (vK n a1 a2 a3) 232 [int a1,int a2,int a3] int:=wq Tryz.func232
end
end Go.Pv
