import Derived.Test.YtkgnickfdedbmabGreatXCi
set_option linter.unusedVariables false
set_option linter.unusedSimpArgs false
namespace Go.Pv
open Go.Proofs
set_option maxRecDepth 100000
set_option maxHeartbeats 4000000
noncomputable section
def aIQ (a1:aA) (a2:Int) (a3:Int) (a4:bM):WB (aA×Int) :=
 .al 1<|.al 2<|.al 3<|.cl 21 (zC a1 a2 a3) JA IS λx8=>.bB 22 (!x8) λx9=>.ifs [22] x9 (.ret ((a1:aA),4)) (.gI 27 aP.av gE aP.bW a1.aW a2 λx10=>.ix 31 bM.av x10.dI a3 λx11=>.al 4<|.inl 34 aHF Tryz.func96 [1,2,3,4] [] (λ_ (a:Unit)=>aD 1 fI ([a4.Open,a4.jC,a4.iV,a4.iW,a4.iQ,a4.jA,a4.iY,a4.iU,a4.iT,a4.iZ,a4.jD]:List Int)) (λ_ _=>[]) (.al 5<|.to 25 (aD 1 fI ([a4.Open,a4.jC,a4.iV,a4.iW,a4.iQ,a4.jA,a4.iY,a4.iU,a4.iT,a4.iZ,a4.jD]:List Int))<|.ret ()) (λ_=>.dF 0 [1,2,4,8,9,10] [1,3] [] (λ_ (a:bM)=>[]) (λ_ a=>[.kp 4 [[int a.Open,int a.jC,int a.iV,int a.iW,int a.iQ,int a.jA,int a.iY,int a.iU,int a.iT,int a.iZ,int a.jD]]]) (.un 24 (.kB 37 true<|.ix 39 fI ([a4.Open,a4.jC,a4.iV,a4.iW,a4.iQ,a4.jA,a4.iY,a4.iU,a4.iT,a4.iZ,a4.jD]:List Int) 0 λx14=>.inl 41 l8 Tryz.func97 [1,2,3,4] [] (λu51 (a:Unit)=>.list 1 [[.pt 4 (u51 4) 0 0],[.pt 4 (u51 4) 0 1],[.pt 4 (u51 4) 0 2],[.pt 4 (u51 4) 0 3],[.pt 4 (u51 4) 0 4],[.pt 4 (u51 4) 0 5],[.pt 4 (u51 4) 0 6],[.pt 4 (u51 4) 0 7],[.pt 4 (u51 4) 0 8],[.pt 4 (u51 4) 0 9],[.pt 4 (u51 4) 0 10]]) (λ_ _=>[]) (.dr [(1,[4]),(2,[4]),(4,[4]),(5,[4]),(7,[4]),(8,[4]),(10,[4]),(11,[4]),(13,[4]),(14,[4]),(16,[4]),(17,[4]),(19,[4]),(20,[4]),(22,[4]),(23,[4]),(25,[4]),(26,[4]),(28,[4]),(29,[4]),(31,[4]),(32,[4])] [] [4] [] [0,1,2,3,4,5,6,7,8,9,10,11,12,13,14,15,16,17,18,19,20,21,22,23,24,25,26,27,28,29,30,31,32,33,34] (.gv 36<|.ret ())) (λ_=>.gv 43<|.cl 50 (kG x11.Open x14) kL kJ λx15=>.bB 54 (decide (x15.2≠0)) λx16=>.ifs [54] x16 (.esc (.ret ((a1:aA),x15.2))) (.kI 60 1<|.kB 37 true<|.ix 39 fI ([a4.Open,a4.jC,a4.iV,a4.iW,a4.iQ,a4.jA,a4.iY,a4.iU,a4.iT,a4.iZ,a4.jD]:List Int) 1 λx17=>.inl 41 l8 Tryz.func97 [1,2,3,4] [] (λu55 (a:Unit)=>.list 1 [[.pt 4 (u55 4) 0 0],[.pt 4 (u55 4) 0 1],[.pt 4 (u55 4) 0 2],[.pt 4 (u55 4) 0 3],[.pt 4 (u55 4) 0 4],[.pt 4 (u55 4) 0 5],[.pt 4 (u55 4) 0 6],[.pt 4 (u55 4) 0 7],[.pt 4 (u55 4) 0 8],[.pt 4 (u55 4) 0 9],[.pt 4 (u55 4) 0 10]]) (λ_ _=>[]) (.dr [(1,[4]),(2,[4]),(4,[4]),(5,[4]),(7,[4]),(8,[4]),(10,[4]),(11,[4]),(13,[4]),(14,[4]),(16,[4]),(17,[4]),(19,[4]),(20,[4]),(22,[4]),(23,[4]),(25,[4]),(26,[4]),(28,[4]),(29,[4]),(31,[4]),(32,[4])] [] [4] [] [0,1,2,3,4,5,6,7,8,9,10,11,12,13,14,15,16,17,18,19,20,21,22,23,24,25,26,27,28,29,30,31,32,33,34] (.gv 36<|.ret ())) (λ_=>.gv 43<|.cl 50 (kG x11.jC x17) kL kJ λx18=>.bB 54 (decide (x18.2≠0)) λx19=>.ifs [54] x19 (.esc (.ret ((a1:aA),x18.2))) (.kI 60 2<|.kB 37 true<|.ix 39 fI ([a4.Open,a4.jC,a4.iV,a4.iW,a4.iQ,a4.jA,a4.iY,a4.iU,a4.iT,a4.iZ,a4.jD]:List Int) 2 λx20=>.inl 41 l8 Tryz.func97 [1,2,3,4] [] (λu59 (a:Unit)=>.list 1 [[.pt 4 (u59 4) 0 0],[.pt 4 (u59 4) 0 1],[.pt 4 (u59 4) 0 2],[.pt 4 (u59 4) 0 3],[.pt 4 (u59 4) 0 4],[.pt 4 (u59 4) 0 5],[.pt 4 (u59 4) 0 6],[.pt 4 (u59 4) 0 7],[.pt 4 (u59 4) 0 8],[.pt 4 (u59 4) 0 9],[.pt 4 (u59 4) 0 10]]) (λ_ _=>[]) (.dr [(1,[4]),(2,[4]),(4,[4]),(5,[4]),(7,[4]),(8,[4]),(10,[4]),(11,[4]),(13,[4]),(14,[4]),(16,[4]),(17,[4]),(19,[4]),(20,[4]),(22,[4]),(23,[4]),(25,[4]),(26,[4]),(28,[4]),(29,[4]),(31,[4]),(32,[4])] [] [4] [] [0,1,2,3,4,5,6,7,8,9,10,11,12,13,14,15,16,17,18,19,20,21,22,23,24,25,26,27,28,29,30,31,32,33,34] (.gv 36<|.ret ())) (λ_=>.gv 43<|.cl 50 (kG x11.iV x20) kL kJ λx21=>.bB 54 (decide (x21.2≠0)) λx22=>.ifs [54] x22 (.esc (.ret ((a1:aA),x21.2))) (.kI 60 3<|.kB 37 true<|.ix 39 fI ([a4.Open,a4.jC,a4.iV,a4.iW,a4.iQ,a4.jA,a4.iY,a4.iU,a4.iT,a4.iZ,a4.jD]:List Int) 3 λx23=>.inl 41 l8 Tryz.func97 [1,2,3,4] [] (λu63 (a:Unit)=>.list 1 [[.pt 4 (u63 4) 0 0],[.pt 4 (u63 4) 0 1],[.pt 4 (u63 4) 0 2],[.pt 4 (u63 4) 0 3],[.pt 4 (u63 4) 0 4],[.pt 4 (u63 4) 0 5],[.pt 4 (u63 4) 0 6],[.pt 4 (u63 4) 0 7],[.pt 4 (u63 4) 0 8],[.pt 4 (u63 4) 0 9],[.pt 4 (u63 4) 0 10]]) (λ_ _=>[]) (.dr [(1,[4]),(2,[4]),(4,[4]),(5,[4]),(7,[4]),(8,[4]),(10,[4]),(11,[4]),(13,[4]),(14,[4]),(16,[4]),(17,[4]),(19,[4]),(20,[4]),(22,[4]),(23,[4]),(25,[4]),(26,[4]),(28,[4]),(29,[4]),(31,[4]),(32,[4])] [] [4] [] [0,1,2,3,4,5,6,7,8,9,10,11,12,13,14,15,16,17,18,19,20,21,22,23,24,25,26,27,28,29,30,31,32,33,34] (.gv 36<|.ret ())) (λ_=>.gv 43<|.cl 50 (kG x11.iW x23) kL kJ λx24=>.bB 54 (decide (x24.2≠0)) λx25=>.ifs [54] x25 (.esc (.ret ((a1:aA),x24.2))) (.kI 60 4<|.kB 37 true<|.ix 39 fI ([a4.Open,a4.jC,a4.iV,a4.iW,a4.iQ,a4.jA,a4.iY,a4.iU,a4.iT,a4.iZ,a4.jD]:List Int) 4 λx26=>.inl 41 l8 Tryz.func97 [1,2,3,4] [] (λu67 (a:Unit)=>.list 1 [[.pt 4 (u67 4) 0 0],[.pt 4 (u67 4) 0 1],[.pt 4 (u67 4) 0 2],[.pt 4 (u67 4) 0 3],[.pt 4 (u67 4) 0 4],[.pt 4 (u67 4) 0 5],[.pt 4 (u67 4) 0 6],[.pt 4 (u67 4) 0 7],[.pt 4 (u67 4) 0 8],[.pt 4 (u67 4) 0 9],[.pt 4 (u67 4) 0 10]]) (λ_ _=>[]) (.dr [(1,[4]),(2,[4]),(4,[4]),(5,[4]),(7,[4]),(8,[4]),(10,[4]),(11,[4]),(13,[4]),(14,[4]),(16,[4]),(17,[4]),(19,[4]),(20,[4]),(22,[4]),(23,[4]),(25,[4]),(26,[4]),(28,[4]),(29,[4]),(31,[4]),(32,[4])] [] [4] [] [0,1,2,3,4,5,6,7,8,9,10,11,12,13,14,15,16,17,18,19,20,21,22,23,24,25,26,27,28,29,30,31,32,33,34] (.gv 36<|.ret ())) (λ_=>.gv 43<|.cl 50 (kG x11.iQ x26) kL kJ λx27=>.bB 54 (decide (x27.2≠0)) λx28=>.ifs [54] x28 (.esc (.ret ((a1:aA),x27.2))) (.kI 60 5<|.kB 37 true<|.ix 39 fI ([a4.Open,a4.jC,a4.iV,a4.iW,a4.iQ,a4.jA,a4.iY,a4.iU,a4.iT,a4.iZ,a4.jD]:List Int) 5 λx29=>.inl 41 l8 Tryz.func97 [1,2,3,4] [] (λu71 (a:Unit)=>.list 1 [[.pt 4 (u71 4) 0 0],[.pt 4 (u71 4) 0 1],[.pt 4 (u71 4) 0 2],[.pt 4 (u71 4) 0 3],[.pt 4 (u71 4) 0 4],[.pt 4 (u71 4) 0 5],[.pt 4 (u71 4) 0 6],[.pt 4 (u71 4) 0 7],[.pt 4 (u71 4) 0 8],[.pt 4 (u71 4) 0 9],[.pt 4 (u71 4) 0 10]]) (λ_ _=>[]) (.dr [(1,[4]),(2,[4]),(4,[4]),(5,[4]),(7,[4]),(8,[4]),(10,[4]),(11,[4]),(13,[4]),(14,[4]),(16,[4]),(17,[4]),(19,[4]),(20,[4]),(22,[4]),(23,[4]),(25,[4]),(26,[4]),(28,[4]),(29,[4]),(31,[4]),(32,[4])] [] [4] [] [0,1,2,3,4,5,6,7,8,9,10,11,12,13,14,15,16,17,18,19,20,21,22,23,24,25,26,27,28,29,30,31,32,33,34] (.gv 36<|.ret ())) (λ_=>.gv 43<|.cl 50 (kG x11.jA x29) kL kJ λx30=>.bB 54 (decide (x30.2≠0)) λx31=>.ifs [54] x31 (.esc (.ret ((a1:aA),x30.2))) (.kI 60 6<|.kB 37 true<|.ix 39 fI ([a4.Open,a4.jC,a4.iV,a4.iW,a4.iQ,a4.jA,a4.iY,a4.iU,a4.iT,a4.iZ,a4.jD]:List Int) 6 λx32=>.inl 41 l8 Tryz.func97 [1,2,3,4] [] (λu75 (a:Unit)=>.list 1 [[.pt 4 (u75 4) 0 0],[.pt 4 (u75 4) 0 1],[.pt 4 (u75 4) 0 2],[.pt 4 (u75 4) 0 3],[.pt 4 (u75 4) 0 4],[.pt 4 (u75 4) 0 5],[.pt 4 (u75 4) 0 6],[.pt 4 (u75 4) 0 7],[.pt 4 (u75 4) 0 8],[.pt 4 (u75 4) 0 9],[.pt 4 (u75 4) 0 10]]) (λ_ _=>[]) (.dr [(1,[4]),(2,[4]),(4,[4]),(5,[4]),(7,[4]),(8,[4]),(10,[4]),(11,[4]),(13,[4]),(14,[4]),(16,[4]),(17,[4]),(19,[4]),(20,[4]),(22,[4]),(23,[4]),(25,[4]),(26,[4]),(28,[4]),(29,[4]),(31,[4]),(32,[4])] [] [4] [] [0,1,2,3,4,5,6,7,8,9,10,11,12,13,14,15,16,17,18,19,20,21,22,23,24,25,26,27,28,29,30,31,32,33,34] (.gv 36<|.ret ())) (λ_=>.gv 43<|.cl 50 (kG x11.iY x32) kL kJ λx33=>.bB 54 (decide (x33.2≠0)) λx34=>.ifs [54] x34 (.esc (.ret ((a1:aA),x33.2))) (.kI 60 7<|.kB 37 true<|.ix 39 fI ([a4.Open,a4.jC,a4.iV,a4.iW,a4.iQ,a4.jA,a4.iY,a4.iU,a4.iT,a4.iZ,a4.jD]:List Int) 7 λx35=>.inl 41 l8 Tryz.func97 [1,2,3,4] [] (λu79 (a:Unit)=>.list 1 [[.pt 4 (u79 4) 0 0],[.pt 4 (u79 4) 0 1],[.pt 4 (u79 4) 0 2],[.pt 4 (u79 4) 0 3],[.pt 4 (u79 4) 0 4],[.pt 4 (u79 4) 0 5],[.pt 4 (u79 4) 0 6],[.pt 4 (u79 4) 0 7],[.pt 4 (u79 4) 0 8],[.pt 4 (u79 4) 0 9],[.pt 4 (u79 4) 0 10]]) (λ_ _=>[]) (.dr [(1,[4]),(2,[4]),(4,[4]),(5,[4]),(7,[4]),(8,[4]),(10,[4]),(11,[4]),(13,[4]),(14,[4]),(16,[4]),(17,[4]),(19,[4]),(20,[4]),(22,[4]),(23,[4]),(25,[4]),(26,[4]),(28,[4]),(29,[4]),(31,[4]),(32,[4])] [] [4] [] [0,1,2,3,4,5,6,7,8,9,10,11,12,13,14,15,16,17,18,19,20,21,22,23,24,25,26,27,28,29,30,31,32,33,34] (.gv 36<|.ret ())) (λ_=>.gv 43<|.cl 50 (kG x11.iU x35) kL kJ λx36=>.bB 54 (decide (x36.2≠0)) λx37=>.ifs [54] x37 (.esc (.ret ((a1:aA),x36.2))) (.kI 60 8<|.kB 37 true<|.ix 39 fI ([a4.Open,a4.jC,a4.iV,a4.iW,a4.iQ,a4.jA,a4.iY,a4.iU,a4.iT,a4.iZ,a4.jD]:List Int) 8 λx38=>.inl 41 l8 Tryz.func97 [1,2,3,4] [] (λu83 (a:Unit)=>.list 1 [[.pt 4 (u83 4) 0 0],[.pt 4 (u83 4) 0 1],[.pt 4 (u83 4) 0 2],[.pt 4 (u83 4) 0 3],[.pt 4 (u83 4) 0 4],[.pt 4 (u83 4) 0 5],[.pt 4 (u83 4) 0 6],[.pt 4 (u83 4) 0 7],[.pt 4 (u83 4) 0 8],[.pt 4 (u83 4) 0 9],[.pt 4 (u83 4) 0 10]]) (λ_ _=>[]) (.dr [(1,[4]),(2,[4]),(4,[4]),(5,[4]),(7,[4]),(8,[4]),(10,[4]),(11,[4]),(13,[4]),(14,[4]),(16,[4]),(17,[4]),(19,[4]),(20,[4]),(22,[4]),(23,[4]),(25,[4]),(26,[4]),(28,[4]),(29,[4]),(31,[4]),(32,[4])] [] [4] [] [0,1,2,3,4,5,6,7,8,9,10,11,12,13,14,15,16,17,18,19,20,21,22,23,24,25,26,27,28,29,30,31,32,33,34] (.gv 36<|.ret ())) (λ_=>.gv 43<|.cl 50 (kG x11.iT x38) kL kJ λx39=>.bB 54 (decide (x39.2≠0)) λx40=>.ifs [54] x40 (.esc (.ret ((a1:aA),x39.2))) (.kI 60 9<|.kB 37 true<|.ix 39 fI ([a4.Open,a4.jC,a4.iV,a4.iW,a4.iQ,a4.jA,a4.iY,a4.iU,a4.iT,a4.iZ,a4.jD]:List Int) 9 λx41=>.inl 41 l8 Tryz.func97 [1,2,3,4] [] (λu87 (a:Unit)=>.list 1 [[.pt 4 (u87 4) 0 0],[.pt 4 (u87 4) 0 1],[.pt 4 (u87 4) 0 2],[.pt 4 (u87 4) 0 3],[.pt 4 (u87 4) 0 4],[.pt 4 (u87 4) 0 5],[.pt 4 (u87 4) 0 6],[.pt 4 (u87 4) 0 7],[.pt 4 (u87 4) 0 8],[.pt 4 (u87 4) 0 9],[.pt 4 (u87 4) 0 10]]) (λ_ _=>[]) (.dr [(1,[4]),(2,[4]),(4,[4]),(5,[4]),(7,[4]),(8,[4]),(10,[4]),(11,[4]),(13,[4]),(14,[4]),(16,[4]),(17,[4]),(19,[4]),(20,[4]),(22,[4]),(23,[4]),(25,[4]),(26,[4]),(28,[4]),(29,[4]),(31,[4]),(32,[4])] [] [4] [] [0,1,2,3,4,5,6,7,8,9,10,11,12,13,14,15,16,17,18,19,20,21,22,23,24,25,26,27,28,29,30,31,32,33,34] (.gv 36<|.ret ())) (λ_=>.gv 43<|.cl 50 (kG x11.iZ x41) kL kJ λx42=>.bB 54 (decide (x42.2≠0)) λx43=>.ifs [54] x43 (.esc (.ret ((a1:aA),x42.2))) (.kI 60 10<|.kB 37 true<|.ix 39 fI ([a4.Open,a4.jC,a4.iV,a4.iW,a4.iQ,a4.jA,a4.iY,a4.iU,a4.iT,a4.iZ,a4.jD]:List Int) 10 λx44=>.inl 41 l8 Tryz.func97 [1,2,3,4] [] (λu91 (a:Unit)=>.list 1 [[.pt 4 (u91 4) 0 0],[.pt 4 (u91 4) 0 1],[.pt 4 (u91 4) 0 2],[.pt 4 (u91 4) 0 3],[.pt 4 (u91 4) 0 4],[.pt 4 (u91 4) 0 5],[.pt 4 (u91 4) 0 6],[.pt 4 (u91 4) 0 7],[.pt 4 (u91 4) 0 8],[.pt 4 (u91 4) 0 9],[.pt 4 (u91 4) 0 10]]) (λ_ _=>[]) (.dr [(1,[4]),(2,[4]),(4,[4]),(5,[4]),(7,[4]),(8,[4]),(10,[4]),(11,[4]),(13,[4]),(14,[4]),(16,[4]),(17,[4]),(19,[4]),(20,[4]),(22,[4]),(23,[4]),(25,[4]),(26,[4]),(28,[4]),(29,[4]),(31,[4]),(32,[4])] [] [4] [] [0,1,2,3,4,5,6,7,8,9,10,11,12,13,14,15,16,17,18,19,20,21,22,23,24,25,26,27,28,29,30,31,32,33,34] (.gv 36<|.ret ())) (λ_=>.gv 43<|.cl 50 (kG x11.jD x44) kL kJ λx45=>.bB 54 (decide (x45.2≠0)) λx46=>.ifs [54] x46 (.esc (.ret ((a1:aA),x45.2))) (.kI 60 11<|.kB 37 false<|.brk ((⟨x15.1,x18.1,x21.1,x24.1,x27.1,x30.1,x33.1,x36.1,x39.1,x42.1,x45.1⟩:bM):bM))))))))))))))))))))))))) (λy2_1=>.al 6<|.inl 64 zQ Tryz.func95 [1,3,4] [7] (λu93 (a:Unit)=>.pt 7 (u93 7) (Int.toNat a2) 0) (λu93 _=>[.kp 6 [[int a1.bA.eH,int a1.bA.fA,aD 1 fI a1.bA.cB,aD 1 (fL 1 fI) a1.bA.Methods,aD 1 (fL 1 fI) a1.bA.dN,.sl 7 (u93 7) 0 a1.aW.length,aD 8 bH.av a1.bP,aD 9 bS.av a1.bU,aD 6 dB.av a1.bY,int a1.Done]],.nw 7 42 8 (a1.aW.map aP.av)]) (.as (a1.aW.length<=68719476736) inferInstance<|.ge 11 7<|.bo (ix a1.aW a2) λx50=>.gv 21<|.ret ()) (λ_=>.bo (ix a1.aW a2) λx51=>.gv 67<|.gv 68<|.gv 69<|.as (x51.dI.length<=68719476736) inferInstance<|.ge 70 8<|.gv 71<|.gv 72<|.ge 1015008 0<|.dr [(1,[7]),(2,[7]),(3,[7]),(5,[4]),(6,[8])] [(7,[])] [4,7,8] [7] [0,1,2,3,4,5,6,7] (.gv 74<|.gv 75<|.gv 76<|.bo (ix x51.dI a3) λx54=>.gv 79<|.bl (x51.dI.set (Int.toNat a3) y2_1:List bM) λx55=>.ge 1016007 0<|.ret (((⟨a1.bA,(a1.aW.set (Int.toNat a2) (⟨x51.dS,x51.Closed,x51.dD,x51.dU,x55,x51.dO,x51.Down,x51.eT⟩:aP)),a1.bP,a1.bU,a1.bY,a1.Done⟩:aA):aA),0))))))
def qD (a1:aA) (a2:Int) (a3:Int) (a4:bM):Option (aA×Int):=(aIQ a1 a2 a3 a4).run
theorem sO {a1 a2 a3 a4}:PZ (qD a1 a2 a3 a4) 51 [.agg (aA.av a1),int a2,int a3,.agg (bM.av a4)] (λr=>.aU [.agg (aA.av r.1),int r.2]):=by
 refine wm Tryz.func51 ?_
 intro v5
 intro v6
 intro v7
 refine .mk λx8 e8=>?_
 refine .mk λx9=>?_
 refine .mk .mk ?_
 refine .mk λx10 e10=>?_
 refine .mk λx11 e11=>?_
 intro v12
 refine .mk ?_ ?_
 intro v13
 refine .mk (bE (bX (y:=aD 1 fI ([a4.Open,a4.jC,a4.iV,a4.iW,a4.iQ,a4.jA,a4.iY,a4.iU,a4.iT,a4.iZ,a4.jD]:List Int)) (dQ (ps:=[(0,_),(1,_),(2,_),(3,_),(4,_),(5,_),(6,_),(7,_),(8,_),(9,_),(10,_)]) (rows:=[[int a4.Open],[int a4.jC],[int a4.iV],[int a4.iW],[int a4.iQ],[int a4.jA],[int a4.iY],[int a4.iU],[int a4.iT],[int a4.iZ],[int a4.jD]]) rfl Tryz.underlying22 fT (.cons rfl (.cons rfl (.cons rfl (.cons rfl (.cons rfl (.cons rfl (.cons rfl (.cons rfl (.cons rfl (.cons rfl (.cons rfl .nil))))))))))) (by kernel_rfl) rfl rfl rfl) rfl)) ?_
 exact .mk
 intro _ _
 refine .mk trivial ?_
 refine .mk ?_ ?_
 refine .mk ?_
 refine .mk λx14 e14=>?_
 refine .mk ?_ ?_
 refine .mk ?_
 refine .mk _ (λH hH _=>dQ (ps:=[(0,_),(1,_),(2,_),(3,_),(4,_),(5,_),(6,_),(7,_),(8,_),(9,_),(10,_)]) (rows:=[[.pt 4 v12 0 0],[.pt 4 v12 0 1],[.pt 4 v12 0 2],[.pt 4 v12 0 3],[.pt 4 v12 0 4],[.pt 4 v12 0 5],[.pt 4 v12 0 6],[.pt 4 v12 0 7],[.pt 4 v12 0 8],[.pt 4 v12 0 9],[.pt 4 v12 0 10]]) rfl Tryz.underlying150 mJ (.cons rfl (.cons rfl (.cons rfl (.cons rfl (.cons rfl (.cons rfl (.cons rfl (.cons rfl (.cons rfl (.cons rfl (.cons rfl .nil))))))))))) (by kernel_rfl) rfl rfl rfl) ?_
 exact .mk
 intro _ _
 refine .mk trivial ?_
 refine .mk _ (bE (iM (j:=0) rfl Tryz.underlying150 mD rfl rfl rfl (.list rfl))) ?_
 refine .mk λx15 e15=>?_
 refine .mk λx16=>?_
 refine .mk .mk ?_
 refine .mk ?_
 refine .mk ?_
 refine .mk λx17 e17=>?_
 refine .mk ?_ ?_
 refine .mk ?_
 refine .mk _ (λH hH _=>dQ (ps:=[(0,_),(1,_),(2,_),(3,_),(4,_),(5,_),(6,_),(7,_),(8,_),(9,_),(10,_)]) (rows:=[[.pt 4 v12 0 0],[.pt 4 v12 0 1],[.pt 4 v12 0 2],[.pt 4 v12 0 3],[.pt 4 v12 0 4],[.pt 4 v12 0 5],[.pt 4 v12 0 6],[.pt 4 v12 0 7],[.pt 4 v12 0 8],[.pt 4 v12 0 9],[.pt 4 v12 0 10]]) rfl Tryz.underlying150 mJ (.cons rfl (.cons rfl (.cons rfl (.cons rfl (.cons rfl (.cons rfl (.cons rfl (.cons rfl (.cons rfl (.cons rfl (.cons rfl .nil))))))))))) (by kernel_rfl) rfl rfl rfl) ?_
 exact .mk
 intro _ _
 refine .mk trivial ?_
 refine .mk _ (bE (iM (j:=1) rfl Tryz.underlying150 mD rfl rfl rfl (.list rfl))) ?_
 refine .mk λx18 e18=>?_
 refine .mk λx19=>?_
 refine .mk .mk ?_
 refine .mk ?_
 refine .mk ?_
 refine .mk λx20 e20=>?_
 refine .mk ?_ ?_
 refine .mk ?_
 refine .mk _ (λH hH _=>dQ (ps:=[(0,_),(1,_),(2,_),(3,_),(4,_),(5,_),(6,_),(7,_),(8,_),(9,_),(10,_)]) (rows:=[[.pt 4 v12 0 0],[.pt 4 v12 0 1],[.pt 4 v12 0 2],[.pt 4 v12 0 3],[.pt 4 v12 0 4],[.pt 4 v12 0 5],[.pt 4 v12 0 6],[.pt 4 v12 0 7],[.pt 4 v12 0 8],[.pt 4 v12 0 9],[.pt 4 v12 0 10]]) rfl Tryz.underlying150 mJ (.cons rfl (.cons rfl (.cons rfl (.cons rfl (.cons rfl (.cons rfl (.cons rfl (.cons rfl (.cons rfl (.cons rfl (.cons rfl .nil))))))))))) (by kernel_rfl) rfl rfl rfl) ?_
 exact .mk
 intro _ _
 refine .mk trivial ?_
 refine .mk _ (bE (iM (j:=2) rfl Tryz.underlying150 mD rfl rfl rfl (.list rfl))) ?_
 refine .mk λx21 e21=>?_
 refine .mk λx22=>?_
 refine .mk .mk ?_
 refine .mk ?_
 refine .mk ?_
 refine .mk λx23 e23=>?_
 refine .mk ?_ ?_
 refine .mk ?_
 refine .mk _ (λH hH _=>dQ (ps:=[(0,_),(1,_),(2,_),(3,_),(4,_),(5,_),(6,_),(7,_),(8,_),(9,_),(10,_)]) (rows:=[[.pt 4 v12 0 0],[.pt 4 v12 0 1],[.pt 4 v12 0 2],[.pt 4 v12 0 3],[.pt 4 v12 0 4],[.pt 4 v12 0 5],[.pt 4 v12 0 6],[.pt 4 v12 0 7],[.pt 4 v12 0 8],[.pt 4 v12 0 9],[.pt 4 v12 0 10]]) rfl Tryz.underlying150 mJ (.cons rfl (.cons rfl (.cons rfl (.cons rfl (.cons rfl (.cons rfl (.cons rfl (.cons rfl (.cons rfl (.cons rfl (.cons rfl .nil))))))))))) (by kernel_rfl) rfl rfl rfl) ?_
 exact .mk
 intro _ _
 refine .mk trivial ?_
 refine .mk _ (bE (iM (j:=3) rfl Tryz.underlying150 mD rfl rfl rfl (.list rfl))) ?_
 refine .mk λx24 e24=>?_
 refine .mk λx25=>?_
 refine .mk .mk ?_
 refine .mk ?_
 refine .mk ?_
 refine .mk λx26 e26=>?_
 refine .mk ?_ ?_
 refine .mk ?_
 refine .mk _ (λH hH _=>dQ (ps:=[(0,_),(1,_),(2,_),(3,_),(4,_),(5,_),(6,_),(7,_),(8,_),(9,_),(10,_)]) (rows:=[[.pt 4 v12 0 0],[.pt 4 v12 0 1],[.pt 4 v12 0 2],[.pt 4 v12 0 3],[.pt 4 v12 0 4],[.pt 4 v12 0 5],[.pt 4 v12 0 6],[.pt 4 v12 0 7],[.pt 4 v12 0 8],[.pt 4 v12 0 9],[.pt 4 v12 0 10]]) rfl Tryz.underlying150 mJ (.cons rfl (.cons rfl (.cons rfl (.cons rfl (.cons rfl (.cons rfl (.cons rfl (.cons rfl (.cons rfl (.cons rfl (.cons rfl .nil))))))))))) (by kernel_rfl) rfl rfl rfl) ?_
 exact .mk
 intro _ _
 refine .mk trivial ?_
 refine .mk _ (bE (iM (j:=4) rfl Tryz.underlying150 mD rfl rfl rfl (.list rfl))) ?_
 refine .mk λx27 e27=>?_
 refine .mk λx28=>?_
 refine .mk .mk ?_
 refine .mk ?_
 refine .mk ?_
 refine .mk λx29 e29=>?_
 refine .mk ?_ ?_
 refine .mk ?_
 refine .mk _ (λH hH _=>dQ (ps:=[(0,_),(1,_),(2,_),(3,_),(4,_),(5,_),(6,_),(7,_),(8,_),(9,_),(10,_)]) (rows:=[[.pt 4 v12 0 0],[.pt 4 v12 0 1],[.pt 4 v12 0 2],[.pt 4 v12 0 3],[.pt 4 v12 0 4],[.pt 4 v12 0 5],[.pt 4 v12 0 6],[.pt 4 v12 0 7],[.pt 4 v12 0 8],[.pt 4 v12 0 9],[.pt 4 v12 0 10]]) rfl Tryz.underlying150 mJ (.cons rfl (.cons rfl (.cons rfl (.cons rfl (.cons rfl (.cons rfl (.cons rfl (.cons rfl (.cons rfl (.cons rfl (.cons rfl .nil))))))))))) (by kernel_rfl) rfl rfl rfl) ?_
 exact .mk
 intro _ _
 refine .mk trivial ?_
 refine .mk _ (bE (iM (j:=5) rfl Tryz.underlying150 mD rfl rfl rfl (.list rfl))) ?_
 refine .mk λx30 e30=>?_
 refine .mk λx31=>?_
 refine .mk .mk ?_
 refine .mk ?_
 refine .mk ?_
 refine .mk λx32 e32=>?_
 refine .mk ?_ ?_
 refine .mk ?_
 refine .mk _ (λH hH _=>dQ (ps:=[(0,_),(1,_),(2,_),(3,_),(4,_),(5,_),(6,_),(7,_),(8,_),(9,_),(10,_)]) (rows:=[[.pt 4 v12 0 0],[.pt 4 v12 0 1],[.pt 4 v12 0 2],[.pt 4 v12 0 3],[.pt 4 v12 0 4],[.pt 4 v12 0 5],[.pt 4 v12 0 6],[.pt 4 v12 0 7],[.pt 4 v12 0 8],[.pt 4 v12 0 9],[.pt 4 v12 0 10]]) rfl Tryz.underlying150 mJ (.cons rfl (.cons rfl (.cons rfl (.cons rfl (.cons rfl (.cons rfl (.cons rfl (.cons rfl (.cons rfl (.cons rfl (.cons rfl .nil))))))))))) (by kernel_rfl) rfl rfl rfl) ?_
 exact .mk
 intro _ _
 refine .mk trivial ?_
 refine .mk _ (bE (iM (j:=6) rfl Tryz.underlying150 mD rfl rfl rfl (.list rfl))) ?_
 refine .mk λx33 e33=>?_
 refine .mk λx34=>?_
 refine .mk .mk ?_
 refine .mk ?_
 refine .mk ?_
 refine .mk λx35 e35=>?_
 refine .mk ?_ ?_
 refine .mk ?_
 refine .mk _ (λH hH _=>dQ (ps:=[(0,_),(1,_),(2,_),(3,_),(4,_),(5,_),(6,_),(7,_),(8,_),(9,_),(10,_)]) (rows:=[[.pt 4 v12 0 0],[.pt 4 v12 0 1],[.pt 4 v12 0 2],[.pt 4 v12 0 3],[.pt 4 v12 0 4],[.pt 4 v12 0 5],[.pt 4 v12 0 6],[.pt 4 v12 0 7],[.pt 4 v12 0 8],[.pt 4 v12 0 9],[.pt 4 v12 0 10]]) rfl Tryz.underlying150 mJ (.cons rfl (.cons rfl (.cons rfl (.cons rfl (.cons rfl (.cons rfl (.cons rfl (.cons rfl (.cons rfl (.cons rfl (.cons rfl .nil))))))))))) (by kernel_rfl) rfl rfl rfl) ?_
 exact .mk
 intro _ _
 refine .mk trivial ?_
 refine .mk _ (bE (iM (j:=7) rfl Tryz.underlying150 mD rfl rfl rfl (.list rfl))) ?_
 refine .mk λx36 e36=>?_
 refine .mk λx37=>?_
 refine .mk .mk ?_
 refine .mk ?_
 refine .mk ?_
 refine .mk λx38 e38=>?_
 refine .mk ?_ ?_
 refine .mk ?_
 refine .mk _ (λH hH _=>dQ (ps:=[(0,_),(1,_),(2,_),(3,_),(4,_),(5,_),(6,_),(7,_),(8,_),(9,_),(10,_)]) (rows:=[[.pt 4 v12 0 0],[.pt 4 v12 0 1],[.pt 4 v12 0 2],[.pt 4 v12 0 3],[.pt 4 v12 0 4],[.pt 4 v12 0 5],[.pt 4 v12 0 6],[.pt 4 v12 0 7],[.pt 4 v12 0 8],[.pt 4 v12 0 9],[.pt 4 v12 0 10]]) rfl Tryz.underlying150 mJ (.cons rfl (.cons rfl (.cons rfl (.cons rfl (.cons rfl (.cons rfl (.cons rfl (.cons rfl (.cons rfl (.cons rfl (.cons rfl .nil))))))))))) (by kernel_rfl) rfl rfl rfl) ?_
 exact .mk
 intro _ _
 refine .mk trivial ?_
 refine .mk _ (bE (iM (j:=8) rfl Tryz.underlying150 mD rfl rfl rfl (.list rfl))) ?_
 refine .mk λx39 e39=>?_
 refine .mk λx40=>?_
 refine .mk .mk ?_
 refine .mk ?_
 refine .mk ?_
 refine .mk λx41 e41=>?_
 refine .mk ?_ ?_
 refine .mk ?_
 refine .mk _ (λH hH _=>dQ (ps:=[(0,_),(1,_),(2,_),(3,_),(4,_),(5,_),(6,_),(7,_),(8,_),(9,_),(10,_)]) (rows:=[[.pt 4 v12 0 0],[.pt 4 v12 0 1],[.pt 4 v12 0 2],[.pt 4 v12 0 3],[.pt 4 v12 0 4],[.pt 4 v12 0 5],[.pt 4 v12 0 6],[.pt 4 v12 0 7],[.pt 4 v12 0 8],[.pt 4 v12 0 9],[.pt 4 v12 0 10]]) rfl Tryz.underlying150 mJ (.cons rfl (.cons rfl (.cons rfl (.cons rfl (.cons rfl (.cons rfl (.cons rfl (.cons rfl (.cons rfl (.cons rfl (.cons rfl .nil))))))))))) (by kernel_rfl) rfl rfl rfl) ?_
 exact .mk
 intro _ _
 refine .mk trivial ?_
 refine .mk _ (bE (iM (j:=9) rfl Tryz.underlying150 mD rfl rfl rfl (.list rfl))) ?_
 refine .mk λx42 e42=>?_
 refine .mk λx43=>?_
 refine .mk .mk ?_
 refine .mk ?_
 refine .mk ?_
 refine .mk λx44 e44=>?_
 refine .mk ?_ ?_
 refine .mk ?_
 refine .mk _ (λH hH _=>dQ (ps:=[(0,_),(1,_),(2,_),(3,_),(4,_),(5,_),(6,_),(7,_),(8,_),(9,_),(10,_)]) (rows:=[[.pt 4 v12 0 0],[.pt 4 v12 0 1],[.pt 4 v12 0 2],[.pt 4 v12 0 3],[.pt 4 v12 0 4],[.pt 4 v12 0 5],[.pt 4 v12 0 6],[.pt 4 v12 0 7],[.pt 4 v12 0 8],[.pt 4 v12 0 9],[.pt 4 v12 0 10]]) rfl Tryz.underlying150 mJ (.cons rfl (.cons rfl (.cons rfl (.cons rfl (.cons rfl (.cons rfl (.cons rfl (.cons rfl (.cons rfl (.cons rfl (.cons rfl .nil))))))))))) (by kernel_rfl) rfl rfl rfl) ?_
 exact .mk
 intro _ _
 refine .mk trivial ?_
 refine .mk _ (bE (iM (j:=10) rfl Tryz.underlying150 mD rfl rfl rfl (.list rfl))) ?_
 refine .mk λx45 e45=>?_
 refine .mk λx46=>?_
 refine .mk .mk ?_
 refine .mk ?_
 refine .mk ?_
 exact .mk
 intro _ _
 intro v47
 refine .mk ?_ ?_
 refine .mk λp48=>?_
 refine .mk _ ⟨λ_=>d9 rfl rfl (.cons rfl .nil) vX (iK (vQ.pc (id:=7) (l:=a1.aW) rfl p48) (.cons (.refl _) .nil)),λ_ _ _=>trivial⟩ ?_
 rintro _ _ ⟨v49,rfl,rfl⟩
 refine .mk λx50 e50=>?_
 refine .mk _ (bE (eB rfl Tryz.underlying26 jE rfl rfl rfl rfl rfl (Eq.symm rfl) (List.length_map _) e50)) ?_
 exact .mk
 intro _ _
 refine .mk trivial ?_
 refine .mk λx51 e51=>?_
 refine .mk _ (bE (iH rfl rfl (.pt rfl rfl (dR e51 (aP.bW _))))) ?_
 refine .mk _ (bE (dK rfl yH rfl (.pt rfl rfl (dR e51 (aP.bW _))) (.pt _ _ _ _ _))) ?_
 refine .mk _ (bE (dV rfl wW rfl (.pt rfl rfl (dR e51 (aP.bW _))) rfl)) ?_
 refine .mk λp52=>?_
 refine .mk _ ⟨λ_=>d9 rfl rfl (.cons rfl .nil) O4 (iK (OI.pc (id:=8) (l:=x51.dI) rfl p52) (.cons (.refl _) .nil)),λ_ _ _=>trivial⟩ ?_
 rintro _ _ ⟨v53,rfl,rfl⟩
 refine .mk _ (bE (iH rfl rfl (.pt rfl rfl (dR e51 (aP.bW _))))) ?_
 refine .mk _ (bE (dK rfl yH rfl (.pt rfl rfl (dR e51 (aP.bW _))) (.pt _ _ _ _ _))) ?_
 refine .mk _ ⟨λ_=>bQ.dM (eO (ob':=(⟨42,8,true,true,_,(a1.aW.map aP.av).set (Int.toNat a2) [int x51.dS,aF x51.Closed,aD 4 aM.av x51.dD,aD 1 fI x51.dU,.sl 8 v53 0 x51.dI.length,aD 1 fI x51.dO,aD 1 fI x51.Down,aD 8 aP.av x51.eT]⟩:bC)) (dZ rfl wW rfl rfl rfl rfl rfl (dR e51 (aP.bW _)) rfl rfl rfl) (eU rfl)) (λ_ h=>h) (λ_ _=>trivial),λ_ _ _=>trivial⟩ ?_
 rintro _ _ ⟨rfl,rfl⟩
 refine .mk ?_
 refine .mk _ (λH hH _=>iH rfl rfl (.pt ((hH _ (by decide)).trans rfl) rfl (eY e51))) ?_
 refine .mk _ (λH hH _=>dK rfl yH rfl (.pt ((hH _ (by decide)).trans rfl) rfl (eY e51)) (.pt _ _ _ _ _)) ?_
 refine .mk _ (λH hH _=>dV rfl wW rfl (.pt ((hH _ (by decide)).trans rfl) rfl (eY e51)) rfl) ?_
 refine .mk λx54 e54=>?_
 refine .mk _ (λH hH _=>eB rfl Tryz.underlying40 LH rfl rfl ((hH _ (by decide)).trans rfl) rfl rfl (Eq.symm rfl) (List.length_map _) e54) ?_
 refine .mk λx55 e55=>?_
 have fx55:=fP e54 e55;have lx55:=fH e55 (rfl:x51.dI.length=x51.dI.length)
 refine .mk _ ⟨λ_=>bQ.dM (eO (ob':=(⟨87,11,true,true,_,x55.map bM.av⟩:bC)) (dZ rfl LH rfl rfl rfl rfl rfl (cZ e54) rfl rfl rfl) (eU (iI e55))) (λ_ h=>h) (λ_ _=>trivial),by rintro _ _ ⟨rfl,rfl⟩;exact trivial⟩ ?_
 rintro _ _ ⟨rfl,rfl⟩
 exact .mk (bK.aU (.cons (bK.agg (.cons (.refl _) (.cons (.refl _) (.cons (.refl _) (.cons (.refl _) (.cons (.refl _) (.cons (kZ rfl rfl rfl rfl rfl (Eq.symm rfl) e51 (lW (.cons (.refl _) (.cons (.refl _) (.cons (.refl _) (.cons (.refl _) (.cons (dH rfl rfl rfl rfl rfl (Eq.symm lx55)) (.cons (.refl _) (.cons (.refl _) (.cons (.refl _) .nil)))))))) (aP.bW _))) (.cons (.refl _) (.cons (.refl _) (.cons (.refl _) (.cons (.refl _) .nil))))))))))) (.cons (.refl _) .nil)))
def aFN (n:Nat) (a1:aA) (a2:aS):WB (aA×Int) :=
 .al 1<|.al 2<|.al 3<|.bB 16 (decide (a2.Kind≠1)) λx6=>.ifs [16] x6 (.ret ((a1:aA),1)) (.al 4<|.al 5<|.al 6<|.al 7<|.gv 24<|.jn 1 [2,3,4,5,6,9] [1,2,3] [] (λ_ (a:aA×Int)=>[]) (λ_ a=>[.kp 4 [(aA.av a.1)],.kp 7 [[int a.2]]]) (.un 24 (.kB 28 true<|.gv 29<|.inl 32 aOH Tryz.func43 [1,2,3,4,5,6] [] (λ_ (a:Int)=>.aU []) (λ_ a=>[.kp 7 [[int a]]]) (.cl 8 (lH a1 a2.E a2.Item) mI mU λx11=>.ret x11) (λy0_1=>.bB 34 (decide (y0_1≠0)) λx12=>.ifs [34] x12 (.ret ((a1:aA),y0_1)) (.kI 35 1<|.kB 28 true<|.gv 29<|.inl 32 aJ3 Tryz.func45 [1,2,3,4,5,6] [] (λ_ (a:Int)=>.aU []) (λ_ a=>[.kp 7 [[int a]]]) (.ln 4 bH.av a1.bP<|.bB 5 (decide ((a1.bP.length:Int)>=40)) λx13=>.ifs [5] x13 (.ret 6) (.ret y0_1)) (λy0_1_1=>.bB 34 (decide (y0_1_1≠0)) λx14=>.ifs [34] x14 (.ret ((a1:aA),(y0_1_1:Int))) (.kI 35 2<|.kB 28 true<|.gv 29<|.inl 32 aJT Tryz.func46 [1,2,3] [] (λ_ (a:aA×Int×Int×Int)=>.aU []) (λ_ a=>[.kp 4 [(aA.av a.1)],.kp 5 [[int a.2.1]],.kp 6 [[int a.2.2.1]],.kp 7 [[int a.2.2.2]]]) (.cl 19 (uU n a1 a2.E a2.Item a2.Loc (⟨a2.aQ,a2.bD,0⟩:aB)) y9 yA λx15=>.ret ((x15.1:aA),x15.2.1,x15.2.2.1,x15.2.2.2)) (pw λy0_1_2 q0=>(pw λy0_2 q1=>(pw λy0_3 y0_4=>.bB 34 (decide (y0_4≠0)) λx16=>.ifs [34] x16 (.ret ((y0_1_2:aA),y0_4)) (.kI 35 3<|.kB 28 true<|.gv 29<|.inl 32 aLR Tryz.func48 [1,2,3,5,6] [] (λ_ (a:aA×Int)=>.aU []) (λ_ a=>[.kp 4 [(aA.av a.1)],.kp 7 [[int a.2]]]) (.bI 15 (aI (0-a2.bD)) λx17=>.to 17 (aD 2 aH.av ([(⟨0,y0_2⟩:aH),(⟨6,y0_3⟩:aH),(⟨1,x17⟩:aH)]:List aH))<|.cl 18 (oN n y0_1_2 a2.E ([(⟨0,y0_2⟩:aH),(⟨6,y0_3⟩:aH),(⟨1,x17⟩:aH)]:List aH)) qC qN λx18=>.ret ((x18.1:aA),x18.2)) (pw λy0_1_3 y0_2_1=>.bB 34 (decide (y0_2_1≠0)) λx19=>.ifs [34] x19 (.ret ((y0_1_3:aA),(y0_2_1:Int))) (.kI 35 4<|.kB 28 true<|.gv 29<|.inl 32 aC8 Tryz.func50 [1,2,3,5,6] [] (λ_ (a:aA×Int)=>.aU []) (λ_ a=>[.kp 4 [(aA.av a.1)],.kp 7 [[int a.2]]]) (.cl 12 (qD y0_1_3 a2.E a2.Item (⟨0,y0_2,0,0,0,0,0,0,0,0,0⟩:bM)) sH sO λx20=>.ret ((x20.1:aA),x20.2)) (pw λy0_1_4 y0_2_2=>.bB 34 (decide (y0_2_2≠0)) λx21=>.ifs [34] x21 (.ret ((y0_1_4:aA),(y0_2_2:Int))) (.kI 35 5<|.kB 28 false<|.ret ((y0_1_4:aA),(y0_2_2:Int)))))))) q1) q0))))))) (pw λy1_1 y1_2=>.bB 37 (decide (y1_2≠0)) λx22=>.ifs [37] x22 (.dr [(0,[1]),(1,[7])] [(2,[7])] [1,7] [2] [0,1,2,3] (.ret ((a1:aA),y1_2))) (.al 8<|.dr [(0,[4]),(1,[4]),(3,[8]),(6,[4])] [(2,[8]),(5,[]),(7,[])] [4,8] [2,5,7] [0,1,3,4,2,5,6,7] (.to 59 (aD 8 bH.av ([(⟨a2.E,a2.Item,a2.Loc,a2.aQ,a2.bD,a2.aQ,a2.bD,0⟩:bH)]:List bH))<|.as (y1_1.bP.length<=68719476736) inferInstance<|.ge 57 9<|.bl (y1_1.bP++([(⟨a2.E,a2.Item,a2.Loc,a2.aQ,a2.bD,a2.aQ,a2.bD,0⟩:bH)]:List bH):List bH) λx26=>.as (x26.length<=68719476736) inferInstance<|.ge 60 0<|.ret (((⟨y1_1.bA,y1_1.aW,x26,y1_1.bU,y1_1.bY,y1_1.Done⟩:aA):aA),0)))))
def VK (n:Nat) (a1:aA) (a2:aS):Option (aA×Int):=(aFN n a1 a2).run
theorem aK7 {n a1 a2}:PZ (VK n a1 a2) 22 [.agg (aA.av a1),.agg (aS.av a2)] (λr=>.aU [.agg (aA.av r.1),int r.2]):=by
 refine wm Tryz.func22 ?_
 intro v3
 intro v4
 intro v5
 refine .mk λx6=>?_
 refine .mk .mk ?_
 intro v7
 intro v8
 intro v9
 intro v10
 refine .mk _ (bE (dQ (ps:=[(0,_),(1,_),(2,_),(3,_),(4,_)]) (rows:=[[.fn (.func 43) [] [.pt 1 v3 0 0,.pt 2 v4 0 0,.pt 7 v10 0 0]],[.fn (.func 45) [] [.pt 1 v3 0 0,.pt 7 v10 0 0]],[.fn (.func 46) [] [.pt 1 v3 0 0,.pt 2 v4 0 0,.pt 4 v7 0 0,.pt 5 v8 0 0,.pt 6 v9 0 0,.pt 7 v10 0 0]],[.fn (.func 48) [] [.pt 4 v7 0 0,.pt 2 v4 0 0,.pt 5 v8 0 0,.pt 6 v9 0 0,.pt 7 v10 0 0]],[.fn (.func 50) [] [.pt 4 v7 0 0,.pt 2 v4 0 0,.pt 5 v8 0 0,.pt 7 v10 0 0]]]) rfl Tryz.underlying96 WS (.cons rfl (.cons rfl (.cons rfl (.cons rfl (.cons rfl .nil))))) (by kernel_rfl) rfl rfl rfl)) ?_
 refine .mk ?_ ?_
 refine .mk ?_
 refine .mk _ (bE (iM (j:=0) rfl Tryz.underlying96 xC rfl rfl rfl (.list rfl))) ?_
 refine .mk ?_ ?_
 refine .mk λx11 e11=>?_
 exact .mk
 intro _ _
 refine .mk trivial ?_
 refine .mk λx12=>?_
 refine .mk .mk ?_
 refine .mk ?_
 refine .mk ?_
 refine .mk _ (bE (iM (j:=1) rfl Tryz.underlying96 xC rfl rfl rfl (.list rfl))) ?_
 refine .mk ?_ ?_
 refine .mk ?_
 refine .mk λx13=>?_
 refine .mk .mk ?_
 exact .mk
 intro _ _
 refine .mk trivial ?_
 refine .mk λx14=>?_
 refine .mk .mk ?_
 refine .mk ?_
 refine .mk ?_
 refine .mk _ (bE (iM (j:=2) rfl Tryz.underlying96 xC rfl rfl rfl (.list rfl))) ?_
 refine .mk ?_ ?_
 refine .mk λx15 e15=>?_
 exact .mk
 rintro ⟨y0_1_2,y0_2,y0_3,y0_4⟩ _
 refine .mk trivial ?_
 refine .mk λx16=>?_
 refine .mk .mk ?_
 refine .mk ?_
 refine .mk ?_
 refine .mk _ (bE (iM (j:=3) rfl Tryz.underlying96 xC rfl rfl rfl (.list rfl))) ?_
 refine .mk ?_ ?_
 refine .mk λx17=>?_
 refine .mk (bE (bX (y:=aD 2 aH.av ([(⟨0,y0_2⟩:aH),(⟨6,y0_3⟩:aH),(⟨1,x17⟩:aH)]:List aH)) (dQ (ps:=[(0,_),(1,_),(2,_)]) (rows:=[[int 0,int y0_2],[int 6,int y0_3],[int 1,int x17]]) rfl Tryz.underlying94 l5 (.cons rfl (.cons rfl (.cons rfl .nil))) (by kernel_rfl) rfl rfl rfl) rfl)) ?_
 refine .mk λx18 e18=>?_
 exact .mk
 intro _ _
 refine .mk trivial ?_
 refine .mk λx19=>?_
 refine .mk .mk ?_
 refine .mk ?_
 refine .mk ?_
 refine .mk _ (bE (iM (j:=4) rfl Tryz.underlying96 xC rfl rfl rfl (.list rfl))) ?_
 refine .mk ?_ ?_
 refine .mk λx20 e20=>?_
 exact .mk
 intro _ _
 refine .mk trivial ?_
 refine .mk λx21=>?_
 refine .mk .mk ?_
 refine .mk ?_
 refine .mk ?_
 exact .mk
 rintro ⟨y1_1,y1_2⟩ _
 refine .mk λx22=>?_
 refine .mk ?_ ?_
 refine .mk ?_
 exact .mk
 intro v23
 refine .mk ?_
 refine .mk (λH hH _=>bX (y:=aD 8 bH.av ([(⟨a2.E,a2.Item,a2.Loc,a2.aQ,a2.bD,a2.aQ,a2.bD,0⟩:bH)]:List bH)) (dQ (ps:=[(0,_)]) (rows:=[[int a2.E,int a2.Item,int a2.Loc,int a2.aQ,int a2.bD,int a2.aQ,int a2.bD,int 0]]) rfl Tryz.underlying27 I9 (.cons rfl .nil) (by kernel_rfl) rfl rfl rfl) rfl) ?_
 refine .mk λp24=>?_
 refine .mk _ ⟨λ_=>d9 rfl rfl (.cons rfl .nil) MQ (iK (QZ.pc (id:=9) (l:=y1_1.bP) rfl p24) (.cons (.refl _) .nil)),by rintro _ _ ⟨v25,rfl,rfl⟩;exact ⟨rfl,trivial⟩⟩ ?_
 rintro _ _ ⟨v25,rfl,rfl⟩
 refine .mk λx26 e26=>?_
 refine .mk λp27=>?_
 refine .mk _ ⟨λ_=>jU (g:=bH.av) (l:=y1_1.bP) (m:=([(⟨a2.E,a2.Item,a2.Loc,a2.aQ,a2.bD,a2.aQ,a2.bD,0⟩:bH)]:List bH)) .any rfl Tryz.underlying27 I9 TD rfl rfl rfl rfl rfl rfl rfl rfl rfl rfl (Eq.symm rfl) (.refl _) (λ_=>rfl) e26 p27,by rintro _ _ ⟨v28,-,rfl,rfl⟩;exact trivial⟩ ?_
 rintro _ _ ⟨v28,-,rfl,rfl⟩
 exact .mk (bK.aU (.cons (bK.agg (.cons (.refl _) (.cons (.refl _) (.cons (.refl _) (.cons (.refl _) (.cons (.refl _) (.cons (.refl _) (.cons (dH rfl rfl rfl rfl rfl (Eq.symm rfl)) (.cons (.refl _) (.cons (.refl _) (.cons (.refl _) .nil))))))))))) (.cons (.refl _) .nil)))
def aA4 (n:Nat) (a1:List aB) (a2:Int):WB (Bool) :=
 .ln 8 aB.av a1<|.dF 0 [4] [] [] (λ_ (a:Unit)=>[]) (λ_ _=>[]) (.lp [4,7,8] [] [] (λ_ (a:Int×Int)=>[(1,int a.1),(9,int a.2)]) (λ_ _=>[]) n ((a2:Int),0) (pw λy0_1 y0_2=>.bB 10 (decide (y0_2<(a1.length:Int))) λx3=>.ifs [10] x3 (.ix 11 aB.av a1 y0_2 λx4=>.al 1<|.bl (if 0>x4.aQ then 0 else x4.aQ:Int) λx6=>.gv 16<|.bl (if y0_1<x6 then y0_1 else x6:Int) λx7=>.gv 18<|.bI 19 (aI (y0_1-x7)) λx8=>.bB 21 (decide (x8=0)) λx9=>.ifs [21] x9 (.esc (.esc (.ret ((true:Bool))))) (.bI 22 (aI (y0_2+1)) λx10=>.brk ((x8:Int),x10))) (.esc (.brk ())))) (λ_=>.ret ((false:Bool)))
def GX (n:Nat) (a1:List aB) (a2:Int):Option (Bool):=(aA4 n a1 a2).run
theorem UG {n a1 a2}:PZ (GX n a1 a2) 274 [aD 3 aB.av a1,int a2] aF:=wq Tryz.func274
def aMF (n:Nat) (a1:Int) (a2:Int) (a3:Int):WB (Int) :=
 .jn 2 [0,1,2,6] [] [] (λ_ (a:Bool)=>[(13,aF a)]) (λ_ _=>[]) (.bB 15 (decide (a3<1)) λx4=>.ifs [15] x4 (.ret true) (.bB 18 (decide (a2<0)) λx5=>.ifs [18] x5 (.ret true) (.bB 23 (decide (a2>a3)) λx6=>.ifs [23] x6 (.ret true) (.cl 27 (xE a1) AT B8 λx7=>.bB 28 (!x7) λx8=>.ret x8)))) (λy0_1=>.ifs [13] y0_1 (.ret ((0:Int))) (.bB 33 (decide (a2=a3)) λx9=>.ifs [33] x9 (.ret ((a1:Int))) (.bB 37 (decide (a1<0)) λx10=>.ifs [37] x10 (.bI 40 (aI (0-a1)) λx11=>.cl 43 (wT n x11 a2 a3) wY xV λx12=>.bI 48 (aI (0-x12.1)) λx13=>.ret ((x13:Int))) (.cl 53 (wT n a1 a2 a3) wY xV λx14=>.ret ((x14.1:Int))))))
def mX (n:Nat) (a1:Int) (a2:Int) (a3:Int):Option (Int):=(aMF n a1 a2 a3).run
theorem nU {n a1 a2 a3}:PZ (mX n a1 a2 a3) 107 [int a1,int a2,int a3] int:=wq Tryz.func107
def aGD (n:Nat) (a1:List aB) (a2:Int):WB ((List aB)×aB×Int) :=
 .al 1<|.as (a1.length<=68719476736) inferInstance<|.ge 10 2<|.bB 12 (decide (a2<1)) λx6=>.ifs [12] x6 (.ret ((a1:List aB),((⟨0,0,0⟩:aB):aB),(1:Int))) (.gK 17 (GX n a1 a2) MP UG (λ_=>rfl) λx7=>.bB 18 (!x7) λx8=>.ifs [18] x8 (.ret ((a1:List aB),((⟨0,0,0⟩:aB):aB),(5:Int))) (.al 3<|.jn 0 [4,5,6,7] [1] [] (λu11 (a:Nat×Nat×(List aB)×aB)=>[(0,.sl 2 (u11 2) a.1 a.2.1)]) (λ_ a=>[.kp 2 (a.2.2.1.map aB.av),.kp 3 [[int a.2.2.2.aQ,int a.2.2.2.Value,int a.2.2.2.bO]]]) (.lp [4,5,6,7] [1] [] (λu16 (a:Nat×Nat×Int×(List aB)×aB)=>[(0,.sl 2 (u16 2) a.1 a.2.1),(1,int a.2.2.1)]) (λ_ a=>[.kp 2 (a.2.2.2.1.map aB.av),.kp 3 [[int a.2.2.2.2.aQ,int a.2.2.2.2.Value,int a.2.2.2.2.bO]]]) n ((0:Nat),(a1.length:Nat),(a2:Int),a1,((⟨0,0,0⟩:aB):aB)) (pw λy0_1 q0=>(pw λy0_2 q1=>(pw λy0_3 q2=>(pw λy0_4 y0_5=>.jn 0 [0,1,4,5,6,7] [1,2,3] [] (λ_ (a:Bool)=>[(27,aF a)]) (λ_ _=>[]) (.bB 23 (decide ((y0_2:Int)>0)) λx10=>.ifs [23] x10 (.bB 26 (decide (y0_3>0)) λx11=>.ret x11) (.ret false)) (λy1_1=>.ifs [27] y1_1 (.as ((0:Int)<=0/\0<(y0_2:Int)) inferInstance<|.bo (ix y0_4 (((y0_1:Nat):Int)+0)) λx13=>.gv 29<|.gv 30<|.al 4<|.bB 34 (decide (x13.aQ>y0_3)) λx15=>.jn 0 [1,4,5,6,7,8] [1,3] [] (λu19 (a:Nat×Nat×(List aB)×aB)=>[(0,.sl 2 (u19 2) a.1 a.2.1)]) (λ_ a=>[.kp 2 (a.2.2.1.map aB.av),.kp 4 [[int a.2.2.2.aQ,int a.2.2.2.Value,int a.2.2.2.bO]]]) (.ifs [34] x15 (.dr [(1,[4]),(2,[4]),(4,[4]),(5,[4]),(7,[4]),(8,[4]),(10,[4]),(11,[4])] [(14,[])] [4] [14] [0,1,2,3,4,5,6,7,8,9,10,11,12,13,14] (.cl 41 (mX n x13.Value y0_3 x13.aQ) nN nU λx16=>.cl 47 (mX n x13.bO y0_3 x13.aQ) nN nU λx17=>.dr [(4,[2]),(5,[2]),(6,[2]),(7,[4]),(8,[4]),(11,[2]),(12,[2]),(13,[2]),(14,[4]),(15,[4]),(18,[2]),(19,[2]),(20,[2]),(21,[4]),(22,[4]),(24,[2]),(25,[2]),(27,[2]),(28,[2]),(30,[2]),(31,[2])] [(26,[4]),(29,[4]),(32,[])] [2,4] [26,29,32] [0,1,2,3,4,5,6,7,8,9,10,11,12,13,14,15,16,17,18,19,20,21,22,23,24,25,26,27,28,29,30,31,32] (.as ((0:Int)<=0/\0<(y0_2:Int)) inferInstance<|.gv 53<|.gv 54<|.gv 55<|.bI 58 (aI (x13.aQ-y0_3)) λx19=>.as ((0:Int)<=0/\0<(y0_2:Int)) inferInstance<|.gv 60<|.gv 61<|.gv 62<|.bI 65 (aI (x13.Value-x16)) λx21=>.as ((0:Int)<=0/\0<(y0_2:Int)) inferInstance<|.gv 67<|.gv 68<|.gv 69<|.bI 72 (aI (x13.bO-x17)) λx23=>.as ((0:Int)<=0/\0<(y0_2:Int)) inferInstance<|.gv 73<|.gv 74<|.bl (y0_4.set (Int.toNat (((y0_1:Nat):Int)+0)) ((⟨x19,x13.Value,x13.bO⟩:aB):aB):List aB) λx25=>.ge 1011026 0<|.as ((0:Int)<=0/\0<(y0_2:Int)) inferInstance<|.gv 75<|.gv 76<|.bl (x25.set (Int.toNat (((y0_1:Nat):Int)+0)) ((⟨x19,x21,x13.bO⟩:aB):aB):List aB) λx27=>.ge 1011029 0<|.as ((0:Int)<=0/\0<(y0_2:Int)) inferInstance<|.gv 77<|.gv 78<|.bl (x27.set (Int.toNat (((y0_1:Nat):Int)+0)) ((⟨x19,x21,x23⟩:aB):aB):List aB) λx29=>.ge 1011032 0<|.ret ((y0_1:Nat),(y0_2:Nat),x29,((⟨y0_3,x16,x17⟩:aB):aB))))) (.as ((0:Int)<=1/\1<=(y0_2:Int)/\(y0_2:Int)<=(y0_2:Int)/\1<(y0_2+1:Int)) inferInstance<|.bl (if (Int.toNat (y0_2:Int))=1 then y0_1 else y0_1+1:Nat) λx31=>.gv 84<|.ret ((x31:Nat),(((Int.toNat (y0_2:Int))-1):Nat),y0_4,x13))) (pw λy2_1 q0=>(pw λy2_2 q1=>(pw λy2_3 y2_4=>.dr [(0,[3]),(1,[3]),(2,[4]),(3,[4]),(5,[3]),(6,[3]),(7,[4]),(8,[4]),(10,[3]),(11,[3]),(12,[4]),(13,[4]),(15,[3]),(17,[3]),(19,[3])] [(16,[4]),(18,[4]),(20,[])] [3,4] [16,18,20] [0,1,2,3,4,5,6,7,8,9,10,11,12,13,14,15,16,17,18,19,20] (.bI 89 (aI (y0_5.aQ+y2_4.aQ)) λx32=>.bI 94 (aI (y0_5.Value+y2_4.Value)) λx33=>.bI 99 (aI (y0_5.bO+y2_4.bO)) λx34=>.bI 106 (aI (y0_3-y2_4.aQ)) λx35=>.brk ((y2_1:Nat),(y2_2:Nat),(x35:Int),y2_3,((⟨x32,x33,x34⟩:aB):aB)))) q1) q0)) (.esc (.ret ((y0_1:Nat),(y0_2:Nat),y0_4,y0_5))))) q2) q1) q0)) (pw λy3_1 q0=>(pw λy3_2 q1=>(pw λy3_3 y3_4=>.dr [(1,[3])] [(3,[])] [3] [3] [0,1,2,3,4] (.as (y3_1+y3_2<=y3_3.length) inferInstance<|.ret (((((y3_3).drop y3_1).take y3_2):List aB),y3_4,(0:Int)))) q1) q0)))
def IU (n:Nat) (a1:List aB) (a2:Int):Option ((List aB)×aB×Int):=(aGD n a1 a2).run
theorem QB {n a1 a2}:PZ (IU n a1 a2) 273 [aD 3 aB.av a1,int a2] (λr=>.aU [aD 3 aB.av r.1,.agg (aB.av r.2.1),int r.2.2]):=by
 refine wm Tryz.func273 ?_
 intro v3
 refine .mk λp4=>?_
 refine .mk _ ⟨λ_=>d9 rfl rfl (.cons rfl .nil) vJ (iK (wU.pc (id:=2) (l:=a1) rfl p4) (.cons (.refl _) .nil)),λ_ _ _=>trivial⟩ ?_
 rintro _ _ ⟨v5,rfl,rfl⟩
 refine .mk λx6=>?_
 refine .mk ?_ ?_
 exact .mk (bK.aU (.cons (dH rfl rfl rfl rfl rfl (Eq.symm rfl)) (.cons (.refl _) (.cons (.refl _) .nil))))
 refine .mk (λx7 e7=>?_) rfl (by rintro _ rfl;exact (.cons (dH rfl rfl rfl rfl rfl (Eq.symm rfl)) (.cons (.refl _) .nil)))
 refine .mk λx8=>?_
 refine .mk ?_ ?_
 exact .mk (bK.aU (.cons (dH rfl rfl rfl rfl rfl (Eq.symm rfl)) (.cons (.refl _) (.cons (.refl _) .nil))))
 intro v9
 refine .mk ?_ ?_
 refine .mk ?_
 rintro ⟨y0_1,y0_2,y0_3,y0_4,y0_5⟩ _
 refine .mk ?_ ?_
 refine .mk λx10=>?_
 refine .mk ?_ ?_
 refine .mk λx11=>?_
 exact .mk
 exact .mk
 intro _ _
 refine .mk ?_ ?_
 refine .mk λp12=>?_
 refine .mk λx13 e13=>?_
 refine .mk _ (bE (jF rfl Tryz.underlying123 iO rfl rfl rfl rfl rfl p12 (List.length_map _) e13)) ?_
 refine .mk _ (bE (dV rfl iO rfl (.pt rfl rfl (cZ e13)) rfl)) ?_
 intro v14
 refine .mk λx15=>?_
 refine .mk ?_ ?_
 refine .mk ?_ ?_
 refine .mk ?_
 refine .mk λx16 e16=>?_
 refine .mk λx17 e17=>?_
 refine .mk ?_
 refine .mk λp18=>?_
 refine .mk _ (λH hH _=>jF rfl Tryz.underlying123 iO rfl rfl ((hH _ (by decide)).trans rfl) rfl rfl p18 (List.length_map _) e13) ?_
 refine .mk _ (λH hH _=>dK rfl CQ rfl (.pt ((hH _ (by decide)).trans rfl) rfl (cZ e13)) (.pt _ _ _ _ _)) ?_
 refine .mk _ (λH hH _=>dV rfl fC rfl (.pt ((hH _ (by decide)).trans rfl) rfl (cZ e13)) rfl) ?_
 refine .mk λx19=>?_
 refine .mk λp20=>?_
 refine .mk _ (λH hH _=>jF rfl Tryz.underlying123 iO rfl rfl ((hH _ (by decide)).trans rfl) rfl rfl p20 (List.length_map _) e13) ?_
 refine .mk _ (λH hH _=>dK rfl sI rfl (.pt ((hH _ (by decide)).trans rfl) rfl (cZ e13)) (.pt _ _ _ _ _)) ?_
 refine .mk _ (λH hH _=>dV rfl fC rfl (.pt ((hH _ (by decide)).trans rfl) rfl (cZ e13)) rfl) ?_
 refine .mk λx21=>?_
 refine .mk λp22=>?_
 refine .mk _ (λH hH _=>jF rfl Tryz.underlying123 iO rfl rfl ((hH _ (by decide)).trans rfl) rfl rfl p22 (List.length_map _) e13) ?_
 refine .mk _ (λH hH _=>dK rfl CU rfl (.pt ((hH _ (by decide)).trans rfl) rfl (cZ e13)) (.pt _ _ _ _ _)) ?_
 refine .mk _ (λH hH _=>dV rfl fC rfl (.pt ((hH _ (by decide)).trans rfl) rfl (cZ e13)) rfl) ?_
 refine .mk λx23=>?_
 refine .mk λp24=>?_
 refine .mk _ (λH hH _=>jF rfl Tryz.underlying123 iO rfl rfl ((hH _ (by decide)).trans rfl) rfl rfl p24 (List.length_map _) e13) ?_
 refine .mk _ (λH hH _=>dK rfl CQ rfl (.pt ((hH _ (by decide)).trans rfl) rfl (cZ e13)) (.pt _ _ _ _ _)) ?_
 refine .mk λx25 e25=>?_
 have fx25:=fP e13 e25;have lx25:=fH e25 (rfl:y0_4.length=y0_4.length)
 refine .mk _ ⟨λ_=>bQ.dM (eO (ob':=(⟨84,3,true,true,_,x25.map aB.av⟩:bC)) (dZ rfl fC rfl rfl rfl rfl rfl (cZ e13) rfl rfl rfl) (eU (iI e25))) (λ_ h=>h) (λ_ _=>trivial),by rintro _ _ ⟨rfl,rfl⟩;exact ⟨rfl,trivial⟩⟩ ?_
 rintro _ _ ⟨rfl,rfl⟩
 refine .mk λp26=>?_
 refine .mk _ (λH hH _=>jF rfl Tryz.underlying123 iO rfl rfl ((hH _ (by decide)).trans rfl) rfl rfl p26 (List.length_map _) fx25) ?_
 refine .mk _ (λH hH _=>dK rfl sI rfl (.pt ((hH _ (by decide)).trans rfl) rfl (cZ fx25)) (.pt _ _ _ _ _)) ?_
 refine .mk λx27 e27=>?_
 have fx27:=fP fx25 e27;have lx27:=fH e27 lx25
 refine .mk _ ⟨λ_=>bQ.dM (eO (ob':=(⟨84,3,true,true,_,x27.map aB.av⟩:bC)) (dZ rfl fC rfl rfl rfl rfl rfl (cZ fx25) rfl rfl rfl) (eU (iI e27))) (λ_ h=>h) (λ_ _=>trivial),by rintro _ _ ⟨rfl,rfl⟩;exact ⟨rfl,trivial⟩⟩ ?_
 rintro _ _ ⟨rfl,rfl⟩
 refine .mk λp28=>?_
 refine .mk _ (λH hH _=>jF rfl Tryz.underlying123 iO rfl rfl ((hH _ (by decide)).trans rfl) rfl rfl p28 (List.length_map _) fx27) ?_
 refine .mk _ (λH hH _=>dK rfl CU rfl (.pt ((hH _ (by decide)).trans rfl) rfl (cZ fx27)) (.pt _ _ _ _ _)) ?_
 refine .mk λx29 e29=>?_
 have fx29:=fP fx27 e29;have lx29:=fH e29 lx27
 refine .mk _ ⟨λ_=>bQ.dM (eO (ob':=(⟨84,3,true,true,_,x29.map aB.av⟩:bC)) (dZ rfl fC rfl rfl rfl rfl rfl (cZ fx27) rfl rfl rfl) (eU (iI e29))) (λ_ h=>h) (λ_ _=>trivial),by rintro _ _ ⟨rfl,rfl⟩;exact trivial⟩ ?_
 rintro _ _ ⟨rfl,rfl⟩
 exact .mk
 refine .mk λp30=>?_
 refine .mk λx31 e31=>?_
 refine .mk _ (bE (VX (len:=y0_2) (i:=1) (j:=(Int.toNat (y0_2:Int))) rfl Tryz.underlying123 iO rfl rfl rfl rfl (.yes rfl (by first | omega | (dsimp only;omega) | (dsimp only at *;omega))) (.yes rfl (by first | omega | (dsimp only;omega) | (dsimp only at *;omega))) (.yes rfl (by first | omega | (dsimp only;omega) | (dsimp only at *;omega))) (by first | omega | (dsimp only;omega) | (dsimp only at *;omega)) (by first | omega | (dsimp only;omega) | (dsimp only at *;omega)) e31)) ?_
 exact .mk
 intro _ _
 refine .mk ?_
 refine .mk λx32=>?_
 refine .mk λx33=>?_
 refine .mk λx34=>?_
 refine .mk λx35=>?_
 exact .mk
 exact .mk
 rintro ⟨y3_1,y3_2,y3_3,y3_4⟩ _
 refine .mk ?_
 refine .mk λp36=>?_
 exact .mk (bK.aU (.cons (DK (l:=y3_3) rfl rfl rfl rfl (fD.refl _) (by first | omega | (simp only [List.length_set];omega)) rfl) (.cons (.refl _) (.cons (.refl _) .nil))))
def aEG (n:Nat) (a1:List aB) (a2:Int):WB ((List aB)×aB×Int) :=
 .al 1<|.inl 7 AB Tryz.func279 [1] [] (λ_ (a:Unit)=>.agg [.fn (.func 272) [] [],.fn (.func 273) [] [],.fn (.func 163) [] []]) (λ_ _=>[]) (.al 2<|.ret ()) (λ_=>.cl 11 (IU n a1 a2) II QB λx5=>.ret ((x5.1:List aB),x5.2.1,x5.2.2))
def I1 (n:Nat) (a1:List aB) (a2:Int):Option ((List aB)×aB×Int):=(aEG n a1 a2).run
theorem R7 {n a1 a2}:PZ (I1 n a1 a2) 278 [aD 3 aB.av a1,int a2] (λr=>.aU [aD 3 aB.av r.1,.agg (aB.av r.2.1),int r.2.2]):=wq Tryz.func278
def aE2 (a1:Int):WB (Bool) :=
 .jn 1 [] [] [] (λ_ (a:Bool)=>[(2,aF a)]) (λ_ _=>[]) (.bB 4 (decide (a1>=0)) λx2=>.ifs [4] x2 (.bB 7 (decide (a1<3)) λx3=>.ret x3) (.ret false)) (λy0_1=>.ret ((y0_1:Bool)))
def EK (a1:Int):Option (Bool):=(aE2 a1).run
theorem UC {a1}:PZ (EK a1) 179 [int a1] aF:=wq Tryz.func179
def aFO (n:Nat) (a1:aM):WB (Int) :=
 .al 1<|.ln 10 aB.av a1.cO<|.jn 0 [1,2] [1] [] (λ_ (a:Int)=>[(3,int a)]) (λ_ _=>[]) (.lp [1,2,9,10] [1] [] (λ_ (a:Int×Int)=>[(3,int a.1),(11,int a.2)]) (λ_ _=>[]) n ((0:Int),0) (pw λy0_1 y0_2=>.bB 12 (decide (y0_2<(a1.cO.length:Int))) λx3=>.ifs [12] x3 (.ix 13 aB.av a1.cO y0_2 λx4=>.al 2<|.bI 18 (aI (y0_1+x4.aQ)) λx6=>.bI 19 (aI (y0_2+1)) λx7=>.brk ((x6:Int),x7)) (.esc (.ret y0_1)))) (λy1_1=>.jn 1 [2] [] [] (λ_ (a:Int)=>[(3,int a)]) (λ_ _=>[]) (.lp [2,21] [] [] (λ_ (a:Int×Int)=>[(3,int a.1),(22,int a.2)]) (λ_ _=>[]) n ((y1_1:Int),0) (pw λy2_1 y2_2=>.bB 23 (decide (y2_2<3)) λx8=>.ifs [23] x8 (.bo (ix ([a1.bF.a0,a1.bF.a1,a1.bF.a2]:List Int) y2_2) λx9=>.gv 24<|.bI 27 (aI (y2_1-x9)) λx10=>.bI 28 (aI (y2_2+1)) λx11=>.brk ((x10:Int),x11)) (.esc (.ret y2_1)))) (λy3_1=>.ret ((y3_1:Int))))
def AN (n:Nat) (a1:aM):Option (Int):=(aFO n a1).run
theorem IN {n a1}:PZ (AN n a1) 221 [.agg (aM.av a1)] int:=by
 refine wm Tryz.func221 ?_
 intro v2
 refine .mk ?_
 refine .mk ?_ ?_
 refine .mk ?_
 intro _ _
 refine .mk λx3=>?_
 refine .mk ?_ ?_
 refine .mk λx4 e4=>?_
 intro v5
 refine .mk λx6=>?_
 refine .mk λx7=>?_
 exact .mk
 exact .mk
 intro _ _
 refine .mk ?_ ?_
 refine .mk ?_
 intro _ _
 refine .mk λx8=>?_
 refine .mk ?_ ?_
 refine .mk λx9 e9=>?_
 refine .mk _ (bE (uR (g:=fI) (l:=([a1.bF.a0,a1.bF.a1,a1.bF.a2]:List Int)) (v:=x9) (w:=int x9) rfl Tryz.underlying124 fC rfl rfl rfl e9 (λ_=>rfl) hw1)) ?_
 refine .mk λx10=>?_
 refine .mk λx11=>?_
 exact .mk
 exact .mk
 intro _ _
 exact .mk
end
end Go.Pv
