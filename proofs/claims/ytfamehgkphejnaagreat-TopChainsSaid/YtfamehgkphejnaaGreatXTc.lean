import Derived.Test.YtfamehgkphejnaaGreatXTb
set_option linter.unusedVariables false
set_option linter.unusedSimpArgs false
namespace Go.Pv
open Go.Proofs
set_option maxRecDepth 100000
set_option maxHeartbeats 4000000
noncomputable section
def aIQ (a1:aA) (a2:Int) (a3:Int) (a4:bM):WB (aA×Int) :=
 .al 1<|.al 2<|.al 3<|.cl 21 (zC a1 a2 a3) I8 IS λx8=>.bB 22 (!x8) λx9=>.ifs [22] x9 (.ret ((a1:aA),4)) (.gI 27 aP.av gE aP.bW a1.aW a2 λx10=>.ix 31 bM.av x10.dI a3 λx11=>.al 4<|.inl 34 aAF Tryz.func89 [1,2,3,4] [] (λ_ (a:Unit)=>aD 1 fI ([a4.Open,a4.jC,a4.iV,a4.iW,a4.iQ,a4.jA,a4.iY,a4.iU,a4.iT,a4.iZ,a4.jD]:List Int)) (λ_ _=>[]) (.al 5<|.to 25 (aD 1 fI ([a4.Open,a4.jC,a4.iV,a4.iW,a4.iQ,a4.jA,a4.iY,a4.iU,a4.iT,a4.iZ,a4.jD]:List Int))<|.ret ()) (λ_=>.dF 0 [1,2,4,8,9,10] [1,3] [] (λ_ (a:bM)=>[]) (λ_ a=>[.kp 4 [[int a.Open,int a.jC,int a.iV,int a.iW,int a.iQ,int a.jA,int a.iY,int a.iU,int a.iT,int a.iZ,int a.jD]]]) (.un 24 (.kB 37 true<|.ix 39 fI ([a4.Open,a4.jC,a4.iV,a4.iW,a4.iQ,a4.jA,a4.iY,a4.iU,a4.iT,a4.iZ,a4.jD]:List Int) 0 λx14=>.inl 41 P4 Tryz.func90 [1,2,3,4] [] (λu51 (a:Unit)=>.list 1 [[.pt 4 (u51 4) 0 0],[.pt 4 (u51 4) 0 1],[.pt 4 (u51 4) 0 2],[.pt 4 (u51 4) 0 3],[.pt 4 (u51 4) 0 4],[.pt 4 (u51 4) 0 5],[.pt 4 (u51 4) 0 6],[.pt 4 (u51 4) 0 7],[.pt 4 (u51 4) 0 8],[.pt 4 (u51 4) 0 9],[.pt 4 (u51 4) 0 10]]) (λ_ _=>[]) (.dr [(1,[4]),(2,[4]),(4,[4]),(5,[4]),(7,[4]),(8,[4]),(10,[4]),(11,[4]),(13,[4]),(14,[4]),(16,[4]),(17,[4]),(19,[4]),(20,[4]),(22,[4]),(23,[4]),(25,[4]),(26,[4]),(28,[4]),(29,[4]),(31,[4]),(32,[4])] [] [4] [] [0,1,2,3,4,5,6,7,8,9,10,11,12,13,14,15,16,17,18,19,20,21,22,23,24,25,26,27,28,29,30,31,32,33,34] (.gv 36<|.ret ())) (λ_=>.gv 43<|.cl 50 (kG x11.Open x14) aJL kJ λx15=>.bB 54 (decide (x15.2≠0)) λx16=>.ifs [54] x16 (.esc (.ret ((a1:aA),x15.2))) (.kI 60 1<|.kB 37 true<|.ix 39 fI ([a4.Open,a4.jC,a4.iV,a4.iW,a4.iQ,a4.jA,a4.iY,a4.iU,a4.iT,a4.iZ,a4.jD]:List Int) 1 λx17=>.inl 41 P4 Tryz.func90 [1,2,3,4] [] (λu55 (a:Unit)=>.list 1 [[.pt 4 (u55 4) 0 0],[.pt 4 (u55 4) 0 1],[.pt 4 (u55 4) 0 2],[.pt 4 (u55 4) 0 3],[.pt 4 (u55 4) 0 4],[.pt 4 (u55 4) 0 5],[.pt 4 (u55 4) 0 6],[.pt 4 (u55 4) 0 7],[.pt 4 (u55 4) 0 8],[.pt 4 (u55 4) 0 9],[.pt 4 (u55 4) 0 10]]) (λ_ _=>[]) (.dr [(1,[4]),(2,[4]),(4,[4]),(5,[4]),(7,[4]),(8,[4]),(10,[4]),(11,[4]),(13,[4]),(14,[4]),(16,[4]),(17,[4]),(19,[4]),(20,[4]),(22,[4]),(23,[4]),(25,[4]),(26,[4]),(28,[4]),(29,[4]),(31,[4]),(32,[4])] [] [4] [] [0,1,2,3,4,5,6,7,8,9,10,11,12,13,14,15,16,17,18,19,20,21,22,23,24,25,26,27,28,29,30,31,32,33,34] (.gv 36<|.ret ())) (λ_=>.gv 43<|.cl 50 (kG x11.jC x17) aJL kJ λx18=>.bB 54 (decide (x18.2≠0)) λx19=>.ifs [54] x19 (.esc (.ret ((a1:aA),x18.2))) (.kI 60 2<|.kB 37 true<|.ix 39 fI ([a4.Open,a4.jC,a4.iV,a4.iW,a4.iQ,a4.jA,a4.iY,a4.iU,a4.iT,a4.iZ,a4.jD]:List Int) 2 λx20=>.inl 41 P4 Tryz.func90 [1,2,3,4] [] (λu59 (a:Unit)=>.list 1 [[.pt 4 (u59 4) 0 0],[.pt 4 (u59 4) 0 1],[.pt 4 (u59 4) 0 2],[.pt 4 (u59 4) 0 3],[.pt 4 (u59 4) 0 4],[.pt 4 (u59 4) 0 5],[.pt 4 (u59 4) 0 6],[.pt 4 (u59 4) 0 7],[.pt 4 (u59 4) 0 8],[.pt 4 (u59 4) 0 9],[.pt 4 (u59 4) 0 10]]) (λ_ _=>[]) (.dr [(1,[4]),(2,[4]),(4,[4]),(5,[4]),(7,[4]),(8,[4]),(10,[4]),(11,[4]),(13,[4]),(14,[4]),(16,[4]),(17,[4]),(19,[4]),(20,[4]),(22,[4]),(23,[4]),(25,[4]),(26,[4]),(28,[4]),(29,[4]),(31,[4]),(32,[4])] [] [4] [] [0,1,2,3,4,5,6,7,8,9,10,11,12,13,14,15,16,17,18,19,20,21,22,23,24,25,26,27,28,29,30,31,32,33,34] (.gv 36<|.ret ())) (λ_=>.gv 43<|.cl 50 (kG x11.iV x20) aJL kJ λx21=>.bB 54 (decide (x21.2≠0)) λx22=>.ifs [54] x22 (.esc (.ret ((a1:aA),x21.2))) (.kI 60 3<|.kB 37 true<|.ix 39 fI ([a4.Open,a4.jC,a4.iV,a4.iW,a4.iQ,a4.jA,a4.iY,a4.iU,a4.iT,a4.iZ,a4.jD]:List Int) 3 λx23=>.inl 41 P4 Tryz.func90 [1,2,3,4] [] (λu63 (a:Unit)=>.list 1 [[.pt 4 (u63 4) 0 0],[.pt 4 (u63 4) 0 1],[.pt 4 (u63 4) 0 2],[.pt 4 (u63 4) 0 3],[.pt 4 (u63 4) 0 4],[.pt 4 (u63 4) 0 5],[.pt 4 (u63 4) 0 6],[.pt 4 (u63 4) 0 7],[.pt 4 (u63 4) 0 8],[.pt 4 (u63 4) 0 9],[.pt 4 (u63 4) 0 10]]) (λ_ _=>[]) (.dr [(1,[4]),(2,[4]),(4,[4]),(5,[4]),(7,[4]),(8,[4]),(10,[4]),(11,[4]),(13,[4]),(14,[4]),(16,[4]),(17,[4]),(19,[4]),(20,[4]),(22,[4]),(23,[4]),(25,[4]),(26,[4]),(28,[4]),(29,[4]),(31,[4]),(32,[4])] [] [4] [] [0,1,2,3,4,5,6,7,8,9,10,11,12,13,14,15,16,17,18,19,20,21,22,23,24,25,26,27,28,29,30,31,32,33,34] (.gv 36<|.ret ())) (λ_=>.gv 43<|.cl 50 (kG x11.iW x23) aJL kJ λx24=>.bB 54 (decide (x24.2≠0)) λx25=>.ifs [54] x25 (.esc (.ret ((a1:aA),x24.2))) (.kI 60 4<|.kB 37 true<|.ix 39 fI ([a4.Open,a4.jC,a4.iV,a4.iW,a4.iQ,a4.jA,a4.iY,a4.iU,a4.iT,a4.iZ,a4.jD]:List Int) 4 λx26=>.inl 41 P4 Tryz.func90 [1,2,3,4] [] (λu67 (a:Unit)=>.list 1 [[.pt 4 (u67 4) 0 0],[.pt 4 (u67 4) 0 1],[.pt 4 (u67 4) 0 2],[.pt 4 (u67 4) 0 3],[.pt 4 (u67 4) 0 4],[.pt 4 (u67 4) 0 5],[.pt 4 (u67 4) 0 6],[.pt 4 (u67 4) 0 7],[.pt 4 (u67 4) 0 8],[.pt 4 (u67 4) 0 9],[.pt 4 (u67 4) 0 10]]) (λ_ _=>[]) (.dr [(1,[4]),(2,[4]),(4,[4]),(5,[4]),(7,[4]),(8,[4]),(10,[4]),(11,[4]),(13,[4]),(14,[4]),(16,[4]),(17,[4]),(19,[4]),(20,[4]),(22,[4]),(23,[4]),(25,[4]),(26,[4]),(28,[4]),(29,[4]),(31,[4]),(32,[4])] [] [4] [] [0,1,2,3,4,5,6,7,8,9,10,11,12,13,14,15,16,17,18,19,20,21,22,23,24,25,26,27,28,29,30,31,32,33,34] (.gv 36<|.ret ())) (λ_=>.gv 43<|.cl 50 (kG x11.iQ x26) aJL kJ λx27=>.bB 54 (decide (x27.2≠0)) λx28=>.ifs [54] x28 (.esc (.ret ((a1:aA),x27.2))) (.kI 60 5<|.kB 37 true<|.ix 39 fI ([a4.Open,a4.jC,a4.iV,a4.iW,a4.iQ,a4.jA,a4.iY,a4.iU,a4.iT,a4.iZ,a4.jD]:List Int) 5 λx29=>.inl 41 P4 Tryz.func90 [1,2,3,4] [] (λu71 (a:Unit)=>.list 1 [[.pt 4 (u71 4) 0 0],[.pt 4 (u71 4) 0 1],[.pt 4 (u71 4) 0 2],[.pt 4 (u71 4) 0 3],[.pt 4 (u71 4) 0 4],[.pt 4 (u71 4) 0 5],[.pt 4 (u71 4) 0 6],[.pt 4 (u71 4) 0 7],[.pt 4 (u71 4) 0 8],[.pt 4 (u71 4) 0 9],[.pt 4 (u71 4) 0 10]]) (λ_ _=>[]) (.dr [(1,[4]),(2,[4]),(4,[4]),(5,[4]),(7,[4]),(8,[4]),(10,[4]),(11,[4]),(13,[4]),(14,[4]),(16,[4]),(17,[4]),(19,[4]),(20,[4]),(22,[4]),(23,[4]),(25,[4]),(26,[4]),(28,[4]),(29,[4]),(31,[4]),(32,[4])] [] [4] [] [0,1,2,3,4,5,6,7,8,9,10,11,12,13,14,15,16,17,18,19,20,21,22,23,24,25,26,27,28,29,30,31,32,33,34] (.gv 36<|.ret ())) (λ_=>.gv 43<|.cl 50 (kG x11.jA x29) aJL kJ λx30=>.bB 54 (decide (x30.2≠0)) λx31=>.ifs [54] x31 (.esc (.ret ((a1:aA),x30.2))) (.kI 60 6<|.kB 37 true<|.ix 39 fI ([a4.Open,a4.jC,a4.iV,a4.iW,a4.iQ,a4.jA,a4.iY,a4.iU,a4.iT,a4.iZ,a4.jD]:List Int) 6 λx32=>.inl 41 P4 Tryz.func90 [1,2,3,4] [] (λu75 (a:Unit)=>.list 1 [[.pt 4 (u75 4) 0 0],[.pt 4 (u75 4) 0 1],[.pt 4 (u75 4) 0 2],[.pt 4 (u75 4) 0 3],[.pt 4 (u75 4) 0 4],[.pt 4 (u75 4) 0 5],[.pt 4 (u75 4) 0 6],[.pt 4 (u75 4) 0 7],[.pt 4 (u75 4) 0 8],[.pt 4 (u75 4) 0 9],[.pt 4 (u75 4) 0 10]]) (λ_ _=>[]) (.dr [(1,[4]),(2,[4]),(4,[4]),(5,[4]),(7,[4]),(8,[4]),(10,[4]),(11,[4]),(13,[4]),(14,[4]),(16,[4]),(17,[4]),(19,[4]),(20,[4]),(22,[4]),(23,[4]),(25,[4]),(26,[4]),(28,[4]),(29,[4]),(31,[4]),(32,[4])] [] [4] [] [0,1,2,3,4,5,6,7,8,9,10,11,12,13,14,15,16,17,18,19,20,21,22,23,24,25,26,27,28,29,30,31,32,33,34] (.gv 36<|.ret ())) (λ_=>.gv 43<|.cl 50 (kG x11.iY x32) aJL kJ λx33=>.bB 54 (decide (x33.2≠0)) λx34=>.ifs [54] x34 (.esc (.ret ((a1:aA),x33.2))) (.kI 60 7<|.kB 37 true<|.ix 39 fI ([a4.Open,a4.jC,a4.iV,a4.iW,a4.iQ,a4.jA,a4.iY,a4.iU,a4.iT,a4.iZ,a4.jD]:List Int) 7 λx35=>.inl 41 P4 Tryz.func90 [1,2,3,4] [] (λu79 (a:Unit)=>.list 1 [[.pt 4 (u79 4) 0 0],[.pt 4 (u79 4) 0 1],[.pt 4 (u79 4) 0 2],[.pt 4 (u79 4) 0 3],[.pt 4 (u79 4) 0 4],[.pt 4 (u79 4) 0 5],[.pt 4 (u79 4) 0 6],[.pt 4 (u79 4) 0 7],[.pt 4 (u79 4) 0 8],[.pt 4 (u79 4) 0 9],[.pt 4 (u79 4) 0 10]]) (λ_ _=>[]) (.dr [(1,[4]),(2,[4]),(4,[4]),(5,[4]),(7,[4]),(8,[4]),(10,[4]),(11,[4]),(13,[4]),(14,[4]),(16,[4]),(17,[4]),(19,[4]),(20,[4]),(22,[4]),(23,[4]),(25,[4]),(26,[4]),(28,[4]),(29,[4]),(31,[4]),(32,[4])] [] [4] [] [0,1,2,3,4,5,6,7,8,9,10,11,12,13,14,15,16,17,18,19,20,21,22,23,24,25,26,27,28,29,30,31,32,33,34] (.gv 36<|.ret ())) (λ_=>.gv 43<|.cl 50 (kG x11.iU x35) aJL kJ λx36=>.bB 54 (decide (x36.2≠0)) λx37=>.ifs [54] x37 (.esc (.ret ((a1:aA),x36.2))) (.kI 60 8<|.kB 37 true<|.ix 39 fI ([a4.Open,a4.jC,a4.iV,a4.iW,a4.iQ,a4.jA,a4.iY,a4.iU,a4.iT,a4.iZ,a4.jD]:List Int) 8 λx38=>.inl 41 P4 Tryz.func90 [1,2,3,4] [] (λu83 (a:Unit)=>.list 1 [[.pt 4 (u83 4) 0 0],[.pt 4 (u83 4) 0 1],[.pt 4 (u83 4) 0 2],[.pt 4 (u83 4) 0 3],[.pt 4 (u83 4) 0 4],[.pt 4 (u83 4) 0 5],[.pt 4 (u83 4) 0 6],[.pt 4 (u83 4) 0 7],[.pt 4 (u83 4) 0 8],[.pt 4 (u83 4) 0 9],[.pt 4 (u83 4) 0 10]]) (λ_ _=>[]) (.dr [(1,[4]),(2,[4]),(4,[4]),(5,[4]),(7,[4]),(8,[4]),(10,[4]),(11,[4]),(13,[4]),(14,[4]),(16,[4]),(17,[4]),(19,[4]),(20,[4]),(22,[4]),(23,[4]),(25,[4]),(26,[4]),(28,[4]),(29,[4]),(31,[4]),(32,[4])] [] [4] [] [0,1,2,3,4,5,6,7,8,9,10,11,12,13,14,15,16,17,18,19,20,21,22,23,24,25,26,27,28,29,30,31,32,33,34] (.gv 36<|.ret ())) (λ_=>.gv 43<|.cl 50 (kG x11.iT x38) aJL kJ λx39=>.bB 54 (decide (x39.2≠0)) λx40=>.ifs [54] x40 (.esc (.ret ((a1:aA),x39.2))) (.kI 60 9<|.kB 37 true<|.ix 39 fI ([a4.Open,a4.jC,a4.iV,a4.iW,a4.iQ,a4.jA,a4.iY,a4.iU,a4.iT,a4.iZ,a4.jD]:List Int) 9 λx41=>.inl 41 P4 Tryz.func90 [1,2,3,4] [] (λu87 (a:Unit)=>.list 1 [[.pt 4 (u87 4) 0 0],[.pt 4 (u87 4) 0 1],[.pt 4 (u87 4) 0 2],[.pt 4 (u87 4) 0 3],[.pt 4 (u87 4) 0 4],[.pt 4 (u87 4) 0 5],[.pt 4 (u87 4) 0 6],[.pt 4 (u87 4) 0 7],[.pt 4 (u87 4) 0 8],[.pt 4 (u87 4) 0 9],[.pt 4 (u87 4) 0 10]]) (λ_ _=>[]) (.dr [(1,[4]),(2,[4]),(4,[4]),(5,[4]),(7,[4]),(8,[4]),(10,[4]),(11,[4]),(13,[4]),(14,[4]),(16,[4]),(17,[4]),(19,[4]),(20,[4]),(22,[4]),(23,[4]),(25,[4]),(26,[4]),(28,[4]),(29,[4]),(31,[4]),(32,[4])] [] [4] [] [0,1,2,3,4,5,6,7,8,9,10,11,12,13,14,15,16,17,18,19,20,21,22,23,24,25,26,27,28,29,30,31,32,33,34] (.gv 36<|.ret ())) (λ_=>.gv 43<|.cl 50 (kG x11.iZ x41) aJL kJ λx42=>.bB 54 (decide (x42.2≠0)) λx43=>.ifs [54] x43 (.esc (.ret ((a1:aA),x42.2))) (.kI 60 10<|.kB 37 true<|.ix 39 fI ([a4.Open,a4.jC,a4.iV,a4.iW,a4.iQ,a4.jA,a4.iY,a4.iU,a4.iT,a4.iZ,a4.jD]:List Int) 10 λx44=>.inl 41 P4 Tryz.func90 [1,2,3,4] [] (λu91 (a:Unit)=>.list 1 [[.pt 4 (u91 4) 0 0],[.pt 4 (u91 4) 0 1],[.pt 4 (u91 4) 0 2],[.pt 4 (u91 4) 0 3],[.pt 4 (u91 4) 0 4],[.pt 4 (u91 4) 0 5],[.pt 4 (u91 4) 0 6],[.pt 4 (u91 4) 0 7],[.pt 4 (u91 4) 0 8],[.pt 4 (u91 4) 0 9],[.pt 4 (u91 4) 0 10]]) (λ_ _=>[]) (.dr [(1,[4]),(2,[4]),(4,[4]),(5,[4]),(7,[4]),(8,[4]),(10,[4]),(11,[4]),(13,[4]),(14,[4]),(16,[4]),(17,[4]),(19,[4]),(20,[4]),(22,[4]),(23,[4]),(25,[4]),(26,[4]),(28,[4]),(29,[4]),(31,[4]),(32,[4])] [] [4] [] [0,1,2,3,4,5,6,7,8,9,10,11,12,13,14,15,16,17,18,19,20,21,22,23,24,25,26,27,28,29,30,31,32,33,34] (.gv 36<|.ret ())) (λ_=>.gv 43<|.cl 50 (kG x11.jD x44) aJL kJ λx45=>.bB 54 (decide (x45.2≠0)) λx46=>.ifs [54] x46 (.esc (.ret ((a1:aA),x45.2))) (.kI 60 11<|.kB 37 false<|.brk ((⟨x15.1,x18.1,x21.1,x24.1,x27.1,x30.1,x33.1,x36.1,x39.1,x42.1,x45.1⟩:bM):bM))))))))))))))))))))))))) (λy2_1=>.al 6<|.inl 64 JA Tryz.func87 [1,3,4] [7] (λu93 (a:Unit)=>.pt 7 (u93 7) (Int.toNat a2) 0) (λu93 _=>[.kp 6 [[int a1.bA.eH,int a1.bA.aQA,aD 1 fI a1.bA.cB,aD 1 (fL 1 fI) a1.bA.Methods,aD 1 (fL 1 fI) a1.bA.dN,.sl 7 (u93 7) 0 a1.aW.length,aD 8 bH.av a1.bP,aD 9 bS.av a1.bU,aD 6 dB.av a1.bY,int a1.Done]],.nw 7 45 8 (a1.aW.map aP.av)]) (.as (a1.aW.length<=68719476736) inferInstance<|.ge 11 7<|.bo (ix a1.aW a2) λx50=>.gv 21<|.ret ()) (λ_=>.bo (ix a1.aW a2) λx51=>.gv 67<|.gv 68<|.gv 69<|.as (x51.dI.length<=68719476736) inferInstance<|.ge 70 8<|.gv 71<|.gv 72<|.ge 1015008 0<|.dr [(1,[7]),(2,[7]),(3,[7]),(5,[4]),(6,[8])] [(7,[])] [4,7,8] [7] [0,1,2,3,4,5,6,7] (.gv 74<|.gv 75<|.gv 76<|.bo (ix x51.dI a3) λx54=>.gv 79<|.bl (x51.dI.set (Int.toNat a3) y2_1:List bM) λx55=>.ge 1016007 0<|.ret (((⟨a1.bA,(a1.aW.set (Int.toNat a2) (⟨x51.Now,x51.Closed,x51.dD,x51.dU,x55,x51.dO,x51.Down,x51.eT⟩:aP)),a1.bP,a1.bU,a1.bY,a1.Done⟩:aA):aA),0))))))
def qD (a1:aA) (a2:Int) (a3:Int) (a4:bM):Option (aA×Int):=(aIQ a1 a2 a3 a4).run
theorem sO {a1 a2 a3 a4}:PZ (qD a1 a2 a3 a4) 52 [.agg (aA.av a1),int a2,int a3,.agg (bM.av a4)] (λr=>.aU [.agg (aA.av r.1),int r.2]):=by
 refine wm Tryz.func52 ?_
 intro v5
 intro v6
 intro v7
 refine .mk λx8 e8=>?_
 refine .mk λx9=>?_
 refine .mk .mk ?_
 refine .mk λx10 e10=>?_
 refine .mk λx11 e11=>?_
 intro v12
 refine .mk ?_ ?_
 intro v13
 refine .mk (bE (bX (y:=aD 1 fI ([a4.Open,a4.jC,a4.iV,a4.iW,a4.iQ,a4.jA,a4.iY,a4.iU,a4.iT,a4.iZ,a4.jD]:List Int)) (dQ (ps:=[(0,_),(1,_),(2,_),(3,_),(4,_),(5,_),(6,_),(7,_),(8,_),(9,_),(10,_)]) (rows:=[[int a4.Open],[int a4.jC],[int a4.iV],[int a4.iW],[int a4.iQ],[int a4.jA],[int a4.iY],[int a4.iU],[int a4.iT],[int a4.iZ],[int a4.jD]]) rfl Tryz.underlying22 fT (.cons rfl (.cons rfl (.cons rfl (.cons rfl (.cons rfl (.cons rfl (.cons rfl (.cons rfl (.cons rfl (.cons rfl (.cons rfl .nil))))))))))) (by kernel_rfl) rfl rfl rfl) rfl)) ?_
 exact .mk
 intro _ _
 refine .mk trivial ?_
 refine .mk ?_ ?_
 refine .mk ?_
 refine .mk λx14 e14=>?_
 refine .mk ?_ ?_
 refine .mk ?_
 refine .mk _ (λH hH _=>dQ (ps:=[(0,_),(1,_),(2,_),(3,_),(4,_),(5,_),(6,_),(7,_),(8,_),(9,_),(10,_)]) (rows:=[[.pt 4 v12 0 0],[.pt 4 v12 0 1],[.pt 4 v12 0 2],[.pt 4 v12 0 3],[.pt 4 v12 0 4],[.pt 4 v12 0 5],[.pt 4 v12 0 6],[.pt 4 v12 0 7],[.pt 4 v12 0 8],[.pt 4 v12 0 9],[.pt 4 v12 0 10]]) rfl Tryz.underlying159 a0G (.cons rfl (.cons rfl (.cons rfl (.cons rfl (.cons rfl (.cons rfl (.cons rfl (.cons rfl (.cons rfl (.cons rfl (.cons rfl .nil))))))))))) (by kernel_rfl) rfl rfl rfl) ?_
 exact .mk
 intro _ _
 refine .mk trivial ?_
 refine .mk _ (bE (iM (j:=0) rfl Tryz.underlying159 a1M rfl rfl rfl (.list rfl))) ?_
 refine .mk λx15 e15=>?_
 refine .mk λx16=>?_
 refine .mk .mk ?_
 refine .mk ?_
 refine .mk ?_
 refine .mk λx17 e17=>?_
 refine .mk ?_ ?_
 refine .mk ?_
 refine .mk _ (λH hH _=>dQ (ps:=[(0,_),(1,_),(2,_),(3,_),(4,_),(5,_),(6,_),(7,_),(8,_),(9,_),(10,_)]) (rows:=[[.pt 4 v12 0 0],[.pt 4 v12 0 1],[.pt 4 v12 0 2],[.pt 4 v12 0 3],[.pt 4 v12 0 4],[.pt 4 v12 0 5],[.pt 4 v12 0 6],[.pt 4 v12 0 7],[.pt 4 v12 0 8],[.pt 4 v12 0 9],[.pt 4 v12 0 10]]) rfl Tryz.underlying159 a0G (.cons rfl (.cons rfl (.cons rfl (.cons rfl (.cons rfl (.cons rfl (.cons rfl (.cons rfl (.cons rfl (.cons rfl (.cons rfl .nil))))))))))) (by kernel_rfl) rfl rfl rfl) ?_
 exact .mk
 intro _ _
 refine .mk trivial ?_
 refine .mk _ (bE (iM (j:=1) rfl Tryz.underlying159 a1M rfl rfl rfl (.list rfl))) ?_
 refine .mk λx18 e18=>?_
 refine .mk λx19=>?_
 refine .mk .mk ?_
 refine .mk ?_
 refine .mk ?_
 refine .mk λx20 e20=>?_
 refine .mk ?_ ?_
 refine .mk ?_
 refine .mk _ (λH hH _=>dQ (ps:=[(0,_),(1,_),(2,_),(3,_),(4,_),(5,_),(6,_),(7,_),(8,_),(9,_),(10,_)]) (rows:=[[.pt 4 v12 0 0],[.pt 4 v12 0 1],[.pt 4 v12 0 2],[.pt 4 v12 0 3],[.pt 4 v12 0 4],[.pt 4 v12 0 5],[.pt 4 v12 0 6],[.pt 4 v12 0 7],[.pt 4 v12 0 8],[.pt 4 v12 0 9],[.pt 4 v12 0 10]]) rfl Tryz.underlying159 a0G (.cons rfl (.cons rfl (.cons rfl (.cons rfl (.cons rfl (.cons rfl (.cons rfl (.cons rfl (.cons rfl (.cons rfl (.cons rfl .nil))))))))))) (by kernel_rfl) rfl rfl rfl) ?_
 exact .mk
 intro _ _
 refine .mk trivial ?_
 refine .mk _ (bE (iM (j:=2) rfl Tryz.underlying159 a1M rfl rfl rfl (.list rfl))) ?_
 refine .mk λx21 e21=>?_
 refine .mk λx22=>?_
 refine .mk .mk ?_
 refine .mk ?_
 refine .mk ?_
 refine .mk λx23 e23=>?_
 refine .mk ?_ ?_
 refine .mk ?_
 refine .mk _ (λH hH _=>dQ (ps:=[(0,_),(1,_),(2,_),(3,_),(4,_),(5,_),(6,_),(7,_),(8,_),(9,_),(10,_)]) (rows:=[[.pt 4 v12 0 0],[.pt 4 v12 0 1],[.pt 4 v12 0 2],[.pt 4 v12 0 3],[.pt 4 v12 0 4],[.pt 4 v12 0 5],[.pt 4 v12 0 6],[.pt 4 v12 0 7],[.pt 4 v12 0 8],[.pt 4 v12 0 9],[.pt 4 v12 0 10]]) rfl Tryz.underlying159 a0G (.cons rfl (.cons rfl (.cons rfl (.cons rfl (.cons rfl (.cons rfl (.cons rfl (.cons rfl (.cons rfl (.cons rfl (.cons rfl .nil))))))))))) (by kernel_rfl) rfl rfl rfl) ?_
 exact .mk
 intro _ _
 refine .mk trivial ?_
 refine .mk _ (bE (iM (j:=3) rfl Tryz.underlying159 a1M rfl rfl rfl (.list rfl))) ?_
 refine .mk λx24 e24=>?_
 refine .mk λx25=>?_
 refine .mk .mk ?_
 refine .mk ?_
 refine .mk ?_
 refine .mk λx26 e26=>?_
 refine .mk ?_ ?_
 refine .mk ?_
 refine .mk _ (λH hH _=>dQ (ps:=[(0,_),(1,_),(2,_),(3,_),(4,_),(5,_),(6,_),(7,_),(8,_),(9,_),(10,_)]) (rows:=[[.pt 4 v12 0 0],[.pt 4 v12 0 1],[.pt 4 v12 0 2],[.pt 4 v12 0 3],[.pt 4 v12 0 4],[.pt 4 v12 0 5],[.pt 4 v12 0 6],[.pt 4 v12 0 7],[.pt 4 v12 0 8],[.pt 4 v12 0 9],[.pt 4 v12 0 10]]) rfl Tryz.underlying159 a0G (.cons rfl (.cons rfl (.cons rfl (.cons rfl (.cons rfl (.cons rfl (.cons rfl (.cons rfl (.cons rfl (.cons rfl (.cons rfl .nil))))))))))) (by kernel_rfl) rfl rfl rfl) ?_
 exact .mk
 intro _ _
 refine .mk trivial ?_
 refine .mk _ (bE (iM (j:=4) rfl Tryz.underlying159 a1M rfl rfl rfl (.list rfl))) ?_
 refine .mk λx27 e27=>?_
 refine .mk λx28=>?_
 refine .mk .mk ?_
 refine .mk ?_
 refine .mk ?_
 refine .mk λx29 e29=>?_
 refine .mk ?_ ?_
 refine .mk ?_
 refine .mk _ (λH hH _=>dQ (ps:=[(0,_),(1,_),(2,_),(3,_),(4,_),(5,_),(6,_),(7,_),(8,_),(9,_),(10,_)]) (rows:=[[.pt 4 v12 0 0],[.pt 4 v12 0 1],[.pt 4 v12 0 2],[.pt 4 v12 0 3],[.pt 4 v12 0 4],[.pt 4 v12 0 5],[.pt 4 v12 0 6],[.pt 4 v12 0 7],[.pt 4 v12 0 8],[.pt 4 v12 0 9],[.pt 4 v12 0 10]]) rfl Tryz.underlying159 a0G (.cons rfl (.cons rfl (.cons rfl (.cons rfl (.cons rfl (.cons rfl (.cons rfl (.cons rfl (.cons rfl (.cons rfl (.cons rfl .nil))))))))))) (by kernel_rfl) rfl rfl rfl) ?_
 exact .mk
 intro _ _
 refine .mk trivial ?_
 refine .mk _ (bE (iM (j:=5) rfl Tryz.underlying159 a1M rfl rfl rfl (.list rfl))) ?_
 refine .mk λx30 e30=>?_
 refine .mk λx31=>?_
 refine .mk .mk ?_
 refine .mk ?_
 refine .mk ?_
 refine .mk λx32 e32=>?_
 refine .mk ?_ ?_
 refine .mk ?_
 refine .mk _ (λH hH _=>dQ (ps:=[(0,_),(1,_),(2,_),(3,_),(4,_),(5,_),(6,_),(7,_),(8,_),(9,_),(10,_)]) (rows:=[[.pt 4 v12 0 0],[.pt 4 v12 0 1],[.pt 4 v12 0 2],[.pt 4 v12 0 3],[.pt 4 v12 0 4],[.pt 4 v12 0 5],[.pt 4 v12 0 6],[.pt 4 v12 0 7],[.pt 4 v12 0 8],[.pt 4 v12 0 9],[.pt 4 v12 0 10]]) rfl Tryz.underlying159 a0G (.cons rfl (.cons rfl (.cons rfl (.cons rfl (.cons rfl (.cons rfl (.cons rfl (.cons rfl (.cons rfl (.cons rfl (.cons rfl .nil))))))))))) (by kernel_rfl) rfl rfl rfl) ?_
 exact .mk
 intro _ _
 refine .mk trivial ?_
 refine .mk _ (bE (iM (j:=6) rfl Tryz.underlying159 a1M rfl rfl rfl (.list rfl))) ?_
 refine .mk λx33 e33=>?_
 refine .mk λx34=>?_
 refine .mk .mk ?_
 refine .mk ?_
 refine .mk ?_
 refine .mk λx35 e35=>?_
 refine .mk ?_ ?_
 refine .mk ?_
 refine .mk _ (λH hH _=>dQ (ps:=[(0,_),(1,_),(2,_),(3,_),(4,_),(5,_),(6,_),(7,_),(8,_),(9,_),(10,_)]) (rows:=[[.pt 4 v12 0 0],[.pt 4 v12 0 1],[.pt 4 v12 0 2],[.pt 4 v12 0 3],[.pt 4 v12 0 4],[.pt 4 v12 0 5],[.pt 4 v12 0 6],[.pt 4 v12 0 7],[.pt 4 v12 0 8],[.pt 4 v12 0 9],[.pt 4 v12 0 10]]) rfl Tryz.underlying159 a0G (.cons rfl (.cons rfl (.cons rfl (.cons rfl (.cons rfl (.cons rfl (.cons rfl (.cons rfl (.cons rfl (.cons rfl (.cons rfl .nil))))))))))) (by kernel_rfl) rfl rfl rfl) ?_
 exact .mk
 intro _ _
 refine .mk trivial ?_
 refine .mk _ (bE (iM (j:=7) rfl Tryz.underlying159 a1M rfl rfl rfl (.list rfl))) ?_
 refine .mk λx36 e36=>?_
 refine .mk λx37=>?_
 refine .mk .mk ?_
 refine .mk ?_
 refine .mk ?_
 refine .mk λx38 e38=>?_
 refine .mk ?_ ?_
 refine .mk ?_
 refine .mk _ (λH hH _=>dQ (ps:=[(0,_),(1,_),(2,_),(3,_),(4,_),(5,_),(6,_),(7,_),(8,_),(9,_),(10,_)]) (rows:=[[.pt 4 v12 0 0],[.pt 4 v12 0 1],[.pt 4 v12 0 2],[.pt 4 v12 0 3],[.pt 4 v12 0 4],[.pt 4 v12 0 5],[.pt 4 v12 0 6],[.pt 4 v12 0 7],[.pt 4 v12 0 8],[.pt 4 v12 0 9],[.pt 4 v12 0 10]]) rfl Tryz.underlying159 a0G (.cons rfl (.cons rfl (.cons rfl (.cons rfl (.cons rfl (.cons rfl (.cons rfl (.cons rfl (.cons rfl (.cons rfl (.cons rfl .nil))))))))))) (by kernel_rfl) rfl rfl rfl) ?_
 exact .mk
 intro _ _
 refine .mk trivial ?_
 refine .mk _ (bE (iM (j:=8) rfl Tryz.underlying159 a1M rfl rfl rfl (.list rfl))) ?_
 refine .mk λx39 e39=>?_
 refine .mk λx40=>?_
 refine .mk .mk ?_
 refine .mk ?_
 refine .mk ?_
 refine .mk λx41 e41=>?_
 refine .mk ?_ ?_
 refine .mk ?_
 refine .mk _ (λH hH _=>dQ (ps:=[(0,_),(1,_),(2,_),(3,_),(4,_),(5,_),(6,_),(7,_),(8,_),(9,_),(10,_)]) (rows:=[[.pt 4 v12 0 0],[.pt 4 v12 0 1],[.pt 4 v12 0 2],[.pt 4 v12 0 3],[.pt 4 v12 0 4],[.pt 4 v12 0 5],[.pt 4 v12 0 6],[.pt 4 v12 0 7],[.pt 4 v12 0 8],[.pt 4 v12 0 9],[.pt 4 v12 0 10]]) rfl Tryz.underlying159 a0G (.cons rfl (.cons rfl (.cons rfl (.cons rfl (.cons rfl (.cons rfl (.cons rfl (.cons rfl (.cons rfl (.cons rfl (.cons rfl .nil))))))))))) (by kernel_rfl) rfl rfl rfl) ?_
 exact .mk
 intro _ _
 refine .mk trivial ?_
 refine .mk _ (bE (iM (j:=9) rfl Tryz.underlying159 a1M rfl rfl rfl (.list rfl))) ?_
 refine .mk λx42 e42=>?_
 refine .mk λx43=>?_
 refine .mk .mk ?_
 refine .mk ?_
 refine .mk ?_
 refine .mk λx44 e44=>?_
 refine .mk ?_ ?_
 refine .mk ?_
 refine .mk _ (λH hH _=>dQ (ps:=[(0,_),(1,_),(2,_),(3,_),(4,_),(5,_),(6,_),(7,_),(8,_),(9,_),(10,_)]) (rows:=[[.pt 4 v12 0 0],[.pt 4 v12 0 1],[.pt 4 v12 0 2],[.pt 4 v12 0 3],[.pt 4 v12 0 4],[.pt 4 v12 0 5],[.pt 4 v12 0 6],[.pt 4 v12 0 7],[.pt 4 v12 0 8],[.pt 4 v12 0 9],[.pt 4 v12 0 10]]) rfl Tryz.underlying159 a0G (.cons rfl (.cons rfl (.cons rfl (.cons rfl (.cons rfl (.cons rfl (.cons rfl (.cons rfl (.cons rfl (.cons rfl (.cons rfl .nil))))))))))) (by kernel_rfl) rfl rfl rfl) ?_
 exact .mk
 intro _ _
 refine .mk trivial ?_
 refine .mk _ (bE (iM (j:=10) rfl Tryz.underlying159 a1M rfl rfl rfl (.list rfl))) ?_
 refine .mk λx45 e45=>?_
 refine .mk λx46=>?_
 refine .mk .mk ?_
 refine .mk ?_
 refine .mk ?_
 exact .mk
 intro _ _
 intro v47
 refine .mk ?_ ?_
 refine .mk λp48=>?_
 refine .mk _ ⟨λ_=>d9 rfl rfl (.cons rfl .nil) aHV (iK (a2I.pc (id:=7) (l:=a1.aW) rfl p48) (.cons (.refl _) .nil)),λ_ _ _=>trivial⟩ ?_
 rintro _ _ ⟨v49,rfl,rfl⟩
 refine .mk λx50 e50=>?_
 refine .mk _ (bE (aP4 rfl Tryz.underlying28 aWN rfl rfl rfl rfl rfl (Eq.symm rfl) (List.length_map _) e50)) ?_
 exact .mk
 intro _ _
 refine .mk trivial ?_
 refine .mk λx51 e51=>?_
 refine .mk _ (bE (iH rfl rfl (.pt rfl rfl (dR e51 (aP.bW _))))) ?_
 refine .mk _ (bE (dK rfl a3X rfl (.pt rfl rfl (dR e51 (aP.bW _))) (.pt _ _ _ _ _))) ?_
 refine .mk _ (bE (dV rfl a4F rfl (.pt rfl rfl (dR e51 (aP.bW _))) rfl)) ?_
 refine .mk λp52=>?_
 refine .mk _ ⟨λ_=>d9 rfl rfl (.cons rfl .nil) aMD (iK (a90.pc (id:=8) (l:=x51.dI) rfl p52) (.cons (.refl _) .nil)),λ_ _ _=>trivial⟩ ?_
 rintro _ _ ⟨v53,rfl,rfl⟩
 refine .mk _ (bE (iH rfl rfl (.pt rfl rfl (dR e51 (aP.bW _))))) ?_
 refine .mk _ (bE (dK rfl a3X rfl (.pt rfl rfl (dR e51 (aP.bW _))) (.pt _ _ _ _ _))) ?_
 refine .mk _ ⟨λ_=>bQ.dM (eO (ob':=(⟨45,8,true,true,_,(a1.aW.map aP.av).set (Int.toNat a2) [int x51.Now,aF x51.Closed,aD 4 aM.av x51.dD,aD 1 fI x51.dU,.sl 8 v53 0 x51.dI.length,aD 1 fI x51.dO,aD 1 fI x51.Down,aD 8 aP.av x51.eT]⟩:bC)) (dZ rfl a4F rfl rfl rfl rfl rfl (dR e51 (aP.bW _)) rfl rfl rfl) (eU rfl)) (λ_ h=>h) (λ_ _=>trivial),λ_ _ _=>trivial⟩ ?_
 rintro _ _ ⟨rfl,rfl⟩
 refine .mk ?_
 refine .mk _ (λH hH _=>iH rfl rfl (.pt ((hH _ (by decide)).trans rfl) rfl (eY e51))) ?_
 refine .mk _ (λH hH _=>dK rfl a3X rfl (.pt ((hH _ (by decide)).trans rfl) rfl (eY e51)) (.pt _ _ _ _ _)) ?_
 refine .mk _ (λH hH _=>dV rfl a4F rfl (.pt ((hH _ (by decide)).trans rfl) rfl (eY e51)) rfl) ?_
 refine .mk λx54 e54=>?_
 refine .mk _ (λH hH _=>aP4 rfl Tryz.underlying43 a6D rfl rfl ((hH _ (by decide)).trans rfl) rfl rfl (Eq.symm rfl) (List.length_map _) e54) ?_
 refine .mk λx55 e55=>?_
 have fx55:=aQC e54 e55;have lx55:=fH e55 (rfl:x51.dI.length=x51.dI.length)
 refine .mk _ ⟨λ_=>bQ.dM (eO (ob':=(⟨41,11,true,true,_,x55.map bM.av⟩:bC)) (dZ rfl a6D rfl rfl rfl rfl rfl (cZ e54) rfl rfl rfl) (eU (iI e55))) (λ_ h=>h) (λ_ _=>trivial),by rintro _ _ ⟨rfl,rfl⟩;exact trivial⟩ ?_
 rintro _ _ ⟨rfl,rfl⟩
 exact .mk (bK.aU (.cons (bK.agg (.cons (.refl _) (.cons (.refl _) (.cons (.refl _) (.cons (.refl _) (.cons (.refl _) (.cons (kZ rfl rfl rfl rfl rfl (Eq.symm rfl) e51 (lW (.cons (.refl _) (.cons (.refl _) (.cons (.refl _) (.cons (.refl _) (.cons (dH rfl rfl rfl rfl rfl (Eq.symm lx55)) (.cons (.refl _) (.cons (.refl _) (.cons (.refl _) .nil)))))))) (aP.bW _))) (.cons (.refl _) (.cons (.refl _) (.cons (.refl _) (.cons (.refl _) .nil))))))))))) (.cons (.refl _) .nil)))
def aOU (n:Nat) (a1:aA) (a2:aS) (a3:bM) (a4:List aH):WB (aA×Int) :=
 .al 1<|.al 2<|.al 3<|.al 4<|.cl 16 (oN n a1 a2.E a4) sH qN λx9=>.bB 20 (decide (x9.2≠0)) λx10=>.ifs [20] x10 (.ret ((x9.1:aA),x9.2)) (.cl 29 (qD x9.1 a2.E a2.Item a3) MQ sO λx11=>.ret ((x11.1:aA),x11.2))
def wE (n:Nat) (a1:aA) (a2:aS) (a3:bM) (a4:List aH):Option (aA×Int):=(aOU n a1 a2 a3 a4).run
theorem xA {n a1 a2 a3 a4}:PZ (wE n a1 a2 a3 a4) 192 [.agg (aA.av a1),.agg (aS.av a2),.agg (bM.av a3),aD 2 aH.av a4] (λr=>.aU [.agg (aA.av r.1),int r.2]):=wq Tryz.func192
def Y6 (n:Nat) (a1:aA) (a2:aS):WB (aA×Int) :=
 .al 1<|.al 2<|.al 3<|.dr [(0,[1]),(1,[1]),(2,[1]),(3,[2]),(4,[2]),(7,[2]),(8,[2])] [] [1,2] [] [0,1,2,3,4,5,6,7,8,9,10,11] (.ix 18 (fL 1 fI) a1.bA.Methods a2.E λx6=>.ix 22 fI x6 a2.Item λx7=>.bB 24 (decide (x7≠4)) λx8=>.ifs [24] x8 (.ret ((a1:aA),(12:Int))) (.as (a1.bA.dN.length<=68719476736) inferInstance<|.ge 29 4<|.dr [(0,[1]),(1,[1]),(2,[1]),(3,[2]),(4,[2]),(5,[1]),(6,[1]),(7,[1]),(8,[2]),(9,[2]),(10,[4]),(11,[4]),(13,[4])] [(12,[1,2]),(14,[])] [1,2,4] [12,14] [0,1,2,3,4,5,6,7,8,9,10,11,12,13,14] (.bo (ix a1.bA.dN a2.E) λx11=>.gv 42<|.gv 43<|.as (x11.length<=68719476736) inferInstance<|.ge 44 5<|.gv 45<|.ge 1004014 0<|.dr [(0,[1]),(1,[1]),(2,[1]),(3,[2]),(4,[2]),(5,[4]),(6,[4]),(7,[2]),(8,[2]),(9,[2]),(10,[2]),(11,[5])] [(12,[])] [1,2,4,5] [12] [0,1,2,3,4,5,6,7,8,9,10,11,12] (.gv 51<|.gv 52<|.bo (ix x11 a2.Item) λx14=>.gv 57<|.bl (x11.set (Int.toNat a2.Item) (a2.bD:Int):List Int) λx15=>.ge 1005012 0<|.as (a1.aW.length<=68719476736) inferInstance<|.ge 60 6<|.dr [(0,[1]),(1,[1]),(2,[2]),(3,[2]),(4,[1]),(5,[1]),(6,[2]),(7,[2]),(8,[6]),(9,[6]),(10,[6]),(12,[6]),(13,[6])] [(11,[1,2]),(14,[])] [1,2,6] [11,14] [0,1,2,3,4,5,6,7,8,9,10,11,12,13,14] (.bo (ix a1.aW a2.E) λx18=>.gv 70<|.gv 71<|.gv 72<|.as (x18.dD.length<=68719476736) inferInstance<|.ge 73 7<|.gv 74<|.gv 75<|.ge 1007014 0<|.dr [(0,[1]),(1,[1]),(2,[2]),(3,[2]),(4,[6]),(5,[6]),(6,[6]),(7,[2]),(8,[2]),(10,[2]),(11,[2]),(14,[7])] [] [1,2,6,7] [] [0,1,2,3,4,5,6,7,8,9,10,11,12,13,14,15] (.gv 80<|.gv 81<|.gv 82<|.bI 85 (aI (a2.Item*2)) λx21=>.bI 88 (aI (a2.Item+1)) λx22=>.bI 89 (aI (x22*2)) λx23=>.as ((0:Int)<=x21/\x21<=x23/\x23<=(x18.dD.length:Int)/\x21<(x18.dD.length:Int)) inferInstance<|.gv 90<|.dF 2 [2,3,4,5] [1,2,3,4,5] [] (λ_ (a:Int×(List aM))=>[(7,int a.1)]) (λu2 a=>[.kp 6 ((a1.aW.map aP.av).set (Int.toNat a2.E) [int x18.Now,aF x18.Closed,.sl 7 (u2 7) 0 a.2.length,aD 1 fI x18.dU,aD 11 bM.av x18.dI,aD 1 fI x18.dO,aD 1 fI x18.Down,aD 8 aP.av x18.eT]),.kp 7 (a.2.map aM.av)]) (.lp [2,3,4,5,6,91,92] [1,2,3,4,5] [] (λ_ (a:Int×Int×(List aM))=>[(7,int a.1),(93,int a.2.1)]) (λu3 a=>[.kp 6 ((a1.aW.map aP.av).set (Int.toNat a2.E) [int x18.Now,aF x18.Closed,.sl 7 (u3 7) 0 a.2.2.length,aD 1 fI x18.dU,aD 11 bM.av x18.dI,aD 1 fI x18.dO,aD 1 fI x18.Down,aD 8 aP.av x18.eT]),.kp 7 (a.2.2.map aM.av)]) n ((0:Int),(0:Int),(x18.dD:List aM)) (pw λy0_1 q0=>(pw λy0_2 y0_3=>.bB 94 (decide (y0_2<(((x23.toNat-x21.toNat):Nat):Int))) λx25=>.ifs [94] x25 (.as ((0:Int)<=y0_2/\y0_2<(((x23.toNat-x21.toNat):Nat):Int)) inferInstance<|.bo (ix y0_3 ((((0+x21.toNat):Nat):Int)+y0_2)) λx27=>.gv 96<|.gv 97<|.al 8<|.cl 103 (PT n x27.cO a2.bD) L6 aF7 λx29=>.bB 108 (decide (x29.2.2≠0)) λx30=>.ifs [108] x30 (.esc (.esc (.ret (((⟨(⟨a1.bA.eH,a1.bA.aQA,a1.bA.cB,a1.bA.Methods,(a1.bA.dN.set (Int.toNat a2.E) x15)⟩:eZ),(a1.aW.set (Int.toNat a2.E) (⟨x18.Now,x18.Closed,y0_3,x18.dU,x18.dI,x18.dO,x18.Down,x18.eT⟩:aP)),a1.bP,a1.bU,a1.bY,a1.Done⟩:aA):aA),(x29.2.2:Int))))) (.as ((0:Int)<=y0_2/\y0_2<(((x23.toNat-x21.toNat):Nat):Int)) inferInstance<|.gv 114<|.gv 115<|.bl (y0_3.set (Int.toNat ((((0+x21.toNat):Nat):Int)+y0_2)) ((⟨x29.1,x27.bF⟩:aM):aM):List aM) λx32=>.ge 1016005 0<|.bI 118 (aI (y0_1+x29.2.1)) λx33=>.bI 119 (aI (y0_2+1)) λx34=>.brk ((x33:Int),(x34:Int),x32))) (.esc (.brk ((y0_1:Int),y0_3)))) q0)) (pw λy1_1 y1_2=>.fO 4<|.fO 5<|.fO 6<|.fO 7<|.dr [(0,[1]),(1,[2]),(10,[4,5,6,7])] [(13,[])] [1,2,4,5,6,7] [13] [0,1,2,3,4,5,6,7,8,9,10,11,12,13,14] (.cl 125 (lM 0 y1_1) aWG mG λx35=>.bI 127 (aI (0-y1_1)) λx36=>.cl 128 (lM 6 x36) aWG mG λx37=>.to 129 (aD 2 aH.av ([x35,x37]:List aH))<|.cl 130 (wE n (⟨(⟨a1.bA.eH,a1.bA.aQA,a1.bA.cB,a1.bA.Methods,(a1.bA.dN.set (Int.toNat a2.E) x15)⟩:eZ),(a1.aW.set (Int.toNat a2.E) (⟨x18.Now,x18.Closed,y1_2,x18.dU,x18.dI,x18.dO,x18.Down,x18.eT⟩:aP)),a1.bP,a1.bU,a1.bY,a1.Done⟩:aA) a2 (⟨0,0,0,0,0,0,0,0,0,0,y1_1⟩:bM) ([x35,x37]:List aH)) YG xA λx38=>.ret ((x38.1:aA),(x38.2:Int))))))))))
def O3 (n:Nat) (a1:aA) (a2:aS):Option (aA×Int):=(Y6 n a1 a2).run
theorem aJH {n a1 a2}:PZ (O3 n a1 a2) 160 [.agg (aA.av a1),.agg (aS.av a2)] (λr=>.aU [.agg (aA.av r.1),int r.2]):=by
 refine wm Tryz.func160 ?_
 intro v3
 intro v4
 intro v5
 refine .mk ?_
 refine .mk λx6 e6=>?_
 refine .mk λx7 e7=>?_
 refine .mk λx8=>?_
 refine .mk .mk ?_
 refine .mk λp9=>?_
 refine .mk _ ⟨λ_=>d9 rfl rfl (.cons rfl .nil) PK (iK (bAI.pc (id:=4) (l:=a1.bA.dN) rfl p9) (.cons (.refl _) .nil)),λ_ _ _=>trivial⟩ ?_
 rintro _ _ ⟨v10,rfl,rfl⟩
 refine .mk ?_
 refine .mk λx11 e11=>?_
 refine .mk _ (λH hH _=>aP4 rfl Tryz.underlying23 kC rfl rfl ((hH _ (by decide)).trans rfl) rfl rfl (Eq.symm rfl) (List.length_map _) e11) ?_
 refine .mk _ (λH hH _=>dV rfl kC rfl (.pt ((hH _ (by decide)).trans rfl) rfl (cZ e11)) rfl) ?_
 refine .mk λp12=>?_
 refine .mk _ ⟨λ_=>d9 rfl rfl (.cons rfl .nil) aKJ (iK (a4O.pc (id:=5) (l:=x11) rfl p12) (.cons (.refl _) .nil)),by rintro _ _ ⟨v13,rfl,rfl⟩;exact ⟨rfl,rfl,trivial⟩⟩ ?_
 rintro _ _ ⟨v13,rfl,rfl⟩
 refine .mk _ (λH hH _=>aP4 rfl Tryz.underlying23 kC rfl rfl ((hH _ (by decide)).trans rfl) rfl rfl (Eq.symm rfl) (List.length_map _) e11) ?_
 refine .mk _ ⟨λ_=>bQ.dM (eO (ob':=(⟨22,1,true,true,_,(a1.bA.dN.map (fL 1 fI)).set (Int.toNat a2.E) [.sl 5 v13 0 x11.length]⟩:bC)) (dZ rfl kC rfl rfl rfl rfl rfl (cZ e11) rfl rfl rfl) (eU rfl)) (λ_ h=>h) (λ_ _=>trivial),by rintro _ _ ⟨rfl,rfl⟩;exact trivial⟩ ?_
 rintro _ _ ⟨rfl,rfl⟩
 refine .mk ?_
 refine .mk _ (λH hH _=>aP4 rfl Tryz.underlying23 kC rfl rfl ((hH _ (by decide)).trans rfl) rfl rfl (Eq.symm rfl) qH e11) ?_
 refine .mk _ (λH hH _=>dV rfl kC rfl (.pt ((hH _ (by decide)).trans rfl) rfl (eY e11)) rfl) ?_
 refine .mk λx14 e14=>?_
 refine .mk _ (λH hH _=>aP4 rfl Tryz.underlying22 fC rfl rfl ((hH _ (by decide)).trans rfl) rfl rfl (Eq.symm rfl) (List.length_map _) e14) ?_
 refine .mk λx15 e15=>?_
 have fx15:=aQC e14 e15;have lx15:=fH e15 (rfl:x11.length=x11.length)
 refine .mk _ ⟨λ_=>bQ.dM (eO (ob':=(⟨3,1,true,true,_,x15.map fI⟩:bC)) (dZ rfl fC rfl rfl rfl rfl rfl (cZ e14) rfl rfl rfl) (eU (iI e15))) (λ_ h=>h) (λ_ _=>trivial),by rintro _ _ ⟨rfl,rfl⟩;exact trivial⟩ ?_
 rintro _ _ ⟨rfl,rfl⟩
 refine .mk λp16=>?_
 refine .mk _ ⟨λ_=>d9 rfl rfl (.cons rfl .nil) aHV (iK (a2I.pc (id:=6) (l:=a1.aW) rfl p16) (.cons (.refl _) .nil)),λ_ _ _=>trivial⟩ ?_
 rintro _ _ ⟨v17,rfl,rfl⟩
 refine .mk ?_
 refine .mk λx18 e18=>?_
 refine .mk _ (λH hH _=>aP4 rfl Tryz.underlying28 aWN rfl rfl ((hH _ (by decide)).trans rfl) rfl rfl (Eq.symm rfl) (List.length_map _) e18) ?_
 refine .mk _ (λH hH _=>dK rfl a3A rfl (.pt ((hH _ (by decide)).trans rfl) rfl (dR e18 (aP.bW _))) (.pt _ _ _ _ _)) ?_
 refine .mk _ (λH hH _=>dV rfl jE rfl (.pt ((hH _ (by decide)).trans rfl) rfl (dR e18 (aP.bW _))) rfl) ?_
 refine .mk λp19=>?_
 refine .mk _ ⟨λ_=>d9 rfl rfl (.cons rfl .nil) aC8 (iK (a5N.pc (id:=7) (l:=x18.dD) rfl p19) (.cons (.refl _) .nil)),by rintro _ _ ⟨v20,rfl,rfl⟩;exact ⟨rfl,rfl,trivial⟩⟩ ?_
 rintro _ _ ⟨v20,rfl,rfl⟩
 refine .mk _ (λH hH _=>aP4 rfl Tryz.underlying28 aWN rfl rfl ((hH _ (by decide)).trans rfl) rfl rfl (Eq.symm rfl) (List.length_map _) e18) ?_
 refine .mk _ (λH hH _=>dK rfl a3A rfl (.pt ((hH _ (by decide)).trans rfl) rfl (dR e18 (aP.bW _))) (.pt _ _ _ _ _)) ?_
 refine .mk _ ⟨λ_=>bQ.dM (eO (ob':=(⟨45,8,true,true,_,(a1.aW.map aP.av).set (Int.toNat a2.E) [int x18.Now,aF x18.Closed,.sl 7 v20 0 x18.dD.length,aD 1 fI x18.dU,aD 11 bM.av x18.dI,aD 1 fI x18.dO,aD 1 fI x18.Down,aD 8 aP.av x18.eT]⟩:bC)) (dZ rfl jE rfl rfl rfl rfl rfl (dR e18 (aP.bW _)) rfl rfl rfl) (eU rfl)) (λ_ h=>h) (λ_ _=>trivial),by rintro _ _ ⟨rfl,rfl⟩;exact trivial⟩ ?_
 rintro _ _ ⟨rfl,rfl⟩
 refine .mk ?_
 refine .mk _ (λH hH _=>aP4 rfl Tryz.underlying28 aWN rfl rfl ((hH _ (by decide)).trans rfl) rfl rfl (Eq.symm rfl) qH e18) ?_
 refine .mk _ (λH hH _=>dK rfl a3A rfl (.pt ((hH _ (by decide)).trans rfl) rfl (eY e18)) (.pt _ _ _ _ _)) ?_
 refine .mk _ (λH hH _=>dV rfl jE rfl (.pt ((hH _ (by decide)).trans rfl) rfl (eY e18)) rfl) ?_
 refine .mk λx21=>?_
 refine .mk λx22=>?_
 refine .mk λx23=>?_
 refine .mk λp24=>?_
 refine .mk _ (λH hH _=>I5 (len:=x18.dD.length) (i:=x21.toNat) (j:=x23.toNat) rfl Tryz.underlying42 a2Q rfl ((hH _ (by decide)).trans rfl) rfl rfl (.yes rfl (by first | omega | (dsimp only;omega) | (dsimp only at *;omega))) (.yes rfl (by first | omega | (dsimp only;omega) | (dsimp only at *;omega))) (by first | omega | (dsimp only;omega) | (dsimp only at *;omega)) (by first | omega | (dsimp only;omega) | (dsimp only at *;omega)) (.inl (by first | omega | (dsimp only;omega) | (dsimp only at *;omega)))) ?_
 refine .mk ?_ ?_
 refine .mk ?_
 rintro ⟨y0_1,y0_2,y0_3⟩ _
 refine .mk λx25=>?_
 refine .mk ?_ ?_
 refine .mk λp26=>?_
 refine .mk λx27 e27=>?_
 refine .mk _ (bE (jF rfl Tryz.underlying42 a2Q rfl rfl rfl rfl rfl p26 (List.length_map _) e27)) ?_
 refine .mk _ (bE (dV rfl a2Q rfl (.pt rfl rfl (cZ e27)) rfl)) ?_
 intro v28
 refine .mk λx29 e29=>?_
 refine .mk λx30=>?_
 refine .mk ?_ ?_
 exact .mk (bK.aU (.cons (bK.agg (.cons (.refl _) (.cons (.refl _) (.cons (.refl _) (.cons (.refl _) (.cons (kZ rfl rfl rfl rfl rfl (Eq.symm rfl) e11 (.cons (dH rfl rfl rfl rfl rfl (Eq.symm lx15)) .nil)) (.cons (kZ rfl rfl rfl rfl rfl (Eq.symm rfl) e18 (lW (.cons (.refl _) (.cons (.refl _) (.cons (dH rfl rfl rfl rfl rfl (Eq.symm rfl)) (.cons (.refl _) (.cons (.refl _) (.cons (.refl _) (.cons (.refl _) (.cons (.refl _) .nil)))))))) (aP.bW _))) (.cons (.refl _) (.cons (.refl _) (.cons (.refl _) (.cons (.refl _) .nil))))))))))) (.cons (.refl _) .nil)))
 refine .mk λp31=>?_
 refine .mk _ (bE (jF rfl Tryz.underlying42 a2Q rfl rfl rfl rfl rfl p31 (List.length_map _) e27)) ?_
 refine .mk _ (bE (dK rfl bDI rfl (.pt rfl rfl (cZ e27)) (.pt _ _ _ _ _))) ?_
 refine .mk λx32 e32=>?_
 have fx32:=aQC e27 e32;have lx32:=fH e32 (rfl:y0_3.length=y0_3.length)
 refine .mk _ ⟨λ_=>bQ.dM (eO (ob':=(⟨77,4,true,true,_,x32.map aM.av⟩:bC)) (dZ rfl bFN rfl rfl rfl rfl rfl (cZ e27) rfl rfl rfl) (eU (iI e32))) (λ_ h=>h) (λ_ _=>trivial),λ_ _ _=>trivial⟩ ?_
 rintro _ _ ⟨rfl,rfl⟩
 refine .mk λx33=>?_
 refine .mk λx34=>?_
 exact .mk ⟨⟨⟨_,rfl,(.refl _)⟩,⟨_,rfl,(.refl _)⟩,⟨_,rfl,(.refl _)⟩,⟨_,rfl,(.refl _)⟩,⟨_,rfl,(.refl _)⟩,⟨_,rfl,(.refl _)⟩,⟨_,rfl,(.refl _)⟩,⟨_,rfl,(.refl _)⟩,⟨_,rfl,(.refl _)⟩,trivial⟩,⟨⟨_,rfl,⟨rfl,yZ (.cons (.refl _) (.cons (.refl _) (.cons (nC (Eq.symm lx32)) (.cons (.refl _) (.cons (.refl _) (.cons (.refl _) (.cons (.refl _) (.cons (.refl _) .nil))))))))⟩⟩,⟨_,rfl,(.refl _)⟩,⟨_,rfl,(.refl _)⟩,⟨_,rfl,(.refl _)⟩,⟨_,rfl,(.refl _)⟩,⟨_,rfl,(.refl _)⟩,⟨_,rfl,(.refl _)⟩,trivial⟩⟩
 exact .mk
 rintro ⟨y1_1,y1_2⟩ _
 refine .mk ?_
 refine .mk λx35 e35=>?_
 refine .mk λx36=>?_
 refine .mk λx37 e37=>?_
 refine .mk (λH hH _=>bX (y:=aD 2 aH.av ([x35,x37]:List aH)) (dQ (ps:=[(0,_),(1,_)]) (rows:=[[int x35.fM,int x35.bD],[int x37.fM,int x37.bD]]) rfl Tryz.underlying116 a3V (.cons rfl (.cons rfl .nil)) (by kernel_rfl) rfl rfl rfl) rfl) ?_
 refine .mk (λx38 e38=>?_) rfl (λH hH=>(.cons (bK.agg (.cons (.refl _) (.cons (.refl _) (.cons (.refl _) (.cons (.refl _) (.cons (kZ (ob:=(⟨22,1,false,true,v10,(a1.bA.dN.map (fL 1 fI)).set (Int.toNat a2.E) [.sl 5 v13 0 x11.length]⟩:bC)) ((hH 4 (by decide)).trans rfl) rfl rfl rfl rfl (Eq.symm rfl) e11 (.cons (dH (ob:=(⟨3,1,false,true,v13,x15.map fI⟩:bC)) ((hH 5 (by decide)).trans rfl) rfl rfl rfl rfl (Eq.symm lx15)) .nil)) (.cons (kZ (ob:=(⟨45,8,false,true,v17,(a1.aW.map aP.av).set (Int.toNat a2.E) [int x18.Now,aF x18.Closed,.sl 7 v20 0 y1_2.length,aD 1 fI x18.dU,aD 11 bM.av x18.dI,aD 1 fI x18.dO,aD 1 fI x18.Down,aD 8 aP.av x18.eT]⟩:bC)) ((hH 6 (by decide)).trans rfl) rfl rfl rfl rfl (Eq.symm rfl) e18 (lW (.cons (.refl _) (.cons (.refl _) (.cons (dH (ob:=(⟨77,4,false,true,v20,y1_2.map aM.av⟩:bC)) ((hH 7 (by decide)).trans rfl) rfl rfl rfl rfl (Eq.symm rfl)) (.cons (.refl _) (.cons (.refl _) (.cons (.refl _) (.cons (.refl _) (.cons (.refl _) .nil)))))))) (aP.bW _))) (.cons (.refl _) (.cons (.refl _) (.cons (.refl _) (.cons (.refl _) .nil))))))))))) (.cons (.refl _) (.cons (.refl _) (.cons (.refl _) .nil)))))
 exact .mk
def aIS (a1:Int) (a2:Int) (a3:Int):WB (Bool) :=
 .jn 1 [] [] [] (λ_ (a:Bool)=>[(6,aF a)]) (λ_ _=>[]) (.bB 9 (decide (a1>=a2)) λx4=>.ifs [9] x4 (.bB 13 (decide (a1<=a3)) λx5=>.ret x5) (.ret false)) (λy0_1=>.ret ((y0_1:Bool)))
def UX (a1:Int) (a2:Int) (a3:Int):Option (Bool):=(aIS a1 a2 a3).run
theorem aK1 {a1 a2 a3}:PZ (UX a1 a2 a3) 72 [int a1,int a2,int a3] aF:=wq Tryz.func72
def aLD (a1:aA) (a2:Int) (a3:Int) (a4:Int):WB (Int) :=
 .al 1<|.jn 0 [2,3,8] [] [] (λ_ (a:Bool)=>[(18,aF a)]) (λ_ _=>[]) (.cl 12 (zC a1 a2 a3) I8 IS λx6=>.bB 13 (!x6) λx7=>.ifs [13] x7 (.ret true) (.cl 16 (UX a4 0 1) oG aK1 λx8=>.bB 17 (!x8) λx9=>.ret x9)) (λy0_1=>.ifs [18] y0_1 (.ret (((-1):Int))) (.bI 20 (aI (a3*2)) λx10=>.bI 22 (aI (x10+a4)) λx11=>.ret ((x11:Int))))
def zN (a1:aA) (a2:Int) (a3:Int) (a4:Int):Option (Int):=(aLD a1 a2 a3 a4).run
theorem FX {a1 a2 a3 a4}:PZ (zN a1 a2 a3 a4) 147 [.agg (aA.av a1),int a2,int a3,int a4] int:=wq Tryz.func147
def aM7 (a1:aM) (a2:List aB):WB (aM) :=
 .al 1<|.al 2<|.ret (((⟨a2,a1.bF⟩:aM):aM))
def rX (a1:aM) (a2:List aB):Option (aM):=(aM7 a1 a2).run
theorem wK {a1 a2}:PZ (rX a1 a2) 207 [.agg (aM.av a1),aD 3 aB.av a2] (λr=>.agg (aM.av r)):=wq Tryz.func207
def aG7 (a1:aM):WB (aM) :=
 .al 1<|.al 2<|.dr [(0,[1]),(1,[1]),(2,[1])] [(4,[]),(5,[])] [1] [3,4,5] [0,1,2,3,4,5] (.as (a1.cO.length<=68719476736) inferInstance<|.ge 6 3<|.inl 7 aKP Tryz.func207 [1,2,3] [] (λu2 (a:Unit)=>.agg [.sl 3 (u2 3) 0 a1.cO.length,int a1.bF.a0,int a1.bF.a1,int a1.bF.a2]) (λ_ _=>[]) (.al 4<|.al 5<|.ret ()) (λ_=>.ret ((a1:aM))))
def aTO (a1:aM):Option (aM):=(aG7 a1).run
theorem kP {a1}:PZ (aTO a1) 189 [.agg (aM.av a1)] (λr=>.agg (aM.av r)):=wq Tryz.func189
def aA4 (n:Nat) (a1:List aB) (a2:Int):WB (Bool) :=
 .ln 8 aB.av a1<|.dF 0 [4] [] [] (λ_ (a:Unit)=>[]) (λ_ _=>[]) (.lp [4,7,8] [] [] (λ_ (a:Int×Int)=>[(1,int a.1),(9,int a.2)]) (λ_ _=>[]) n ((a2:Int),0) (pw λy0_1 y0_2=>.bB 10 (decide (y0_2<(a1.length:Int))) λx3=>.ifs [10] x3 (.ix 11 aB.av a1 y0_2 λx4=>.al 1<|.bl (if 0>x4.aQ then 0 else x4.aQ:Int) λx6=>.gv 16<|.bl (if y0_1<x6 then y0_1 else x6:Int) λx7=>.gv 18<|.bI 19 (aI (y0_1-x7)) λx8=>.bB 21 (decide (x8=0)) λx9=>.ifs [21] x9 (.esc (.esc (.ret ((true:Bool))))) (.bI 22 (aI (y0_2+1)) λx10=>.brk ((x8:Int),x10))) (.esc (.brk ())))) (λ_=>.ret ((false:Bool)))
def GX (n:Nat) (a1:List aB) (a2:Int):Option (Bool):=(aA4 n a1 a2).run
theorem UG {n a1 a2}:PZ (GX n a1 a2) 202 [aD 3 aB.av a1,int a2] aF:=wq Tryz.func202
def aMF (n:Nat) (a1:Int) (a2:Int) (a3:Int):WB (Int) :=
 .jn 2 [0,1,2,6] [] [] (λ_ (a:Bool)=>[(13,aF a)]) (λ_ _=>[]) (.bB 15 (decide (a3<1)) λx4=>.ifs [15] x4 (.ret true) (.bB 18 (decide (a2<0)) λx5=>.ifs [18] x5 (.ret true) (.bB 23 (decide (a2>a3)) λx6=>.ifs [23] x6 (.ret true) (.cl 27 (xE a1) a5D B8 λx7=>.bB 28 (!x7) λx8=>.ret x8)))) (λy0_1=>.ifs [13] y0_1 (.ret ((0:Int))) (.bB 33 (decide (a2=a3)) λx9=>.ifs [33] x9 (.ret ((a1:Int))) (.bB 37 (decide (a1<0)) λx10=>.ifs [37] x10 (.bI 40 (aI (0-a1)) λx11=>.cl 43 (wT n x11 a2 a3) sW xV λx12=>.bI 48 (aI (0-x12.1)) λx13=>.ret ((x13:Int))) (.cl 53 (wT n a1 a2 a3) sW xV λx14=>.ret ((x14.1:Int))))))
def mX (n:Nat) (a1:Int) (a2:Int) (a3:Int):Option (Int):=(aMF n a1 a2 a3).run
theorem nU {n a1 a2 a3}:PZ (mX n a1 a2 a3) 156 [int a1,int a2,int a3] int:=wq Tryz.func156
end
end Go.Pv
