import Derived.Test.YtidcjedeacampaaGreatX80j
set_option linter.unusedVariables false
set_option linter.unusedSimpArgs false
namespace Go.Pv
open Go.Proofs
set_option maxRecDepth 100000
set_option maxHeartbeats 4000000
noncomputable section
def E8 (n:Nat) (a1:aB) (a2:Int) (a3:List aN):WT Tryz.prog (.b (aB×Int)) :=
 .al 1<|.al 2<|.jn 0 [1,2,3,6,7] [1,2] [] (λ_ (a:Bool)=>[(20,aZ a)]) (λ_ _=>[]) (.bB 13 (decide (a2<0)) λx6=>.ifs [13] x6 (.ret true) (.ln 18 aP.av a1.bA<|.bB 19 (decide (a2>=(a1.bA.length:Int))) λx7=>.ret x7)) (λy0_1=>.ifs [20] y0_1 (.ret ((a1:aB),4)) (.cl 24 (xV n a3) YM aB3 λx8=>.bB 28 (decide (x8.2≠0)) λx9=>.ifs [28] x9 (.ret ((a1:aB),x8.2)) (.jC 35 aP.av gE aP.fB a1.bA a2 λx10=>.cl 39 (FC n x10.dI x8.1) aRR aFO λx11=>.bB 43 (decide (x11.2≠0)) λx12=>.ifs [43] x12 (.ret ((a1:aB),x11.2)) (.al 3<|.inl 49 RO Tryz.func71 [1,2] [4] (λu3 (a:Unit)=>.pt 4 (u3 4) (Int.toNat a2) 0) (λu3 _=>[.kp 3 [[int a1.bF.gG,int a1.bF.gZ,aH 1 fI a1.bF.bW,aH 1 (fL 1 fI) a1.bF.Methods,aH 1 (fL 1 fI) a1.bF.gX,.sl 4 (u3 4) 0 a1.bA.length,aH 8 dX.av a1.bX,aH 9 fA.av a1.dS,aH 6 fP.av a1.dH,int a1.Done]],.nw 4 60 8 (a1.bA.map aP.av)]) (.as (a1.bA.length<=68719476736) inferInstance<|.ge 11 4<|.bo (ix a1.bA a2) λx16=>.gv 21<|.ret ()) (λ_=>.bo (ix a1.bA a2) λx17=>.gv 51<|.gv 52<|.bl (a1.bA.set (Int.toNat a2) ((⟨x17.fQ,x17.Closed,x17.bR,x11.1,x17.dJ,x17.gJ,x17.Down,x17.fZ⟩:aP):aP):List aP) λx18=>.ge 1010005 0<|.ret (((⟨a1.bF,x18,a1.bX,a1.dS,a1.dH,a1.Done⟩:aB):aB),0))))))
def uU (n:Nat) (a1:aB) (a2:Int) (a3:List aN):Option (aB×Int):=(E8 n a1 a2 a3).run
theorem aQQ {n:Nat} {a1:aB} {a2:Int} {a3:List aN} {r:aB×Int} (h0:uU n a1 a2 a3=some r):PP Tryz.prog 35 [.agg (aB.av a1),int a2,aH 2 aN.av a3] (λy=>y=.bD [.agg (aB.av r.1),int r.2]):=by
 refine bY mixed aA (λ(r:aB×Int)=>.bD [.agg (aB.av r.1),int r.2]) h0 Tryz.func35 (λr=>.bD (gK ((λ(a:aB)=>PV.agg (aB.dR a)) (r.1)) (bQ (r.2)))) 100000 ?_
 intro v4
 intro v5
 refine .mk ?_ ?_
 refine .mk λx6=>?_
 refine .mk .mk ?_
 refine .mk ?_
 refine .mk λx7=>?_
 exact .mk
 intro _ _
 refine .mk .mk ?_
 refine .mk λx8 e8=>?_
 refine .mk λx9=>?_
 refine .mk .mk ?_
 refine .mk λx10 e10=>?_
 refine .mk λx11 e11=>?_
 refine .mk λx12=>?_
 refine .mk .mk ?_
 intro v13
 refine .mk ?_ ?_
 refine .mk λp14=>?_
 refine .mk _ ⟨λ_=>nC rfl rfl (.cons rfl .nil) SA (qB (Q6 (id:=4) (l:=a1.bA) rfl p14) (.cons (.refl _) .nil)),λ_ _ _=>trivial⟩ ?_
 rintro _ _ ⟨v15,rfl,rfl⟩
 refine .mk λx16 e16=>?_
 refine .mk _ (fK (iT rfl Tryz.underlying27 mQ rfl rfl rfl rfl rfl (Eq.symm rfl) (List.length_map _) e16)) ?_
 exact .mk
 intro _ _
 refine .mk trivial ?_
 refine .mk λx17 e17=>?_
 refine .mk _ (fK (mI rfl rfl (.pt rfl rfl (iM e17 (aP.fB _))))) ?_
 refine .mk _ (fK (iC rfl FY rfl (.pt rfl rfl (iM e17 (aP.fB _))) (.pt _ _ _ _ _))) ?_
 refine .mk λx18 e18=>?_
 have fx18:=mX e17 e18;have lx18:=l6 e18 (rfl:a1.bA.length=a1.bA.length)
 refine .mk _ ⟨λ_=>eG.iA (iP (ob':=(⟨60,8,true,true,_,x18.map aP.av⟩:cO)) (iL rfl lT rfl rfl rfl rfl rfl (iM e17 (aP.fB _)) rfl rfl rfl) (jZ (aBK e18 (aP.fB _)))) (λ_ h=>h) (λ_ _=>trivial),λ_ _ _=>trivial⟩ ?_
 rintro _ _ ⟨rfl,rfl⟩
 exact .mk (dG.bD (.cons (dG.agg (.cons (.refl _) (.cons (.refl _) (.cons (.refl _) (.cons (.refl _) (.cons (.refl _) (.cons (gY rfl rfl rfl rfl rfl (Eq.symm lx18)) (.cons (.refl _) (.cons (.refl _) (.cons (.refl _) (.cons (.refl _) .nil))))))))))) (.cons (.refl _) .nil)))
def TL (a1:aB) (a2:Int) (a3:Int) (a4:cB):WT Tryz.prog (.b (aB×Int)) :=
 .al 1<|.al 2<|.al 3<|.cl 21 (AO a1 a2 a3) NL QO λx8=>.bB 22 (!x8) λx9=>.ifs [22] x9 (.ret ((a1:aB),4)) (.jC 27 aP.av gE aP.fB a1.bA a2 λx10=>.ix 31 cB.av x10.dJ a3 λx11=>.al 4<|.inl 34 aQV Tryz.func72 [1,2,3,4] [] (λ_ (a:Unit)=>aH 1 fI ([a4.Open,a4.jH,a4.jL,a4.jJ,a4.jK,a4.jG,a4.jN,a4.jE,a4.jF,a4.jM,a4.jI]:List Int)) (λ_ _=>[]) (.al 5<|.to 25 (aH 1 fI ([a4.Open,a4.jH,a4.jL,a4.jJ,a4.jK,a4.jG,a4.jN,a4.jE,a4.jF,a4.jM,a4.jI]:List Int))<|.ret ()) (λ_=>.fH 0 [1,2,4,8,9,10] [1,3] [] (λ_ (a:cB)=>[]) (λ_ a=>[.kp 4 [[int a.Open,int a.jH,int a.jL,int a.jJ,int a.jK,int a.jG,int a.jN,int a.jE,int a.jF,int a.jM,int a.jI]]]) (.un 24 (.kB 37 true<|.ix 39 fI ([a4.Open,a4.jH,a4.jL,a4.jJ,a4.jK,a4.jG,a4.jN,a4.jE,a4.jF,a4.jM,a4.jI]:List Int) 0 λx14=>.inl 41 tJ Tryz.func73 [1,2,3,4] [] (λu51 (a:Unit)=>.list 1 [[.pt 4 (u51 4) 0 0],[.pt 4 (u51 4) 0 1],[.pt 4 (u51 4) 0 2],[.pt 4 (u51 4) 0 3],[.pt 4 (u51 4) 0 4],[.pt 4 (u51 4) 0 5],[.pt 4 (u51 4) 0 6],[.pt 4 (u51 4) 0 7],[.pt 4 (u51 4) 0 8],[.pt 4 (u51 4) 0 9],[.pt 4 (u51 4) 0 10]]) (λ_ _=>[]) (.dr [(1,[4]),(2,[4]),(4,[4]),(5,[4]),(7,[4]),(8,[4]),(10,[4]),(11,[4]),(13,[4]),(14,[4]),(16,[4]),(17,[4]),(19,[4]),(20,[4]),(22,[4]),(23,[4]),(25,[4]),(26,[4]),(28,[4]),(29,[4]),(31,[4]),(32,[4])] [] [4] [] [0,1,2,3,4,5,6,7,8,9,10,11,12,13,14,15,16,17,18,19,20,21,22,23,24,25,26,27,28,29,30,31,32,33,34] (.gv 36<|.ret ())) (λ_=>.gv 43<|.cl 50 (oH x11.Open x14) pV pQ λx15=>.bB 54 (decide (x15.2≠0)) λx16=>.ifs [54] x16 (.esc (.ret ((a1:aB),x15.2))) (.kI 60 1<|.kB 37 true<|.ix 39 fI ([a4.Open,a4.jH,a4.jL,a4.jJ,a4.jK,a4.jG,a4.jN,a4.jE,a4.jF,a4.jM,a4.jI]:List Int) 1 λx17=>.inl 41 tJ Tryz.func73 [1,2,3,4] [] (λu55 (a:Unit)=>.list 1 [[.pt 4 (u55 4) 0 0],[.pt 4 (u55 4) 0 1],[.pt 4 (u55 4) 0 2],[.pt 4 (u55 4) 0 3],[.pt 4 (u55 4) 0 4],[.pt 4 (u55 4) 0 5],[.pt 4 (u55 4) 0 6],[.pt 4 (u55 4) 0 7],[.pt 4 (u55 4) 0 8],[.pt 4 (u55 4) 0 9],[.pt 4 (u55 4) 0 10]]) (λ_ _=>[]) (.dr [(1,[4]),(2,[4]),(4,[4]),(5,[4]),(7,[4]),(8,[4]),(10,[4]),(11,[4]),(13,[4]),(14,[4]),(16,[4]),(17,[4]),(19,[4]),(20,[4]),(22,[4]),(23,[4]),(25,[4]),(26,[4]),(28,[4]),(29,[4]),(31,[4]),(32,[4])] [] [4] [] [0,1,2,3,4,5,6,7,8,9,10,11,12,13,14,15,16,17,18,19,20,21,22,23,24,25,26,27,28,29,30,31,32,33,34] (.gv 36<|.ret ())) (λ_=>.gv 43<|.cl 50 (oH x11.jH x17) pV pQ λx18=>.bB 54 (decide (x18.2≠0)) λx19=>.ifs [54] x19 (.esc (.ret ((a1:aB),x18.2))) (.kI 60 2<|.kB 37 true<|.ix 39 fI ([a4.Open,a4.jH,a4.jL,a4.jJ,a4.jK,a4.jG,a4.jN,a4.jE,a4.jF,a4.jM,a4.jI]:List Int) 2 λx20=>.inl 41 tJ Tryz.func73 [1,2,3,4] [] (λu59 (a:Unit)=>.list 1 [[.pt 4 (u59 4) 0 0],[.pt 4 (u59 4) 0 1],[.pt 4 (u59 4) 0 2],[.pt 4 (u59 4) 0 3],[.pt 4 (u59 4) 0 4],[.pt 4 (u59 4) 0 5],[.pt 4 (u59 4) 0 6],[.pt 4 (u59 4) 0 7],[.pt 4 (u59 4) 0 8],[.pt 4 (u59 4) 0 9],[.pt 4 (u59 4) 0 10]]) (λ_ _=>[]) (.dr [(1,[4]),(2,[4]),(4,[4]),(5,[4]),(7,[4]),(8,[4]),(10,[4]),(11,[4]),(13,[4]),(14,[4]),(16,[4]),(17,[4]),(19,[4]),(20,[4]),(22,[4]),(23,[4]),(25,[4]),(26,[4]),(28,[4]),(29,[4]),(31,[4]),(32,[4])] [] [4] [] [0,1,2,3,4,5,6,7,8,9,10,11,12,13,14,15,16,17,18,19,20,21,22,23,24,25,26,27,28,29,30,31,32,33,34] (.gv 36<|.ret ())) (λ_=>.gv 43<|.cl 50 (oH x11.jL x20) pV pQ λx21=>.bB 54 (decide (x21.2≠0)) λx22=>.ifs [54] x22 (.esc (.ret ((a1:aB),x21.2))) (.kI 60 3<|.kB 37 true<|.ix 39 fI ([a4.Open,a4.jH,a4.jL,a4.jJ,a4.jK,a4.jG,a4.jN,a4.jE,a4.jF,a4.jM,a4.jI]:List Int) 3 λx23=>.inl 41 tJ Tryz.func73 [1,2,3,4] [] (λu63 (a:Unit)=>.list 1 [[.pt 4 (u63 4) 0 0],[.pt 4 (u63 4) 0 1],[.pt 4 (u63 4) 0 2],[.pt 4 (u63 4) 0 3],[.pt 4 (u63 4) 0 4],[.pt 4 (u63 4) 0 5],[.pt 4 (u63 4) 0 6],[.pt 4 (u63 4) 0 7],[.pt 4 (u63 4) 0 8],[.pt 4 (u63 4) 0 9],[.pt 4 (u63 4) 0 10]]) (λ_ _=>[]) (.dr [(1,[4]),(2,[4]),(4,[4]),(5,[4]),(7,[4]),(8,[4]),(10,[4]),(11,[4]),(13,[4]),(14,[4]),(16,[4]),(17,[4]),(19,[4]),(20,[4]),(22,[4]),(23,[4]),(25,[4]),(26,[4]),(28,[4]),(29,[4]),(31,[4]),(32,[4])] [] [4] [] [0,1,2,3,4,5,6,7,8,9,10,11,12,13,14,15,16,17,18,19,20,21,22,23,24,25,26,27,28,29,30,31,32,33,34] (.gv 36<|.ret ())) (λ_=>.gv 43<|.cl 50 (oH x11.jJ x23) pV pQ λx24=>.bB 54 (decide (x24.2≠0)) λx25=>.ifs [54] x25 (.esc (.ret ((a1:aB),x24.2))) (.kI 60 4<|.kB 37 true<|.ix 39 fI ([a4.Open,a4.jH,a4.jL,a4.jJ,a4.jK,a4.jG,a4.jN,a4.jE,a4.jF,a4.jM,a4.jI]:List Int) 4 λx26=>.inl 41 tJ Tryz.func73 [1,2,3,4] [] (λu67 (a:Unit)=>.list 1 [[.pt 4 (u67 4) 0 0],[.pt 4 (u67 4) 0 1],[.pt 4 (u67 4) 0 2],[.pt 4 (u67 4) 0 3],[.pt 4 (u67 4) 0 4],[.pt 4 (u67 4) 0 5],[.pt 4 (u67 4) 0 6],[.pt 4 (u67 4) 0 7],[.pt 4 (u67 4) 0 8],[.pt 4 (u67 4) 0 9],[.pt 4 (u67 4) 0 10]]) (λ_ _=>[]) (.dr [(1,[4]),(2,[4]),(4,[4]),(5,[4]),(7,[4]),(8,[4]),(10,[4]),(11,[4]),(13,[4]),(14,[4]),(16,[4]),(17,[4]),(19,[4]),(20,[4]),(22,[4]),(23,[4]),(25,[4]),(26,[4]),(28,[4]),(29,[4]),(31,[4]),(32,[4])] [] [4] [] [0,1,2,3,4,5,6,7,8,9,10,11,12,13,14,15,16,17,18,19,20,21,22,23,24,25,26,27,28,29,30,31,32,33,34] (.gv 36<|.ret ())) (λ_=>.gv 43<|.cl 50 (oH x11.jK x26) pV pQ λx27=>.bB 54 (decide (x27.2≠0)) λx28=>.ifs [54] x28 (.esc (.ret ((a1:aB),x27.2))) (.kI 60 5<|.kB 37 true<|.ix 39 fI ([a4.Open,a4.jH,a4.jL,a4.jJ,a4.jK,a4.jG,a4.jN,a4.jE,a4.jF,a4.jM,a4.jI]:List Int) 5 λx29=>.inl 41 tJ Tryz.func73 [1,2,3,4] [] (λu71 (a:Unit)=>.list 1 [[.pt 4 (u71 4) 0 0],[.pt 4 (u71 4) 0 1],[.pt 4 (u71 4) 0 2],[.pt 4 (u71 4) 0 3],[.pt 4 (u71 4) 0 4],[.pt 4 (u71 4) 0 5],[.pt 4 (u71 4) 0 6],[.pt 4 (u71 4) 0 7],[.pt 4 (u71 4) 0 8],[.pt 4 (u71 4) 0 9],[.pt 4 (u71 4) 0 10]]) (λ_ _=>[]) (.dr [(1,[4]),(2,[4]),(4,[4]),(5,[4]),(7,[4]),(8,[4]),(10,[4]),(11,[4]),(13,[4]),(14,[4]),(16,[4]),(17,[4]),(19,[4]),(20,[4]),(22,[4]),(23,[4]),(25,[4]),(26,[4]),(28,[4]),(29,[4]),(31,[4]),(32,[4])] [] [4] [] [0,1,2,3,4,5,6,7,8,9,10,11,12,13,14,15,16,17,18,19,20,21,22,23,24,25,26,27,28,29,30,31,32,33,34] (.gv 36<|.ret ())) (λ_=>.gv 43<|.cl 50 (oH x11.jG x29) pV pQ λx30=>.bB 54 (decide (x30.2≠0)) λx31=>.ifs [54] x31 (.esc (.ret ((a1:aB),x30.2))) (.kI 60 6<|.kB 37 true<|.ix 39 fI ([a4.Open,a4.jH,a4.jL,a4.jJ,a4.jK,a4.jG,a4.jN,a4.jE,a4.jF,a4.jM,a4.jI]:List Int) 6 λx32=>.inl 41 tJ Tryz.func73 [1,2,3,4] [] (λu75 (a:Unit)=>.list 1 [[.pt 4 (u75 4) 0 0],[.pt 4 (u75 4) 0 1],[.pt 4 (u75 4) 0 2],[.pt 4 (u75 4) 0 3],[.pt 4 (u75 4) 0 4],[.pt 4 (u75 4) 0 5],[.pt 4 (u75 4) 0 6],[.pt 4 (u75 4) 0 7],[.pt 4 (u75 4) 0 8],[.pt 4 (u75 4) 0 9],[.pt 4 (u75 4) 0 10]]) (λ_ _=>[]) (.dr [(1,[4]),(2,[4]),(4,[4]),(5,[4]),(7,[4]),(8,[4]),(10,[4]),(11,[4]),(13,[4]),(14,[4]),(16,[4]),(17,[4]),(19,[4]),(20,[4]),(22,[4]),(23,[4]),(25,[4]),(26,[4]),(28,[4]),(29,[4]),(31,[4]),(32,[4])] [] [4] [] [0,1,2,3,4,5,6,7,8,9,10,11,12,13,14,15,16,17,18,19,20,21,22,23,24,25,26,27,28,29,30,31,32,33,34] (.gv 36<|.ret ())) (λ_=>.gv 43<|.cl 50 (oH x11.jN x32) pV pQ λx33=>.bB 54 (decide (x33.2≠0)) λx34=>.ifs [54] x34 (.esc (.ret ((a1:aB),x33.2))) (.kI 60 7<|.kB 37 true<|.ix 39 fI ([a4.Open,a4.jH,a4.jL,a4.jJ,a4.jK,a4.jG,a4.jN,a4.jE,a4.jF,a4.jM,a4.jI]:List Int) 7 λx35=>.inl 41 tJ Tryz.func73 [1,2,3,4] [] (λu79 (a:Unit)=>.list 1 [[.pt 4 (u79 4) 0 0],[.pt 4 (u79 4) 0 1],[.pt 4 (u79 4) 0 2],[.pt 4 (u79 4) 0 3],[.pt 4 (u79 4) 0 4],[.pt 4 (u79 4) 0 5],[.pt 4 (u79 4) 0 6],[.pt 4 (u79 4) 0 7],[.pt 4 (u79 4) 0 8],[.pt 4 (u79 4) 0 9],[.pt 4 (u79 4) 0 10]]) (λ_ _=>[]) (.dr [(1,[4]),(2,[4]),(4,[4]),(5,[4]),(7,[4]),(8,[4]),(10,[4]),(11,[4]),(13,[4]),(14,[4]),(16,[4]),(17,[4]),(19,[4]),(20,[4]),(22,[4]),(23,[4]),(25,[4]),(26,[4]),(28,[4]),(29,[4]),(31,[4]),(32,[4])] [] [4] [] [0,1,2,3,4,5,6,7,8,9,10,11,12,13,14,15,16,17,18,19,20,21,22,23,24,25,26,27,28,29,30,31,32,33,34] (.gv 36<|.ret ())) (λ_=>.gv 43<|.cl 50 (oH x11.jE x35) pV pQ λx36=>.bB 54 (decide (x36.2≠0)) λx37=>.ifs [54] x37 (.esc (.ret ((a1:aB),x36.2))) (.kI 60 8<|.kB 37 true<|.ix 39 fI ([a4.Open,a4.jH,a4.jL,a4.jJ,a4.jK,a4.jG,a4.jN,a4.jE,a4.jF,a4.jM,a4.jI]:List Int) 8 λx38=>.inl 41 tJ Tryz.func73 [1,2,3,4] [] (λu83 (a:Unit)=>.list 1 [[.pt 4 (u83 4) 0 0],[.pt 4 (u83 4) 0 1],[.pt 4 (u83 4) 0 2],[.pt 4 (u83 4) 0 3],[.pt 4 (u83 4) 0 4],[.pt 4 (u83 4) 0 5],[.pt 4 (u83 4) 0 6],[.pt 4 (u83 4) 0 7],[.pt 4 (u83 4) 0 8],[.pt 4 (u83 4) 0 9],[.pt 4 (u83 4) 0 10]]) (λ_ _=>[]) (.dr [(1,[4]),(2,[4]),(4,[4]),(5,[4]),(7,[4]),(8,[4]),(10,[4]),(11,[4]),(13,[4]),(14,[4]),(16,[4]),(17,[4]),(19,[4]),(20,[4]),(22,[4]),(23,[4]),(25,[4]),(26,[4]),(28,[4]),(29,[4]),(31,[4]),(32,[4])] [] [4] [] [0,1,2,3,4,5,6,7,8,9,10,11,12,13,14,15,16,17,18,19,20,21,22,23,24,25,26,27,28,29,30,31,32,33,34] (.gv 36<|.ret ())) (λ_=>.gv 43<|.cl 50 (oH x11.jF x38) pV pQ λx39=>.bB 54 (decide (x39.2≠0)) λx40=>.ifs [54] x40 (.esc (.ret ((a1:aB),x39.2))) (.kI 60 9<|.kB 37 true<|.ix 39 fI ([a4.Open,a4.jH,a4.jL,a4.jJ,a4.jK,a4.jG,a4.jN,a4.jE,a4.jF,a4.jM,a4.jI]:List Int) 9 λx41=>.inl 41 tJ Tryz.func73 [1,2,3,4] [] (λu87 (a:Unit)=>.list 1 [[.pt 4 (u87 4) 0 0],[.pt 4 (u87 4) 0 1],[.pt 4 (u87 4) 0 2],[.pt 4 (u87 4) 0 3],[.pt 4 (u87 4) 0 4],[.pt 4 (u87 4) 0 5],[.pt 4 (u87 4) 0 6],[.pt 4 (u87 4) 0 7],[.pt 4 (u87 4) 0 8],[.pt 4 (u87 4) 0 9],[.pt 4 (u87 4) 0 10]]) (λ_ _=>[]) (.dr [(1,[4]),(2,[4]),(4,[4]),(5,[4]),(7,[4]),(8,[4]),(10,[4]),(11,[4]),(13,[4]),(14,[4]),(16,[4]),(17,[4]),(19,[4]),(20,[4]),(22,[4]),(23,[4]),(25,[4]),(26,[4]),(28,[4]),(29,[4]),(31,[4]),(32,[4])] [] [4] [] [0,1,2,3,4,5,6,7,8,9,10,11,12,13,14,15,16,17,18,19,20,21,22,23,24,25,26,27,28,29,30,31,32,33,34] (.gv 36<|.ret ())) (λ_=>.gv 43<|.cl 50 (oH x11.jM x41) pV pQ λx42=>.bB 54 (decide (x42.2≠0)) λx43=>.ifs [54] x43 (.esc (.ret ((a1:aB),x42.2))) (.kI 60 10<|.kB 37 true<|.ix 39 fI ([a4.Open,a4.jH,a4.jL,a4.jJ,a4.jK,a4.jG,a4.jN,a4.jE,a4.jF,a4.jM,a4.jI]:List Int) 10 λx44=>.inl 41 tJ Tryz.func73 [1,2,3,4] [] (λu91 (a:Unit)=>.list 1 [[.pt 4 (u91 4) 0 0],[.pt 4 (u91 4) 0 1],[.pt 4 (u91 4) 0 2],[.pt 4 (u91 4) 0 3],[.pt 4 (u91 4) 0 4],[.pt 4 (u91 4) 0 5],[.pt 4 (u91 4) 0 6],[.pt 4 (u91 4) 0 7],[.pt 4 (u91 4) 0 8],[.pt 4 (u91 4) 0 9],[.pt 4 (u91 4) 0 10]]) (λ_ _=>[]) (.dr [(1,[4]),(2,[4]),(4,[4]),(5,[4]),(7,[4]),(8,[4]),(10,[4]),(11,[4]),(13,[4]),(14,[4]),(16,[4]),(17,[4]),(19,[4]),(20,[4]),(22,[4]),(23,[4]),(25,[4]),(26,[4]),(28,[4]),(29,[4]),(31,[4]),(32,[4])] [] [4] [] [0,1,2,3,4,5,6,7,8,9,10,11,12,13,14,15,16,17,18,19,20,21,22,23,24,25,26,27,28,29,30,31,32,33,34] (.gv 36<|.ret ())) (λ_=>.gv 43<|.cl 50 (oH x11.jI x44) pV pQ λx45=>.bB 54 (decide (x45.2≠0)) λx46=>.ifs [54] x46 (.esc (.ret ((a1:aB),x45.2))) (.kI 60 11<|.kB 37 false<|.brk ((⟨x15.1,x18.1,x21.1,x24.1,x27.1,x30.1,x33.1,x36.1,x39.1,x42.1,x45.1⟩:cB):cB))))))))))))))))))))))))) (λy2_1=>.al 6<|.inl 64 RO Tryz.func71 [1,3,4] [7] (λu93 (a:Unit)=>.pt 7 (u93 7) (Int.toNat a2) 0) (λu93 _=>[.kp 6 [[int a1.bF.gG,int a1.bF.gZ,aH 1 fI a1.bF.bW,aH 1 (fL 1 fI) a1.bF.Methods,aH 1 (fL 1 fI) a1.bF.gX,.sl 7 (u93 7) 0 a1.bA.length,aH 8 dX.av a1.bX,aH 9 fA.av a1.dS,aH 6 fP.av a1.dH,int a1.Done]],.nw 7 60 8 (a1.bA.map aP.av)]) (.as (a1.bA.length<=68719476736) inferInstance<|.ge 11 7<|.bo (ix a1.bA a2) λx50=>.gv 21<|.ret ()) (λ_=>.bo (ix a1.bA a2) λx51=>.gv 67<|.gv 68<|.gv 69<|.as (x51.dJ.length<=68719476736) inferInstance<|.ge 70 8<|.gv 71<|.gv 72<|.ge 1015008 0<|.dr [(1,[7]),(2,[7]),(3,[7]),(5,[4]),(6,[8])] [(7,[])] [4,7,8] [7] [0,1,2,3,4,5,6,7] (.gv 74<|.gv 75<|.gv 76<|.bo (ix x51.dJ a3) λx54=>.gv 79<|.bl (x51.dJ.set (Int.toNat a3) y2_1:List cB) λx55=>.ge 1016007 0<|.ret (((⟨a1.bF,(a1.bA.set (Int.toNat a2) (⟨x51.fQ,x51.Closed,x51.bR,x51.dI,x55,x51.gJ,x51.Down,x51.fZ⟩:aP)),a1.bX,a1.dS,a1.dH,a1.Done⟩:aB):aB),0))))))
def xG (a1:aB) (a2:Int) (a3:Int) (a4:cB):Option (aB×Int):=(TL a1 a2 a3 a4).run
theorem aQ7 {a1:aB} {a2:Int} {a3:Int} {a4:cB} {r:aB×Int} (h0:xG a1 a2 a3 a4=some r):PP Tryz.prog 37 [.agg (aB.av a1),int a2,int a3,.agg (cB.av a4)] (λy=>y=.bD [.agg (aB.av r.1),int r.2]):=by
 refine bY mixed aA (λ(r:aB×Int)=>.bD [.agg (aB.av r.1),int r.2]) h0 Tryz.func37 (λr=>.bD (gK ((λ(a:aB)=>PV.agg (aB.dR a)) (r.1)) (bQ (r.2)))) 100000 ?_
 intro v5
 intro v6
 intro v7
 refine .mk λx8 e8=>?_
 refine .mk λx9=>?_
 refine .mk .mk ?_
 refine .mk λx10 e10=>?_
 refine .mk λx11 e11=>?_
 intro v12
 refine .mk ?_ ?_
 intro v13
 refine .mk (fK (fT (y:=aH 1 fI ([a4.Open,a4.jH,a4.jL,a4.jJ,a4.jK,a4.jG,a4.jN,a4.jE,a4.jF,a4.jM,a4.jI]:List Int)) (jP (ps:=[(0,_),(1,_),(2,_),(3,_),(4,_),(5,_),(6,_),(7,_),(8,_),(9,_),(10,_)]) (rows:=[[int a4.Open],[int a4.jH],[int a4.jL],[int a4.jJ],[int a4.jK],[int a4.jG],[int a4.jN],[int a4.jE],[int a4.jF],[int a4.jM],[int a4.jI]]) rfl Tryz.underlying22 kC (.cons rfl (.cons rfl (.cons rfl (.cons rfl (.cons rfl (.cons rfl (.cons rfl (.cons rfl (.cons rfl (.cons rfl (.cons rfl .nil))))))))))) (by kernel_rfl) rfl rfl rfl) rfl)) ?_
 exact .mk
 intro _ _
 refine .mk trivial ?_
 refine .mk ?_ ?_
 refine .mk ?_
 refine .mk λx14 e14=>?_
 refine .mk ?_ ?_
 refine .mk ?_
 refine .mk _ (λH hH _=>jP (ps:=[(0,_),(1,_),(2,_),(3,_),(4,_),(5,_),(6,_),(7,_),(8,_),(9,_),(10,_)]) (rows:=[[.pt 4 v12 0 0],[.pt 4 v12 0 1],[.pt 4 v12 0 2],[.pt 4 v12 0 3],[.pt 4 v12 0 4],[.pt 4 v12 0 5],[.pt 4 v12 0 6],[.pt 4 v12 0 7],[.pt 4 v12 0 8],[.pt 4 v12 0 9],[.pt 4 v12 0 10]]) rfl Tryz.underlying114 tH (.cons rfl (.cons rfl (.cons rfl (.cons rfl (.cons rfl (.cons rfl (.cons rfl (.cons rfl (.cons rfl (.cons rfl (.cons rfl .nil))))))))))) (by kernel_rfl) rfl rfl rfl) ?_
 exact .mk
 intro _ _
 refine .mk trivial ?_
 refine .mk _ (fK (mD (j:=0) rfl Tryz.underlying114 rZ rfl rfl rfl (.list rfl))) ?_
 refine .mk λx15 e15=>?_
 refine .mk λx16=>?_
 refine .mk .mk ?_
 refine .mk ?_
 refine .mk ?_
 refine .mk λx17 e17=>?_
 refine .mk ?_ ?_
 refine .mk ?_
 refine .mk _ (λH hH _=>jP (ps:=[(0,_),(1,_),(2,_),(3,_),(4,_),(5,_),(6,_),(7,_),(8,_),(9,_),(10,_)]) (rows:=[[.pt 4 v12 0 0],[.pt 4 v12 0 1],[.pt 4 v12 0 2],[.pt 4 v12 0 3],[.pt 4 v12 0 4],[.pt 4 v12 0 5],[.pt 4 v12 0 6],[.pt 4 v12 0 7],[.pt 4 v12 0 8],[.pt 4 v12 0 9],[.pt 4 v12 0 10]]) rfl Tryz.underlying114 tH (.cons rfl (.cons rfl (.cons rfl (.cons rfl (.cons rfl (.cons rfl (.cons rfl (.cons rfl (.cons rfl (.cons rfl (.cons rfl .nil))))))))))) (by kernel_rfl) rfl rfl rfl) ?_
 exact .mk
 intro _ _
 refine .mk trivial ?_
 refine .mk _ (fK (mD (j:=1) rfl Tryz.underlying114 rZ rfl rfl rfl (.list rfl))) ?_
 refine .mk λx18 e18=>?_
 refine .mk λx19=>?_
 refine .mk .mk ?_
 refine .mk ?_
 refine .mk ?_
 refine .mk λx20 e20=>?_
 refine .mk ?_ ?_
 refine .mk ?_
 refine .mk _ (λH hH _=>jP (ps:=[(0,_),(1,_),(2,_),(3,_),(4,_),(5,_),(6,_),(7,_),(8,_),(9,_),(10,_)]) (rows:=[[.pt 4 v12 0 0],[.pt 4 v12 0 1],[.pt 4 v12 0 2],[.pt 4 v12 0 3],[.pt 4 v12 0 4],[.pt 4 v12 0 5],[.pt 4 v12 0 6],[.pt 4 v12 0 7],[.pt 4 v12 0 8],[.pt 4 v12 0 9],[.pt 4 v12 0 10]]) rfl Tryz.underlying114 tH (.cons rfl (.cons rfl (.cons rfl (.cons rfl (.cons rfl (.cons rfl (.cons rfl (.cons rfl (.cons rfl (.cons rfl (.cons rfl .nil))))))))))) (by kernel_rfl) rfl rfl rfl) ?_
 exact .mk
 intro _ _
 refine .mk trivial ?_
 refine .mk _ (fK (mD (j:=2) rfl Tryz.underlying114 rZ rfl rfl rfl (.list rfl))) ?_
 refine .mk λx21 e21=>?_
 refine .mk λx22=>?_
 refine .mk .mk ?_
 refine .mk ?_
 refine .mk ?_
 refine .mk λx23 e23=>?_
 refine .mk ?_ ?_
 refine .mk ?_
 refine .mk _ (λH hH _=>jP (ps:=[(0,_),(1,_),(2,_),(3,_),(4,_),(5,_),(6,_),(7,_),(8,_),(9,_),(10,_)]) (rows:=[[.pt 4 v12 0 0],[.pt 4 v12 0 1],[.pt 4 v12 0 2],[.pt 4 v12 0 3],[.pt 4 v12 0 4],[.pt 4 v12 0 5],[.pt 4 v12 0 6],[.pt 4 v12 0 7],[.pt 4 v12 0 8],[.pt 4 v12 0 9],[.pt 4 v12 0 10]]) rfl Tryz.underlying114 tH (.cons rfl (.cons rfl (.cons rfl (.cons rfl (.cons rfl (.cons rfl (.cons rfl (.cons rfl (.cons rfl (.cons rfl (.cons rfl .nil))))))))))) (by kernel_rfl) rfl rfl rfl) ?_
 exact .mk
 intro _ _
 refine .mk trivial ?_
 refine .mk _ (fK (mD (j:=3) rfl Tryz.underlying114 rZ rfl rfl rfl (.list rfl))) ?_
 refine .mk λx24 e24=>?_
 refine .mk λx25=>?_
 refine .mk .mk ?_
 refine .mk ?_
 refine .mk ?_
 refine .mk λx26 e26=>?_
 refine .mk ?_ ?_
 refine .mk ?_
 refine .mk _ (λH hH _=>jP (ps:=[(0,_),(1,_),(2,_),(3,_),(4,_),(5,_),(6,_),(7,_),(8,_),(9,_),(10,_)]) (rows:=[[.pt 4 v12 0 0],[.pt 4 v12 0 1],[.pt 4 v12 0 2],[.pt 4 v12 0 3],[.pt 4 v12 0 4],[.pt 4 v12 0 5],[.pt 4 v12 0 6],[.pt 4 v12 0 7],[.pt 4 v12 0 8],[.pt 4 v12 0 9],[.pt 4 v12 0 10]]) rfl Tryz.underlying114 tH (.cons rfl (.cons rfl (.cons rfl (.cons rfl (.cons rfl (.cons rfl (.cons rfl (.cons rfl (.cons rfl (.cons rfl (.cons rfl .nil))))))))))) (by kernel_rfl) rfl rfl rfl) ?_
 exact .mk
 intro _ _
 refine .mk trivial ?_
 refine .mk _ (fK (mD (j:=4) rfl Tryz.underlying114 rZ rfl rfl rfl (.list rfl))) ?_
 refine .mk λx27 e27=>?_
 refine .mk λx28=>?_
 refine .mk .mk ?_
 refine .mk ?_
 refine .mk ?_
 refine .mk λx29 e29=>?_
 refine .mk ?_ ?_
 refine .mk ?_
 refine .mk _ (λH hH _=>jP (ps:=[(0,_),(1,_),(2,_),(3,_),(4,_),(5,_),(6,_),(7,_),(8,_),(9,_),(10,_)]) (rows:=[[.pt 4 v12 0 0],[.pt 4 v12 0 1],[.pt 4 v12 0 2],[.pt 4 v12 0 3],[.pt 4 v12 0 4],[.pt 4 v12 0 5],[.pt 4 v12 0 6],[.pt 4 v12 0 7],[.pt 4 v12 0 8],[.pt 4 v12 0 9],[.pt 4 v12 0 10]]) rfl Tryz.underlying114 tH (.cons rfl (.cons rfl (.cons rfl (.cons rfl (.cons rfl (.cons rfl (.cons rfl (.cons rfl (.cons rfl (.cons rfl (.cons rfl .nil))))))))))) (by kernel_rfl) rfl rfl rfl) ?_
 exact .mk
 intro _ _
 refine .mk trivial ?_
 refine .mk _ (fK (mD (j:=5) rfl Tryz.underlying114 rZ rfl rfl rfl (.list rfl))) ?_
 refine .mk λx30 e30=>?_
 refine .mk λx31=>?_
 refine .mk .mk ?_
 refine .mk ?_
 refine .mk ?_
 refine .mk λx32 e32=>?_
 refine .mk ?_ ?_
 refine .mk ?_
 refine .mk _ (λH hH _=>jP (ps:=[(0,_),(1,_),(2,_),(3,_),(4,_),(5,_),(6,_),(7,_),(8,_),(9,_),(10,_)]) (rows:=[[.pt 4 v12 0 0],[.pt 4 v12 0 1],[.pt 4 v12 0 2],[.pt 4 v12 0 3],[.pt 4 v12 0 4],[.pt 4 v12 0 5],[.pt 4 v12 0 6],[.pt 4 v12 0 7],[.pt 4 v12 0 8],[.pt 4 v12 0 9],[.pt 4 v12 0 10]]) rfl Tryz.underlying114 tH (.cons rfl (.cons rfl (.cons rfl (.cons rfl (.cons rfl (.cons rfl (.cons rfl (.cons rfl (.cons rfl (.cons rfl (.cons rfl .nil))))))))))) (by kernel_rfl) rfl rfl rfl) ?_
 exact .mk
 intro _ _
 refine .mk trivial ?_
 refine .mk _ (fK (mD (j:=6) rfl Tryz.underlying114 rZ rfl rfl rfl (.list rfl))) ?_
 refine .mk λx33 e33=>?_
 refine .mk λx34=>?_
 refine .mk .mk ?_
 refine .mk ?_
 refine .mk ?_
 refine .mk λx35 e35=>?_
 refine .mk ?_ ?_
 refine .mk ?_
 refine .mk _ (λH hH _=>jP (ps:=[(0,_),(1,_),(2,_),(3,_),(4,_),(5,_),(6,_),(7,_),(8,_),(9,_),(10,_)]) (rows:=[[.pt 4 v12 0 0],[.pt 4 v12 0 1],[.pt 4 v12 0 2],[.pt 4 v12 0 3],[.pt 4 v12 0 4],[.pt 4 v12 0 5],[.pt 4 v12 0 6],[.pt 4 v12 0 7],[.pt 4 v12 0 8],[.pt 4 v12 0 9],[.pt 4 v12 0 10]]) rfl Tryz.underlying114 tH (.cons rfl (.cons rfl (.cons rfl (.cons rfl (.cons rfl (.cons rfl (.cons rfl (.cons rfl (.cons rfl (.cons rfl (.cons rfl .nil))))))))))) (by kernel_rfl) rfl rfl rfl) ?_
 exact .mk
 intro _ _
 refine .mk trivial ?_
 refine .mk _ (fK (mD (j:=7) rfl Tryz.underlying114 rZ rfl rfl rfl (.list rfl))) ?_
 refine .mk λx36 e36=>?_
 refine .mk λx37=>?_
 refine .mk .mk ?_
 refine .mk ?_
 refine .mk ?_
 refine .mk λx38 e38=>?_
 refine .mk ?_ ?_
 refine .mk ?_
 refine .mk _ (λH hH _=>jP (ps:=[(0,_),(1,_),(2,_),(3,_),(4,_),(5,_),(6,_),(7,_),(8,_),(9,_),(10,_)]) (rows:=[[.pt 4 v12 0 0],[.pt 4 v12 0 1],[.pt 4 v12 0 2],[.pt 4 v12 0 3],[.pt 4 v12 0 4],[.pt 4 v12 0 5],[.pt 4 v12 0 6],[.pt 4 v12 0 7],[.pt 4 v12 0 8],[.pt 4 v12 0 9],[.pt 4 v12 0 10]]) rfl Tryz.underlying114 tH (.cons rfl (.cons rfl (.cons rfl (.cons rfl (.cons rfl (.cons rfl (.cons rfl (.cons rfl (.cons rfl (.cons rfl (.cons rfl .nil))))))))))) (by kernel_rfl) rfl rfl rfl) ?_
 exact .mk
 intro _ _
 refine .mk trivial ?_
 refine .mk _ (fK (mD (j:=8) rfl Tryz.underlying114 rZ rfl rfl rfl (.list rfl))) ?_
 refine .mk λx39 e39=>?_
 refine .mk λx40=>?_
 refine .mk .mk ?_
 refine .mk ?_
 refine .mk ?_
 refine .mk λx41 e41=>?_
 refine .mk ?_ ?_
 refine .mk ?_
 refine .mk _ (λH hH _=>jP (ps:=[(0,_),(1,_),(2,_),(3,_),(4,_),(5,_),(6,_),(7,_),(8,_),(9,_),(10,_)]) (rows:=[[.pt 4 v12 0 0],[.pt 4 v12 0 1],[.pt 4 v12 0 2],[.pt 4 v12 0 3],[.pt 4 v12 0 4],[.pt 4 v12 0 5],[.pt 4 v12 0 6],[.pt 4 v12 0 7],[.pt 4 v12 0 8],[.pt 4 v12 0 9],[.pt 4 v12 0 10]]) rfl Tryz.underlying114 tH (.cons rfl (.cons rfl (.cons rfl (.cons rfl (.cons rfl (.cons rfl (.cons rfl (.cons rfl (.cons rfl (.cons rfl (.cons rfl .nil))))))))))) (by kernel_rfl) rfl rfl rfl) ?_
 exact .mk
 intro _ _
 refine .mk trivial ?_
 refine .mk _ (fK (mD (j:=9) rfl Tryz.underlying114 rZ rfl rfl rfl (.list rfl))) ?_
 refine .mk λx42 e42=>?_
 refine .mk λx43=>?_
 refine .mk .mk ?_
 refine .mk ?_
 refine .mk ?_
 refine .mk λx44 e44=>?_
 refine .mk ?_ ?_
 refine .mk ?_
 refine .mk _ (λH hH _=>jP (ps:=[(0,_),(1,_),(2,_),(3,_),(4,_),(5,_),(6,_),(7,_),(8,_),(9,_),(10,_)]) (rows:=[[.pt 4 v12 0 0],[.pt 4 v12 0 1],[.pt 4 v12 0 2],[.pt 4 v12 0 3],[.pt 4 v12 0 4],[.pt 4 v12 0 5],[.pt 4 v12 0 6],[.pt 4 v12 0 7],[.pt 4 v12 0 8],[.pt 4 v12 0 9],[.pt 4 v12 0 10]]) rfl Tryz.underlying114 tH (.cons rfl (.cons rfl (.cons rfl (.cons rfl (.cons rfl (.cons rfl (.cons rfl (.cons rfl (.cons rfl (.cons rfl (.cons rfl .nil))))))))))) (by kernel_rfl) rfl rfl rfl) ?_
 exact .mk
 intro _ _
 refine .mk trivial ?_
 refine .mk _ (fK (mD (j:=10) rfl Tryz.underlying114 rZ rfl rfl rfl (.list rfl))) ?_
 refine .mk λx45 e45=>?_
 refine .mk λx46=>?_
 refine .mk .mk ?_
 refine .mk ?_
 refine .mk ?_
 exact .mk
 intro _ _
 intro v47
 refine .mk ?_ ?_
 refine .mk λp48=>?_
 refine .mk _ ⟨λ_=>nC rfl rfl (.cons rfl .nil) SA (qB (Q6 (id:=7) (l:=a1.bA) rfl p48) (.cons (.refl _) .nil)),λ_ _ _=>trivial⟩ ?_
 rintro _ _ ⟨v49,rfl,rfl⟩
 refine .mk λx50 e50=>?_
 refine .mk _ (fK (iT rfl Tryz.underlying27 mQ rfl rfl rfl rfl rfl (Eq.symm rfl) (List.length_map _) e50)) ?_
 exact .mk
 intro _ _
 refine .mk trivial ?_
 refine .mk λx51 e51=>?_
 refine .mk _ (fK (mI rfl rfl (.pt rfl rfl (iM e51 (aP.fB _))))) ?_
 refine .mk _ (fK (iC rfl tC rfl (.pt rfl rfl (iM e51 (aP.fB _))) (.pt _ _ _ _ _))) ?_
 refine .mk _ (fK (gQ rfl sG rfl (.pt rfl rfl (iM e51 (aP.fB _))) rfl)) ?_
 refine .mk λp52=>?_
 refine .mk _ ⟨λ_=>nC rfl rfl (.cons rfl .nil) aQE (qB (aON (id:=8) (l:=x51.dJ) rfl p52) (.cons (.refl _) .nil)),λ_ _ _=>trivial⟩ ?_
 rintro _ _ ⟨v53,rfl,rfl⟩
 refine .mk _ (fK (mI rfl rfl (.pt rfl rfl (iM e51 (aP.fB _))))) ?_
 refine .mk _ (fK (iC rfl tC rfl (.pt rfl rfl (iM e51 (aP.fB _))) (.pt _ _ _ _ _))) ?_
 refine .mk _ ⟨λ_=>eG.iA (iP (ob':=(⟨60,8,true,true,_,(a1.bA.map aP.av).set (Int.toNat a2) [int x51.fQ,aZ x51.Closed,aH 4 aS.av x51.bR,aH 1 fI x51.dI,.sl 8 v53 0 x51.dJ.length,aH 1 fI x51.gJ,aH 1 fI x51.Down,aH 8 aP.av x51.fZ]⟩:cO)) (iL rfl sG rfl rfl rfl rfl rfl (iM e51 (aP.fB _)) rfl rfl rfl) (jZ rfl)) (λ_ h=>h) (λ_ _=>trivial),λ_ _ _=>trivial⟩ ?_
 rintro _ _ ⟨rfl,rfl⟩
 refine .mk ?_
 refine .mk _ (λH hH _=>mI rfl rfl (.pt ((hH _ (by decide)).trans rfl) rfl (iG e51))) ?_
 refine .mk _ (λH hH _=>iC rfl tC rfl (.pt ((hH _ (by decide)).trans rfl) rfl (iG e51)) (.pt _ _ _ _ _)) ?_
 refine .mk _ (λH hH _=>gQ rfl sG rfl (.pt ((hH _ (by decide)).trans rfl) rfl (iG e51)) rfl) ?_
 refine .mk λx54 e54=>?_
 refine .mk _ (λH hH _=>iT rfl Tryz.underlying58 rM rfl rfl ((hH _ (by decide)).trans rfl) rfl rfl (Eq.symm rfl) (List.length_map _) e54) ?_
 refine .mk λx55 e55=>?_
 have fx55:=mX e54 e55;have lx55:=l6 e55 (rfl:x51.dJ.length=x51.dJ.length)
 refine .mk _ ⟨λ_=>eG.iA (iP (ob':=(⟨76,11,true,true,_,x55.map cB.av⟩:cO)) (iL rfl rM rfl rfl rfl rfl rfl (iN e54) rfl rfl rfl) (jZ (oI e55))) (λ_ h=>h) (λ_ _=>trivial),by rintro _ _ ⟨rfl,rfl⟩;exact trivial⟩ ?_
 rintro _ _ ⟨rfl,rfl⟩
 exact .mk (dG.bD (.cons (dG.agg (.cons (.refl _) (.cons (.refl _) (.cons (.refl _) (.cons (.refl _) (.cons (.refl _) (.cons (wX rfl rfl rfl rfl rfl (Eq.symm rfl) e51 (uO (.cons (.refl _) (.cons (.refl _) (.cons (.refl _) (.cons (.refl _) (.cons (gY rfl rfl rfl rfl rfl (Eq.symm lx55)) (.cons (.refl _) (.cons (.refl _) (.cons (.refl _) .nil)))))))) (aP.fB _))) (.cons (.refl _) (.cons (.refl _) (.cons (.refl _) (.cons (.refl _) .nil))))))))))) (.cons (.refl _) .nil)))
def aCE (n:Nat) (a1:aB) (a2:bJ):WT Tryz.prog (.b (aB×Int)) :=
 .al 1<|.al 2<|.al 3<|.bB 16 (decide (a2.Kind≠1)) λx6=>.ifs [16] x6 (.ret ((a1:aB),1)) (.al 4<|.al 5<|.al 6<|.al 7<|.gv 24<|.jn 1 [2,3,4,5,6,9] [1,2,3] [] (λ_ (a:aB×Int)=>[]) (λ_ a=>[.kp 4 [(aB.av a.1)],.kp 7 [[int a.2]]]) (.un 24 (.kB 28 true<|.gv 29<|.inl 32 aJN Tryz.func29 [1,2,3,4,5,6] [] (λ_ (a:Int)=>.bD []) (λ_ a=>[.kp 7 [[int a]]]) (.cl 8 (NF a1 a2.E a2.Item) aOK aLS λx11=>.ret x11) (λy0_1=>.bB 34 (decide (y0_1≠0)) λx12=>.ifs [34] x12 (.ret ((a1:aB),y0_1)) (.kI 35 1<|.kB 28 true<|.gv 29<|.inl 32 aSF Tryz.func31 [1,2,3,4,5,6] [] (λ_ (a:Int)=>.bD []) (λ_ a=>[.kp 7 [[int a]]]) (.ln 4 dX.av a1.bX<|.bB 5 (decide ((a1.bX.length:Int)>=40)) λx13=>.ifs [5] x13 (.ret 6) (.ret y0_1)) (λy0_1_1=>.bB 34 (decide (y0_1_1≠0)) λx14=>.ifs [34] x14 (.ret ((a1:aB),(y0_1_1:Int))) (.kI 35 2<|.kB 28 true<|.gv 29<|.inl 32 aMG Tryz.func32 [1,2,3] [] (λ_ (a:aB×Int×Int×Int)=>.bD []) (λ_ a=>[.kp 4 [(aB.av a.1)],.kp 5 [[int a.2.1]],.kp 6 [[int a.2.2.1]],.kp 7 [[int a.2.2.2]]]) (.cl 19 (yO n a1 a2.E a2.Item a2.Loc (⟨a2.aT,a2.bM,0⟩:aF)) aP4 aFR λx15=>.ret ((x15.1:aB),x15.2.1,x15.2.2.1,x15.2.2.2)) (pw λy0_1_2 q0=>(pw λy0_2 q1=>(pw λy0_3 y0_4=>.bB 34 (decide (y0_4≠0)) λx16=>.ifs [34] x16 (.ret ((y0_1_2:aB),y0_4)) (.kI 35 3<|.kB 28 true<|.gv 29<|.inl 32 aQU Tryz.func34 [1,2,3,5,6] [] (λ_ (a:aB×Int)=>.bD []) (λ_ a=>[.kp 4 [(aB.av a.1)],.kp 7 [[int a.2]]]) (.bI 15 (bE (0-a2.bM)) λx17=>.to 17 (aH 2 aN.av ([(⟨0,y0_2⟩:aN),(⟨6,y0_3⟩:aN),(⟨1,x17⟩:aN)]:List aN))<|.cl 18 (uU n y0_1_2 a2.E ([(⟨0,y0_2⟩:aN),(⟨6,y0_3⟩:aN),(⟨1,x17⟩:aN)]:List aN)) aHG aQQ λx18=>.ret ((x18.1:aB),x18.2)) (pw λy0_1_3 y0_2_1=>.bB 34 (decide (y0_2_1≠0)) λx19=>.ifs [34] x19 (.ret ((y0_1_3:aB),(y0_2_1:Int))) (.kI 35 4<|.kB 28 true<|.gv 29<|.inl 32 aFG Tryz.func36 [1,2,3,5,6] [] (λ_ (a:aB×Int)=>.bD []) (λ_ a=>[.kp 4 [(aB.av a.1)],.kp 7 [[int a.2]]]) (.cl 12 (xG y0_1_3 a2.E a2.Item (⟨0,y0_2,0,0,0,0,0,0,0,0,0⟩:cB)) aGE aQ7 λx20=>.ret ((x20.1:aB),x20.2)) (pw λy0_1_4 y0_2_2=>.bB 34 (decide (y0_2_2≠0)) λx21=>.ifs [34] x21 (.ret ((y0_1_4:aB),(y0_2_2:Int))) (.kI 35 5<|.kB 28 false<|.ret ((y0_1_4:aB),(y0_2_2:Int)))))))) q1) q0))))))) (pw λy1_1 y1_2=>.bB 37 (decide (y1_2≠0)) λx22=>.ifs [37] x22 (.dr [(0,[1]),(1,[7])] [(2,[7])] [1,7] [2] [0,1,2,3] (.ret ((a1:aB),y1_2))) (.al 8<|.dr [(0,[4]),(1,[4]),(3,[8]),(6,[4])] [(2,[8]),(5,[]),(7,[])] [4,8] [2,5,7] [0,1,3,4,2,5,6,7] (.to 59 (aH 8 dX.av ([(⟨a2.E,a2.Item,a2.Loc,a2.aT,a2.bM,a2.aT,a2.bM,0⟩:dX)]:List dX))<|.as (y1_1.bX.length<=68719476736) inferInstance<|.ge 57 9<|.bl (y1_1.bX++([(⟨a2.E,a2.Item,a2.Loc,a2.aT,a2.bM,a2.aT,a2.bM,0⟩:dX)]:List dX):List dX) λx26=>.as (x26.length<=68719476736) inferInstance<|.ge 60 0<|.ret (((⟨y1_1.bF,y1_1.bA,x26,y1_1.dS,y1_1.dH,y1_1.Done⟩:aB):aB),0)))))
def zV (n:Nat) (a1:aB) (a2:bJ):Option (aB×Int):=(aCE n a1 a2).run
theorem Q4 {n:Nat} {a1:aB} {a2:bJ} {r:aB×Int} (h0:zV n a1 a2=some r):PP Tryz.prog 13 [.agg (aB.av a1),.agg (bJ.av a2)] (λy=>y=.bD [.agg (aB.av r.1),int r.2]):=by
 refine bY mixed aA (λ(r:aB×Int)=>.bD [.agg (aB.av r.1),int r.2]) h0 Tryz.func13 (λr=>.bD (gK ((λ(a:aB)=>PV.agg (aB.dR a)) (r.1)) (bQ (r.2)))) 100000 ?_
 intro v3
 intro v4
 intro v5
 refine .mk λx6=>?_
 refine .mk .mk ?_
 intro v7
 intro v8
 intro v9
 intro v10
 refine .mk _ (fK (jP (ps:=[(0,_),(1,_),(2,_),(3,_),(4,_)]) (rows:=[[.fn (.func 29) [] [.pt 1 v3 0 0,.pt 2 v4 0 0,.pt 7 v10 0 0]],[.fn (.func 31) [] [.pt 1 v3 0 0,.pt 7 v10 0 0]],[.fn (.func 32) [] [.pt 1 v3 0 0,.pt 2 v4 0 0,.pt 4 v7 0 0,.pt 5 v8 0 0,.pt 6 v9 0 0,.pt 7 v10 0 0]],[.fn (.func 34) [] [.pt 4 v7 0 0,.pt 2 v4 0 0,.pt 5 v8 0 0,.pt 6 v9 0 0,.pt 7 v10 0 0]],[.fn (.func 36) [] [.pt 4 v7 0 0,.pt 2 v4 0 0,.pt 5 v8 0 0,.pt 7 v10 0 0]]]) rfl Tryz.underlying77 bz1 (.cons rfl (.cons rfl (.cons rfl (.cons rfl (.cons rfl .nil))))) (by kernel_rfl) rfl rfl rfl)) ?_
 refine .mk ?_ ?_
 refine .mk ?_
 refine .mk _ (fK (mD (j:=0) rfl Tryz.underlying77 G6 rfl rfl rfl (.list rfl))) ?_
 refine .mk ?_ ?_
 refine .mk λx11 e11=>?_
 exact .mk
 intro _ _
 refine .mk trivial ?_
 refine .mk λx12=>?_
 refine .mk .mk ?_
 refine .mk ?_
 refine .mk ?_
 refine .mk _ (fK (mD (j:=1) rfl Tryz.underlying77 G6 rfl rfl rfl (.list rfl))) ?_
 refine .mk ?_ ?_
 refine .mk ?_
 refine .mk λx13=>?_
 refine .mk .mk ?_
 exact .mk
 intro _ _
 refine .mk trivial ?_
 refine .mk λx14=>?_
 refine .mk .mk ?_
 refine .mk ?_
 refine .mk ?_
 refine .mk _ (fK (mD (j:=2) rfl Tryz.underlying77 G6 rfl rfl rfl (.list rfl))) ?_
 refine .mk ?_ ?_
 refine .mk λx15 e15=>?_
 exact .mk
 rintro ⟨y0_1_2,y0_2,y0_3,y0_4⟩ _
 refine .mk trivial ?_
 refine .mk λx16=>?_
 refine .mk .mk ?_
 refine .mk ?_
 refine .mk ?_
 refine .mk _ (fK (mD (j:=3) rfl Tryz.underlying77 G6 rfl rfl rfl (.list rfl))) ?_
 refine .mk ?_ ?_
 refine .mk λx17=>?_
 refine .mk (fK (fT (y:=aH 2 aN.av ([(⟨0,y0_2⟩:aN),(⟨6,y0_3⟩:aN),(⟨1,x17⟩:aN)]:List aN)) (jP (ps:=[(0,_),(1,_),(2,_)]) (rows:=[[int 0,int y0_2],[int 6,int y0_3],[int 1,int x17]]) rfl Tryz.underlying73 vQ (.cons rfl (.cons rfl (.cons rfl .nil))) (by kernel_rfl) rfl rfl rfl) rfl)) ?_
 refine .mk λx18 e18=>?_
 exact .mk
 intro _ _
 refine .mk trivial ?_
 refine .mk λx19=>?_
 refine .mk .mk ?_
 refine .mk ?_
 refine .mk ?_
 refine .mk _ (fK (mD (j:=4) rfl Tryz.underlying77 G6 rfl rfl rfl (.list rfl))) ?_
 refine .mk ?_ ?_
 refine .mk λx20 e20=>?_
 exact .mk
 intro _ _
 refine .mk trivial ?_
 refine .mk λx21=>?_
 refine .mk .mk ?_
 refine .mk ?_
 refine .mk ?_
 exact .mk
 rintro ⟨y1_1,y1_2⟩ _
 refine .mk λx22=>?_
 refine .mk ?_ ?_
 refine .mk ?_
 exact .mk
 intro v23
 refine .mk ?_
 refine .mk (λH hH _=>fT (y:=aH 8 dX.av ([(⟨a2.E,a2.Item,a2.Loc,a2.aT,a2.bM,a2.aT,a2.bM,0⟩:dX)]:List dX)) (jP (ps:=[(0,_)]) (rows:=[[int a2.E,int a2.Item,int a2.Loc,int a2.aT,int a2.bM,int a2.aT,int a2.bM,int 0]]) rfl Tryz.underlying28 IR (.cons rfl .nil) (by kernel_rfl) rfl rfl rfl) rfl) ?_
 refine .mk λp24=>?_
 refine .mk _ ⟨λ_=>nC rfl rfl (.cons rfl .nil) aJ9 (qB (aP9 (id:=9) (l:=y1_1.bX) rfl p24) (.cons (.refl _) .nil)),by rintro _ _ ⟨v25,rfl,rfl⟩;exact ⟨rfl,trivial⟩⟩ ?_
 rintro _ _ ⟨v25,rfl,rfl⟩
 refine .mk λx26 e26=>?_
 refine .mk λp27=>?_
 refine .mk _ ⟨λ_=>lV (g:=dX.av) (l:=y1_1.bX) (m:=([(⟨a2.E,a2.Item,a2.Loc,a2.aT,a2.bM,a2.aT,a2.bM,0⟩:dX)]:List dX)) .any rfl Tryz.underlying28 IR aC3 rfl rfl rfl rfl rfl rfl rfl rfl rfl rfl (Eq.symm rfl) (.refl _) (λ_=>rfl) e26 p27,by rintro _ _ ⟨v28,-,rfl,rfl⟩;exact trivial⟩ ?_
 rintro _ _ ⟨v28,-,rfl,rfl⟩
 exact .mk (dG.bD (.cons (dG.agg (.cons (.refl _) (.cons (.refl _) (.cons (.refl _) (.cons (.refl _) (.cons (.refl _) (.cons (.refl _) (.cons (gY rfl rfl rfl rfl rfl (Eq.symm rfl)) (.cons (.refl _) (.cons (.refl _) (.cons (.refl _) .nil))))))))))) (.cons (.refl _) .nil)))
def aSD (n:Nat) :WT Tryz.prog (.b (Bool)) :=
 .cl 6 (OQ n) T9 V7 λx1=>.cl 8 (zV n x1 (⟨1,0,0,0,0,10,100,0,[]⟩:bJ)) OH Q4 λx2=>.al 1<|.cl 12 (OQ n) T9 V7 λx4=>.cl 14 (zV n x4 (⟨4,0,0,0,0,1,0,0,[]⟩:bJ)) OH Q4 λx5=>.al 2<|.jn 0 [] [] [] (λ_ (a:Bool)=>[(0,aZ a)]) (λ_ _=>[]) (.bB 18 (decide (x2.2=0)) λx7=>.ifs [18] x7 (.ln 22 dX.av x2.1.bX<|.bB 23 (decide ((x2.1.bX.length:Int)=1)) λx8=>.ifs [23] x8 (.ln 28 aP.av x2.1.bA<|.bB 29 (decide ((x2.1.bA.length:Int)=2)) λx9=>.ifs [29] x9 (.jC 34 aP.av gE aP.fB x2.1.bA 0 λx10=>.ix 37 fI x10.dI 0 λx11=>.bB 39 (decide (x11=100)) λx12=>.ifs [39] x12 (.jC 44 aP.av gE aP.fB x2.1.bA 0 λx13=>.ix 47 fI x13.dI 1 λx14=>.bB 49 (decide (x14=(-100))) λx15=>.ifs [49] x15 (.bB 53 (decide (x5.2=1)) λx16=>.ret x16) (.ret false)) (.ret false)) (.ret false)) (.ret false)) (.ret false)) (λy0_1=>.ret ((y0_1:Bool)))
def J6 (n:Nat) :Option (Bool):=(aSD n ).run
theorem U1 {n r} (h0:J6 n =some r):PP Tryz.prog 9 [] (λy=>y=aZ r) :=
 bY mixed aA (λr:Bool=>aZ r) h0 Tryz.func9 (λr=>gT r) 100000 au
def aCT (n:Nat) (a1:List (List Int)) (a2:List (List Int)):WT Tryz.prog (.b (Bool)) :=
 .ln 7 (fL 1 fI) a1<|.ln 9 (fL 1 fI) a2<|.bB 10 (decide ((a1.length:Int)≠(a2.length:Int))) λx3=>.ifs [10] x3 (.ret ((false:Bool))) (.fH 2 [4] [] [] (λ_ (a:Unit)=>[]) (λ_ _=>[]) (.lp [0,1,4] [] [] (λ_ (a:Int)=>[(5,int a)]) (λ_ _=>[]) n 0 (λy0_1=>.ln 13 (fL 1 fI) a1<|.bB 14 (decide (y0_1<(a1.length:Int))) λx4=>.ifs [14] x4 (.dr [] [] [] [] [0,1,2,3,4,5,6,7,8,9] (.ix 19 (fL 1 fI) a1 y0_1 λx5=>.ix 23 (fL 1 fI) a2 y0_1 λx6=>.cl 25 (sM n x5 x6) C7 DJ λx7=>.bB 26 (!x7) λx8=>.ifs [26] x8 (.esc (.esc (.ret ((false:Bool))))) (.bI 16 (bE (y0_1+1)) λx9=>.brk x9))) (.esc (.brk ())))) (λ_=>.ret ((true:Bool))))
def FD (n:Nat) (a1:List (List Int)) (a2:List (List Int)):Option (Bool):=(aCT n a1 a2).run
theorem aBH {n a1 a2 r} (h0:FD n a1 a2=some r):PP Tryz.prog 89 [aH 1 (fL 1 fI) a1,aH 1 (fL 1 fI) a2] (λy=>y=aZ r) :=
 bY mixed aA (λr:Bool=>aZ r) h0 Tryz.func89 (λr=>gT r) 100000 au
def TS (n:Nat) (a1:fM) (a2:fM):WT Tryz.prog (.b (Bool)) :=
 .al 1<|.al 2<|.jn 0 [] [] [] (λ_ (a:Bool)=>[(4,aZ a)]) (λ_ _=>[]) (.bB 9 (decide (a1.gG=a2.gG)) λx5=>.ifs [9] x5 (.bB 15 (decide (a1.gZ=a2.gZ)) λx6=>.ifs [15] x6 (.cl 22 (sM n a1.bW a2.bW) C7 DJ λx7=>.ifs [22] x7 (.cl 29 (FD n a1.Methods a2.Methods) aA2 aBH λx8=>.ifs [29] x8 (.cl 36 (FD n a1.gX a2.gX) aA2 aBH λx9=>.ret x9) (.ret false)) (.ret false)) (.ret false)) (.ret false)) (λy0_1=>.ret ((y0_1:Bool)))
def IS (n:Nat) (a1:fM) (a2:fM):Option (Bool):=(TS n a1 a2).run
theorem aQM {n a1 a2 r} (h0:IS n a1 a2=some r):PP Tryz.prog 47 [.agg (fM.av a1),.agg (fM.av a2)] (λy=>y=aZ r) :=
 bY mixed aA (λr:Bool=>aZ r) h0 Tryz.func47 (λr=>gT r) 100000 au
def UJ (n:Nat) (a1:aB) (a2:aB):WT Tryz.prog (.b (Bool)) :=
 .al 1<|.al 2<|.jn 0 [2,3,4] [1,2] [] (λ_ (a:Bool)=>[(32,aZ a)]) (λ_ _=>[]) (.ln 10 dX.av a1.bX<|.ln 13 dX.av a2.bX<|.bB 14 (decide ((a1.bX.length:Int)≠(a2.bX.length:Int))) λx5=>.ifs [14] x5 (.ret true) (.ln 18 fA.av a1.dS<|.ln 21 fA.av a2.dS<|.bB 22 (decide ((a1.dS.length:Int)≠(a2.dS.length:Int))) λx6=>.ifs [22] x6 (.ret true) (.ln 27 fP.av a1.dH<|.ln 30 fP.av a2.dH<|.bB 31 (decide ((a1.dH.length:Int)≠(a2.dH.length:Int))) λx7=>.ret x7))) (λy0_1=>.ifs [32] y0_1 (.ret ((false:Bool))) (.fH 2 [2,3,4] [1,2] [] (λ_ (a:Unit)=>[]) (λ_ _=>[]) (.lp [2,3,4] [1,2] [] (λ_ (a:Int)=>[(5,int a)]) (λ_ _=>[]) n 0 (λy1_1=>.ln 36 dX.av a1.bX<|.bB 37 (decide (y1_1<(a1.bX.length:Int))) λx8=>.ifs [37] x8 (.dr [(0,[1]),(1,[1]),(5,[2]),(6,[2])] [] [1,2] [] [0,1,2,3,4,5,6,7,8,9,10] (.ix 43 dX.av a1.bX y1_1 λx9=>.ix 48 dX.av a2.bX y1_1 λx10=>.bl (!decide ((x9:dX)=x10):Bool) λx11=>.gv 50<|.ifs [50] x11 (.esc (.esc (.ret ((false:Bool))))) (.bI 39 (bE (y1_1+1)) λx12=>.brk x12))) (.esc (.brk ())))) (λ_=>.fH 1 [2,3,4] [1,2] [] (λ_ (a:Unit)=>[]) (λ_ _=>[]) (.lp [2,3,4] [1,2] [] (λ_ (a:Int)=>[(6,int a)]) (λ_ _=>[]) n 0 (λy3_1=>.ln 54 fA.av a1.dS<|.bB 55 (decide (y3_1<(a1.dS.length:Int))) λx13=>.ifs [55] x13 (.dr [(0,[1]),(1,[1]),(5,[2]),(6,[2])] [] [1,2] [] [0,1,2,3,4,5,6,7,8,9,10] (.ix 61 fA.av a1.dS y3_1 λx14=>.ix 66 fA.av a2.dS y3_1 λx15=>.bl (!decide ((x14:fA)=x15):Bool) λx16=>.gv 68<|.ifs [68] x16 (.esc (.esc (.ret ((false:Bool))))) (.bI 57 (bE (y3_1+1)) λx17=>.brk x17))) (.esc (.brk ())))) (λ_=>.fH 1 [4] [] [] (λ_ (a:Unit)=>[]) (λ_ _=>[]) (.lp [2,3,4] [1,2] [] (λ_ (a:Int)=>[(7,int a)]) (λ_ _=>[]) n 0 (λy5_1=>.ln 72 fP.av a1.dH<|.bB 73 (decide (y5_1<(a1.dH.length:Int))) λx18=>.ifs [73] x18 (.dr [(0,[1]),(1,[1]),(5,[2]),(6,[2])] [] [1,2] [] [0,1,2,3,4,5,6,7,8,9,10] (.ix 79 fP.av a1.dH y5_1 λx19=>.ix 84 fP.av a2.dH y5_1 λx20=>.bl (!decide ((x19:fP)=x20):Bool) λx21=>.gv 86<|.ifs [86] x21 (.esc (.esc (.ret ((false:Bool))))) (.bI 75 (bE (y5_1+1)) λx22=>.brk x22))) (.esc (.brk ())))) (λ_=>.ret ((true:Bool)))))))
def KS (n:Nat) (a1:aB) (a2:aB):Option (Bool):=(UJ n a1 a2).run
theorem aRW {n:Nat} {a1:aB} {a2:aB} {r:Bool} (h0:KS n a1 a2=some r):PP Tryz.prog 48 [.agg (aB.av a1),.agg (aB.av a2)] (λy=>y=aZ r):=by
 refine bY mixed aA (λ(r:Bool)=>aZ r) h0 Tryz.func48 (λr=>gT r) 100000 ?_
 intro v3
 intro v4
 refine .mk ?_ ?_
 refine .mk ?_
 refine .mk ?_
 refine .mk λx5=>?_
 refine .mk .mk ?_
 refine .mk ?_
 refine .mk ?_
 refine .mk λx6=>?_
 refine .mk .mk ?_
 refine .mk ?_
 refine .mk ?_
 refine .mk λx7=>?_
 exact .mk
 intro _ _
 refine .mk .mk ?_
 refine .mk ?_ ?_
 refine .mk ?_
 intro _ _
 refine .mk ?_
 refine .mk λx8=>?_
 refine .mk ?_ ?_
 refine .mk ?_
 refine .mk λx9 e9=>?_
 refine .mk λx10 e10=>?_
 refine .mk λx11 e11=>?_
 refine .mk _ (λH hH _=>O7 (r':=x11) rfl aUA rfl rfl (.cons (.int Tryz.underlying3) dM (.cons (.int Tryz.underlying3) dM (.cons (.int Tryz.underlying3) dM (.cons (.int Tryz.underlying3) dM (.cons (.int Tryz.underlying3) dM (.cons (.int Tryz.underlying3) dM (.cons (.int Tryz.underlying3) dM (.cons (.int Tryz.underlying3) dM (.nil _))))))))) ((congrArg Bool.not (dX.eqv (x9:dX) (x10:dX))).trans e11)) ?_
 refine .mk .mk ?_
 refine .mk λx12=>?_
 exact .mk
 exact .mk
 intro _ _
 refine .mk ?_ ?_
 refine .mk ?_
 intro _ _
 refine .mk ?_
 refine .mk λx13=>?_
 refine .mk ?_ ?_
 refine .mk ?_
 refine .mk λx14 e14=>?_
 refine .mk λx15 e15=>?_
 refine .mk λx16 e16=>?_
 refine .mk _ (λH hH _=>O7 (r':=x16) rfl aGQ rfl rfl (.cons (.int Tryz.underlying3) dM (.cons (.int Tryz.underlying3) dM (.cons (.int Tryz.underlying3) dM (.cons (.int Tryz.underlying3) dM (.cons (.int Tryz.underlying3) dM (.cons (.int Tryz.underlying3) dM (.cons (.int Tryz.underlying3) dM (.cons (.int Tryz.underlying3) dM (.cons (.bool Tryz.underlying4) O8 (.nil _)))))))))) ((congrArg Bool.not (fA.eqv (x14:fA) (x15:fA))).trans e16)) ?_
 refine .mk .mk ?_
 refine .mk λx17=>?_
 exact .mk
 exact .mk
 intro _ _
 refine .mk ?_ ?_
 refine .mk ?_
 intro _ _
 refine .mk ?_
 refine .mk λx18=>?_
 refine .mk ?_ ?_
 refine .mk ?_
 refine .mk λx19 e19=>?_
 refine .mk λx20 e20=>?_
 refine .mk λx21 e21=>?_
 refine .mk _ (λH hH _=>O7 (r':=x21) rfl aJQ rfl rfl (.cons (.int Tryz.underlying3) dM (.cons (.int Tryz.underlying3) dM (.cons (.int Tryz.underlying3) dM (.cons (.int Tryz.underlying3) dM (.cons (.int Tryz.underlying3) dM (.cons (.int Tryz.underlying3) dM (.nil _))))))) ((congrArg Bool.not (fP.eqv (x19:fP) (x20:fP))).trans e21)) ?_
 refine .mk .mk ?_
 refine .mk λx22=>?_
 exact .mk
 exact .mk
 intro _ _
 exact .mk
def U2 (a1:aF) (a2:aF):WT Tryz.prog (.b (Bool)) :=
 .al 1<|.al 2<|.jn 0 [] [] [] (λ_ (a:Bool)=>[(4,aZ a)]) (λ_ _=>[]) (.bB 9 (decide (a1.aT=a2.aT)) λx5=>.ifs [9] x5 (.bB 15 (decide (a1.Value=a2.Value)) λx6=>.ifs [15] x6 (.bB 22 (decide (a1.bO=a2.bO)) λx7=>.ret x7) (.ret false)) (.ret false)) (λy0_1=>.ret ((y0_1:Bool)))
def KD (a1:aF) (a2:aF):Option (Bool):=(U2 a1 a2).run
theorem aOU {a1 a2 r} (h0:KD a1 a2=some r):PP Tryz.prog 167 [.agg (aF.av a1),.agg (aF.av a2)] (λy=>y=aZ r) :=
 bY mixed aA (λr:Bool=>aZ r) h0 Tryz.func167 (λr=>gT r) 100000 au
end
end Go.Pv
