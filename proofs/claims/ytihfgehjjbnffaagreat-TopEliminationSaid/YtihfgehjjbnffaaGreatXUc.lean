import Derived.Test.YtihfgehjjbnffaaGreatXUb
set_option linter.unusedVariables false
set_option linter.unusedSimpArgs false
namespace Go.Pv
open Go.Proofs
set_option maxRecDepth 100000
set_option maxHeartbeats 4000000
noncomputable section
def KH (n:Nat) (a1:aA) (a2:Int) (a3:List aQ):WB (aA×Int) :=
 .al 1<|.al 2<|.jn 0 [1,2,3,6,7] [1,2] [] (λ_ (a:Bool)=>[(20,aI a)]) (λ_ _=>[]) (.bB 13 (decide (a2<0)) λx6=>.ifs [13] x6 (.ret true) (.ln 18 aP.av a1.aW<|.bB 19 (decide (a2>=(a1.aW.length:Int))) λx7=>.ret x7)) (λy0_1=>.ifs [20] y0_1 (.ret ((a1:aA),4)) (.cl 24 (xC n a3) PR SA λx8=>.bB 28 (decide (x8.2≠0)) λx9=>.ifs [28] x9 (.ret ((a1:aA),x8.2)) (.iF 35 aP.av gE aP.dA a1.aW a2 λx10=>.cl 39 (AX n x10.dM x8.1) aTB aOJ λx11=>.bB 43 (decide (x11.2≠0)) λx12=>.ifs [43] x12 (.ret ((a1:aA),x11.2)) (.al 3<|.inl 49 JA Tryz.func38 [1,2] [4] (λu3 (a:Unit)=>.pt 4 (u3 4) (Int.toNat a2) 0) (λu3 _=>[.kp 3 [[int a1.bF.fO,int a1.bF.iB,aH 1 fI a1.bF.bN,aH 1 (fL 1 fI) a1.bF.Methods,aH 1 (fL 1 fI) a1.bF.fM,.sl 4 (u3 4) 0 a1.aW.length,aH 8 dH.av a1.dG,aH 9 dV.av a1.dO,aH 6 dD.av a1.bL,int a1.Done]],.nw 4 66 8 (a1.aW.map aP.av)]) (.as (a1.aW.length<=68719476736) inferInstance<|.ge 11 4<|.bo (ix a1.aW a2) λx16=>.gv 21<|.ret ()) (λ_=>.bo (ix a1.aW a2) λx17=>.gv 51<|.gv 52<|.bl (a1.aW.set (Int.toNat a2) ((⟨x17.fD,x17.Closed,x17.cK,x11.1,x17.d9,x17.eH,x17.Down,x17.gK⟩:aP):aP):List aP) λx18=>.ge 1010005 0<|.ret (((⟨a1.bF,x18,a1.dG,a1.dO,a1.bL,a1.Done⟩:aA):aA),0))))))
def nP (n:Nat) (a1:aA) (a2:Int) (a3:List aQ):Option (aA×Int):=(KH n a1 a2 a3).run
theorem tY {n a1 a2 a3}:PZ (nP n a1 a2 a3) 50 [.agg (aA.av a1),int a2,aH 2 aQ.av a3] (λr=>.bD [.agg (aA.av r.1),int r.2]):=by
 refine wm Tryz.func50 ?_
 intro v4
 intro v5
 refine .mk ?_ ?_
 refine .mk λx6=>?_
 refine .mk .mk ?_
 refine .mk ?_
 refine .mk λx7=>?_
 exact .mk
 intro _ _
 refine .mk .mk ?_
 refine .mk λx8 e8=>?_
 refine .mk λx9=>?_
 refine .mk .mk ?_
 refine .mk λx10 e10=>?_
 refine .mk λx11 e11=>?_
 refine .mk λx12=>?_
 refine .mk .mk ?_
 intro v13
 refine .mk ?_ ?_
 refine .mk λp14=>?_
 refine .mk _ ⟨λ_=>eO rfl rfl (.cons rfl .nil) wT (jD (wB.pc (id:=4) (l:=a1.aW) rfl p14) (.cons (.refl _) .nil)),λ_ _ _=>trivial⟩ ?_
 rintro _ _ ⟨v15,rfl,rfl⟩
 refine .mk λx16 e16=>?_
 refine .mk _ (bK (eY rfl Tryz.underlying28 o8 rfl rfl rfl rfl rfl (Eq.symm rfl) (List.length_map _) e16)) ?_
 exact .mk
 intro _ _
 refine .mk trivial ?_
 refine .mk λx17 e17=>?_
 refine .mk _ (bK (mY rfl rfl (.pt rfl rfl (gN e17 (aP.dA _))))) ?_
 refine .mk _ (bK (fZ rfl aV7 rfl (.pt rfl rfl (gN e17 (aP.dA _))) (.pt _ _ _ _ _))) ?_
 refine .mk λx18 e18=>?_
 have fx18:=iE e17 e18;have lx18:=iD e18 (rfl:a1.aW.length=a1.aW.length)
 refine .mk _ ⟨λ_=>bY.eX (fH (ob':=(⟨66,8,true,true,_,x18.map aP.av⟩:bH)) (fC rfl tN rfl rfl rfl rfl rfl (gN e17 (aP.dA _)) rfl rfl rfl) (iC (B8 e18 (aP.dA _)))) (λ_ h=>h) (λ_ _=>trivial),λ_ _ _=>trivial⟩ ?_
 rintro _ _ ⟨rfl,rfl⟩
 exact .mk (bT.bD (.cons (bT.agg (.cons (.refl _) (.cons (.refl _) (.cons (.refl _) (.cons (.refl _) (.cons (.refl _) (.cons (dZ rfl rfl rfl rfl rfl (Eq.symm lx18)) (.cons (.refl _) (.cons (.refl _) (.cons (.refl _) (.cons (.refl _) .nil))))))))))) (.cons (.refl _) .nil)))
def JE (a1:aA) (a2:Int) (a3:Int) (a4:dL):WB (aA×Int) :=
 .al 1<|.al 2<|.al 3<|.cl 21 (yJ a1 a2 a3) PG VP λx8=>.bB 22 (!x8) λx9=>.ifs [22] x9 (.ret ((a1:aA),4)) (.iF 27 aP.av gE aP.dA a1.aW a2 λx10=>.ix 31 dL.av x10.d9 a3 λx11=>.al 4<|.inl 34 aCL Tryz.func98 [1,2,3,4] [] (λ_ (a:Unit)=>aH 1 fI ([a4.Open,a4.lS,a4.lJ,a4.lM,a4.lY,a4.l9,a4.lN,a4.lW,a4.l5,a4.mD,a4.lZ]:List Int)) (λ_ _=>[]) (.al 5<|.to 25 (aH 1 fI ([a4.Open,a4.lS,a4.lJ,a4.lM,a4.lY,a4.l9,a4.lN,a4.lW,a4.l5,a4.mD,a4.lZ]:List Int))<|.ret ()) (λ_=>.dU 0 [1,2,4,8,9,10] [1,3] [] (λ_ (a:dL)=>[]) (λ_ a=>[.kp 4 [[int a.Open,int a.lS,int a.lJ,int a.lM,int a.lY,int a.l9,int a.lN,int a.lW,int a.l5,int a.mD,int a.lZ]]]) (.un 24 (.kB 37 true<|.ix 39 fI ([a4.Open,a4.lS,a4.lJ,a4.lM,a4.lY,a4.l9,a4.lN,a4.lW,a4.l5,a4.mD,a4.lZ]:List Int) 0 λx14=>.inl 41 tO Tryz.func99 [1,2,3,4] [] (λu51 (a:Unit)=>.list 1 [[.pt 4 (u51 4) 0 0],[.pt 4 (u51 4) 0 1],[.pt 4 (u51 4) 0 2],[.pt 4 (u51 4) 0 3],[.pt 4 (u51 4) 0 4],[.pt 4 (u51 4) 0 5],[.pt 4 (u51 4) 0 6],[.pt 4 (u51 4) 0 7],[.pt 4 (u51 4) 0 8],[.pt 4 (u51 4) 0 9],[.pt 4 (u51 4) 0 10]]) (λ_ _=>[]) (.dr [(1,[4]),(2,[4]),(4,[4]),(5,[4]),(7,[4]),(8,[4]),(10,[4]),(11,[4]),(13,[4]),(14,[4]),(16,[4]),(17,[4]),(19,[4]),(20,[4]),(22,[4]),(23,[4]),(25,[4]),(26,[4]),(28,[4]),(29,[4]),(31,[4]),(32,[4])] [] [4] [] [0,1,2,3,4,5,6,7,8,9,10,11,12,13,14,15,16,17,18,19,20,21,22,23,24,25,26,27,28,29,30,31,32,33,34] (.gv 36<|.ret ())) (λ_=>.gv 43<|.cl 50 (mG x11.Open x14) pP oW λx15=>.bB 54 (decide (x15.2≠0)) λx16=>.ifs [54] x16 (.esc (.ret ((a1:aA),x15.2))) (.kI 60 1<|.kB 37 true<|.ix 39 fI ([a4.Open,a4.lS,a4.lJ,a4.lM,a4.lY,a4.l9,a4.lN,a4.lW,a4.l5,a4.mD,a4.lZ]:List Int) 1 λx17=>.inl 41 tO Tryz.func99 [1,2,3,4] [] (λu55 (a:Unit)=>.list 1 [[.pt 4 (u55 4) 0 0],[.pt 4 (u55 4) 0 1],[.pt 4 (u55 4) 0 2],[.pt 4 (u55 4) 0 3],[.pt 4 (u55 4) 0 4],[.pt 4 (u55 4) 0 5],[.pt 4 (u55 4) 0 6],[.pt 4 (u55 4) 0 7],[.pt 4 (u55 4) 0 8],[.pt 4 (u55 4) 0 9],[.pt 4 (u55 4) 0 10]]) (λ_ _=>[]) (.dr [(1,[4]),(2,[4]),(4,[4]),(5,[4]),(7,[4]),(8,[4]),(10,[4]),(11,[4]),(13,[4]),(14,[4]),(16,[4]),(17,[4]),(19,[4]),(20,[4]),(22,[4]),(23,[4]),(25,[4]),(26,[4]),(28,[4]),(29,[4]),(31,[4]),(32,[4])] [] [4] [] [0,1,2,3,4,5,6,7,8,9,10,11,12,13,14,15,16,17,18,19,20,21,22,23,24,25,26,27,28,29,30,31,32,33,34] (.gv 36<|.ret ())) (λ_=>.gv 43<|.cl 50 (mG x11.lS x17) pP oW λx18=>.bB 54 (decide (x18.2≠0)) λx19=>.ifs [54] x19 (.esc (.ret ((a1:aA),x18.2))) (.kI 60 2<|.kB 37 true<|.ix 39 fI ([a4.Open,a4.lS,a4.lJ,a4.lM,a4.lY,a4.l9,a4.lN,a4.lW,a4.l5,a4.mD,a4.lZ]:List Int) 2 λx20=>.inl 41 tO Tryz.func99 [1,2,3,4] [] (λu59 (a:Unit)=>.list 1 [[.pt 4 (u59 4) 0 0],[.pt 4 (u59 4) 0 1],[.pt 4 (u59 4) 0 2],[.pt 4 (u59 4) 0 3],[.pt 4 (u59 4) 0 4],[.pt 4 (u59 4) 0 5],[.pt 4 (u59 4) 0 6],[.pt 4 (u59 4) 0 7],[.pt 4 (u59 4) 0 8],[.pt 4 (u59 4) 0 9],[.pt 4 (u59 4) 0 10]]) (λ_ _=>[]) (.dr [(1,[4]),(2,[4]),(4,[4]),(5,[4]),(7,[4]),(8,[4]),(10,[4]),(11,[4]),(13,[4]),(14,[4]),(16,[4]),(17,[4]),(19,[4]),(20,[4]),(22,[4]),(23,[4]),(25,[4]),(26,[4]),(28,[4]),(29,[4]),(31,[4]),(32,[4])] [] [4] [] [0,1,2,3,4,5,6,7,8,9,10,11,12,13,14,15,16,17,18,19,20,21,22,23,24,25,26,27,28,29,30,31,32,33,34] (.gv 36<|.ret ())) (λ_=>.gv 43<|.cl 50 (mG x11.lJ x20) pP oW λx21=>.bB 54 (decide (x21.2≠0)) λx22=>.ifs [54] x22 (.esc (.ret ((a1:aA),x21.2))) (.kI 60 3<|.kB 37 true<|.ix 39 fI ([a4.Open,a4.lS,a4.lJ,a4.lM,a4.lY,a4.l9,a4.lN,a4.lW,a4.l5,a4.mD,a4.lZ]:List Int) 3 λx23=>.inl 41 tO Tryz.func99 [1,2,3,4] [] (λu63 (a:Unit)=>.list 1 [[.pt 4 (u63 4) 0 0],[.pt 4 (u63 4) 0 1],[.pt 4 (u63 4) 0 2],[.pt 4 (u63 4) 0 3],[.pt 4 (u63 4) 0 4],[.pt 4 (u63 4) 0 5],[.pt 4 (u63 4) 0 6],[.pt 4 (u63 4) 0 7],[.pt 4 (u63 4) 0 8],[.pt 4 (u63 4) 0 9],[.pt 4 (u63 4) 0 10]]) (λ_ _=>[]) (.dr [(1,[4]),(2,[4]),(4,[4]),(5,[4]),(7,[4]),(8,[4]),(10,[4]),(11,[4]),(13,[4]),(14,[4]),(16,[4]),(17,[4]),(19,[4]),(20,[4]),(22,[4]),(23,[4]),(25,[4]),(26,[4]),(28,[4]),(29,[4]),(31,[4]),(32,[4])] [] [4] [] [0,1,2,3,4,5,6,7,8,9,10,11,12,13,14,15,16,17,18,19,20,21,22,23,24,25,26,27,28,29,30,31,32,33,34] (.gv 36<|.ret ())) (λ_=>.gv 43<|.cl 50 (mG x11.lM x23) pP oW λx24=>.bB 54 (decide (x24.2≠0)) λx25=>.ifs [54] x25 (.esc (.ret ((a1:aA),x24.2))) (.kI 60 4<|.kB 37 true<|.ix 39 fI ([a4.Open,a4.lS,a4.lJ,a4.lM,a4.lY,a4.l9,a4.lN,a4.lW,a4.l5,a4.mD,a4.lZ]:List Int) 4 λx26=>.inl 41 tO Tryz.func99 [1,2,3,4] [] (λu67 (a:Unit)=>.list 1 [[.pt 4 (u67 4) 0 0],[.pt 4 (u67 4) 0 1],[.pt 4 (u67 4) 0 2],[.pt 4 (u67 4) 0 3],[.pt 4 (u67 4) 0 4],[.pt 4 (u67 4) 0 5],[.pt 4 (u67 4) 0 6],[.pt 4 (u67 4) 0 7],[.pt 4 (u67 4) 0 8],[.pt 4 (u67 4) 0 9],[.pt 4 (u67 4) 0 10]]) (λ_ _=>[]) (.dr [(1,[4]),(2,[4]),(4,[4]),(5,[4]),(7,[4]),(8,[4]),(10,[4]),(11,[4]),(13,[4]),(14,[4]),(16,[4]),(17,[4]),(19,[4]),(20,[4]),(22,[4]),(23,[4]),(25,[4]),(26,[4]),(28,[4]),(29,[4]),(31,[4]),(32,[4])] [] [4] [] [0,1,2,3,4,5,6,7,8,9,10,11,12,13,14,15,16,17,18,19,20,21,22,23,24,25,26,27,28,29,30,31,32,33,34] (.gv 36<|.ret ())) (λ_=>.gv 43<|.cl 50 (mG x11.lY x26) pP oW λx27=>.bB 54 (decide (x27.2≠0)) λx28=>.ifs [54] x28 (.esc (.ret ((a1:aA),x27.2))) (.kI 60 5<|.kB 37 true<|.ix 39 fI ([a4.Open,a4.lS,a4.lJ,a4.lM,a4.lY,a4.l9,a4.lN,a4.lW,a4.l5,a4.mD,a4.lZ]:List Int) 5 λx29=>.inl 41 tO Tryz.func99 [1,2,3,4] [] (λu71 (a:Unit)=>.list 1 [[.pt 4 (u71 4) 0 0],[.pt 4 (u71 4) 0 1],[.pt 4 (u71 4) 0 2],[.pt 4 (u71 4) 0 3],[.pt 4 (u71 4) 0 4],[.pt 4 (u71 4) 0 5],[.pt 4 (u71 4) 0 6],[.pt 4 (u71 4) 0 7],[.pt 4 (u71 4) 0 8],[.pt 4 (u71 4) 0 9],[.pt 4 (u71 4) 0 10]]) (λ_ _=>[]) (.dr [(1,[4]),(2,[4]),(4,[4]),(5,[4]),(7,[4]),(8,[4]),(10,[4]),(11,[4]),(13,[4]),(14,[4]),(16,[4]),(17,[4]),(19,[4]),(20,[4]),(22,[4]),(23,[4]),(25,[4]),(26,[4]),(28,[4]),(29,[4]),(31,[4]),(32,[4])] [] [4] [] [0,1,2,3,4,5,6,7,8,9,10,11,12,13,14,15,16,17,18,19,20,21,22,23,24,25,26,27,28,29,30,31,32,33,34] (.gv 36<|.ret ())) (λ_=>.gv 43<|.cl 50 (mG x11.l9 x29) pP oW λx30=>.bB 54 (decide (x30.2≠0)) λx31=>.ifs [54] x31 (.esc (.ret ((a1:aA),x30.2))) (.kI 60 6<|.kB 37 true<|.ix 39 fI ([a4.Open,a4.lS,a4.lJ,a4.lM,a4.lY,a4.l9,a4.lN,a4.lW,a4.l5,a4.mD,a4.lZ]:List Int) 6 λx32=>.inl 41 tO Tryz.func99 [1,2,3,4] [] (λu75 (a:Unit)=>.list 1 [[.pt 4 (u75 4) 0 0],[.pt 4 (u75 4) 0 1],[.pt 4 (u75 4) 0 2],[.pt 4 (u75 4) 0 3],[.pt 4 (u75 4) 0 4],[.pt 4 (u75 4) 0 5],[.pt 4 (u75 4) 0 6],[.pt 4 (u75 4) 0 7],[.pt 4 (u75 4) 0 8],[.pt 4 (u75 4) 0 9],[.pt 4 (u75 4) 0 10]]) (λ_ _=>[]) (.dr [(1,[4]),(2,[4]),(4,[4]),(5,[4]),(7,[4]),(8,[4]),(10,[4]),(11,[4]),(13,[4]),(14,[4]),(16,[4]),(17,[4]),(19,[4]),(20,[4]),(22,[4]),(23,[4]),(25,[4]),(26,[4]),(28,[4]),(29,[4]),(31,[4]),(32,[4])] [] [4] [] [0,1,2,3,4,5,6,7,8,9,10,11,12,13,14,15,16,17,18,19,20,21,22,23,24,25,26,27,28,29,30,31,32,33,34] (.gv 36<|.ret ())) (λ_=>.gv 43<|.cl 50 (mG x11.lN x32) pP oW λx33=>.bB 54 (decide (x33.2≠0)) λx34=>.ifs [54] x34 (.esc (.ret ((a1:aA),x33.2))) (.kI 60 7<|.kB 37 true<|.ix 39 fI ([a4.Open,a4.lS,a4.lJ,a4.lM,a4.lY,a4.l9,a4.lN,a4.lW,a4.l5,a4.mD,a4.lZ]:List Int) 7 λx35=>.inl 41 tO Tryz.func99 [1,2,3,4] [] (λu79 (a:Unit)=>.list 1 [[.pt 4 (u79 4) 0 0],[.pt 4 (u79 4) 0 1],[.pt 4 (u79 4) 0 2],[.pt 4 (u79 4) 0 3],[.pt 4 (u79 4) 0 4],[.pt 4 (u79 4) 0 5],[.pt 4 (u79 4) 0 6],[.pt 4 (u79 4) 0 7],[.pt 4 (u79 4) 0 8],[.pt 4 (u79 4) 0 9],[.pt 4 (u79 4) 0 10]]) (λ_ _=>[]) (.dr [(1,[4]),(2,[4]),(4,[4]),(5,[4]),(7,[4]),(8,[4]),(10,[4]),(11,[4]),(13,[4]),(14,[4]),(16,[4]),(17,[4]),(19,[4]),(20,[4]),(22,[4]),(23,[4]),(25,[4]),(26,[4]),(28,[4]),(29,[4]),(31,[4]),(32,[4])] [] [4] [] [0,1,2,3,4,5,6,7,8,9,10,11,12,13,14,15,16,17,18,19,20,21,22,23,24,25,26,27,28,29,30,31,32,33,34] (.gv 36<|.ret ())) (λ_=>.gv 43<|.cl 50 (mG x11.lW x35) pP oW λx36=>.bB 54 (decide (x36.2≠0)) λx37=>.ifs [54] x37 (.esc (.ret ((a1:aA),x36.2))) (.kI 60 8<|.kB 37 true<|.ix 39 fI ([a4.Open,a4.lS,a4.lJ,a4.lM,a4.lY,a4.l9,a4.lN,a4.lW,a4.l5,a4.mD,a4.lZ]:List Int) 8 λx38=>.inl 41 tO Tryz.func99 [1,2,3,4] [] (λu83 (a:Unit)=>.list 1 [[.pt 4 (u83 4) 0 0],[.pt 4 (u83 4) 0 1],[.pt 4 (u83 4) 0 2],[.pt 4 (u83 4) 0 3],[.pt 4 (u83 4) 0 4],[.pt 4 (u83 4) 0 5],[.pt 4 (u83 4) 0 6],[.pt 4 (u83 4) 0 7],[.pt 4 (u83 4) 0 8],[.pt 4 (u83 4) 0 9],[.pt 4 (u83 4) 0 10]]) (λ_ _=>[]) (.dr [(1,[4]),(2,[4]),(4,[4]),(5,[4]),(7,[4]),(8,[4]),(10,[4]),(11,[4]),(13,[4]),(14,[4]),(16,[4]),(17,[4]),(19,[4]),(20,[4]),(22,[4]),(23,[4]),(25,[4]),(26,[4]),(28,[4]),(29,[4]),(31,[4]),(32,[4])] [] [4] [] [0,1,2,3,4,5,6,7,8,9,10,11,12,13,14,15,16,17,18,19,20,21,22,23,24,25,26,27,28,29,30,31,32,33,34] (.gv 36<|.ret ())) (λ_=>.gv 43<|.cl 50 (mG x11.l5 x38) pP oW λx39=>.bB 54 (decide (x39.2≠0)) λx40=>.ifs [54] x40 (.esc (.ret ((a1:aA),x39.2))) (.kI 60 9<|.kB 37 true<|.ix 39 fI ([a4.Open,a4.lS,a4.lJ,a4.lM,a4.lY,a4.l9,a4.lN,a4.lW,a4.l5,a4.mD,a4.lZ]:List Int) 9 λx41=>.inl 41 tO Tryz.func99 [1,2,3,4] [] (λu87 (a:Unit)=>.list 1 [[.pt 4 (u87 4) 0 0],[.pt 4 (u87 4) 0 1],[.pt 4 (u87 4) 0 2],[.pt 4 (u87 4) 0 3],[.pt 4 (u87 4) 0 4],[.pt 4 (u87 4) 0 5],[.pt 4 (u87 4) 0 6],[.pt 4 (u87 4) 0 7],[.pt 4 (u87 4) 0 8],[.pt 4 (u87 4) 0 9],[.pt 4 (u87 4) 0 10]]) (λ_ _=>[]) (.dr [(1,[4]),(2,[4]),(4,[4]),(5,[4]),(7,[4]),(8,[4]),(10,[4]),(11,[4]),(13,[4]),(14,[4]),(16,[4]),(17,[4]),(19,[4]),(20,[4]),(22,[4]),(23,[4]),(25,[4]),(26,[4]),(28,[4]),(29,[4]),(31,[4]),(32,[4])] [] [4] [] [0,1,2,3,4,5,6,7,8,9,10,11,12,13,14,15,16,17,18,19,20,21,22,23,24,25,26,27,28,29,30,31,32,33,34] (.gv 36<|.ret ())) (λ_=>.gv 43<|.cl 50 (mG x11.mD x41) pP oW λx42=>.bB 54 (decide (x42.2≠0)) λx43=>.ifs [54] x43 (.esc (.ret ((a1:aA),x42.2))) (.kI 60 10<|.kB 37 true<|.ix 39 fI ([a4.Open,a4.lS,a4.lJ,a4.lM,a4.lY,a4.l9,a4.lN,a4.lW,a4.l5,a4.mD,a4.lZ]:List Int) 10 λx44=>.inl 41 tO Tryz.func99 [1,2,3,4] [] (λu91 (a:Unit)=>.list 1 [[.pt 4 (u91 4) 0 0],[.pt 4 (u91 4) 0 1],[.pt 4 (u91 4) 0 2],[.pt 4 (u91 4) 0 3],[.pt 4 (u91 4) 0 4],[.pt 4 (u91 4) 0 5],[.pt 4 (u91 4) 0 6],[.pt 4 (u91 4) 0 7],[.pt 4 (u91 4) 0 8],[.pt 4 (u91 4) 0 9],[.pt 4 (u91 4) 0 10]]) (λ_ _=>[]) (.dr [(1,[4]),(2,[4]),(4,[4]),(5,[4]),(7,[4]),(8,[4]),(10,[4]),(11,[4]),(13,[4]),(14,[4]),(16,[4]),(17,[4]),(19,[4]),(20,[4]),(22,[4]),(23,[4]),(25,[4]),(26,[4]),(28,[4]),(29,[4]),(31,[4]),(32,[4])] [] [4] [] [0,1,2,3,4,5,6,7,8,9,10,11,12,13,14,15,16,17,18,19,20,21,22,23,24,25,26,27,28,29,30,31,32,33,34] (.gv 36<|.ret ())) (λ_=>.gv 43<|.cl 50 (mG x11.lZ x44) pP oW λx45=>.bB 54 (decide (x45.2≠0)) λx46=>.ifs [54] x46 (.esc (.ret ((a1:aA),x45.2))) (.kI 60 11<|.kB 37 false<|.brk ((⟨x15.1,x18.1,x21.1,x24.1,x27.1,x30.1,x33.1,x36.1,x39.1,x42.1,x45.1⟩:dL):dL))))))))))))))))))))))))) (λy2_1=>.al 6<|.inl 64 JA Tryz.func38 [1,3,4] [7] (λu93 (a:Unit)=>.pt 7 (u93 7) (Int.toNat a2) 0) (λu93 _=>[.kp 6 [[int a1.bF.fO,int a1.bF.iB,aH 1 fI a1.bF.bN,aH 1 (fL 1 fI) a1.bF.Methods,aH 1 (fL 1 fI) a1.bF.fM,.sl 7 (u93 7) 0 a1.aW.length,aH 8 dH.av a1.dG,aH 9 dV.av a1.dO,aH 6 dD.av a1.bL,int a1.Done]],.nw 7 66 8 (a1.aW.map aP.av)]) (.as (a1.aW.length<=68719476736) inferInstance<|.ge 11 7<|.bo (ix a1.aW a2) λx50=>.gv 21<|.ret ()) (λ_=>.bo (ix a1.aW a2) λx51=>.gv 67<|.gv 68<|.gv 69<|.as (x51.d9.length<=68719476736) inferInstance<|.ge 70 8<|.gv 71<|.gv 72<|.ge 1015008 0<|.dr [(1,[7]),(2,[7]),(3,[7]),(5,[4]),(6,[8])] [(7,[])] [4,7,8] [7] [0,1,2,3,4,5,6,7] (.gv 74<|.gv 75<|.gv 76<|.bo (ix x51.d9 a3) λx54=>.gv 79<|.bl (x51.d9.set (Int.toNat a3) y2_1:List dL) λx55=>.ge 1016007 0<|.ret (((⟨a1.bF,(a1.aW.set (Int.toNat a2) (⟨x51.fD,x51.Closed,x51.cK,x51.dM,x55,x51.eH,x51.Down,x51.gK⟩:aP)),a1.dG,a1.dO,a1.bL,a1.Done⟩:aA):aA),0))))))
def nZ (a1:aA) (a2:Int) (a3:Int) (a4:dL):Option (aA×Int):=(JE a1 a2 a3 a4).run
theorem tT {a1 a2 a3 a4}:PZ (nZ a1 a2 a3 a4) 51 [.agg (aA.av a1),int a2,int a3,.agg (dL.av a4)] (λr=>.bD [.agg (aA.av r.1),int r.2]):=by
 refine wm Tryz.func51 ?_
 intro v5
 intro v6
 intro v7
 refine .mk λx8 e8=>?_
 refine .mk λx9=>?_
 refine .mk .mk ?_
 refine .mk λx10 e10=>?_
 refine .mk λx11 e11=>?_
 intro v12
 refine .mk ?_ ?_
 intro v13
 refine .mk (bK (dK (y:=aH 1 fI ([a4.Open,a4.lS,a4.lJ,a4.lM,a4.lY,a4.l9,a4.lN,a4.lW,a4.l5,a4.mD,a4.lZ]:List Int)) (gM (ps:=[(0,_),(1,_),(2,_),(3,_),(4,_),(5,_),(6,_),(7,_),(8,_),(9,_),(10,_)]) (rows:=[[int a4.Open],[int a4.lS],[int a4.lJ],[int a4.lM],[int a4.lY],[int a4.l9],[int a4.lN],[int a4.lW],[int a4.l5],[int a4.mD],[int a4.lZ]]) rfl Tryz.underlying22 iH (.cons rfl (.cons rfl (.cons rfl (.cons rfl (.cons rfl (.cons rfl (.cons rfl (.cons rfl (.cons rfl (.cons rfl (.cons rfl .nil))))))))))) (by kernel_rfl) rfl rfl rfl) rfl)) ?_
 exact .mk
 intro _ _
 refine .mk trivial ?_
 refine .mk ?_ ?_
 refine .mk ?_
 refine .mk λx14 e14=>?_
 refine .mk ?_ ?_
 refine .mk ?_
 refine .mk _ (λH hH _=>gM (ps:=[(0,_),(1,_),(2,_),(3,_),(4,_),(5,_),(6,_),(7,_),(8,_),(9,_),(10,_)]) (rows:=[[.pt 4 v12 0 0],[.pt 4 v12 0 1],[.pt 4 v12 0 2],[.pt 4 v12 0 3],[.pt 4 v12 0 4],[.pt 4 v12 0 5],[.pt 4 v12 0 6],[.pt 4 v12 0 7],[.pt 4 v12 0 8],[.pt 4 v12 0 9],[.pt 4 v12 0 10]]) rfl Tryz.underlying178 sF (.cons rfl (.cons rfl (.cons rfl (.cons rfl (.cons rfl (.cons rfl (.cons rfl (.cons rfl (.cons rfl (.cons rfl (.cons rfl .nil))))))))))) (by kernel_rfl) rfl rfl rfl) ?_
 exact .mk
 intro _ _
 refine .mk trivial ?_
 refine .mk _ (bK (lK (j:=0) rfl Tryz.underlying178 sJ rfl rfl rfl (.list rfl))) ?_
 refine .mk λx15 e15=>?_
 refine .mk λx16=>?_
 refine .mk .mk ?_
 refine .mk ?_
 refine .mk ?_
 refine .mk λx17 e17=>?_
 refine .mk ?_ ?_
 refine .mk ?_
 refine .mk _ (λH hH _=>gM (ps:=[(0,_),(1,_),(2,_),(3,_),(4,_),(5,_),(6,_),(7,_),(8,_),(9,_),(10,_)]) (rows:=[[.pt 4 v12 0 0],[.pt 4 v12 0 1],[.pt 4 v12 0 2],[.pt 4 v12 0 3],[.pt 4 v12 0 4],[.pt 4 v12 0 5],[.pt 4 v12 0 6],[.pt 4 v12 0 7],[.pt 4 v12 0 8],[.pt 4 v12 0 9],[.pt 4 v12 0 10]]) rfl Tryz.underlying178 sF (.cons rfl (.cons rfl (.cons rfl (.cons rfl (.cons rfl (.cons rfl (.cons rfl (.cons rfl (.cons rfl (.cons rfl (.cons rfl .nil))))))))))) (by kernel_rfl) rfl rfl rfl) ?_
 exact .mk
 intro _ _
 refine .mk trivial ?_
 refine .mk _ (bK (lK (j:=1) rfl Tryz.underlying178 sJ rfl rfl rfl (.list rfl))) ?_
 refine .mk λx18 e18=>?_
 refine .mk λx19=>?_
 refine .mk .mk ?_
 refine .mk ?_
 refine .mk ?_
 refine .mk λx20 e20=>?_
 refine .mk ?_ ?_
 refine .mk ?_
 refine .mk _ (λH hH _=>gM (ps:=[(0,_),(1,_),(2,_),(3,_),(4,_),(5,_),(6,_),(7,_),(8,_),(9,_),(10,_)]) (rows:=[[.pt 4 v12 0 0],[.pt 4 v12 0 1],[.pt 4 v12 0 2],[.pt 4 v12 0 3],[.pt 4 v12 0 4],[.pt 4 v12 0 5],[.pt 4 v12 0 6],[.pt 4 v12 0 7],[.pt 4 v12 0 8],[.pt 4 v12 0 9],[.pt 4 v12 0 10]]) rfl Tryz.underlying178 sF (.cons rfl (.cons rfl (.cons rfl (.cons rfl (.cons rfl (.cons rfl (.cons rfl (.cons rfl (.cons rfl (.cons rfl (.cons rfl .nil))))))))))) (by kernel_rfl) rfl rfl rfl) ?_
 exact .mk
 intro _ _
 refine .mk trivial ?_
 refine .mk _ (bK (lK (j:=2) rfl Tryz.underlying178 sJ rfl rfl rfl (.list rfl))) ?_
 refine .mk λx21 e21=>?_
 refine .mk λx22=>?_
 refine .mk .mk ?_
 refine .mk ?_
 refine .mk ?_
 refine .mk λx23 e23=>?_
 refine .mk ?_ ?_
 refine .mk ?_
 refine .mk _ (λH hH _=>gM (ps:=[(0,_),(1,_),(2,_),(3,_),(4,_),(5,_),(6,_),(7,_),(8,_),(9,_),(10,_)]) (rows:=[[.pt 4 v12 0 0],[.pt 4 v12 0 1],[.pt 4 v12 0 2],[.pt 4 v12 0 3],[.pt 4 v12 0 4],[.pt 4 v12 0 5],[.pt 4 v12 0 6],[.pt 4 v12 0 7],[.pt 4 v12 0 8],[.pt 4 v12 0 9],[.pt 4 v12 0 10]]) rfl Tryz.underlying178 sF (.cons rfl (.cons rfl (.cons rfl (.cons rfl (.cons rfl (.cons rfl (.cons rfl (.cons rfl (.cons rfl (.cons rfl (.cons rfl .nil))))))))))) (by kernel_rfl) rfl rfl rfl) ?_
 exact .mk
 intro _ _
 refine .mk trivial ?_
 refine .mk _ (bK (lK (j:=3) rfl Tryz.underlying178 sJ rfl rfl rfl (.list rfl))) ?_
 refine .mk λx24 e24=>?_
 refine .mk λx25=>?_
 refine .mk .mk ?_
 refine .mk ?_
 refine .mk ?_
 refine .mk λx26 e26=>?_
 refine .mk ?_ ?_
 refine .mk ?_
 refine .mk _ (λH hH _=>gM (ps:=[(0,_),(1,_),(2,_),(3,_),(4,_),(5,_),(6,_),(7,_),(8,_),(9,_),(10,_)]) (rows:=[[.pt 4 v12 0 0],[.pt 4 v12 0 1],[.pt 4 v12 0 2],[.pt 4 v12 0 3],[.pt 4 v12 0 4],[.pt 4 v12 0 5],[.pt 4 v12 0 6],[.pt 4 v12 0 7],[.pt 4 v12 0 8],[.pt 4 v12 0 9],[.pt 4 v12 0 10]]) rfl Tryz.underlying178 sF (.cons rfl (.cons rfl (.cons rfl (.cons rfl (.cons rfl (.cons rfl (.cons rfl (.cons rfl (.cons rfl (.cons rfl (.cons rfl .nil))))))))))) (by kernel_rfl) rfl rfl rfl) ?_
 exact .mk
 intro _ _
 refine .mk trivial ?_
 refine .mk _ (bK (lK (j:=4) rfl Tryz.underlying178 sJ rfl rfl rfl (.list rfl))) ?_
 refine .mk λx27 e27=>?_
 refine .mk λx28=>?_
 refine .mk .mk ?_
 refine .mk ?_
 refine .mk ?_
 refine .mk λx29 e29=>?_
 refine .mk ?_ ?_
 refine .mk ?_
 refine .mk _ (λH hH _=>gM (ps:=[(0,_),(1,_),(2,_),(3,_),(4,_),(5,_),(6,_),(7,_),(8,_),(9,_),(10,_)]) (rows:=[[.pt 4 v12 0 0],[.pt 4 v12 0 1],[.pt 4 v12 0 2],[.pt 4 v12 0 3],[.pt 4 v12 0 4],[.pt 4 v12 0 5],[.pt 4 v12 0 6],[.pt 4 v12 0 7],[.pt 4 v12 0 8],[.pt 4 v12 0 9],[.pt 4 v12 0 10]]) rfl Tryz.underlying178 sF (.cons rfl (.cons rfl (.cons rfl (.cons rfl (.cons rfl (.cons rfl (.cons rfl (.cons rfl (.cons rfl (.cons rfl (.cons rfl .nil))))))))))) (by kernel_rfl) rfl rfl rfl) ?_
 exact .mk
 intro _ _
 refine .mk trivial ?_
 refine .mk _ (bK (lK (j:=5) rfl Tryz.underlying178 sJ rfl rfl rfl (.list rfl))) ?_
 refine .mk λx30 e30=>?_
 refine .mk λx31=>?_
 refine .mk .mk ?_
 refine .mk ?_
 refine .mk ?_
 refine .mk λx32 e32=>?_
 refine .mk ?_ ?_
 refine .mk ?_
 refine .mk _ (λH hH _=>gM (ps:=[(0,_),(1,_),(2,_),(3,_),(4,_),(5,_),(6,_),(7,_),(8,_),(9,_),(10,_)]) (rows:=[[.pt 4 v12 0 0],[.pt 4 v12 0 1],[.pt 4 v12 0 2],[.pt 4 v12 0 3],[.pt 4 v12 0 4],[.pt 4 v12 0 5],[.pt 4 v12 0 6],[.pt 4 v12 0 7],[.pt 4 v12 0 8],[.pt 4 v12 0 9],[.pt 4 v12 0 10]]) rfl Tryz.underlying178 sF (.cons rfl (.cons rfl (.cons rfl (.cons rfl (.cons rfl (.cons rfl (.cons rfl (.cons rfl (.cons rfl (.cons rfl (.cons rfl .nil))))))))))) (by kernel_rfl) rfl rfl rfl) ?_
 exact .mk
 intro _ _
 refine .mk trivial ?_
 refine .mk _ (bK (lK (j:=6) rfl Tryz.underlying178 sJ rfl rfl rfl (.list rfl))) ?_
 refine .mk λx33 e33=>?_
 refine .mk λx34=>?_
 refine .mk .mk ?_
 refine .mk ?_
 refine .mk ?_
 refine .mk λx35 e35=>?_
 refine .mk ?_ ?_
 refine .mk ?_
 refine .mk _ (λH hH _=>gM (ps:=[(0,_),(1,_),(2,_),(3,_),(4,_),(5,_),(6,_),(7,_),(8,_),(9,_),(10,_)]) (rows:=[[.pt 4 v12 0 0],[.pt 4 v12 0 1],[.pt 4 v12 0 2],[.pt 4 v12 0 3],[.pt 4 v12 0 4],[.pt 4 v12 0 5],[.pt 4 v12 0 6],[.pt 4 v12 0 7],[.pt 4 v12 0 8],[.pt 4 v12 0 9],[.pt 4 v12 0 10]]) rfl Tryz.underlying178 sF (.cons rfl (.cons rfl (.cons rfl (.cons rfl (.cons rfl (.cons rfl (.cons rfl (.cons rfl (.cons rfl (.cons rfl (.cons rfl .nil))))))))))) (by kernel_rfl) rfl rfl rfl) ?_
 exact .mk
 intro _ _
 refine .mk trivial ?_
 refine .mk _ (bK (lK (j:=7) rfl Tryz.underlying178 sJ rfl rfl rfl (.list rfl))) ?_
 refine .mk λx36 e36=>?_
 refine .mk λx37=>?_
 refine .mk .mk ?_
 refine .mk ?_
 refine .mk ?_
 refine .mk λx38 e38=>?_
 refine .mk ?_ ?_
 refine .mk ?_
 refine .mk _ (λH hH _=>gM (ps:=[(0,_),(1,_),(2,_),(3,_),(4,_),(5,_),(6,_),(7,_),(8,_),(9,_),(10,_)]) (rows:=[[.pt 4 v12 0 0],[.pt 4 v12 0 1],[.pt 4 v12 0 2],[.pt 4 v12 0 3],[.pt 4 v12 0 4],[.pt 4 v12 0 5],[.pt 4 v12 0 6],[.pt 4 v12 0 7],[.pt 4 v12 0 8],[.pt 4 v12 0 9],[.pt 4 v12 0 10]]) rfl Tryz.underlying178 sF (.cons rfl (.cons rfl (.cons rfl (.cons rfl (.cons rfl (.cons rfl (.cons rfl (.cons rfl (.cons rfl (.cons rfl (.cons rfl .nil))))))))))) (by kernel_rfl) rfl rfl rfl) ?_
 exact .mk
 intro _ _
 refine .mk trivial ?_
 refine .mk _ (bK (lK (j:=8) rfl Tryz.underlying178 sJ rfl rfl rfl (.list rfl))) ?_
 refine .mk λx39 e39=>?_
 refine .mk λx40=>?_
 refine .mk .mk ?_
 refine .mk ?_
 refine .mk ?_
 refine .mk λx41 e41=>?_
 refine .mk ?_ ?_
 refine .mk ?_
 refine .mk _ (λH hH _=>gM (ps:=[(0,_),(1,_),(2,_),(3,_),(4,_),(5,_),(6,_),(7,_),(8,_),(9,_),(10,_)]) (rows:=[[.pt 4 v12 0 0],[.pt 4 v12 0 1],[.pt 4 v12 0 2],[.pt 4 v12 0 3],[.pt 4 v12 0 4],[.pt 4 v12 0 5],[.pt 4 v12 0 6],[.pt 4 v12 0 7],[.pt 4 v12 0 8],[.pt 4 v12 0 9],[.pt 4 v12 0 10]]) rfl Tryz.underlying178 sF (.cons rfl (.cons rfl (.cons rfl (.cons rfl (.cons rfl (.cons rfl (.cons rfl (.cons rfl (.cons rfl (.cons rfl (.cons rfl .nil))))))))))) (by kernel_rfl) rfl rfl rfl) ?_
 exact .mk
 intro _ _
 refine .mk trivial ?_
 refine .mk _ (bK (lK (j:=9) rfl Tryz.underlying178 sJ rfl rfl rfl (.list rfl))) ?_
 refine .mk λx42 e42=>?_
 refine .mk λx43=>?_
 refine .mk .mk ?_
 refine .mk ?_
 refine .mk ?_
 refine .mk λx44 e44=>?_
 refine .mk ?_ ?_
 refine .mk ?_
 refine .mk _ (λH hH _=>gM (ps:=[(0,_),(1,_),(2,_),(3,_),(4,_),(5,_),(6,_),(7,_),(8,_),(9,_),(10,_)]) (rows:=[[.pt 4 v12 0 0],[.pt 4 v12 0 1],[.pt 4 v12 0 2],[.pt 4 v12 0 3],[.pt 4 v12 0 4],[.pt 4 v12 0 5],[.pt 4 v12 0 6],[.pt 4 v12 0 7],[.pt 4 v12 0 8],[.pt 4 v12 0 9],[.pt 4 v12 0 10]]) rfl Tryz.underlying178 sF (.cons rfl (.cons rfl (.cons rfl (.cons rfl (.cons rfl (.cons rfl (.cons rfl (.cons rfl (.cons rfl (.cons rfl (.cons rfl .nil))))))))))) (by kernel_rfl) rfl rfl rfl) ?_
 exact .mk
 intro _ _
 refine .mk trivial ?_
 refine .mk _ (bK (lK (j:=10) rfl Tryz.underlying178 sJ rfl rfl rfl (.list rfl))) ?_
 refine .mk λx45 e45=>?_
 refine .mk λx46=>?_
 refine .mk .mk ?_
 refine .mk ?_
 refine .mk ?_
 exact .mk
 intro _ _
 intro v47
 refine .mk ?_ ?_
 refine .mk λp48=>?_
 refine .mk _ ⟨λ_=>eO rfl rfl (.cons rfl .nil) wT (jD (wB.pc (id:=7) (l:=a1.aW) rfl p48) (.cons (.refl _) .nil)),λ_ _ _=>trivial⟩ ?_
 rintro _ _ ⟨v49,rfl,rfl⟩
 refine .mk λx50 e50=>?_
 refine .mk _ (bK (eY rfl Tryz.underlying28 o8 rfl rfl rfl rfl rfl (Eq.symm rfl) (List.length_map _) e50)) ?_
 exact .mk
 intro _ _
 refine .mk trivial ?_
 refine .mk λx51 e51=>?_
 refine .mk _ (bK (mY rfl rfl (.pt rfl rfl (gN e51 (aP.dA _))))) ?_
 refine .mk _ (bK (fZ rfl zO rfl (.pt rfl rfl (gN e51 (aP.dA _))) (.pt _ _ _ _ _))) ?_
 refine .mk _ (bK (fU rfl AJ rfl (.pt rfl rfl (gN e51 (aP.dA _))) rfl)) ?_
 refine .mk λp52=>?_
 refine .mk _ ⟨λ_=>eO rfl rfl (.cons rfl .nil) YR (jD (aCJ.pc (id:=8) (l:=x51.d9) rfl p52) (.cons (.refl _) .nil)),λ_ _ _=>trivial⟩ ?_
 rintro _ _ ⟨v53,rfl,rfl⟩
 refine .mk _ (bK (mY rfl rfl (.pt rfl rfl (gN e51 (aP.dA _))))) ?_
 refine .mk _ (bK (fZ rfl zO rfl (.pt rfl rfl (gN e51 (aP.dA _))) (.pt _ _ _ _ _))) ?_
 refine .mk _ ⟨λ_=>bY.eX (fH (ob':=(⟨66,8,true,true,_,(a1.aW.map aP.av).set (Int.toNat a2) [int x51.fD,aI x51.Closed,aH 4 aT.av x51.cK,aH 1 fI x51.dM,.sl 8 v53 0 x51.d9.length,aH 1 fI x51.eH,aH 1 fI x51.Down,aH 8 aP.av x51.gK]⟩:bH)) (fC rfl AJ rfl rfl rfl rfl rfl (gN e51 (aP.dA _)) rfl rfl rfl) (iC rfl)) (λ_ h=>h) (λ_ _=>trivial),λ_ _ _=>trivial⟩ ?_
 rintro _ _ ⟨rfl,rfl⟩
 refine .mk ?_
 refine .mk _ (λH hH _=>mY rfl rfl (.pt ((hH _ (by decide)).trans rfl) rfl (lD e51))) ?_
 refine .mk _ (λH hH _=>fZ rfl zO rfl (.pt ((hH _ (by decide)).trans rfl) rfl (lD e51)) (.pt _ _ _ _ _)) ?_
 refine .mk _ (λH hH _=>fU rfl AJ rfl (.pt ((hH _ (by decide)).trans rfl) rfl (lD e51)) rfl) ?_
 refine .mk λx54 e54=>?_
 refine .mk _ (λH hH _=>eY rfl Tryz.underlying64 PM rfl rfl ((hH _ (by decide)).trans rfl) rfl rfl (Eq.symm rfl) (List.length_map _) e54) ?_
 refine .mk λx55 e55=>?_
 have fx55:=iE e54 e55;have lx55:=iD e55 (rfl:x51.d9.length=x51.d9.length)
 refine .mk _ ⟨λ_=>bY.eX (fH (ob':=(⟨121,11,true,true,_,x55.map dL.av⟩:bH)) (fC rfl PM rfl rfl rfl rfl rfl (dN e54) rfl rfl rfl) (iC (jB e55))) (λ_ h=>h) (λ_ _=>trivial),by rintro _ _ ⟨rfl,rfl⟩;exact trivial⟩ ?_
 rintro _ _ ⟨rfl,rfl⟩
 exact .mk (bT.bD (.cons (bT.agg (.cons (.refl _) (.cons (.refl _) (.cons (.refl _) (.cons (.refl _) (.cons (.refl _) (.cons (qI rfl rfl rfl rfl rfl (Eq.symm rfl) e51 (pZ (.cons (.refl _) (.cons (.refl _) (.cons (.refl _) (.cons (.refl _) (.cons (dZ rfl rfl rfl rfl rfl (Eq.symm lx55)) (.cons (.refl _) (.cons (.refl _) (.cons (.refl _) .nil)))))))) (aP.dA _))) (.cons (.refl _) (.cons (.refl _) (.cons (.refl _) (.cons (.refl _) .nil))))))))))) (.cons (.refl _) .nil)))
def aHQ (n:Nat) (a1:aA) (a2:bQ) (a3:dL) (a4:List aQ):WB (aA×Int) :=
 .al 1<|.al 2<|.al 3<|.al 4<|.cl 16 (nP n a1 a2.E a4) vC tY λx9=>.bB 20 (decide (x9.2≠0)) λx10=>.ifs [20] x10 (.ret ((x9.1:aA),x9.2)) (.cl 29 (nZ x9.1 a2.E a2.Item a3) tJ tT λx11=>.ret ((x11.1:aA),x11.2))
def zY (n:Nat) (a1:aA) (a2:bQ) (a3:dL) (a4:List aQ):Option (aA×Int):=(aHQ n a1 a2 a3 a4).run
theorem GA {n a1 a2 a3 a4}:PZ (zY n a1 a2 a3 a4) 208 [.agg (aA.av a1),.agg (bQ.av a2),.agg (dL.av a3),aH 2 aQ.av a4] (λr=>.bD [.agg (aA.av r.1),int r.2]):=wq Tryz.func208
def aR3 (n:Nat) (a1:aA) (a2:bQ):WB (aA×Int) :=
 .al 1<|.al 2<|.al 3<|.dr [(0,[1]),(1,[1]),(2,[1]),(3,[2]),(4,[2]),(7,[2]),(8,[2])] [] [1,2] [] [0,1,2,3,4,5,6,7,8,9,10,11] (.ix 18 (fL 1 fI) a1.bF.Methods a2.E λx6=>.ix 22 fI x6 a2.Item λx7=>.bB 24 (decide (x7≠4)) λx8=>.ifs [24] x8 (.ret ((a1:aA),(12:Int))) (.as (a1.bF.fM.length<=68719476736) inferInstance<|.ge 29 4<|.dr [(0,[1]),(1,[1]),(2,[1]),(3,[2]),(4,[2]),(5,[1]),(6,[1]),(7,[1]),(8,[2]),(9,[2]),(10,[4]),(11,[4]),(13,[4])] [(12,[1,2]),(14,[])] [1,2,4] [12,14] [0,1,2,3,4,5,6,7,8,9,10,11,12,13,14] (.bo (ix a1.bF.fM a2.E) λx11=>.gv 42<|.gv 43<|.as (x11.length<=68719476736) inferInstance<|.ge 44 5<|.gv 45<|.ge 1004014 0<|.dr [(0,[1]),(1,[1]),(2,[1]),(3,[2]),(4,[2]),(5,[4]),(6,[4]),(7,[2]),(8,[2]),(9,[2]),(10,[2]),(11,[5])] [(12,[])] [1,2,4,5] [12] [0,1,2,3,4,5,6,7,8,9,10,11,12] (.gv 51<|.gv 52<|.bo (ix x11 a2.Item) λx14=>.gv 57<|.bl (x11.set (Int.toNat a2.Item) (a2.bO:Int):List Int) λx15=>.ge 1005012 0<|.as (a1.aW.length<=68719476736) inferInstance<|.ge 60 6<|.dr [(0,[1]),(1,[1]),(2,[2]),(3,[2]),(4,[1]),(5,[1]),(6,[2]),(7,[2]),(8,[6]),(9,[6]),(10,[6]),(12,[6]),(13,[6])] [(11,[1,2]),(14,[])] [1,2,6] [11,14] [0,1,2,3,4,5,6,7,8,9,10,11,12,13,14] (.bo (ix a1.aW a2.E) λx18=>.gv 70<|.gv 71<|.gv 72<|.as (x18.cK.length<=68719476736) inferInstance<|.ge 73 7<|.gv 74<|.gv 75<|.ge 1007014 0<|.dr [(0,[1]),(1,[1]),(2,[2]),(3,[2]),(4,[6]),(5,[6]),(6,[6]),(7,[2]),(8,[2]),(10,[2]),(11,[2]),(14,[7])] [] [1,2,6,7] [] [0,1,2,3,4,5,6,7,8,9,10,11,12,13,14,15] (.gv 80<|.gv 81<|.gv 82<|.bI 85 (bA (a2.Item*2)) λx21=>.bI 88 (bA (a2.Item+1)) λx22=>.bI 89 (bA (x22*2)) λx23=>.as ((0:Int)<=x21/\x21<=x23/\x23<=(x18.cK.length:Int)/\x21<(x18.cK.length:Int)) inferInstance<|.gv 90<|.dU 2 [2,3,4,5] [1,2,3,4,5] [] (λ_ (a:Int×(List aT))=>[(7,int a.1)]) (λu2 a=>[.kp 6 ((a1.aW.map aP.av).set (Int.toNat a2.E) [int x18.fD,aI x18.Closed,.sl 7 (u2 7) 0 a.2.length,aH 1 fI x18.dM,aH 11 dL.av x18.d9,aH 1 fI x18.eH,aH 1 fI x18.Down,aH 8 aP.av x18.gK]),.kp 7 (a.2.map aT.av)]) (.lp [2,3,4,5,6,91,92] [1,2,3,4,5] [] (λ_ (a:Int×Int×(List aT))=>[(7,int a.1),(93,int a.2.1)]) (λu3 a=>[.kp 6 ((a1.aW.map aP.av).set (Int.toNat a2.E) [int x18.fD,aI x18.Closed,.sl 7 (u3 7) 0 a.2.2.length,aH 1 fI x18.dM,aH 11 dL.av x18.d9,aH 1 fI x18.eH,aH 1 fI x18.Down,aH 8 aP.av x18.gK]),.kp 7 (a.2.2.map aT.av)]) n ((0:Int),(0:Int),(x18.cK:List aT)) (pw λy0_1 q0=>(pw λy0_2 y0_3=>.bB 94 (decide (y0_2<(((x23.toNat-x21.toNat):Nat):Int))) λx25=>.ifs [94] x25 (.as ((0:Int)<=y0_2/\y0_2<(((x23.toNat-x21.toNat):Nat):Int)) inferInstance<|.bo (ix y0_3 ((((0+x21.toNat):Nat):Int)+y0_2)) λx27=>.gv 96<|.gv 97<|.al 8<|.cl 103 (aGQ n x27.bJ a2.bO) aP8 aN7 λx29=>.bB 108 (decide (x29.2.2≠0)) λx30=>.ifs [108] x30 (.esc (.esc (.ret (((⟨(⟨a1.bF.fO,a1.bF.iB,a1.bF.bN,a1.bF.Methods,(a1.bF.fM.set (Int.toNat a2.E) x15)⟩:gD),(a1.aW.set (Int.toNat a2.E) (⟨x18.fD,x18.Closed,y0_3,x18.dM,x18.d9,x18.eH,x18.Down,x18.gK⟩:aP)),a1.dG,a1.dO,a1.bL,a1.Done⟩:aA):aA),(x29.2.2:Int))))) (.as ((0:Int)<=y0_2/\y0_2<(((x23.toNat-x21.toNat):Nat):Int)) inferInstance<|.gv 114<|.gv 115<|.bl (y0_3.set (Int.toNat ((((0+x21.toNat):Nat):Int)+y0_2)) ((⟨x29.1,x27.bR⟩:aT):aT):List aT) λx32=>.ge 1016005 0<|.bI 118 (bA (y0_1+x29.2.1)) λx33=>.bI 119 (bA (y0_2+1)) λx34=>.brk ((x33:Int),(x34:Int),x32))) (.esc (.brk ((y0_1:Int),y0_3)))) q0)) (pw λy1_1 y1_2=>.jK 4<|.jK 5<|.jK 6<|.jK 7<|.dr [(0,[1]),(1,[2]),(10,[4,5,6,7])] [(13,[])] [1,2,4,5,6,7] [13] [0,1,2,3,4,5,6,7,8,9,10,11,12,13,14] (.cl 125 (qH 0 y1_1) sG uD λx35=>.bI 127 (bA (0-y1_1)) λx36=>.cl 128 (qH 6 x36) sG uD λx37=>.to 129 (aH 2 aQ.av ([x35,x37]:List aQ))<|.cl 130 (zY n (⟨(⟨a1.bF.fO,a1.bF.iB,a1.bF.bN,a1.bF.Methods,(a1.bF.fM.set (Int.toNat a2.E) x15)⟩:gD),(a1.aW.set (Int.toNat a2.E) (⟨x18.fD,x18.Closed,y1_2,x18.dM,x18.d9,x18.eH,x18.Down,x18.gK⟩:aP)),a1.dG,a1.dO,a1.bL,a1.Done⟩:aA) a2 (⟨0,0,0,0,0,0,0,0,0,0,y1_1⟩:dL) ([x35,x37]:List aQ)) F3 GA λx38=>.ret ((x38.1:aA),(x38.2:Int))))))))))
def OK (n:Nat) (a1:aA) (a2:bQ):Option (aA×Int):=(aR3 n a1 a2).run
theorem ZD {n a1 a2}:PZ (OK n a1 a2) 183 [.agg (aA.av a1),.agg (bQ.av a2)] (λr=>.bD [.agg (aA.av r.1),int r.2]):=by
 refine wm Tryz.func183 ?_
 intro v3
 intro v4
 intro v5
 refine .mk ?_
 refine .mk λx6 e6=>?_
 refine .mk λx7 e7=>?_
 refine .mk λx8=>?_
 refine .mk .mk ?_
 refine .mk λp9=>?_
 refine .mk _ ⟨λ_=>eO rfl rfl (.cons rfl .nil) YB (jD (aAX.pc (id:=4) (l:=a1.bF.fM) rfl p9) (.cons (.refl _) .nil)),λ_ _ _=>trivial⟩ ?_
 rintro _ _ ⟨v10,rfl,rfl⟩
 refine .mk ?_
 refine .mk λx11 e11=>?_
 refine .mk _ (λH hH _=>eY rfl Tryz.underlying23 tN rfl rfl ((hH _ (by decide)).trans rfl) rfl rfl (Eq.symm rfl) (List.length_map _) e11) ?_
 refine .mk _ (λH hH _=>fU rfl tN rfl (.pt ((hH _ (by decide)).trans rfl) rfl (dN e11)) rfl) ?_
 refine .mk λp12=>?_
 refine .mk _ ⟨λ_=>eO rfl rfl (.cons rfl .nil) DX (jD (A9.pc (id:=5) (l:=x11) rfl p12) (.cons (.refl _) .nil)),by rintro _ _ ⟨v13,rfl,rfl⟩;exact ⟨rfl,rfl,trivial⟩⟩ ?_
 rintro _ _ ⟨v13,rfl,rfl⟩
 refine .mk _ (λH hH _=>eY rfl Tryz.underlying23 tN rfl rfl ((hH _ (by decide)).trans rfl) rfl rfl (Eq.symm rfl) (List.length_map _) e11) ?_
 refine .mk _ ⟨λ_=>bY.eX (fH (ob':=(⟨22,1,true,true,_,(a1.bF.fM.map (fL 1 fI)).set (Int.toNat a2.E) [.sl 5 v13 0 x11.length]⟩:bH)) (fC rfl tN rfl rfl rfl rfl rfl (dN e11) rfl rfl rfl) (iC rfl)) (λ_ h=>h) (λ_ _=>trivial),by rintro _ _ ⟨rfl,rfl⟩;exact trivial⟩ ?_
 rintro _ _ ⟨rfl,rfl⟩
 refine .mk ?_
 refine .mk _ (λH hH _=>eY rfl Tryz.underlying23 tN rfl rfl ((hH _ (by decide)).trans rfl) rfl rfl (Eq.symm rfl) BM e11) ?_
 refine .mk _ (λH hH _=>fU rfl tN rfl (.pt ((hH _ (by decide)).trans rfl) rfl (lD e11)) rfl) ?_
 refine .mk λx14 e14=>?_
 refine .mk _ (λH hH _=>eY rfl Tryz.underlying22 dP rfl rfl ((hH _ (by decide)).trans rfl) rfl rfl (Eq.symm rfl) (List.length_map _) e14) ?_
 refine .mk λx15 e15=>?_
 have fx15:=iE e14 e15;have lx15:=iD e15 (rfl:x11.length=x11.length)
 refine .mk _ ⟨λ_=>bY.eX (fH (ob':=(⟨3,1,true,true,_,x15.map fI⟩:bH)) (fC rfl dP rfl rfl rfl rfl rfl (dN e14) rfl rfl rfl) (iC (jB e15))) (λ_ h=>h) (λ_ _=>trivial),by rintro _ _ ⟨rfl,rfl⟩;exact trivial⟩ ?_
 rintro _ _ ⟨rfl,rfl⟩
 refine .mk λp16=>?_
 refine .mk _ ⟨λ_=>eO rfl rfl (.cons rfl .nil) wT (jD (wB.pc (id:=6) (l:=a1.aW) rfl p16) (.cons (.refl _) .nil)),λ_ _ _=>trivial⟩ ?_
 rintro _ _ ⟨v17,rfl,rfl⟩
 refine .mk ?_
 refine .mk λx18 e18=>?_
 refine .mk _ (λH hH _=>eY rfl Tryz.underlying28 o8 rfl rfl ((hH _ (by decide)).trans rfl) rfl rfl (Eq.symm rfl) (List.length_map _) e18) ?_
 refine .mk _ (λH hH _=>fZ rfl vV rfl (.pt ((hH _ (by decide)).trans rfl) rfl (gN e18 (aP.dA _))) (.pt _ _ _ _ _)) ?_
 refine .mk _ (λH hH _=>fU rfl vZ rfl (.pt ((hH _ (by decide)).trans rfl) rfl (gN e18 (aP.dA _))) rfl) ?_
 refine .mk λp19=>?_
 refine .mk _ ⟨λ_=>eO rfl rfl (.cons rfl .nil) IN (jD (N7.pc (id:=7) (l:=x18.cK) rfl p19) (.cons (.refl _) .nil)),by rintro _ _ ⟨v20,rfl,rfl⟩;exact ⟨rfl,rfl,trivial⟩⟩ ?_
 rintro _ _ ⟨v20,rfl,rfl⟩
 refine .mk _ (λH hH _=>eY rfl Tryz.underlying28 o8 rfl rfl ((hH _ (by decide)).trans rfl) rfl rfl (Eq.symm rfl) (List.length_map _) e18) ?_
 refine .mk _ (λH hH _=>fZ rfl vV rfl (.pt ((hH _ (by decide)).trans rfl) rfl (gN e18 (aP.dA _))) (.pt _ _ _ _ _)) ?_
 refine .mk _ ⟨λ_=>bY.eX (fH (ob':=(⟨66,8,true,true,_,(a1.aW.map aP.av).set (Int.toNat a2.E) [int x18.fD,aI x18.Closed,.sl 7 v20 0 x18.cK.length,aH 1 fI x18.dM,aH 11 dL.av x18.d9,aH 1 fI x18.eH,aH 1 fI x18.Down,aH 8 aP.av x18.gK]⟩:bH)) (fC rfl vZ rfl rfl rfl rfl rfl (gN e18 (aP.dA _)) rfl rfl rfl) (iC rfl)) (λ_ h=>h) (λ_ _=>trivial),by rintro _ _ ⟨rfl,rfl⟩;exact trivial⟩ ?_
 rintro _ _ ⟨rfl,rfl⟩
 refine .mk ?_
 refine .mk _ (λH hH _=>eY rfl Tryz.underlying28 o8 rfl rfl ((hH _ (by decide)).trans rfl) rfl rfl (Eq.symm rfl) BM e18) ?_
 refine .mk _ (λH hH _=>fZ rfl vV rfl (.pt ((hH _ (by decide)).trans rfl) rfl (lD e18)) (.pt _ _ _ _ _)) ?_
 refine .mk _ (λH hH _=>fU rfl vZ rfl (.pt ((hH _ (by decide)).trans rfl) rfl (lD e18)) rfl) ?_
 refine .mk λx21=>?_
 refine .mk λx22=>?_
 refine .mk λx23=>?_
 refine .mk λp24=>?_
 refine .mk _ (λH hH _=>NQ (len:=x18.cK.length) (i:=x21.toNat) (j:=x23.toNat) rfl Tryz.underlying63 wG rfl ((hH _ (by decide)).trans rfl) rfl rfl (.yes rfl (by first | omega | (dsimp only;omega) | (dsimp only at *;omega))) (.yes rfl (by first | omega | (dsimp only;omega) | (dsimp only at *;omega))) (by first | omega | (dsimp only;omega) | (dsimp only at *;omega)) (by first | omega | (dsimp only;omega) | (dsimp only at *;omega)) (.inl (by first | omega | (dsimp only;omega) | (dsimp only at *;omega)))) ?_
 refine .mk ?_ ?_
 refine .mk ?_
 rintro ⟨y0_1,y0_2,y0_3⟩ _
 refine .mk λx25=>?_
 refine .mk ?_ ?_
 refine .mk λp26=>?_
 refine .mk λx27 e27=>?_
 refine .mk _ (bK (nN rfl Tryz.underlying63 wG rfl rfl rfl rfl rfl p26 (List.length_map _) e27)) ?_
 refine .mk _ (bK (fU rfl wG rfl (.pt rfl rfl (dN e27)) rfl)) ?_
 intro v28
 refine .mk λx29 e29=>?_
 refine .mk λx30=>?_
 refine .mk ?_ ?_
 exact .mk (bT.bD (.cons (bT.agg (.cons (.refl _) (.cons (.refl _) (.cons (.refl _) (.cons (.refl _) (.cons (qI rfl rfl rfl rfl rfl (Eq.symm rfl) e11 (.cons (dZ rfl rfl rfl rfl rfl (Eq.symm lx15)) .nil)) (.cons (qI rfl rfl rfl rfl rfl (Eq.symm rfl) e18 (pZ (.cons (.refl _) (.cons (.refl _) (.cons (dZ rfl rfl rfl rfl rfl (Eq.symm rfl)) (.cons (.refl _) (.cons (.refl _) (.cons (.refl _) (.cons (.refl _) (.cons (.refl _) .nil)))))))) (aP.dA _))) (.cons (.refl _) (.cons (.refl _) (.cons (.refl _) (.cons (.refl _) .nil))))))))))) (.cons (.refl _) .nil)))
 refine .mk λp31=>?_
 refine .mk _ (bK (nN rfl Tryz.underlying63 wG rfl rfl rfl rfl rfl p31 (List.length_map _) e27)) ?_
 refine .mk _ (bK (fZ rfl aXS rfl (.pt rfl rfl (dN e27)) (.pt _ _ _ _ _))) ?_
 refine .mk λx32 e32=>?_
 have fx32:=iE e27 e32;have lx32:=iD e32 (rfl:y0_3.length=y0_3.length)
 refine .mk _ ⟨λ_=>bY.eX (fH (ob':=(⟨60,4,true,true,_,x32.map aT.av⟩:bH)) (fC rfl aIH rfl rfl rfl rfl rfl (dN e27) rfl rfl rfl) (iC (jB e32))) (λ_ h=>h) (λ_ _=>trivial),λ_ _ _=>trivial⟩ ?_
 rintro _ _ ⟨rfl,rfl⟩
 refine .mk λx33=>?_
 refine .mk λx34=>?_
 exact .mk ⟨⟨⟨_,rfl,(.refl _)⟩,⟨_,rfl,(.refl _)⟩,⟨_,rfl,(.refl _)⟩,⟨_,rfl,(.refl _)⟩,⟨_,rfl,(.refl _)⟩,⟨_,rfl,(.refl _)⟩,⟨_,rfl,(.refl _)⟩,⟨_,rfl,(.refl _)⟩,⟨_,rfl,(.refl _)⟩,trivial⟩,⟨⟨_,rfl,⟨rfl,zK (.cons (.refl _) (.cons (.refl _) (.cons (kJ (Eq.symm lx32)) (.cons (.refl _) (.cons (.refl _) (.cons (.refl _) (.cons (.refl _) (.cons (.refl _) .nil))))))))⟩⟩,⟨_,rfl,(.refl _)⟩,⟨_,rfl,(.refl _)⟩,⟨_,rfl,(.refl _)⟩,⟨_,rfl,(.refl _)⟩,⟨_,rfl,(.refl _)⟩,⟨_,rfl,(.refl _)⟩,trivial⟩⟩
 exact .mk
 rintro ⟨y1_1,y1_2⟩ _
 refine .mk ?_
 refine .mk λx35 e35=>?_
 refine .mk λx36=>?_
 refine .mk λx37 e37=>?_
 refine .mk (λH hH _=>dK (y:=aH 2 aQ.av ([x35,x37]:List aQ)) (gM (ps:=[(0,_),(1,_)]) (rows:=[[int x35.jH,int x35.bO],[int x37.jH,int x37.bO]]) rfl Tryz.underlying46 qD (.cons rfl (.cons rfl .nil)) (by kernel_rfl) rfl rfl rfl) rfl) ?_
 refine .mk (λx38 e38=>?_) rfl (λH hH=>(.cons (bT.agg (.cons (.refl _) (.cons (.refl _) (.cons (.refl _) (.cons (.refl _) (.cons (qI (ob:=(⟨22,1,false,true,v10,(a1.bF.fM.map (fL 1 fI)).set (Int.toNat a2.E) [.sl 5 v13 0 x11.length]⟩:bH)) ((hH 4 (by decide)).trans rfl) rfl rfl rfl rfl (Eq.symm rfl) e11 (.cons (dZ (ob:=(⟨3,1,false,true,v13,x15.map fI⟩:bH)) ((hH 5 (by decide)).trans rfl) rfl rfl rfl rfl (Eq.symm lx15)) .nil)) (.cons (qI (ob:=(⟨66,8,false,true,v17,(a1.aW.map aP.av).set (Int.toNat a2.E) [int x18.fD,aI x18.Closed,.sl 7 v20 0 y1_2.length,aH 1 fI x18.dM,aH 11 dL.av x18.d9,aH 1 fI x18.eH,aH 1 fI x18.Down,aH 8 aP.av x18.gK]⟩:bH)) ((hH 6 (by decide)).trans rfl) rfl rfl rfl rfl (Eq.symm rfl) e18 (pZ (.cons (.refl _) (.cons (.refl _) (.cons (dZ (ob:=(⟨60,4,false,true,v20,y1_2.map aT.av⟩:bH)) ((hH 7 (by decide)).trans rfl) rfl rfl rfl rfl (Eq.symm rfl)) (.cons (.refl _) (.cons (.refl _) (.cons (.refl _) (.cons (.refl _) (.cons (.refl _) .nil)))))))) (aP.dA _))) (.cons (.refl _) (.cons (.refl _) (.cons (.refl _) (.cons (.refl _) .nil))))))))))) (.cons (.refl _) (.cons (.refl _) (.cons (.refl _) .nil)))))
 exact .mk
def SF (a1:Int) (a2:Int) (a3:Int):WB (Bool) :=
 .jn 1 [] [] [] (λ_ (a:Bool)=>[(6,aI a)]) (λ_ _=>[]) (.bB 9 (decide (a1>=a2)) λx4=>.ifs [9] x4 (.bB 13 (decide (a1<=a3)) λx5=>.ret x5) (.ret false)) (λy0_1=>.ret ((y0_1:Bool)))
def mE (a1:Int) (a2:Int) (a3:Int):Option (Bool):=(SF a1 a2 a3).run
theorem nT {a1 a2 a3}:PZ (mE a1 a2 a3) 33 [int a1,int a2,int a3] aI:=wq Tryz.func33
def VJ (a1:aA) (a2:Int) (a3:Int) (a4:Int):WB (Int) :=
 .al 1<|.jn 0 [2,3,8] [] [] (λ_ (a:Bool)=>[(18,aI a)]) (λ_ _=>[]) (.cl 12 (yJ a1 a2 a3) PG VP λx6=>.bB 13 (!x6) λx7=>.ifs [13] x7 (.ret true) (.cl 16 (mE a4 0 1) nU nT λx8=>.bB 17 (!x8) λx9=>.ret x9)) (λy0_1=>.ifs [18] y0_1 (.ret (((-1):Int))) (.bI 20 (bA (a3*2)) λx10=>.bI 22 (bA (x10+a4)) λx11=>.ret ((x11:Int))))
def xG (a1:aA) (a2:Int) (a3:Int) (a4:Int):Option (Int):=(VJ a1 a2 a3 a4).run
theorem QW {a1 a2 a3 a4}:PZ (xG a1 a2 a3 a4) 13 [.agg (aA.av a1),int a2,int a3,int a4] int:=wq Tryz.func13
def VH (a1:aT) (a2:List aM):WB (aT) :=
 .al 1<|.al 2<|.ret (((⟨a2,a1.bR⟩:aT):aT))
def sZ (a1:aT) (a2:List aM):Option (aT):=(VH a1 a2).run
theorem DT {a1 a2}:PZ (sZ a1 a2) 80 [.agg (aT.av a1),aH 3 aM.av a2] (λr=>.agg (aT.av r)):=wq Tryz.func80
def OH (a1:aT):WB (aT) :=
 .al 1<|.al 2<|.dr [(0,[1]),(1,[1]),(2,[1])] [(4,[]),(5,[])] [1] [3,4,5] [0,1,2,3,4,5] (.as (a1.bJ.length<=68719476736) inferInstance<|.ge 6 3<|.inl 7 vL Tryz.func80 [1,2,3] [] (λu2 (a:Unit)=>.agg [.sl 3 (u2 3) 0 a1.bJ.length,int a1.bR.a0,int a1.bR.a1,int a1.bR.a2]) (λ_ _=>[]) (.al 4<|.al 5<|.ret ()) (λ_=>.ret ((a1:aT))))
def mH (a1:aT):Option (aT):=(OH a1).run
theorem qK {a1}:PZ (mH a1) 35 [.agg (aT.av a1)] (λr=>.agg (aT.av r)):=wq Tryz.func35
def SB (n:Nat) (a1:List aM) (a2:Int):WB (Bool) :=
 .ln 8 aM.av a1<|.dU 0 [4] [] [] (λ_ (a:Unit)=>[]) (λ_ _=>[]) (.lp [4,7,8] [] [] (λ_ (a:Int×Int)=>[(1,int a.1),(9,int a.2)]) (λ_ _=>[]) n ((a2:Int),0) (pw λy0_1 y0_2=>.bB 10 (decide (y0_2<(a1.length:Int))) λx3=>.ifs [10] x3 (.ix 11 aM.av a1 y0_2 λx4=>.al 1<|.bl (if 0>x4.aS then 0 else x4.aS:Int) λx6=>.gv 16<|.bl (if y0_1<x6 then y0_1 else x6:Int) λx7=>.gv 18<|.bI 19 (bA (y0_1-x7)) λx8=>.bB 21 (decide (x8=0)) λx9=>.ifs [21] x9 (.esc (.esc (.ret ((true:Bool))))) (.bI 22 (bA (y0_2+1)) λx10=>.brk ((x8:Int),x10))) (.esc (.brk ())))) (λ_=>.ret ((false:Bool)))
def zT (n:Nat) (a1:List aM) (a2:Int):Option (Bool):=(SB n a1 a2).run
theorem YV {n a1 a2}:PZ (zT n a1 a2) 214 [aH 3 aM.av a1,int a2] aI:=wq Tryz.func214
def VF (n:Nat) (a1:Int) (a2:Int) (a3:Int):WB (Int) :=
 .jn 2 [0,1,2,6] [] [] (λ_ (a:Bool)=>[(13,aI a)]) (λ_ _=>[]) (.bB 15 (decide (a3<1)) λx4=>.ifs [15] x4 (.ret true) (.bB 18 (decide (a2<0)) λx5=>.ifs [18] x5 (.ret true) (.bB 23 (decide (a2>a3)) λx6=>.ifs [23] x6 (.ret true) (.cl 27 (vN a1) IM KM λx7=>.bB 28 (!x7) λx8=>.ret x8)))) (λy0_1=>.ifs [13] y0_1 (.ret ((0:Int))) (.bB 33 (decide (a2=a3)) λx9=>.ifs [33] x9 (.ret ((a1:Int))) (.bB 37 (decide (a1<0)) λx10=>.ifs [37] x10 (.bI 40 (bA (0-a1)) λx11=>.cl 43 (vJ n x11 a2 a3) BX CU λx12=>.bI 48 (bA (0-x12.1)) λx13=>.ret ((x13:Int))) (.cl 53 (vJ n a1 a2 a3) BX CU λx14=>.ret ((x14.1:Int))))))
def oO (n:Nat) (a1:Int) (a2:Int) (a3:Int):Option (Int):=(VF n a1 a2 a3).run
theorem rR {n a1 a2 a3}:PZ (oO n a1 a2 a3) 179 [int a1,int a2,int a3] int:=wq Tryz.func179
end
end Go.Pv
