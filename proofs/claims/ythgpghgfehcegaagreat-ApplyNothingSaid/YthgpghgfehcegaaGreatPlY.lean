import Derived.Test.YthgpghgfehcegaaGreatXEk
import Derived.Test.YthgpghgfehcegaaGreatPvAE
import Derived.Test.YthgpghgfehcegaaGreatPwI
set_option linter.unusedVariables false
set_option linter.unusedSimpArgs false
namespace Go.Pv
open Go.Proofs
set_option maxRecDepth 100000
set_option maxHeartbeats 4000000
noncomputable section
def aL5 (n:Nat) :WB (Bool) :=
 .cl 4 (KX n 0) SE aN5 λx1=>.cl 5 (AO n x1 []) xZ NF λx2=>.al 1<|.gv 12<|.cl 13 (TN n x2 [(⟨1,0,0,0,0,5,50,0,[]⟩:aS),(⟨4,0,0,0,0,2,30,0,[]⟩:aS),(⟨14,0,0,0,0,0,0,0,[]⟩:aS),(⟨4,0,0,0,0,9,0,0,[]⟩:aS)]) aAW aHK λx4=>.al 2<|.jn 0 [] [] [] (λ_ (a:Bool)=>[(0,aF a)]) (λ_ _=>[]) (.ln 17 fI x4.2<|.bB 18 (decide ((x4.2.length:Int)=4)) λx6=>.ifs [18] x6 (.ix 21 fI x4.2 0 λx7=>.bB 23 (decide (x7=0)) λx8=>.ifs [23] x8 (.ix 27 fI x4.2 1 λx9=>.bB 29 (decide (x9=0)) λx10=>.ifs [29] x10 (.ix 33 fI x4.2 2 λx11=>.bB 35 (decide (x11=1)) λx12=>.ifs [35] x12 (.ix 39 fI x4.2 3 λx13=>.bB 41 (decide (x13=5)) λx14=>.ifs [41] x14 (.bB 46 (decide (x4.1.Done=2)) λx15=>.ifs [46] x15 (.ln 51 bH.av x4.1.bP<|.bB 52 (decide ((x4.1.bP.length:Int)=1)) λx16=>.ifs [52] x16 (.ln 57 bS.av x4.1.bU<|.bB 58 (decide ((x4.1.bU.length:Int)=1)) λx17=>.ret x17) (.ret false)) (.ret false)) (.ret false)) (.ret false)) (.ret false)) (.ret false)) (.ret false)) (λy0_1=>.ret ((y0_1:Bool)))
def IM (n:Nat) :Option (Bool):=(aL5 n ).run
theorem aKT {n}:PZ (IM n ) 10 [] aF:=by
 refine wm Tryz.func10 ?_
 refine .mk λx1 e1=>?_
 refine .mk (λx2 e2=>?_) rfl (by rintro _ rfl;exact (.cons (.refl _) (.cons (.nil _) .nil)))
 intro v3
 refine .mk _ (bE (dQ (ps:=[(0,_),(1,_),(2,_),(3,_)]) (rows:=[[int 1,int 0,int 0,int 0,int 0,int 5,int 50,int 0,.sc (.slice none 0 0)],[int 4,int 0,int 0,int 0,int 0,int 2,int 30,int 0,.sc (.slice none 0 0)],[int 14,int 0,int 0,int 0,int 0,int 0,int 0,int 0,.sc (.slice none 0 0)],[int 4,int 0,int 0,int 0,int 0,int 9,int 0,int 0,.sc (.slice none 0 0)]]) rfl Tryz.underlying34 a2K (.cons rfl (.cons rfl (.cons rfl (.cons rfl .nil)))) (by kernel_rfl) rfl rfl rfl)) ?_
 refine .mk (λx4 e4=>?_) rfl (by rintro _ rfl;exact (.cons (.refl _) (.cons (fD.list (.cons (.cons (.refl _) (.cons (.refl _) (.cons (.refl _) (.cons (.refl _) (.cons (.refl _) (.cons (.refl _) (.cons (.refl _) (.cons (.refl _) (.cons (.nil _) .nil))))))))) (.cons (.cons (.refl _) (.cons (.refl _) (.cons (.refl _) (.cons (.refl _) (.cons (.refl _) (.cons (.refl _) (.cons (.refl _) (.cons (.refl _) (.cons (.nil _) .nil))))))))) (.cons (.cons (.refl _) (.cons (.refl _) (.cons (.refl _) (.cons (.refl _) (.cons (.refl _) (.cons (.refl _) (.cons (.refl _) (.cons (.refl _) (.cons (.nil _) .nil))))))))) (.cons (.cons (.refl _) (.cons (.refl _) (.cons (.refl _) (.cons (.refl _) (.cons (.refl _) (.cons (.refl _) (.cons (.refl _) (.cons (.refl _) (.cons (.nil _) .nil))))))))) .nil))))) .nil)))
 intro v5
 refine .mk ?_ ?_
 refine .mk ?_
 refine .mk λx6=>?_
 refine .mk ?_ ?_
 refine .mk λx7 e7=>?_
 refine .mk λx8=>?_
 refine .mk ?_ ?_
 refine .mk λx9 e9=>?_
 refine .mk λx10=>?_
 refine .mk ?_ ?_
 refine .mk λx11 e11=>?_
 refine .mk λx12=>?_
 refine .mk ?_ ?_
 refine .mk λx13 e13=>?_
 refine .mk λx14=>?_
 refine .mk ?_ ?_
 refine .mk λx15=>?_
 refine .mk ?_ ?_
 refine .mk ?_
 refine .mk λx16=>?_
 refine .mk ?_ ?_
 refine .mk ?_
 refine .mk λx17=>?_
 exact .mk
 exact .mk
 exact .mk
 exact .mk
 exact .mk
 exact .mk
 exact .mk
 exact .mk
 intro _ _
 exact .mk
def YC (a1:Int):WB ((List UInt8)) :=
 .bB 5 (decide (a1=1)) λx2=>.jn 0 [2,3] [] [] (λ_ (a:Bool)=>[(4,aF a)]) (λ_ _=>[]) (.ifs [4,5] x2 (.ret true) (.bB 6 (decide (a1=4)) λx3=>.ret x3)) (λy0_1=>.ifs [4] y0_1 (.ret ((([101,105,108,113,97]:List UInt8):List UInt8))) (.bB 8 (decide (a1=2)) λx4=>.jn 0 [2,3] [] [] (λ_ (a:Bool)=>[(7,aF a)]) (λ_ _=>[]) (.ifs [7,8] x4 (.ret true) (.bB 9 (decide (a1=5)) λx5=>.ret x5)) (λy1_1=>.ifs [7] y1_1 (.ret ((([113,97,114]:List UInt8):List UInt8))) (.bB 11 (decide (a1=3)) λx6=>.ifs [11] x6 (.ret ((([113,114]:List UInt8):List UInt8))) (.bB 13 (decide (a1=6)) λx7=>.jn 0 [2,3] [] [] (λ_ (a:Bool)=>[(12,aF a)]) (λ_ _=>[]) (.ifs [12,13] x7 (.ret true) (.bB 14 (decide (a1=7)) λx8=>.ret x8)) (λy2_1=>.ifs [12] y2_1 (.ret ((([101,105,108,113]:List UInt8):List UInt8))) (.bB 16 (decide (a1=8)) λx9=>.ifs [16] x9 (.ret ((([101,105,108,116,113]:List UInt8):List UInt8))) (.bB 18 (decide (a1=9)) λx10=>.jn 0 [2,3] [] [] (λ_ (a:Bool)=>[(17,aF a)]) (λ_ _=>[]) (.ifs [17,18] x10 (.ret true) (.bB 19 (decide (a1=10)) λx11=>.ret x11)) (λy3_1=>.ifs [17] y3_1 (.ret ((([101,105,97]:List UInt8):List UInt8))) (.bB 21 (decide (a1=11)) λx12=>.ifs [21] x12 (.ret ((([116,97,115]:List UInt8):List UInt8))) (.bB 23 (decide (a1=12)) λx13=>.ifs [23] x13 (.ret ((([101,105,108,116,113,97]:List UInt8):List UInt8))) (.bB 25 (decide (a1=13)) λx14=>.ifs [25] x14 (.ret ((([108,113,114]:List UInt8):List UInt8))) (.bB 27 (decide (a1=14)) λx15=>.jn 0 [2] [] [] (λ_ (a:Bool)=>[(26,aF a)]) (λ_ _=>[]) (.ifs [26,27] x15 (.ret true) (.bB 28 (decide (a1=15)) λx16=>.ifs [28] x16 (.ret true) (.bB 29 (decide (a1=16)) λx17=>.ret x17))) (λy4_1=>.ifs [26] y4_1 (.ret ((([101]:List UInt8):List UInt8))) (.ret ((([]:List UInt8):List UInt8)))))))))))))))))
def UZ (a1:Int):Option ((List UInt8)):=(YC a1).run
theorem Y1 {a1}:PZ (UZ a1) 19 [int a1] str:=wq Tryz.func19
def aBE (a1:aS):WB (Bool) :=
 .al 1<|.bB 6 (decide (a1.Kind=8)) λx3=>.ifs [6] x3 (.jn 1 [1] [1] [] (λ_ (a:Bool)=>[(2,aF a)]) (λ_ _=>[]) (.bB 9 (decide (a1.To>=0)) λx4=>.ifs [9] x4 (.bB 13 (decide (a1.To<2)) λx5=>.ifs [13] x5 (.bB 20 (decide (a1.To≠a1.Loc)) λx6=>.ret x6) (.ret false)) (.ret false)) (λy0_1=>.ret ((y0_1:Bool)))) (.bB 23 (decide (a1.Kind=12)) λx7=>.ifs [23] x7 (.jn 1 [1] [1] [] (λ_ (a:Bool)=>[(2,aF a)]) (λ_ _=>[]) (.bB 26 (decide (a1.To>=0)) λx8=>.ifs [26] x8 (.bB 30 (decide (a1.To<4)) λx9=>.ifs [30] x9 (.bB 37 (decide (a1.To≠a1.E)) λx10=>.ret x10) (.ret false)) (.ret false)) (λy1_1=>.ret ((y1_1:Bool)))) (.jn 1 [] [] [] (λ_ (a:Bool)=>[(2,aF a)]) (λ_ _=>[]) (.bB 41 (decide (a1.To>=0)) λx11=>.ifs [41] x11 (.bB 45 (decide (a1.To<=2)) λx12=>.ret x12) (.ret false)) (λy2_1=>.ret ((y2_1:Bool)))))
def LX (a1:aS):Option (Bool):=(aBE a1).run
theorem aEI {a1}:PZ (LX a1) 33 [.agg (aS.av a1)] aF:=wq Tryz.func33
def aC0 (n:Nat) (a1:List Int):WB (Bool) :=
 .dF 2 [0,2] [] [] (λ_ (a:Unit)=>[]) (λ_ _=>[]) (.lp [0,2] [] [] (λ_ (a:Int)=>[(3,int a)]) (λ_ _=>[]) n 0 (λy0_1=>.ln 7 fI a1<|.bB 8 (decide (y0_1<(a1.length:Int))) λx2=>.ifs [8] x2 (.dF 1 [0,2,3] [] [] (λ_ (a:Unit)=>[]) (λ_ _=>[]) (.jn 1 [0,2,3] [] [] (λ_ (a:Bool)=>[(22,aF a)]) (λ_ _=>[]) (.ix 13 fI a1 y0_1 λx3=>.bB 15 (decide (x3<0)) λx4=>.ifs [15] x4 (.ret true) (.ix 19 fI a1 y0_1 λx5=>.bB 21 (decide (x5>=40)) λx6=>.ret x6)) (λy1_1=>.ifs [22] y1_1 (.esc (.esc (.esc (.ret ((false:Bool)))))) (.dF 2 [0,2,3] [] [] (λ_ (a:Unit)=>[]) (λ_ _=>[]) (.lp [0,2,3] [] [] (λ_ (a:Int)=>[(4,int a)]) (λ_ _=>[]) n 0 (λy2_1=>.bB 25 (decide (y2_1<y0_1)) λx7=>.ifs [25] x7 (.dr [] [] [] [] [0,1,2,3,4,5,6,7,8] (.ix 30 fI a1 y2_1 λx8=>.ix 34 fI a1 y0_1 λx9=>.bB 36 (decide (x8=x9)) λx10=>.ifs [36] x10 (.esc (.esc (.esc (.esc (.esc (.ret ((false:Bool)))))))) (.bI 27 (aI (y2_1+1)) λx11=>.brk x11))) (.esc (.brk ())))) (λ_=>.brk ())))) (λ_=>.bI 10 (aI (y0_1+1)) λx12=>.brk x12)) (.esc (.brk ())))) (λ_=>.jn 0 [] [] [] (λ_ (a:Bool)=>[(2,aF a)]) (λ_ _=>[]) (.ln 38 fI a1<|.bB 39 (decide ((a1.length:Int)>=1)) λx13=>.ifs [39] x13 (.ln 42 fI a1<|.bB 43 (decide ((a1.length:Int)<=40)) λx14=>.ret x14) (.ret false)) (λy6_1=>.ret ((y6_1:Bool))))
def PY (n:Nat) (a1:List Int):Option (Bool):=(aC0 n a1).run
theorem YL {n a1}:PZ (PY n a1) 34 [aD 1 fI a1] aF:=wq Tryz.func34
def aG4 (n:Nat) (a1:aS) (a2:aS) (a3:Int):WB (aS×Bool) :=
 .al 1<|.al 2<|.al 3<|.bB 10 (decide (a3=101)) λx7=>.ifs [10] x7 (.jn 2 [3,4,6] [1,2] [] (λ_ (a:Bool)=>[(7,aF a)]) (λ_ _=>[.kp 3 [[int a2.Kind,int a1.E,int a2.Item,int a2.Loc,int a2.To,int a2.aQ,int a2.bD,int a2.Ref,aD 1 fI a2.bT]]]) (.dr [(0,[2]),(1,[1]),(2,[1]),(5,[1]),(6,[1])] [(9,[1])] [1,2] [9] [0,1,2,3,4,5,6,7,8,9,10] (.bB 17 (decide (a1.E>=0)) λx8=>.ifs [17] x8 (.bB 21 (decide (a1.E<4)) λx9=>.ret x9) (.ret false))) (λy0_1=>.ret (((⟨a2.Kind,a1.E,a2.Item,a2.Loc,a2.To,a2.aQ,a2.bD,a2.Ref,a2.bT⟩:aS):aS),y0_1))) (.bB 24 (decide (a3=105)) λx10=>.ifs [24] x10 (.jn 2 [3,4,6] [1,2] [] (λ_ (a:Bool)=>[(7,aF a)]) (λ_ _=>[.kp 3 [[int a2.Kind,int a2.E,int a1.Item,int a2.Loc,int a2.To,int a2.aQ,int a2.bD,int a2.Ref,aD 1 fI a2.bT]]]) (.dr [(0,[2]),(1,[1]),(2,[1]),(5,[1]),(6,[1])] [(9,[1])] [1,2] [9] [0,1,2,3,4,5,6,7,8,9,10] (.bB 31 (decide (a1.Item>=0)) λx11=>.ifs [31] x11 (.bB 35 (decide (a1.Item<5)) λx12=>.ret x12) (.ret false))) (λy1_1=>.ret (((⟨a2.Kind,a2.E,a1.Item,a2.Loc,a2.To,a2.aQ,a2.bD,a2.Ref,a2.bT⟩:aS):aS),y1_1))) (.bB 38 (decide (a3=108)) λx13=>.ifs [38] x13 (.jn 2 [3,4,6] [1,2] [] (λ_ (a:Bool)=>[(7,aF a)]) (λ_ _=>[.kp 3 [[int a2.Kind,int a2.E,int a2.Item,int a1.Loc,int a2.To,int a2.aQ,int a2.bD,int a2.Ref,aD 1 fI a2.bT]]]) (.dr [(0,[2]),(1,[1]),(2,[1]),(5,[1]),(6,[1])] [(9,[1])] [1,2] [9] [0,1,2,3,4,5,6,7,8,9,10] (.bB 45 (decide (a1.Loc>=0)) λx14=>.ifs [45] x14 (.bB 49 (decide (a1.Loc<2)) λx15=>.ret x15) (.ret false))) (λy2_1=>.ret (((⟨a2.Kind,a2.E,a2.Item,a1.Loc,a2.To,a2.aQ,a2.bD,a2.Ref,a2.bT⟩:aS):aS),y2_1))) (.bB 52 (decide (a3=116)) λx16=>.ifs [52] x16 (.dr [(0,[2]),(1,[1])] [(3,[])] [1,2] [3] [0,1,2,3,4] (.cl 58 (LX a1) aDW aEI λx17=>.ret (((⟨a2.Kind,a2.E,a2.Item,a2.Loc,a1.To,a2.aQ,a2.bD,a2.Ref,a2.bT⟩:aS):aS),x17))) (.bB 60 (decide (a3=113)) λx18=>.ifs [60] x18 (.jn 2 [3,4,6] [1,2] [] (λ_ (a:Bool)=>[(7,aF a)]) (λ_ _=>[.kp 3 [[int a2.Kind,int a2.E,int a2.Item,int a2.Loc,int a2.To,int a1.aQ,int a2.bD,int a2.Ref,aD 1 fI a2.bT]]]) (.dr [(0,[2]),(1,[1]),(2,[1]),(5,[1]),(6,[1]),(9,[1]),(10,[1]),(13,[1]),(14,[1])] [(19,[1])] [1,2] [19] [0,1,2,3,4,5,6,7,8,9,10,11,12,13,14,15,16,17,18,19,20] (.bB 67 (decide (a1.aQ<=1073741824)) λx19=>.ifs [67] x19 (.bB 71 (decide (a1.aQ>=1)) λx20=>.ifs [71] x20 (.ret true) (.bB 75 (decide (a1.aQ=0)) λx21=>.ifs [75] x21 (.bB 79 (decide (a1.Kind=7)) λx22=>.ret x22) (.ret false))) (.ret false))) (λy3_1=>.ret (((⟨a2.Kind,a2.E,a2.Item,a2.Loc,a2.To,a1.aQ,a2.bD,a2.Ref,a2.bT⟩:aS):aS),y3_1))) (.bB 84 (decide (a3=97)) λx23=>.ifs [84] x23 (.jn 2 [3,4,6] [1,2] [] (λ_ (a:Bool)=>[(7,aF a)]) (λ_ _=>[.kp 3 [[int a2.Kind,int a2.E,int a2.Item,int a2.Loc,int a2.To,int a2.aQ,int a1.bD,int a2.Ref,aD 1 fI a2.bT]]]) (.dr [(0,[2]),(1,[1]),(2,[1]),(5,[1]),(6,[1]),(10,[1]),(11,[1]),(14,[1]),(15,[1]),(18,[1]),(19,[1])] [(24,[1])] [1,2] [24] [0,1,2,3,4,5,6,7,8,9,10,11,12,13,14,15,16,17,18,19,20,21,22,23,24,25] (.bB 91 (decide (a1.bD>=0)) λx24=>.ifs [91] x24 (.bB 95 (decide (a1.bD<=1125899906842624)) λx25=>.ifs [95] x25 (.bB 100 (decide (a1.bD<=1073741824)) λx26=>.ifs [100] x26 (.ret true) (.bB 104 (decide (a1.Kind≠9)) λx27=>.ifs [104] x27 (.bB 108 (decide (a1.Kind≠10)) λx28=>.ret x28) (.ret false))) (.ret false)) (.ret false))) (λy4_1=>.ret (((⟨a2.Kind,a2.E,a2.Item,a2.Loc,a2.To,a2.aQ,a1.bD,a2.Ref,a2.bT⟩:aS):aS),y4_1))) (.bB 113 (decide (a3=114)) λx29=>.ifs [113] x29 (.jn 2 [3,4,6] [1,2] [] (λ_ (a:Bool)=>[(7,aF a)]) (λ_ _=>[.kp 3 [[int a2.Kind,int a2.E,int a2.Item,int a2.Loc,int a2.To,int a2.aQ,int a2.bD,int a1.Ref,aD 1 fI a2.bT]]]) (.dr [(0,[2]),(1,[1]),(2,[1]),(5,[1]),(6,[1])] [(9,[1])] [1,2] [9] [0,1,2,3,4,5,6,7,8,9,10] (.bB 120 (decide (a1.Ref>=0)) λx30=>.ifs [120] x30 (.bB 124 (decide (a1.Ref<40)) λx31=>.ret x31) (.ret false))) (λy5_1=>.ret (((⟨a2.Kind,a2.E,a2.Item,a2.Loc,a2.To,a2.aQ,a2.bD,a1.Ref,a2.bT⟩:aS):aS),y5_1))) (.dr [(0,[2]),(1,[1]),(2,[1])] [(4,[])] [1,2] [4] [0,1,2,3,4,5] (.cl 132 (PY n a1.bT) G7 YL λx32=>.ret (((⟨a2.Kind,a2.E,a2.Item,a2.Loc,a2.To,a2.aQ,a2.bD,a2.Ref,a1.bT⟩:aS):aS),x32)))))))))
def TL (n:Nat) (a1:aS) (a2:aS) (a3:Int):Option (aS×Bool):=(aG4 n a1 a2 a3).run
theorem aF2 {n a1 a2 a3}:PZ (TL n a1 a2 a3) 20 [.agg (aS.av a1),.agg (aS.av a2),.sc (.int .u8 a3)] (λr=>.aU [.agg (aS.av r.1),aF r.2]):=wq Tryz.func20
def aN4 (n:Nat) (a1:aS) (a2:aS):WB (Bool) :=
 .al 1<|.al 2<|.jn 0 [] [] [] (λ_ (a:Bool)=>[(4,aF a)]) (λ_ _=>[]) (.bB 9 (decide (a1.Kind=a2.Kind)) λx5=>.ifs [9] x5 (.bB 15 (decide (a1.E=a2.E)) λx6=>.ifs [15] x6 (.bB 22 (decide (a1.Item=a2.Item)) λx7=>.ifs [22] x7 (.bB 29 (decide (a1.Loc=a2.Loc)) λx8=>.ifs [29] x8 (.bB 36 (decide (a1.To=a2.To)) λx9=>.ifs [36] x9 (.bB 43 (decide (a1.aQ=a2.aQ)) λx10=>.ifs [43] x10 (.bB 50 (decide (a1.bD=a2.bD)) λx11=>.ifs [50] x11 (.bB 57 (decide (a1.Ref=a2.Ref)) λx12=>.ifs [57] x12 (.cl 64 (UI n a1.bT a2.bT) aHV aN3 λx13=>.ret x13) (.ret false)) (.ret false)) (.ret false)) (.ret false)) (.ret false)) (.ret false)) (.ret false)) (.ret false)) (λy0_1=>.ret ((y0_1:Bool)))
def SH (n:Nat) (a1:aS) (a2:aS):Option (Bool):=(aN4 n a1 a2).run
theorem aD7 {n a1 a2}:PZ (SH n a1 a2) 21 [.agg (aS.av a1),.agg (aS.av a2)] aF:=wq Tryz.func21
def aGU (n:Nat) (a1:aS):WB (Bool) :=
 .al 1<|.cl 10 (UZ a1.Kind) aLC Y1 λx3=>.al 2<|.dF 1 [1,2,3,4] [1] [] (λ_ (a:aS)=>[]) (λ_ a=>[.kp 2 [(aS.av a)]]) (.lp [1,2,3,4] [1] [] (λ_ (a:Int×aS)=>[(5,int a.1)]) (λ_ a=>[.kp 2 [(aS.av a.2)]]) n ((0:Int),((⟨a1.Kind,0,0,0,0,0,0,0,[]⟩:aS):aS)) (pw λy0_1 y0_2=>.gv 16<|.bB 17 (decide (y0_1<(x3.length:Int))) λx5=>.ifs [17] x5 (.dr [(0,[1]),(1,[2])] [(10,[])] [1,2] [9,10] [0,1,2,3,4,5,6,7,8,9,10,11] (.bo (ix x3 y0_1) λx6=>.gv 25<|.cl 26 (TL n a1 y0_2 (x6.toNat:Int)) YK aF2 λx7=>.al 3<|.bB 7 (x7.2) λx9=>.bB 30 (!x9) λx10=>.ifs [30] x10 (.esc (.esc (.ret ((false:Bool))))) (.bI 19 (aI (y0_1+1)) λx11=>.brk ((x11:Int),x7.1)))) (.esc (.brk y0_2)))) (λy1_1=>.jn 0 [] [] [] (λ_ (a:Bool)=>[(2,aF a)]) (λ_ _=>[]) (.bl (decide (x3≠([]:List UInt8)):Bool) λx12=>.gv 33<|.ifs [33] x12 (.cl 37 (SH n a1 y1_1) aE8 aD7 λx13=>.ret x13) (.ret false)) (λy2_1=>.ret ((y2_1:Bool))))
def H9 (n:Nat) (a1:aS):Option (Bool):=(aGU n a1).run
theorem NZ {n a1}:PZ (H9 n a1) 9 [.agg (aS.av a1)] aF:=wq Tryz.func9
def aWV (n:Nat) (a1:Int) (a2:List Int):WB (Bool) :=
 .cl 16 (KX n a1) SE aN5 λx3=>.al 1<|.cl 18 (AO n x3 []) xZ NF λx5=>.al 2<|.cl 21 (MJ n x3 a2) BK ZH λx7=>.cl 25 (TN n x5 x7) aAW aHK λx8=>.al 3<|.ln 29 fI x8.2<|.ln 31 aS.av x7<|.bB 32 (decide ((x8.2.length:Int)≠(x7.length:Int))) λx10=>.ifs [32] x10 (.ret ((false:Bool))) (.jn 3 [4,6,7,8] [2,3] [5] (λu6 (a:(List aS))=>[(10,.sl 5 (u6 5) 0 a.length)]) (λ_ a=>[.nw 5 41 9 (a.map aS.av)]) (.no 10 5 41 9<|.lp [4,6,7,8,9] [2,3] [5] (λu10 (a:Int×(List aS))=>[(10,.sl 5 (u10 5) 0 a.2.length),(11,int a.1)]) (λ_ a=>[.nw 5 41 9 (a.2.map aS.av)]) n ((0:Int),(([]:List aS):List aS)) (pw λy0_2 y0_3=>.ln 35 aS.av x7<|.bB 36 (decide (y0_2<(x7.length:Int))) λx12=>.ifs [36] x12 (.jn 1 [4,6,7,8,9,11] [2,3] [5] (λu11 (a:(List aS))=>[(10,.sl 5 (u11 5) 0 a.length)]) (λ_ a=>[.nw 5 41 9 (a.map aS.av)]) (.ix 41 fI x8.2 y0_2 λx13=>.bB 43 (decide (x13=0)) λx14=>.ifs [43] x14 (.ix 47 aS.av x7 y0_2 λx15=>.to 49 (aD 9 aS.av ([x15]:List aS))<|.bl (y0_3++([x15]:List aS):List aS) λx16=>.as (x16.length<=68719476736) inferInstance<|.ge 50 0<|.ret x16) (.ret y0_3)) (λy1_2=>.bI 38 (aI (y0_2+1)) λx19=>.brk ((x19:Int),y1_2))) (.esc (.ret y0_3)))) (λy2_2=>.inl 54 aAW Tryz.func7 [2,3,5] [11] (λu15 (a:aA×(List Int))=>.aU [.agg (aA.av a.1),.sl 11 (u15 11) 0 a.2.length]) (λ_ a=>[.nw 11 39 1 (a.2.map fI)]) (.al 6<|.al 7<|.jn 2 [2,4,5] [2,3,5,7] [11] (λu16 (a:aA×(List Int))=>[(6,.sl 11 (u16 11) 0 a.2.length)]) (λ_ a=>[.kp 6 [(aA.av a.1)],.nw 11 39 1 (a.2.map fI)]) (.no 6 11 39 1<|.lp [2,4,5,11,12] [2,3,5,7] [11] (λu17 (a:Int×aA×(List Int))=>[(6,.sl 11 (u17 11) 0 a.2.2.length),(13,int a.1)]) (λ_ a=>[.kp 6 [(aA.av a.2.1)],.nw 11 39 1 (a.2.2.map fI)]) n ((0:Int),x5,(([]:List Int):List Int)) (pw λy3_2 q0=>(pw λy3_3 y3_4=>.bB 14 (decide (y3_2<(y2_2.length:Int))) λx23=>.ifs [14] x23 (.bo (ix y2_2 y3_2) λx24=>.gv 15<|.gv 16<|.al 8<|.cl 20 (lF n y3_3 x24) aA1 xR λx26=>.al 9<|.dr [(0,[9])] [(5,[])] [9] [4,5] [0,1,2,3,4,5,6] (.to 26 (aD 1 fI ([x26.2]:List Int))<|.bl (y3_4++([x26.2]:List Int):List Int) λx28=>.as (x28.length<=68719476736) inferInstance<|.ge 27 0<|.bI 28 (aI (y3_2+1)) λx31=>.brk ((x31:Int),x26.1,x28))) (.esc (.ret ((y3_3:aA),y3_4)))) q0)) (pw λy4_2 y4_3=>.ret ((y4_2:aA),y4_3))) (pw λy5_1 y5_3=>.al 12<|.dF 1 [4,7,8,10,12,13] [3,5,11,12] [] (λ_ (a:Unit)=>[]) (λ_ _=>[]) (.lp [4,7,8,10,12,13] [3,5,11,12] [] (λ_ (a:Int)=>[(14,int a)]) (λ_ _=>[]) n 0 (λy6_1=>.bB 60 (decide (y6_1<(y5_3.length:Int))) λx33=>.ifs [60] x33 (.bo (ix y5_3 y6_1) λx34=>.gv 65<|.gv 66<|.bB 67 (decide (x34≠0)) λx35=>.ifs [67] x35 (.esc (.esc (.ret ((false:Bool))))) (.bI 62 (aI (y6_1+1)) λx36=>.brk x36)) (.esc (.brk ())))) (λ_=>.jn 0 [] [] [] (λ_ (a:Bool)=>[(4,aF a)]) (λ_ _=>[]) (.cl 70 (aTK n x8.1 y5_1) aAZ a0M λx37=>.ifs [70] x37 (.bB 76 (decide ((y5_3.length:Int)=(y2_2.length:Int))) λx38=>.ifs [76] x38 (.bB 83 (decide (x8.1.Done=(y2_2.length:Int))) λx39=>.ifs [83] x39 (.ln 87 aS.av x7<|.bB 88 (decide ((x7.length:Int)=0)) λx40=>.ifs [88] x40 (.cl 97 (IM n) aOX aKT λx41=>.ret x41) (.ix 91 aS.av x7 0 λx42=>.cl 93 (H9 n x42) aD1 NZ λx43=>.ifs [93] x43 (.cl 97 (IM n) aOX aKT λx44=>.ret x44) (.ret false))) (.ret false)) (.ret false)) (.ret false)) (λy8_1=>.ret ((y8_1:Bool)))))))
def aUH (n:Nat) (a1:Int) (a2:List Int):Option (Bool):=(aWV n a1 a2).run
theorem a0D {n a1 a2}:PZ (aUH n a1 a2) 3 [int a1,aD 1 fI a2] aF:=wq Tryz.func3
end
end Go.Pv
namespace Go.Pv
section
variable {α β γ δ R:Type}
theorem aQP {x:α} {f:α->Option β} {r:Option β} (h:f x=r):bnd x f=r:=h
theorem YD {x:Int} {f:Int->Option β} {r:Option β} (hx:-9223372036854775808<=x/\x<=9223372036854775807) (h:f x=r):bnd (aI x) f=r:=by
  show f (aI x)=r
  rw [show aI x=x from wrap64 hx];exact h
theorem v_T {p:Prop} [Decidable p] {f:Bool->Option β} {r:Option β} (hp:p) (h:f true=r):bnd (decide p) f=r:=by
  show f (decide p)=r
  rw [decide_eq_true hp];exact h
theorem v_F {p:Prop} [Decidable p] {f:Bool->Option β} {r:Option β} (hp:¬ p) (h:f false=r):bnd (decide p) f=r:=by
  show f (decide p)=r
  rw [decide_eq_false hp];exact h
theorem aP7 {a b:Option β} {r:Option β} (h:a=r):cond true a b=r:=h
theorem aPZ {a b:Option β} {r:Option β} (h:b=r):cond false a b=r:=h
theorem aQ8 {p:Prop} [Decidable p] {k r:Option β} (hp:p) (h:k=r):fG p k=r:=by unfold fG;rw [if_pos hp];exact h
theorem aP1 {x:Option α} {f:α->Option β} {a:α} {r:Option β} (hx:x=some a) (h:f a=r):x.bind f=r:=by rw [hx];exact h
theorem aQI {l:List α} {i:Int} {v:α} {f:α->Option β} {r:Option β} (h0:0<=i) (hl:l[i.toNat]?=some v) (h:f v=r):(ix l i).bind f=r:=by
  unfold ix;rw [if_neg (by omega),hl];exact h
theorem aRQ {x:Int} {f:Int->Option β} {r:Option β} (hx:0<=x/\x<=18446744073709551615) (h:f x=r):bnd (wu64 x) f=r:=by
  show f (wu64 x)=r
  rw [show wu64 x=x from aQG hx];exact h
end
def Ex {β:Type} (P:β->Prop) (D:Option β):Prop:=∃ r,D=some r/\P r
theorem aL2 {α β:Type} {P:β->Prop} {x:α} {f:α->Option β} (h:Ex P (f x)):Ex P (bnd x f):=h
theorem aFQ {β:Type} {P:β->Prop} {c:Bool} {a b:Option β} (h1:c=true->Ex P a) (h2:c=false->Ex P b):Ex P (cond c a b):=by cases c;exact h2 rfl;exact h1 rfl
theorem aL4 {β:Type} {P:β->Prop} {p:Prop} [Decidable p] {k:Option β} (hp:p) (h:Ex P k):Ex P (fG p k):=by unfold fG;rw [if_pos hp];exact h
theorem tF {α β:Type} {P:β->Prop} (Q:α->Prop) {x:Option α} {f:α->Option β} (h1:Ex Q x) (h2:∀ a,Q a->Ex P (f a)):Ex P (x.bind f):=by
  obtain ⟨a,e,hq⟩:=h1;subst e;exact h2 a hq
theorem x_eq {α β:Type} {P:β->Prop} {x:Option α} {a:α} {f:α->Option β} (e:x=some a) (h:Ex P (f a)):Ex P (x.bind f):=by subst e;exact h
theorem u7 {α β:Type} {P:β->Prop} {l:List α} {i:Int} {f:α->Option β} (h0:0<=i) (h1:i<(l.length:Int)) (h2:∀ a,l[i.toNat]?=some a->Ex P (f a)):Ex P ((ix l i).bind f):=by
  have hl:i.toNat<l.length:=by omega
  have e:l[i.toNat]?=some l[i.toNat]:=List.getElem?_eq_getElem hl
  obtain ⟨r,h3,h4⟩:=h2 _ e
  exact ⟨r,aQI h0 e h3,h4⟩
theorem aI5 {α β γ:Type} {P:γ->Prop} {f:α->β->Option γ} {q:α×β} (h:Ex P (f q.1 q.2)):Ex P (p2 f q):=h
theorem aEV {α:Type} {P:α->Prop} {a:α} (h:P a):Ex P (some a):=⟨a,rfl,h⟩
theorem x_w {β:Type} {P:β->Prop} {x:Int} {f:Int->Option β} (hx:-9223372036854775808<=x/\x<=9223372036854775807) (h:Ex P (f x)):Ex P (bnd (aI x) f):=by
  obtain ⟨r,e,hp⟩:=h;exact ⟨r,YD hx e,hp⟩
theorem aS9 {β:Type} {P Q:β->Prop} {D:Option β} (h:Ex P D) (hq:∀ r,P r->Q r):Ex Q D:=by obtain ⟨r,e,p⟩:=h;exact ⟨r,e,hq r p⟩
theorem aP5 {α β:Type} {P:β->Prop} {f:α->Option β} {r:α⊕β} (h1:∀ a,r=.inl a->Ex P (f a)) (h2:∀ b,r=.inr b->P b):Ex P (sel f r):=by
  cases r with
  | inl a=>exact h1 a rfl
  | inr b=>exact ⟨b,rfl,h2 b rfl⟩
theorem aQJ {V J:Type} {P:J->Prop} {f:V->Option (V⊕J)} (I:V->Prop) (μ:V->Nat)
    (hs:∀ v,I v->Ex (λr=>match r with | .inl v'=>I v'/\μ v' < μ v | .inr j=>P j) (f v)):∀ {n:Nat} {v:V},I v->μ v<n->Ex P (iter f n v)
  | 0,v,_,hn=>absurd hn (Nat.not_lt_zero _)
  | n+1,v,hv,hn=>by
    show Ex P ((f v).bind (sel λv'=>iter f n v'))
    refine tF _ (hs v hv) λr hr=>aP5 (λa e=>?_) (λb e=>?_)
    · subst e;exact aQJ I μ hs hr.1 (by have:=hr.2;omega)
    · subst e;exact hr
theorem aGQ {α β:Type} {P:α⊕β->Prop} {x:Option β} (h:Ex (λb=>P (.inr b)) x):Ex P (esc x):=by obtain ⟨r,e,p⟩:=h;subst e;exact ⟨_,rfl,p⟩
theorem XC {α β:Type} {P:α⊕β->Prop} {a:α} (h:P (.inl a)):Ex P (brk a:Option (α⊕β)):=⟨_,rfl,h⟩
theorem aW4 {β:Type} {P:β->Prop} {D:Option β} {r:β} (h:Ex P D) (e:D=some r):P r:=by obtain ⟨s,e',p⟩:=h;rw [e] at e';cases e';exact p
open Go.Proofs
def InM (a:Int):Prop:=-288230376151711744<=a/\a<=288230376151711744
instance (a:Int):Decidable (InM a):=inferInstanceAs (Decidable (_/\_))
theorem ofI {x:Int} (h:0<=x/\x<=18446744073709551615):(BitVec.ofInt IntKind.u64.bits x).toNat=x.toNat:=by
  show (BitVec.ofInt 64 x).toNat=x.toNat
  rw [BitVec.toNat_ofInt]
  have:x % ((2 ^ 64:Nat):Int)=x:=Int.emod_eq_of_lt h.1 (by show x<18446744073709551616;omega)
  rw [this]
theorem aXG {x:Int} (h:0<=x/\x<=18446744073709551615):((BitVec.ofInt IntKind.u64.bits x &&& BitVec.ofInt IntKind.u64.bits 4294967295).toNat:Int)=x % 4294967296:=by
  rw [BitVec.toNat_and,ofI h,ofI (by decide)]
  have:x.toNat &&& (4294967295:Int).toNat=x.toNat % 4294967296:=Nat.and_two_pow_sub_one_eq_mod x.toNat 32
  rw [this];omega
theorem orK {a b t:Int} {k:Nat} (ha:a=2 ^ k*t) (ht:0<=t) (h:a<=18446744073709551615) (hb:0<=b/\b<2 ^ k) (hb2:b<=18446744073709551615):((BitVec.ofInt IntKind.u64.bits a ||| BitVec.ofInt IntKind.u64.bits b).toNat:Int)=a+b:=by
  have p2:(0:Int)<=2 ^ k:=Int.pow_nonneg (by decide)
  have ha0:0<=a:=by rw [ha];exact Int.mul_nonneg p2 ht
  rw [BitVec.toNat_or,ofI ⟨ha0,h⟩,ofI ⟨hb.1,hb2⟩]
  have e1:a.toNat=2 ^ k*t.toNat:=by
    apply Int.ofNat.inj
    show ((a.toNat:Nat):Int)=((2 ^ k*t.toNat:Nat):Int)
    rw [Int.toNat_of_nonneg ha0,ha,Int.natCast_mul,Int.toNat_of_nonneg ht];simp
  have e2:b.toNat<2 ^ k:=by
    have:((b.toNat:Nat):Int)<((2 ^ k:Nat):Int):=by rw [Int.toNat_of_nonneg hb.1];simpa using hb.2
    omega
  rw [e1,<- Nat.two_pow_add_eq_or_of_lt e2,<- e1]
  omega
theorem aRV {x y X Y:Int} (hx:0<=x/\x<=X) (hy:0<=y/\y<=Y):0<=x*y/\x*y<=X*Y :=
  ⟨Int.mul_nonneg hx.1 hy.1,Int.le_trans (Int.mul_le_mul_of_nonneg_left hy.2 hx.1) (Int.mul_le_mul_of_nonneg_right hx.2 (by omega))⟩
theorem aZU {a b:Int} (ha:0<=a/\a<=9223372036854775807) (hb:0<=b/\b<=9223372036854775807) :
    ∃ p q r s:Int,p=(a % 4294967296)*(b % 4294967296)/\q=(a / 4294967296)*(b % 4294967296)/\r=(a % 4294967296)*(b / 4294967296)/\s=(a / 4294967296)*(b / 4294967296) /\
      (0<=p/\p<=18446744065119617025)/\(0<=q/\q<=9223372030412324865)/\(0<=r/\r<=9223372030412324865)/\(0<=s/\s<=4611686014132420609)/\a*b=s*18446744073709551616+(q+r)*4294967296+p:=by
  refine ⟨_,_,_,_,rfl,rfl,rfl,rfl,?_,?_,?_,?_,?_⟩
  · exact aRV (X:=4294967295) (Y:=4294967295) (by omega) (by omega)
  · exact aRV (X:=2147483647) (Y:=4294967295) (by omega) (by omega)
  · exact aRV (X:=4294967295) (Y:=2147483647) (by omega) (by omega)
  · exact aRV (X:=2147483647) (Y:=2147483647) (by omega) (by omega)
  · generalize e1:a / 4294967296=a1
    generalize e0:a % 4294967296=a0
    generalize f1:b / 4294967296=b1
    generalize f0:b % 4294967296=b0
    have ea:a=a1*4294967296+a0:=by omega
    have eb:b=b1*4294967296+b0:=by omega
    rw [ea,eb];grind
theorem aU0 {u y y1 y0 d q r:Int} (hy:y=y1*4294967296+y0) (h0:0<=y0/\y0<4294967296) (h1:2147483648<=y1/\y1<4294967296) (hu:0<=u/\u<y) (hd:0<=d/\d<4294967296) (hr:u=q*y1+r) (hq:(u*4294967296+d) / y<=q)
    (hc:q>=4294967296\/q*y0>4294967296*r+d):(u*4294967296+d) / y<=q-1:=by
  have hy0:0<y:=by omega
  have key:(u*4294967296+d) / y<q:=by
    rcases hc with h | h
    · have:(u*4294967296+d) / y<4294967296:=by
        apply Int.ediv_lt_of_lt_mul hy0
        have:u*4294967296+d<(u+1)*4294967296:=by omega
        have h2:(u+1)*4294967296<=y*4294967296:=by omega
        have h3:y*4294967296=4294967296*y:=Int.mul_comm _ _
        omega
      omega
    · apply Int.ediv_lt_of_lt_mul hy0
      have:q*y=(q*y1)*4294967296+q*y0:=by rw [hy];grind
      omega
  omega
theorem aUR {u y y1 y0 d q r:Int} (hy:y=y1*4294967296+y0) (h0:0<=y0/\y0<4294967296) (h1:2147483648<=y1/\y1<4294967296) (hu:0<=u/\u<y) (hd:0<=d/\d<4294967296) (hr:u=q*y1+r) (hq:(u*4294967296+d) / y<=q)
    (hc:(q<4294967296/\q*y0<=4294967296*r+d)\/r>=4294967296):q=(u*4294967296+d) / y:=by
  have hy0:0<y:=by omega
  have key:q<=(u*4294967296+d) / y:=by
    apply Int.le_ediv_of_mul_le hy0
    have e:q*y=(q*y1)*4294967296+q*y0:=by rw [hy];grind
    have hq0:0<=q:=Int.le_trans (Int.ediv_nonneg (by omega) (by omega)) hq
    rcases hc with h | h
    · omega
    · have hqB:q<4294967296:=by
        apply Int.lt_of_mul_lt_mul_right (a:=y1) _ (by omega)
        have:4294967296*y1=y1*4294967296:=Int.mul_comm _ _
        omega
      have:=(aRV (X:=4294967295) (Y:=4294967295) ⟨hq0,by omega⟩ ⟨h0.1,by omega⟩).2
      omega
  omega
set_option maxRecDepth 100000
set_option maxHeartbeats 1000000
theorem aQX {β:Type} {D:Option β} {x:β} (h:Ex (λr=>r=x) D):D=some x:=by obtain ⟨r,e,rfl⟩:=h;exact e
theorem aR8 (x:Int):wu64 x=x % 18446744073709551616:=aYS x
theorem a0U {p q r s ab:Int} (bp:0<=p/\p<=18446744065119617025) (bq:0<=q/\q<=9223372030412324865) (br:0<=r/\r<=9223372030412324865) (bs:0<=s/\s<=4611686014132420609) (e:ab=s*18446744073709551616+(q+r)*4294967296+p) :
    ((s+q / 4294967296) % 18446744073709551616+r / 4294967296) % 18446744073709551616=s+q / 4294967296+r / 4294967296/\s+q / 4294967296+r / 4294967296+(p / 4294967296+q % 4294967296+r % 4294967296) / 4294967296=ab / 18446744073709551616 /\
      0<=ab / 18446744073709551616/\ab / 18446744073709551616<18446744073709551616/\(p / 4294967296+q % 4294967296+r % 4294967296) % 4294967296*4294967296+p % 4294967296=ab % 18446744073709551616:=by
  have hp:p=p / 4294967296*4294967296+p % 4294967296:=by omega
  have hq:q=q / 4294967296*4294967296+q % 4294967296:=by omega
  have hr:r=r / 4294967296*4294967296+r % 4294967296:=by omega
  have hp0:0<=p % 4294967296/\p % 4294967296<4294967296:=by omega
  have hp1:0<=p / 4294967296/\p / 4294967296<4294967296:=by omega
  have hq0:0<=q % 4294967296/\q % 4294967296<4294967296:=by omega
  have hq1:0<=q / 4294967296/\q / 4294967296<4294967296:=by omega
  have hr0:0<=r % 4294967296/\r % 4294967296<4294967296:=by omega
  have hr1:0<=r / 4294967296/\r / 4294967296<4294967296:=by omega
  generalize p / 4294967296=p1 at *
  generalize p % 4294967296=p0 at *
  generalize q / 4294967296=q1 at *
  generalize q % 4294967296=q0 at *
  generalize r / 4294967296=r1 at *
  generalize r % 4294967296=r0 at *
  have hm:p1+q0+r0=(p1+q0+r0) / 4294967296*4294967296+(p1+q0+r0) % 4294967296:=by omega
  have hm0:0<=(p1+q0+r0) % 4294967296/\(p1+q0+r0) % 4294967296<4294967296:=by omega
  have hm1:0<=(p1+q0+r0) / 4294967296/\(p1+q0+r0) / 4294967296<=2:=by omega
  generalize (p1+q0+r0) / 4294967296=m1 at *
  generalize (p1+q0+r0) % 4294967296=m0 at *
  have hab:ab=(s+q1+r1+m1)*18446744073709551616+(m0*4294967296+p0):=by omega
  have h1:ab / 18446744073709551616=s+q1+r1+m1:=by omega
  have h2:ab % 18446744073709551616=m0*4294967296+p0:=by omega
  rw [h1,h2]
  refine ⟨?_,rfl,?_,?_,rfl⟩ <;> omega
section
variable {β:Type}
theorem aQ1 {α:Type} {e v:α} {f:α->Option β} {r:Option β} (he:e=v) (h:f v=r):bnd e f=r:=by subst he;exact h
theorem aTZ {a e P y:Int} {t:Nat} {f:Int->Option β} {r:Option β} (he:e.toNat=t) (ht:t<=64) (hP:(2:Int) ^ t=P) (hy:wu64 (a*P)=y) (h:f y=r):bnd (wu64 (a*(2 ^ (min e.toNat IntKind.u64.bits)))) f=r:=by
  have:min e.toNat IntKind.u64.bits=t:=by rw [he];show min t 64=t;omega
  show f (wu64 (a*(2 ^ (min e.toNat IntKind.u64.bits))))=r
  rw [this,hP,hy];exact h
theorem aWC {a e P:Int} {t:Nat} {f:Int->Option β} {r:Option β} (he:e.toNat=t) (ht:t<=64) (hP:(2:Int) ^ t=P) (h0:0<=P) (h:f (a / P)=r):bnd (a.fdiv (2 ^ (min e.toNat IntKind.u64.bits))) f=r:=by
  have:min e.toNat IntKind.u64.bits=t:=by rw [he];show min t 64=t;omega
  show f (a.fdiv (2 ^ (min e.toNat IntKind.u64.bits)))=r
  rw [this,hP,Int.fdiv_eq_ediv_of_nonneg a h0];exact h
theorem aWD {x:Int} {f:Int->Option β} {r:Option β} (hx:0<=x/\x<=18446744073709551615) (h:f (x % 4294967296)=r):bnd (wu64 ((BitVec.ofInt IntKind.u64.bits x &&& BitVec.ofInt IntKind.u64.bits 4294967295).toNat:Int)) f=r:=by
  show f (wu64 _)=r
  rw [aXG hx,show wu64 (x % 4294967296)=x % 4294967296 from aQG (by omega)];exact h
theorem a1V {a b v:Int} {f:Int->Option β} {r:Option β} (hv:((BitVec.ofInt IntKind.u64.bits a ||| BitVec.ofInt IntKind.u64.bits b).toNat:Int)=v) (hr:0<=v/\v<=18446744073709551615) (h:f v=r):bnd (wu64 ((BitVec.ofInt IntKind.u64.bits a ||| BitVec.ofInt IntKind.u64.bits b).toNat:Int)) f=r:=by
  show f (wu64 _)=r
  rw [hv,show wu64 v=v from aQG hr];exact h
end
def md (a b c:Int):Int×Int×Int:=if a<0\/b<0\/c<1 then (0,0,1) else if a*b / c>288230376151711744 then (0,0,2) else (a*b / c,a*b % c,0)
theorem a0P {a b c:Int} (ha:0<=a/\a<=9223372036854775807) (hb:0<=b/\b<=9223372036854775807) (hc:1<=c/\c<=9223372036854775807) :
    (0<=a*b / 18446744073709551616)/\(0<=a*b % 18446744073709551616/\a*b % 18446744073709551616<=18446744073709551615)/\a*b / 18446744073709551616*18446744073709551616+a*b % 18446744073709551616=a*b /\
      (0<=a*b / c)/\(0<=a*b % c/\a*b % c<c)/\(a*b / 18446744073709551616<c↔a*b / c<=18446744073709551615):=by
  have h0:0<=a*b:=Int.mul_nonneg ha.1 hb.1
  have h1:0<=a*b / c:=Int.ediv_nonneg h0 (by omega)
  have h2:0<=a*b % c:=Int.emod_nonneg _ (by omega)
  have h3:a*b % c<c:=Int.emod_lt_of_pos _ (by omega)
  have h4:a*b / c<18446744073709551616↔a*b<18446744073709551616*c:=Int.ediv_lt_iff_lt_mul (by omega)
  generalize a*b=N at *
  refine ⟨by omega,by omega,by omega,h1,⟨h2,h3⟩,?_⟩
  omega
theorem digit {c M:Int} (hc:1<=c) (M0:0<=M):(M / 2 % c*2+M % 2>=c->M % c=M / 2 % c*2+M % 2-c/\M / c=M / 2 / c*2+1)/\(¬ M / 2 % c*2+M % 2>=c->M % c=M / 2 % c*2+M % 2/\M / c=M / 2 / c*2):=by
  have q0:0<=M / 2 / c:=Int.ediv_nonneg (by omega) (by omega)
  have r0:0<=M / 2 % c:=Int.emod_nonneg _ (by omega)
  have r1:M / 2 % c<c:=Int.emod_lt_of_pos _ (by omega)
  have er:c*(M / 2 / c)+M / 2 % c=M / 2:=Int.mul_ediv_add_emod _ _
  generalize M / 2 / c=Q at *
  generalize M / 2 % c=R at *
  have step:∀ R' Q':Int,M=Q'*c+R'->0<=R'->R' < c->M % c=R'/\M / c=Q':=by
    intro R' Q' h g1 g2
    constructor
    · rw [h,Int.add_comm,Int.add_mul_emod_self_right,Int.emod_eq_of_lt g1 g2]
    · rw [h,Int.add_comm,Int.add_mul_ediv_right _ _ (by omega),Int.ediv_eq_zero_of_lt g1 g2];omega
  refine ⟨λhge=>step _ _ ?_ (by omega) (by omega),λhge=>step _ _ ?_ (by omega) (by omega)⟩
  · have:(Q*2+1)*c=c*Q*2+c:=by grind
    omega
  · have:(Q*2)*c=c*Q*2:=by grind
    omega
def pt (v q n:Int):Int:=if n<1\/q<0\/q>n\/¬ InM v then 0 else if v<0 then-(-v*q / n) else v*q / n
end Go.Pv
namespace Go.Pv
theorem aEY {β:Type} {P:β->Prop} {p:Prop} {_:Decidable p} {a b:Option β} (h1:p->Ex P a) (h2:¬p->Ex P b):Ex P (cond (decide p) a b):=by
  by_cases h:p
  · rw [decide_eq_true h];exact h1 h
  · rw [decide_eq_false h];exact h2 h
theorem aEW {β:Type} {P:β->Prop} {c:Bool} {a b:Option β} (h1:c=false->Ex P a) (h2:c=true->Ex P b):Ex P (cond (!c) a b):=by cases c;exact h1 rfl;exact h2 rfl
theorem aCE {α γ β:Type} {P:β->Prop} {x:γ} {g:γ->Option α} {f:α->Option β} (h:Ex P ((g x).bind f)):Ex P ((bnd x g).bind f):=h
theorem XK {α β:Type} {P:β->Prop} {x:Int} {g:Int->Option α} {f:α->Option β} (hx:-9223372036854775808<=x/\x<=9223372036854775807) (h:Ex P ((g x).bind f)):Ex P ((bnd (aI x) g).bind f):=by
  obtain ⟨r,e,p⟩:=h;have k:aI x=x:=wrap64 hx
  exact ⟨r,by rw [<- e];show Option.bind (g (aI x)) f=_;rw [k],p⟩
theorem aMX {α β:Type} {P:β->Prop} {c:Bool} {x y:Option α} {f:α->Option β} (h:Ex P (cond c (x.bind f) (y.bind f))):Ex P ((cond c x y).bind f):=by cases c;exact h;exact h
theorem Y4 {α β:Type} {P:β->Prop} {a:α} {f:α->Option β} (h:Ex P (f a)):Ex P ((some a).bind f):=h
theorem aKG {α γ β:Type} {P:β->Prop} {x:Option γ} {g:γ->Option α} {f:α->Option β} (h:Ex P (x.bind λa=>(g a).bind f)):Ex P ((x.bind g).bind f):=by cases x;exact h;exact h
theorem aAR {α γ δ β:Type} {P:β->Prop} {g:γ->δ->Option α} {q:γ×δ} {f:α->Option β} (h:Ex P ((g q.1 q.2).bind f)):Ex P ((p2 g q).bind f):=h
theorem aDS {α β:Type} {P:β->Prop} {p:Prop} [Decidable p] {k:Option α} {f:α->Option β} (h:Ex P (fG p (k.bind f))):Ex P ((fG p k).bind f):=by
  unfold fG at h ⊢
  by_cases hp:p
  · rw [if_pos hp] at h ⊢;exact h
  · rw [if_neg hp] at h;obtain ⟨r,e,_⟩:=h;cases e
theorem aOY {α β:Type} {P:β->Prop} {x:Option β} {f:α->Option β} (h:Ex P x):Ex P ((esc x:Option (α⊕β)).bind (sel f)):=by obtain ⟨r,e,p⟩:=h;subst e;exact ⟨_,rfl,p⟩
theorem aIH {α β:Type} {P:β->Prop} {a:α} {f:α->Option β} (h:Ex P (f a)):Ex P ((brk a:Option (α⊕β)).bind (sel f)):=h
theorem aK3 {α β:Type} {P:β->Prop} {f:α->Option β} {a:α} (h:Ex P (f a)):Ex P (sel f (.inl a)):=h
theorem a0A {α β:Type} {P:β->Prop} {f:α->Option β} {a:β} (h:P a):Ex P (sel f (.inr a)):=⟨a,rfl,h⟩
theorem aQZ {α β:Type} {P:β->Prop} {l:List α} {i:Int} {a:α} {f:α->Option β} (h0:0<=i) (h:l[i.toNat]?=some a) (k:Ex P (f a)):Ex P ((ix l i).bind f):=by
  obtain ⟨r,e,p⟩:=k;exact ⟨r,aQI h0 h e,p⟩
theorem x_v {β:Type} {P:β->Prop} {x:Int} {f:Int->Option β} (h:Ex P (f x)) (hx:-9223372036854775808<=x/\x<=9223372036854775807:=by first | omega | (simp only;omega)):Ex P (bnd (aI x) f):=x_w hx h
theorem aP8 {α β:Type} {P:β->Prop} {x:Int} {g:Int->Option α} {f:α->Option β} (h:Ex P ((g x).bind f)) (hx:-9223372036854775808<=x/\x<=9223372036854775807:=by first | omega | (simp only;omega)):Ex P ((bnd (aI x) g).bind f):=XK hx h
theorem x_a {β:Type} {P:β->Prop} {p:Prop} {_:Decidable p} {k:Option β} (h:Ex P k) (hp:p:=by first | omega | (simp only [List.length_append,List.length_cons,List.length_nil,List.length_set];omega) | (simp;omega)):Ex P (fG p k):=aL4 hp h
end Go.Pv
