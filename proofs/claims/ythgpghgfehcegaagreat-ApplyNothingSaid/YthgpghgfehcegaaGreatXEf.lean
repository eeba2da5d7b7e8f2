import Derived.Test.YthgpghgfehcegaaGreatXEe
set_option linter.unusedVariables false
set_option linter.unusedSimpArgs false
namespace Go.Pv
open Go.Proofs
set_option maxRecDepth 100000
set_option maxHeartbeats 4000000
noncomputable section
def aAK (n:Nat) (a1:Int):WB (eZ) :=
 .al 1<|.cl 13 (rQ a1 1073741824) aMO AY λx3=>.bI 15 (x3.tmod 2) λx4=>.bI 16 (aI (2+x4)) λx5=>.bI 18 (aI (x3.tdiv 2)) λx6=>.bI 19 (x6.tmod 3) λx7=>.bI 20 (aI (2+x7)) λx8=>.bI 23 (aI (x3.tdiv 6)) λx9=>.bI 24 (x9.tmod 4) λx10=>.bI 25 (aI (1+x10)) λx11=>.al 2<|.jn 1 [2,3,4,5,6] [1] [4] (λ_ (a:(List Int))=>[]) (λu2 a=>[.kp 2 [[int x5,int x11,.sl 4 (u2 4) 0 a.length,.sc (.slice none 0 0),.sc (.slice none 0 0)]],.nw 4 3 1 (a.map fI)]) (.nc 2 0 2 4 3 1<|.lp [2,3,4,5,6] [1] [4] (λ_ (a:Int×(List Int))=>[(7,int a.1)]) (λu3 a=>[.kp 2 [[int x5,int x11,.sl 4 (u3 4) 0 a.2.length,.sc (.slice none 0 0),.sc (.slice none 0 0)]],.nw 4 3 1 (a.2.map fI)]) n ((0:Int),(([]:List Int):List Int)) (pw λy0_1 y0_3=>.bB 29 (decide (y0_1<x8)) λx14=>.ifs [29] x14 (.bI 35 (aI (x3.tdiv 24)) λx15=>.bI 36 (x15.tmod 7) λx16=>.bI 38 (aI (x16+y0_1)) λx17=>.to 39 (aD 1 fI ([x17]:List Int))<|.bl (y0_3++([x17]:List Int):List Int) λx18=>.as (x18.length<=68719476736) inferInstance<|.ge 40 0<|.bI 31 (aI (y0_1+1)) λx21=>.brk ((x21:Int),x18)) (.esc (.ret y0_3)))) (λy1_2=>.jn 1 [2,6] [1,4] [11,12] (λ_ (a:(List (List Int))×(List (List Int)))=>[]) (λu20 a=>[.kp 2 [[int x5,int x11,.sl 4 (u20 4) 0 y1_2.length,.sl 11 (u20 11) 0 a.1.length,.sl 12 (u20 12) 0 a.2.length]],.nw 11 22 1 (a.1.map (fL 1 fI)),.nw 12 22 1 (a.2.map (fL 1 fI))]) (.nc 2 0 3 11 22 1<|.nc 2 0 4 12 22 1<|.lp [2,3,4,5,6] [1,4] [11,12] (λ_ (a:Int×(List (List Int))×(List (List Int)))=>[(8,int a.1)]) (λu25 a=>[.kp 2 [[int x5,int x11,.sl 4 (u25 4) 0 y1_2.length,.sl 11 (u25 11) 0 a.2.1.length,.sl 12 (u25 12) 0 a.2.2.length]],.nw 11 22 1 (a.2.1.map (fL 1 fI)),.nw 12 22 1 (a.2.2.map (fL 1 fI))]) n ((0:Int),(([]:List (List Int)):List (List Int)),(([]:List (List Int)):List (List Int))) (pw λy2_1 q0=>(pw λy2_4 y2_5=>.bB 44 (decide (y2_1<x5)) λx24=>.ifs [44] x24 (.jn 1 [2,3,4,5,6,8] [1,4] [11,12] (λ_ (a:(List (List Int))×(List (List Int)))=>[]) (λu28 a=>[.kp 2 [[int x5,int x11,.sl 4 (u28 4) 0 y1_2.length,.sl 11 (u28 11) 0 a.1.length,.sl 12 (u28 12) 0 a.2.length]],.nw 11 22 1 (a.1.map (fL 1 fI)),.nw 12 22 1 (a.2.map (fL 1 fI))]) (.jn 3 [2,3,4,5,6,8] [1,2,4,11,12] [7,8] (λu30 (a:(List Int)×(List Int))=>[(9,.sl 7 (u30 7) 0 a.1.length),(10,.sl 8 (u30 8) 0 a.2.length)]) (λ_ a=>[.nw 7 3 1 (a.1.map fI),.nw 8 3 1 (a.2.map fI)]) (.no 9 7 3 1<|.no 10 8 3 1<|.lp [2,3,4,5,6,8] [1,2,4,11,12] [7,8] (λu31 (a:Int×(List Int)×(List Int))=>[(9,.sl 7 (u31 7) 0 a.2.1.length),(10,.sl 8 (u31 8) 0 a.2.2.length),(11,int a.1)]) (λ_ a=>[.nw 7 3 1 (a.2.1.map fI),.nw 8 3 1 (a.2.2.map fI)]) n ((0:Int),(([]:List Int):List Int),(([]:List Int):List Int)) (pw λy3_3 q0=>(pw λy3_4 y3_5=>.bB 49 (decide (y3_3<x8)) λx27=>.ifs [49] x27 (.bI 54 (aI (x3.tdiv 168)) λx28=>.bI 56 (aI (x28+y3_3)) λx29=>.bI 59 (aI (x3.tdiv 672)) λx30=>.bI 60 (x30.tmod 4) λx31=>.bI 61 (aI (y2_1*x31)) λx32=>.bI 62 (aI (x29+x32)) λx33=>.bI 63 (x33.tmod 4) λx34=>.bI 64 (aI (1+x34)) λx35=>.to 65 (aD 1 fI ([x35]:List Int))<|.bl (y3_4++([x35]:List Int):List Int) λx36=>.as (x36.length<=68719476736) inferInstance<|.ge 66 0<|.bI 69 (aI (x3.tdiv 2688)) λx39=>.bI 71 (aI (7*y3_3)) λx40=>.bI 72 (aI (x39+x40)) λx41=>.bI 74 (aI (x41+y2_1)) λx42=>.bI 75 (x42.tmod 40) λx43=>.to 76 (aD 1 fI ([x43]:List Int))<|.bl (y3_5++([x43]:List Int):List Int) λx44=>.as (x44.length<=68719476736) inferInstance<|.ge 77 0<|.bI 51 (aI (y3_3+1)) λx47=>.brk ((x47:Int),x36,x44)) (.esc (.ret ((y3_4:List Int),y3_5)))) q0)) (pw λy4_3 y4_4=>.dr [(0,[2]),(1,[2]),(5,[2]),(6,[2]),(10,[2]),(12,[2])] [(11,[]),(13,[])] [2] [4,9,11,13] [0,1,2,3,5,6,7,8,4,10,9,11,12,13] (.gv 81<|.gv 86<|.bl (y2_4++[y4_3]:List (List Int)) λx48=>.as (x48.length<=68719476736) inferInstance<|.ge 82 0<|.bl (y2_5++[y4_4]:List (List Int)) λx51=>.as (x51.length<=68719476736) inferInstance<|.ge 87 0<|.ret ((x48:List (List Int)),(x51:List (List Int)))))) (pw λy5_3 y5_4=>.bI 46 (aI (y2_1+1)) λx54=>.brk ((x54:Int),(y5_3:List (List Int)),(y5_4:List (List Int))))) (.esc (.ret ((y2_4:List (List Int)),(y2_5:List (List Int)))))) q0)) (pw λy6_3 y6_4=>.ret (((⟨x5,x11,y1_2,y6_3,y6_4⟩:eZ):eZ))))
def KX (n:Nat) (a1:Int):Option (eZ):=(aAK n a1).run
theorem aN5 {n a1}:PZ (KX n a1) 4 [int a1] (λr=>.agg (eZ.av r)):=by
 refine wm Tryz.func4 ?_
 intro v2
 refine .mk λx3 e3=>?_
 refine .mk λx4=>?_
 refine .mk λx5=>?_
 refine .mk λx6=>?_
 refine .mk λx7=>?_
 refine .mk λx8=>?_
 refine .mk λx9=>?_
 refine .mk λx10=>?_
 refine .mk λx11=>?_
 intro v12
 refine .mk ?_ ?_
 intro v13
 refine .mk ?_
 rintro ⟨y0_1,y0_3⟩ _
 refine .mk λx14=>?_
 refine .mk ?_ ?_
 refine .mk λx15=>?_
 refine .mk λx16=>?_
 refine .mk λx17=>?_
 refine .mk (bE (bX (y:=aD 1 fI ([x17]:List Int)) (dQ (ps:=[(0,_)]) (rows:=[[int x17]]) rfl Tryz.underlying22 fT (.cons rfl .nil) (by kernel_rfl) rfl rfl rfl) rfl)) ?_
 refine .mk λx18 e18=>?_
 refine .mk λp19=>?_
 refine .mk _ ⟨λ_=>jU (g:=fI) (l:=y0_3) (m:=([x17]:List Int)) .any rfl Tryz.underlying22 fT kY rfl rfl rfl rfl rfl rfl rfl rfl rfl rfl (Eq.symm rfl) (.refl _) (λ_=>rfl) e18 p19,λ_ _ _=>trivial⟩ ?_
 rintro _ _ ⟨v20,-,rfl,rfl⟩
 refine .mk λx21=>?_
 exact .mk
 exact .mk
 intro _ _
 refine .mk ?_ ?_
 intro v22
 intro v23
 refine .mk ?_
 rintro ⟨y2_1,y2_4,y2_5⟩ _
 refine .mk λx24=>?_
 refine .mk ?_ ?_
 refine .mk ?_ ?_
 refine .mk ?_ ?_
 intro v25
 intro v26
 refine .mk ?_
 rintro ⟨y3_3,y3_4,y3_5⟩ _
 refine .mk λx27=>?_
 refine .mk ?_ ?_
 refine .mk λx28=>?_
 refine .mk λx29=>?_
 refine .mk λx30=>?_
 refine .mk λx31=>?_
 refine .mk λx32=>?_
 refine .mk λx33=>?_
 refine .mk λx34=>?_
 refine .mk λx35=>?_
 refine .mk (bE (bX (y:=aD 1 fI ([x35]:List Int)) (dQ (ps:=[(0,_)]) (rows:=[[int x35]]) rfl Tryz.underlying22 fT (.cons rfl .nil) (by kernel_rfl) rfl rfl rfl) rfl)) ?_
 refine .mk λx36 e36=>?_
 refine .mk λp37=>?_
 refine .mk _ ⟨λ_=>jU (g:=fI) (l:=y3_4) (m:=([x35]:List Int)) .any rfl Tryz.underlying22 fT kY rfl rfl rfl rfl rfl rfl rfl rfl rfl rfl (Eq.symm rfl) (.refl _) (λ_=>rfl) e36 p37,λ_ _ _=>trivial⟩ ?_
 rintro _ _ ⟨v38,-,rfl,rfl⟩
 refine .mk λx39=>?_
 refine .mk λx40=>?_
 refine .mk λx41=>?_
 refine .mk λx42=>?_
 refine .mk λx43=>?_
 refine .mk (bE (bX (y:=aD 1 fI ([x43]:List Int)) (dQ (ps:=[(0,_)]) (rows:=[[int x43]]) rfl Tryz.underlying22 fT (.cons rfl .nil) (by kernel_rfl) rfl rfl rfl) rfl)) ?_
 refine .mk λx44 e44=>?_
 refine .mk λp45=>?_
 refine .mk _ ⟨λ_=>jU (g:=fI) (l:=y3_5) (m:=([x43]:List Int)) .any rfl Tryz.underlying22 fT kY rfl rfl rfl rfl rfl rfl rfl rfl rfl rfl (Eq.symm rfl) (.refl _) (λ_=>rfl) e44 p45,λ_ _ _=>trivial⟩ ?_
 rintro _ _ ⟨v46,-,rfl,rfl⟩
 refine .mk λx47=>?_
 exact .mk
 exact .mk
 rintro ⟨y4_3,y4_4⟩ u30
 refine .mk ?_
 refine .mk _ (λH hH _=>dQ (ps:=[(0,_)]) (rows:=[[.sl 7 (u30 7) 0 y4_3.length]]) rfl Tryz.underlying23 rM (.cons rfl .nil) (by kernel_rfl) rfl rfl rfl) ?_
 refine .mk _ (λH hH _=>dQ (ps:=[(0,_)]) (rows:=[[.sl 8 (u30 8) 0 y4_4.length]]) rfl Tryz.underlying23 rM (.cons rfl .nil) (by kernel_rfl) rfl rfl rfl) ?_
 refine .mk λx48 e48=>?_
 refine .mk λp49=>?_
 refine .mk _ ⟨λ_=>bQ.fO 7 rfl (jU (g:=(fL 1 fI)) (l:=y2_4) (m:=[y4_3]) .any rfl Tryz.underlying23 rM HV rfl rfl rfl rfl rfl rfl rfl rfl rfl rfl (Eq.symm rfl) (fD.list (.cons (.cons (dH rfl rfl rfl rfl rfl (Eq.symm rfl)) .nil) .nil)) (λ_=>rfl) e48 p49),by rintro _ _ ⟨v50,-,rfl,rfl⟩;exact ⟨rfl,trivial⟩⟩ ?_
 rintro _ _ ⟨v50,-,rfl,rfl⟩
 refine .mk λx51 e51=>?_
 refine .mk λp52=>?_
 refine .mk _ ⟨λ_=>bQ.fO 8 rfl (jU (g:=(fL 1 fI)) (l:=y2_5) (m:=[y4_4]) .any rfl Tryz.underlying23 rM HV rfl rfl rfl rfl rfl rfl rfl rfl rfl rfl (Eq.symm rfl) (fD.list (.cons (.cons (dH rfl rfl rfl rfl rfl (Eq.symm rfl)) .nil) .nil)) (λ_=>rfl) e51 p52),by rintro _ _ ⟨v53,-,rfl,rfl⟩;exact ⟨rfl,trivial⟩⟩ ?_
 rintro _ _ ⟨v53,-,rfl,rfl⟩
 exact .mk
 intro _ _
 refine .mk λx54=>?_
 exact .mk
 exact .mk
 intro _ _
 exact .mk (bK.agg (.cons (.refl _) (.cons (.refl _) (.cons (dH rfl rfl rfl rfl rfl (Eq.symm rfl)) (.cons (dH rfl rfl rfl rfl rfl (Eq.symm rfl)) (.cons (dH rfl rfl rfl rfl rfl (Eq.symm rfl)) .nil))))))
def aLS (n:Nat) (a1:List Int) (a2:Int) (a3:Int) (a4:Int):WB (Bool) :=
 .ln 11 fI a1<|.bB 13 (decide ((a1.length:Int)≠a2)) λx5=>.ifs [13] x5 (.ret ((false:Bool))) (.dF 2 [8] [] [] (λ_ (a:Unit)=>[]) (λ_ _=>[]) (.lp [0,1,2,3,8] [] [] (λ_ (a:Int)=>[(9,int a)]) (λ_ _=>[]) n 0 (λy0_1=>.bB 16 (decide (y0_1<a2)) λx6=>.ifs [16] x6 (.jn 2 [0,1,2,3,8,9] [] [] (λ_ (a:Bool)=>[(32,aF a)]) (λ_ _=>[]) (.ix 21 fI a1 y0_1 λx7=>.bB 24 (decide (x7<a3)) λx8=>.ifs [24] x8 (.ret true) (.ix 28 fI a1 y0_1 λx9=>.bB 31 (decide (x9>a4)) λx10=>.ret x10)) (λy1_1=>.ifs [32] y1_1 (.esc (.esc (.ret ((false:Bool))))) (.bI 18 (aI (y0_1+1)) λx11=>.brk x11))) (.esc (.brk ())))) (λ_=>.ret ((true:Bool))))
def zS (n:Nat) (a1:List Int) (a2:Int) (a3:Int) (a4:Int):Option (Bool):=(aLS n a1 a2 a3 a4).run
theorem GH {n a1 a2 a3 a4}:PZ (zS n a1 a2 a3 a4) 35 [aD 1 fI a1,int a2,int a3,int a4] aF:=wq Tryz.func35
def aOG (n:Nat) (a1:eZ):WB (Bool) :=
 .al 1<|.ln 7 fI a1.cB<|.jn 0 [1,2,3] [1] [] (λ_ (a:Bool)=>[(56,aF a)]) (λ_ _=>[]) (.bB 10 (decide (a1.eH<1)) λx3=>.ifs [10] x3 (.ret true) (.bB 14 (decide (a1.eH>4)) λx4=>.ifs [14] x4 (.ret true) (.bB 19 (decide (a1.fA<1)) λx5=>.ifs [19] x5 (.ret true) (.bB 24 (decide (a1.fA>12)) λx6=>.ifs [24] x6 (.ret true) (.bB 28 (decide ((a1.cB.length:Int)<1)) λx7=>.ifs [28] x7 (.ret true) (.bB 32 (decide ((a1.cB.length:Int)>5)) λx8=>.ifs [32] x8 (.ret true) (.cl 38 (zS n a1.cB (a1.cB.length:Int) 0 1073741824) aBG GH λx9=>.bB 39 (!x9) λx10=>.ifs [39] x10 (.ret true) (.ln 44 (fL 1 fI) a1.Methods<|.bB 47 (decide ((a1.Methods.length:Int)≠a1.eH)) λx11=>.ifs [47] x11 (.ret true) (.ln 52 (fL 1 fI) a1.dN<|.bB 55 (decide ((a1.dN.length:Int)≠a1.eH)) λx12=>.ret x12))))))))) (λy0_1=>.ifs [56] y0_1 (.ret ((false:Bool))) (.dF 2 [2] [] [] (λ_ (a:Unit)=>[]) (λ_ _=>[]) (.lp [1,2,3] [1] [] (λ_ (a:Int)=>[(4,int a)]) (λ_ _=>[]) n 0 (λy1_1=>.bB 60 (decide (y1_1<a1.eH)) λx13=>.ifs [60] x13 (.jn 2 [1,2,3,4] [1] [] (λ_ (a:Bool)=>[(80,aF a)]) (λ_ _=>[]) (.ix 66 (fL 1 fI) a1.Methods y1_1 λx14=>.cl 69 (zS n x14 (a1.cB.length:Int) 1 4) aBG GH λx15=>.bB 70 (!x15) λx16=>.ifs [70] x16 (.ret true) (.ix 75 (fL 1 fI) a1.dN y1_1 λx17=>.cl 78 (zS n x17 (a1.cB.length:Int) 0 1073741824) aBG GH λx18=>.bB 79 (!x18) λx19=>.ret x19)) (λy2_1=>.ifs [80] y2_1 (.esc (.esc (.ret ((false:Bool))))) (.bI 62 (aI (y1_1+1)) λx20=>.brk x20))) (.esc (.brk ())))) (λ_=>.ret ((true:Bool)))))
def TE (n:Nat) (a1:eZ):Option (Bool):=(aOG n a1).run
theorem aDK {n a1}:PZ (TE n a1) 22 [.agg (eZ.av a1)] aF:=wq Tryz.func22
def xD (a1:eZ):Nat->Int->(List Int)->Option ((List Int))
  | 0,_,_=>none
  | n+1,y1_1,y1_2 =>
    bnd (decide (y1_1<(a1.cB.length:Int))) λx29 =>
    cond x29 ((ix y1_2 y1_1).bind λx30 =>
    bnd (y1_2.set (Int.toNat y1_1) ((-1):Int)) λx31 =>
    bnd (aI (y1_1+1)) λx32 =>
    xD a1 n (x32:Int) (x31:List Int)) (some (y1_2:List Int))
def yQ (a1:eZ):Nat->Int->(List aP)->Option ((List aP))
  | 0,_,_=>none
  | n+1,y0_1,y0_3 =>
    bnd (decide (y0_1<a1.eH)) λx9 =>
    cond x9 ((show Option ((List aP)) from
    bnd (aI ((a1.cB.length:Int)*2)) λx11 =>
    fG ((0:Int)<=x11/\(x11:Int)<=1048576)<|
    bnd (List.replicate (Int.toNat x11) ((⟨[],(⟨0,0,0⟩:gJ)⟩:aM):aM)) λx13 =>
    fG ((0:Int)<=17/\(17:Int)<=1048576)<|
    bnd (List.replicate (Int.toNat 17) (0:Int)) λx16 =>
    fG ((0:Int)<=(a1.cB.length:Int)/\((a1.cB.length:Int):Int)<=1048576)<|
    bnd (List.replicate (Int.toNat (a1.cB.length:Int)) ((⟨0,0,0,0,0,0,0,0,0,0,0⟩:bM):bM)) λx19 =>
    fG ((0:Int)<=(a1.cB.length:Int)/\((a1.cB.length:Int):Int)<=1048576)<|
    bnd (List.replicate (Int.toNat (a1.cB.length:Int)) (0:Int)) λx22 =>
    fG ((0:Int)<=(a1.cB.length:Int)/\((a1.cB.length:Int):Int)<=1048576)<|
    bnd (List.replicate (Int.toNat (a1.cB.length:Int)) (0:Int)) λx25 =>
    (show Option ((List Int)) from
    xD a1 n (0:Int) (x22:List Int)).bind <| λy2_1 =>
    bnd (y0_3++[(⟨1,false,x13,x16,x19,y2_1,x25,[]⟩:aP)]) λx33 =>
    fG (x33.length<=68719476736)<|
    some (x33:List aP)).bind <| λy3_2 =>
    bnd (aI (y0_1+1)) λx36 =>
    yQ a1 n (x36:Int) (y3_2:List aP)) (some (y0_3:List aP))
def IK (n:Nat) (a1:eZ):Option (aA×Int) :=
(TE n a1).bind λx4 =>
bnd (!x4) λx5 =>
cond x5 (some (((⟨(⟨0,0,[],[],[]⟩:eZ),[],[],[],[],0⟩:aA):aA),(1:Int))) ((show Option ((List aP)) from
yQ a1 n (0:Int) (([]:List aP):List aP)).bind <| λy4_2 =>
some (((⟨a1,y4_2,[],[],[],0⟩:aA):aA),(0:Int)))
theorem aOJ {n:Nat} {a1:eZ} {r:aA×Int} (h0:IK n a1=some r):PP Tryz.prog 12 [.agg (eZ.av a1)] (λy=>y=.aU [.agg (aA.av r.1),int r.2]):=by
  unfold IK at h0
  refine uD (R0:=λy H=>Cv (jZ H) y (.aU [.agg (aA.av r.1),int r.2])) ?_ (λy H hc=>⟨_,rfl,.aU (N6 ((λ(a:aA)=>PV.agg (aA.dA a)) (r.1)) (qX (r.2))),hc⟩)
  refine gN (c:=_) Tryz.func12 rfl rfl ?_;intro Q hret hnorm
  refine tc aN 2 (.mk ?_)
  refine sB 1 λv2=>?_
  refine sA 2 z32 λv3=>?_
  refine tr aN 6 (.mk ?_)
  obtain ⟨x4,e4,h0⟩:=dJ h0
  refine sC XX (aDK _ e4) ?_
  refine nb aN h0 λx5 h0=>?_
  refine tr aN 1 (.mk ?_)
  cases x5
  replace h0:=cf h0
  refine tc aN 5 (.mk ?_)
  refine sY (pY (cs:=[int a1.eH,int a1.fA,aD 1 fI a1.cB,aD 1 (fL 1 fI) a1.Methods,aD 1 (fL 1 fI) a1.dN,.sc (.slice none 0 0),.sc (.slice none 0 0),.sc (.slice none 0 0),.sc (.slice none 0 0),int 0]) (ps:=[(0,_)]) rfl aWB z32 rfl (.cons rfl .nil) (by kernel_rfl)) ?_
  refine sA 3 z32 λv6=>?_
  refine sS ⟨32,10,true,true,v6,[[int a1.eH,int a1.fA,aD 1 fI a1.cB,aD 1 (fL 1 fI) a1.Methods,aD 1 (fL 1 fI) a1.dN,.sc (.slice none 0 0),.sc (.slice none 0 0),.sc (.slice none 0 0),.sc (.slice none 0 0),int 0]]⟩ aR0 ?_
  refine tr aN 5 (.mk ?_)
  refine sY (oU rfl Tryz.underlying22 rfl (F9 _)) ?_
  refine tr aN 7 (.mk ?_)
  refine jn h0 [2,3,4] [2] (λ(a:(List aP)) (k:Nat)=>[]) (λa k=>[(3,⟨32,10,true,true,v6,[[int a1.eH,int a1.fA,aD 1 fI a1.cB,aD 1 (fL 1 fI) a1.Methods,aD 1 (fL 1 fI) a1.dN,.sl 11 k 0 a.length,.sc (.slice none 0 0),.sc (.slice none 0 0),.sc (.slice none 0 0),int 0]]⟩),(11,⟨56,8,true,true,k,a.map aP.av⟩)]) ⟨λj7 h1=>?_,?_⟩
  refine tc aN 1 (.mk ?_)
  refine VT 3 0 5 11 56 8 (rows:=λv8=>[[int a1.eH,int a1.fA,aD 1 fI a1.cB,aD 1 (fL 1 fI) a1.Methods,aD 1 (fL 1 fI) a1.dN,.sl 11 v8 0 0,.sc (.slice none 0 0),.sc (.slice none 0 0),.sc (.slice none 0 0),int 0]]) rfl rfl rfl rfl (λ_=>rfl) ?_;intro v8
  refine lp (λn (a:Int×(List aP))=>yQ a1 n a.1 a.2) ((0:Int),(([]:List aP):List aP)) v8 h1 [1,2,3,4,5] [1,2] (λ(a:Int×(List aP)) (k:Nat)=>[(6,int a.1)]) (λa k=>[(3,⟨32,10,true,true,v6,[[int a1.eH,int a1.fA,aD 1 fI a1.cB,aD 1 (fL 1 fI) a1.Methods,aD 1 (fL 1 fI) a1.dN,.sl 11 k 0 a.2.length,.sc (.slice none 0 0),.sc (.slice none 0 0),.sc (.slice none 0 0),int 0]]⟩),(11,⟨56,8,true,true,k,a.2.map aP.av⟩)]) (λ_=>rfl) ⟨eD,?_⟩
  rintro n ⟨y0_1,y0_3⟩ w0_2 hm h1
  replace h1:yQ a1 (n+1) y0_1 y0_3=some _:=h1
  rw [yQ] at h1
  refine tc aN 6 (.mk ?_)
  refine nb aN h1 λx9 h1=>?_
  refine tr aN 1 (.mk ?_)
  cases x9
  replace h1:=cf h1
  refine tc aN 2 (.mk ?_)
  exact lf h1 w0_2 eD
  replace h1:=ct h1
  refine tc aN 3 (.mk ?_)
  refine jn h1 [1,2,3,4,5,6] [1,2] (λ(a:(List aP)) (k:Nat)=>[]) (λa k=>[(3,⟨32,10,true,true,v6,[[int a1.eH,int a1.fA,aD 1 fI a1.cB,aD 1 (fL 1 fI) a1.Methods,aD 1 (fL 1 fI) a1.dN,.sl 11 k 0 a.length,.sc (.slice none 0 0),.sc (.slice none 0 0),.sc (.slice none 0 0),int 0]]⟩),(11,⟨56,8,true,true,k,a.map aP.av⟩)]) ⟨λj10 h2=>?_,?_⟩
  refine tc aN 2 (.mk ?_)
  refine OH [0,1,3,0,0,16,0,64,0,256,1023,0,4095] (λi k=>bif Nat.beq i 12 then (Nat.beq k 4 || Nat.beq k 5 || Nat.beq k 6 || Nat.beq k 7 || Nat.beq k 8 || Nat.beq k 9) else false) (λi=>bif Nat.beq i 2 then (some 4) else bif Nat.beq i 3 then (some 5) else bif Nat.beq i 5 then (some 6) else bif Nat.beq i 7 then (some 7) else bif Nat.beq i 9 then (some 8) else bif Nat.beq i 11 then (some 9) else bif Nat.beq i 12 then (some 9) else none) mixed (by kernel_rfl) ?_;intro C K hK
  refine pV rfl (λH hH=>kV rfl rfl) ?_
  obtain ⟨x11,e11,h2⟩:=pM h2
  refine pV rfl (λH hH=>aWY rfl rfl rfl e11) ?_
  obtain ⟨p12,h2⟩:=aQH h2
  obtain ⟨x13,e13,h2⟩:=pM h2
  have lx13:x13.length=(Int.toNat x11):=by rw [<- e13];exact List.length_replicate
  refine o7 rfl rfl (λH hH=>yP (uL 4 (g:=aM.av) (z0:=((⟨[],(⟨0,0,0⟩:gJ)⟩:aM):aM)) (.one _) rfl Tryz.underlying53 aUQ aU3 rfl rfl rfl p12 (.cons (.nil _) (.cons (.sc _) (.cons (.sc _) (.cons (.sc _) .nil)))) e13)) ?_;generalize C+2=v14
  obtain ⟨p15,h2⟩:=aQH h2
  obtain ⟨x16,e16,h2⟩:=pM h2
  have lx16:x16.length=(Int.toNat 17):=by rw [<- e16];exact List.length_replicate
  refine o7 rfl rfl (λH hH=>yP (uL 5 (g:=fI) (z0:=(0:Int)) (.one _) rfl Tryz.underlying22 fT kY rfl rfl rfl p15 (.cons (.sc _) .nil) e16)) ?_;generalize C+3=v17
  refine pV rfl (λH hH=>kV rfl rfl) ?_
  obtain ⟨p18,h2⟩:=aQH h2
  obtain ⟨x19,e19,h2⟩:=pM h2
  have lx19:x19.length=(Int.toNat (a1.cB.length:Int)):=by rw [<- e19];exact List.length_replicate
  refine o7 rfl rfl (λH hH=>yP (uL 6 (g:=bM.av) (z0:=((⟨0,0,0,0,0,0,0,0,0,0,0⟩:bM):bM)) (.one _) rfl Tryz.underlying54 aWI aWA rfl rfl rfl p18 (.cons (.sc _) (.cons (.sc _) (.cons (.sc _) (.cons (.sc _) (.cons (.sc _) (.cons (.sc _) (.cons (.sc _) (.cons (.sc _) (.cons (.sc _) (.cons (.sc _) (.cons (.sc _) .nil))))))))))) e19)) ?_;generalize C+5=v20
  refine pV rfl (λH hH=>kV rfl rfl) ?_
  obtain ⟨p21,h2⟩:=aQH h2
  obtain ⟨x22,e22,h2⟩:=pM h2
  have lx22:x22.length=(Int.toNat (a1.cB.length:Int)):=by rw [<- e22];exact List.length_replicate
  refine o7 rfl rfl (λH hH=>yP (uL 7 (g:=fI) (z0:=(0:Int)) (.one _) rfl Tryz.underlying22 fT kY rfl rfl rfl p21 (.cons (.sc _) .nil) e22)) ?_;generalize C+7=v23
  refine pV rfl (λH hH=>kV rfl rfl) ?_
  obtain ⟨p24,h2⟩:=aQH h2
  obtain ⟨x25,e25,h2⟩:=pM h2
  have lx25:x25.length=(Int.toNat (a1.cB.length:Int)):=by rw [<- e25];exact List.length_replicate
  refine o7 rfl rfl (λH hH=>yP (uL 8 (g:=fI) (z0:=(0:Int)) (.one _) rfl Tryz.underlying22 fT kY rfl rfl rfl p24 (.cons (.sc _) .nil) e25)) ?_;generalize C+9=v26
  refine pV rfl (λH hH=>pY (cs:=[int 1,aF false,.sl 4 v14 0 (Int.toNat x11),.sl 5 v17 0 (Int.toNat 17),.sl 6 v20 0 (Int.toNat (a1.cB.length:Int)),.sl 7 v23 0 (Int.toNat (a1.cB.length:Int)),.sl 8 v26 0 (Int.toNat (a1.cB.length:Int)),.sc (.slice none 0 0)]) (ps:=[(0,_),(2,_),(3,_),(4,_),(5,_),(6,_)]) rfl aY5 z56 rfl (.cons rfl (.cons rfl (.cons rfl (.cons rfl (.cons rfl (.cons rfl .nil)))))) (by kernel_rfl)) ?_
  refine o7 rfl rfl (λH hH=>VS 9 rfl z56 rfl) ?_;generalize C+11=v27
  refine aJS rfl rfl rfl (λH hH=>eO (ob':=(⟨56,8,true,true,v27,[[int 1,aF false,.sl 4 v14 0 (Int.toNat x11),.sl 5 v17 0 (Int.toNat 17),.sl 6 v20 0 (Int.toNat (a1.cB.length:Int)),.sl 7 v23 0 (Int.toNat (a1.cB.length:Int)),.sl 8 v26 0 (Int.toNat (a1.cB.length:Int)),.sc (.slice none 0 0)]]⟩:bC)) (dZ rfl aRC rfl rfl ((hH _ rfl).trans rfl) rfl rfl rfl rfl rfl rfl) rfl) ?_
  refine KV (hK _ ?_)
  refine tc aN 5 (.mk ?_)
  refine jn h2 [1,2,3,4,5,6,7] [1,2,3,4,5,6,8,11] (λ(a:(List Int)) (k:Unit)=>[]) (λa k=>[(7,⟨3,1,true,true,v23,a.map fI⟩),(9,⟨56,8,true,true,v27,[[int 1,aF false,.sl 4 v14 0 (Int.toNat x11),.sl 5 v17 0 (Int.toNat 17),.sl 6 v20 0 (Int.toNat (a1.cB.length:Int)),.sl 7 v23 0 a.length,.sl 8 v26 0 (Int.toNat (a1.cB.length:Int)),.sc (.slice none 0 0)]]⟩)]) ⟨λj28 h3=>?_,?_⟩
  refine tc aN 1 (.mk ?_)
  refine lp (λn (a:Int×(List Int))=>xD a1 n a.1 a.2) ((0:Int),(x22:List Int)) () h3 [1,2,3,4,5,6,7] [1,2,3,4,5,6,8,11] (λ(a:Int×(List Int)) (k:Unit)=>[(8,int a.1)]) (λa k=>[(7,⟨3,1,true,true,v23,a.2.map fI⟩),(9,⟨56,8,true,true,v27,[[int 1,aF false,.sl 4 v14 0 (Int.toNat x11),.sl 5 v17 0 (Int.toNat 17),.sl 6 v20 0 (Int.toNat (a1.cB.length:Int)),.sl 7 v23 0 a.2.length,.sl 8 v26 0 (Int.toNat (a1.cB.length:Int)),.sc (.slice none 0 0)]]⟩)]) (λ_=>rfl) ⟨mQ ⟨⟨_,rfl,(.refl _)⟩,⟨_,rfl,(.refl _)⟩,⟨_,rfl,(.refl _)⟩,⟨_,rfl,(.refl _)⟩,⟨_,rfl,(.refl _)⟩,⟨_,rfl,(.refl _)⟩,⟨_,rfl,(.refl _)⟩,⟨_,rfl,(.refl _)⟩,trivial⟩ ⟨⟨_,rfl,(.refl _)⟩,⟨_,rfl,⟨rfl,(.cons (.cons (.refl _) (.cons (.refl _) (.cons (.refl _) (.cons (.refl _) (.cons (.refl _) (.cons (nC (Eq.symm lx22)) (.cons (.refl _) (.cons (.refl _) .nil)))))))) .nil)⟩⟩,⟨_,rfl,(.refl _)⟩,⟨_,rfl,(.refl _)⟩,⟨_,rfl,(.refl _)⟩,⟨_,rfl,(.refl _)⟩,⟨_,rfl,(.refl _)⟩,⟨_,rfl,(.refl _)⟩,⟨_,rfl,(.refl _)⟩,⟨_,rfl,(.refl _)⟩,trivial⟩,?_⟩
  rintro n ⟨y1_1,y1_2⟩ _ hm h3
  replace h3:xD a1 (n+1) y1_1 y1_2=some _:=h3
  rw [xD] at h3
  refine tc aN 5 (.mk ?_)
  refine nb aN h3 λx29 h3=>?_
  refine tr aN 1 (.mk ?_)
  cases x29
  replace h3:=cf h3
  refine tc aN 2 (.mk ?_)
  exact lf h3 () eD
  replace h3:=ct h3
  refine tc aN 8 (.mk ?_)
  obtain ⟨x30,e30,h3⟩:=dJ h3
  refine sY (eB rfl Tryz.underlying22 fC rfl rfl rfl rfl rfl (Eq.symm rfl) (List.length_map _) e30) ?_
  obtain ⟨x31,e31,h3⟩:=pM h3
  have fx31:=fP e30 e31;have lx31:=fH e31 (rfl:y1_2.length=y1_2.length)
  refine O5 rfl rfl (eO (ob':=(⟨3,1,true,true,v23,x31.map fI⟩:bC)) (dZ rfl fC rfl rfl rfl rfl rfl (cZ e30) rfl rfl rfl) (eU (iI e31))) ?_
  refine tr aN 4 (.mk ?_)
  refine ni aN h3 λx32 h3=>?_
  refine tr aN 2 (.mk ?_)
  exact bk (x32,x31) () h3 (mQ ⟨⟨_,rfl,(.refl _)⟩,⟨_,rfl,(.refl _)⟩,⟨_,rfl,(.refl _)⟩,⟨_,rfl,(.refl _)⟩,⟨_,rfl,(.refl _)⟩,⟨_,rfl,(.refl _)⟩,⟨_,rfl,(.refl _)⟩,⟨_,rfl,(.refl _)⟩,trivial⟩ ⟨⟨_,rfl,(.refl _)⟩,⟨_,rfl,⟨rfl,(.cons (.cons (.refl _) (.cons (.refl _) (.cons (.refl _) (.cons (.refl _) (.cons (.refl _) (.cons (nC (Eq.symm lx31)) (.cons (.refl _) (.cons (.refl _) .nil)))))))) .nil)⟩⟩,⟨_,rfl,(.refl _)⟩,⟨_,rfl,(.refl _)⟩,⟨_,rfl,(.refl _)⟩,⟨_,rfl,(.refl _)⟩,⟨_,rfl,(.refl _)⟩,⟨_,rfl,(.refl _)⟩,⟨_,rfl,(.refl _)⟩,⟨_,rfl,(.refl _)⟩,trivial⟩)
  rintro y2_1 _ h2
  refine tc aN 4 (.mk ?_)
  refine sY (dQ (ps:=[(0,_)]) (rows:=[[int 1,aF false,.sl 4 v14 0 (Int.toNat x11),.sl 5 v17 0 (Int.toNat 17),.sl 6 v20 0 (Int.toNat (a1.cB.length:Int)),.sl 7 v23 0 y2_1.length,.sl 8 v26 0 (Int.toNat (a1.cB.length:Int)),.sc (.slice none 0 0)]]) rfl Tryz.underlying27 aTU (.cons rfl .nil) (by kernel_rfl) rfl rfl rfl) ?_
  obtain ⟨x33,e33,h2⟩:=pM h2
  obtain ⟨p34,h2⟩:=aQH h2
  refine gV rfl rfl rfl (bQ.fO 4 rfl (bQ.fO 5 rfl (bQ.fO 6 rfl (bQ.fO 7 rfl (bQ.fO 8 rfl (jU (g:=aP.av) (l:=y0_3) (m:=[(⟨1,false,x13,x16,x19,y2_1,x25,[]⟩:aP)]) .any rfl Tryz.underlying27 aTU aU4 rfl rfl rfl rfl rfl rfl rfl rfl rfl rfl (Eq.symm rfl) (fD.list (ys:=[aP.av (⟨1,false,x13,x16,x19,y2_1,x25,[]⟩:aP)]) (.cons (lW (.cons (.refl _) (.cons (.refl _) (.cons (dH rfl rfl rfl rfl rfl (Eq.symm lx13)) (.cons (dH rfl rfl rfl rfl rfl (Eq.symm lx16)) (.cons (dH rfl rfl rfl rfl rfl (Eq.symm lx19)) (.cons (dH rfl rfl rfl rfl rfl (Eq.symm rfl)) (.cons (dH rfl rfl rfl rfl rfl (Eq.symm lx25)) (.cons (.nil _) .nil)))))))) (aP.bW _)) .nil)) aP.one e33 p34)))))) ?_;rintro _ _ ⟨v35,-,rfl,rfl⟩
  refine tr aN 1 (.mk ?_)
  refine sS ⟨32,10,true,true,v6,[[int a1.eH,int a1.fA,aD 1 fI a1.cB,aD 1 (fL 1 fI) a1.Methods,aD 1 (fL 1 fI) a1.dN,.sl 11 v35 0 x33.length,.sc (.slice none 0 0),.sc (.slice none 0 0),.sc (.slice none 0 0),int 0]]⟩ a3F ?_
  refine tr aN 2 (.mk ?_)
  exact lf h2 v35 eD
  rintro y3_2 w3_1 h1
  refine tc aN 2 (.mk ?_)
  refine ni aN h1 λx36 h1=>?_
  refine tr aN 2 (.mk ?_)
  exact bk (x36,y3_2) w3_1 h1 eD
  rintro y4_2 w4_1 h0
  refine tc aN 3 (.mk ?_)
  refine sS ⟨32,10,true,true,v3,[[int a1.eH,int a1.fA,aD 1 fI a1.cB,aD 1 (fL 1 fI) a1.Methods,aD 1 (fL 1 fI) a1.dN,.sl 11 w4_1 0 y4_2.length,.sc (.slice none 0 0),.sc (.slice none 0 0),.sc (.slice none 0 0),int 0]]⟩ aR0 ?_
  refine tr aN 2 (.mk ?_)
  obtain rfl:=eG h0
  refine wR hret (rC aR0 (rT .nil)) ?_
  exact bK.aU (.cons (bK.agg (.cons (.refl _) (.cons (.refl _) (.cons (.refl _) (.cons (.refl _) (.cons (.refl _) (.cons (dH rfl rfl rfl rfl rfl (Eq.symm rfl)) (.cons (.nil _) (.cons (.nil _) (.cons (.nil _) (.cons (.refl _) .nil))))))))))) (.cons (.refl _) .nil))
  replace h0:=ct h0
  refine tc aN 3 (.mk ?_)
  refine sY (pY (cs:=[int 0,int 0,.sc (.slice none 0 0),.sc (.slice none 0 0),.sc (.slice none 0 0),.sc (.slice none 0 0),.sc (.slice none 0 0),.sc (.slice none 0 0),.sc (.slice none 0 0),int 0]) (ps:=[]) rfl aWB z32 rfl .nil (by kernel_rfl)) ?_
  refine sS ⟨32,10,true,true,v3,[[int 0,int 0,.sc (.slice none 0 0),.sc (.slice none 0 0),.sc (.slice none 0 0),.sc (.slice none 0 0),.sc (.slice none 0 0),.sc (.slice none 0 0),.sc (.slice none 0 0),int 0]]⟩ aR0 ?_
  refine tr aN 2 (.mk ?_)
  obtain rfl:=eG h0
  refine wR hret (rC aR0 (rT .nil)) ?_
  exact bK.aU (.cons (bK.agg (.cons (.refl _) (.cons (.refl _) (.cons (.nil _) (.cons (.nil _) (.cons (.nil _) (.cons (.nil _) (.cons (.nil _) (.cons (.nil _) (.cons (.nil _) (.cons (.refl _) .nil))))))))))) (.cons (.refl _) .nil))
def aBO (a1:eZ) (a2:Int):WB (aS) :=
 .al 1<|.al 2<|.cl 14 (rQ a2 1099511627776) aMO AY λx5=>.dr [(2,[1]),(3,[1]),(7,[1]),(8,[1])] [] [1] [] [0,1,2,3,4,5,6,7,8,9,10,11,12,13,14,15,16,17] (.bI 16 (aI (x5.tdiv 32)) λx6=>.as (a1.eH≠0) inferInstance<|.bl (x6.tmod a1.eH:Int) λx8=>.gv 19<|.bI 21 (aI (x5.tdiv 128)) λx9=>.ln 24 fI a1.cB<|.as ((a1.cB.length:Int)≠0) inferInstance<|.bl (x9.tmod (a1.cB.length:Int):Int) λx11=>.gv 25<|.bI 27 (aI (x5.tdiv 1024)) λx12=>.bI 28 (x12.tmod 8) λx13=>.bI 29 (aI (x13.tdiv 7)) λx14=>.bI 31 (aI (x5.tdiv 8192)) λx15=>.bI 32 (x15.tmod 24) λx16=>.bI 33 (aI (1+x16)) λx17=>.bI 35 (aI (x5.tdiv 196608)) λx18=>.bI 36 (x18.tmod 900) λx19=>.bI 38 (aI (x5.tdiv 7000000)) λx20=>.bI 39 (x20.tmod 12) λx21=>.bI 41 (x5.tmod 32) λx22=>.bB 44 (decide (x22<8)) λx23=>.ifs [44] x23 (.ret (((⟨1,x8,x11,x14,0,x17,x19,0,[]⟩:aS):aS))) (.bB 53 (decide (x22<11)) λx24=>.ifs [53] x24 (.bI 56 (aI (x17.tdiv 3)) λx25=>.bI 57 (aI (1+x25)) λx26=>.ret (((⟨2,0,0,0,0,x26,x19,x21,[]⟩:aS):aS))) (.bB 62 (decide (x22=11)) λx27=>.ifs [62] x27 (.bI 65 (aI (x17.tdiv 6)) λx28=>.bI 66 (aI (1+x28)) λx29=>.ret (((⟨3,0,0,0,0,x29,0,x21,[]⟩:aS):aS))) (.bB 70 (decide (x22<17)) λx30=>.ifs [70] x30 (.bI 75 (aI (x17.tdiv 3)) λx31=>.bI 76 (aI (1+x31)) λx32=>.ret (((⟨4,x8,x11,x14,0,x32,x19,0,[]⟩:aS):aS))) (.bB 81 (decide (x22<19)) λx33=>.ifs [81] x33 (.bI 84 (aI (x17.tdiv 8)) λx34=>.bI 85 (aI (1+x34)) λx35=>.ret (((⟨5,0,0,0,0,x35,x19,x21,[]⟩:aS):aS))) (.bB 90 (decide (x22=19)) λx36=>.ifs [90] x36 (.bI 95 (aI (x17.tdiv 8)) λx37=>.bI 96 (aI (1+x37)) λx38=>.ret (((⟨6,x8,x11,x14,0,x38,0,0,[]⟩:aS):aS))) (.bB 100 (decide (x22=20)) λx39=>.ifs [100] x39 (.bI 105 (aI (x17-1)) λx40=>.ret (((⟨7,x8,x11,x14,0,x40,0,0,[]⟩:aS):aS))) (.bB 109 (decide (x22=21)) λx41=>.ifs [109] x41 (.bI 114 (aI (1-x14)) λx42=>.bI 116 (aI (x17.tdiv 3)) λx43=>.bI 117 (aI (1+x43)) λx44=>.ret (((⟨8,x8,x11,x14,x42,x44,0,0,[]⟩:aS):aS))) (.bB 121 (decide (x22=22)) λx45=>.ifs [121] x45 (.bI 125 (x19.tmod 60) λx46=>.ret (((⟨9,x8,x11,0,0,0,x46,0,[]⟩:aS):aS))) (.bB 129 (decide (x22=23)) λx47=>.ifs [129] x47 (.bI 133 (x19.tmod 60) λx48=>.ret (((⟨10,x8,x11,0,0,0,x48,0,[]⟩:aS):aS))) (.bB 137 (decide (x22=24)) λx49=>.ifs [137] x49 (.to 139 (aD 1 fI ([x21]:List Int))<|.bI 142 (aI (x21+1)) λx50=>.bI 143 (x50.tmod 12) λx51=>.to 144 (aD 1 fI ([x21,x51]:List Int))<|.bI 146 (aI (x21+1)) λx52=>.bI 148 (aI (x21+2)) λx53=>.to 149 (aD 1 fI ([0,x52,x53]:List Int))<|.gv 150<|.bI 152 (x17.tmod 3) λx54=>.bo (ix ([([x21]:List Int),([x21,x51]:List Int),([0,x52,x53]:List Int)]:List (List Int)) x54) λx55=>.gv 153<|.bI 155 (x19.tmod 3) λx56=>.ret (((⟨11,0,0,0,x56,0,x19,0,x55⟩:aS):aS))) (.bB 160 (decide (x22<27)) λx57=>.ifs [160] x57 (.dr [(6,[1]),(7,[1]),(11,[1]),(12,[1])] [(19,[])] [1] [19] [0,1,2,3,4,5,6,7,8,9,10,11,12,13,14,15,16,17,18,19] (.bI 165 (aI (x8+1)) λx58=>.bI 169 (aI (a1.eH-1)) λx59=>.as (x59≠0) inferInstance<|.bl (x19.tmod x59:Int) λx61=>.gv 170<|.bI 171 (aI (x58+x61)) λx62=>.as (a1.eH≠0) inferInstance<|.bl (x62.tmod a1.eH:Int) λx64=>.gv 174<|.bI 176 (aI (x17.tdiv 3)) λx65=>.bI 177 (aI (1+x65)) λx66=>.ret (((⟨12,x8,x11,x14,x64,x66,x19,0,[]⟩:aS):aS)))) (.bB 182 (decide (x22<29)) λx67=>.ifs [182] x67 (.bI 186 (aI (x17.tdiv 4)) λx68=>.bI 187 (aI (1+x68)) λx69=>.ret (((⟨13,0,0,x14,0,x69,0,x21,[]⟩:aS):aS))) (.bB 191 (decide (x22=29)) λx70=>.ifs [191] x70 (.ret (((⟨14,x8,0,0,0,0,0,0,[]⟩:aS):aS))) (.bB 196 (decide (x22=30)) λx71=>.ifs [196] x71 (.ret (((⟨15,x8,0,0,0,0,0,0,[]⟩:aS):aS))) (.ret (((⟨16,x8,0,0,0,0,0,0,[]⟩:aS):aS))))))))))))))))))
def L3 (a1:eZ) (a2:Int):Option (aS):=(aBO a1 a2).run
theorem aO2 {a1 a2}:PZ (L3 a1 a2) 14 [.agg (eZ.av a1),int a2] (λr=>.agg (aS.av r)):=by
 refine wm Tryz.func14 ?_
 intro v3
 intro v4
 refine .mk λx5 e5=>?_
 refine .mk ?_
 refine .mk λx6=>?_
 refine .mk λp7=>?_
 refine .mk λx8 e8=>?_
 refine .mk _ (λH hH _=>oC rfl rfl rfl p7 e8) ?_
 refine .mk λx9=>?_
 refine .mk ?_
 refine .mk λp10=>?_
 refine .mk λx11 e11=>?_
 refine .mk _ (λH hH _=>oC rfl rfl rfl p10 e11) ?_
 refine .mk λx12=>?_
 refine .mk λx13=>?_
 refine .mk λx14=>?_
 refine .mk λx15=>?_
 refine .mk λx16=>?_
 refine .mk λx17=>?_
 refine .mk λx18=>?_
 refine .mk λx19=>?_
 refine .mk λx20=>?_
 refine .mk λx21=>?_
 refine .mk λx22=>?_
 refine .mk λx23=>?_
 refine .mk ?_ ?_
 exact .mk (bK.agg (.cons (.refl _) (.cons (.refl _) (.cons (.refl _) (.cons (.refl _) (.cons (.refl _) (.cons (.refl _) (.cons (.refl _) (.cons (.refl _) (.cons (.nil _) .nil))))))))))
 refine .mk λx24=>?_
 refine .mk ?_ ?_
 refine .mk λx25=>?_
 refine .mk λx26=>?_
 exact .mk (bK.agg (.cons (.refl _) (.cons (.refl _) (.cons (.refl _) (.cons (.refl _) (.cons (.refl _) (.cons (.refl _) (.cons (.refl _) (.cons (.refl _) (.cons (.nil _) .nil))))))))))
 refine .mk λx27=>?_
 refine .mk ?_ ?_
 refine .mk λx28=>?_
 refine .mk λx29=>?_
 exact .mk (bK.agg (.cons (.refl _) (.cons (.refl _) (.cons (.refl _) (.cons (.refl _) (.cons (.refl _) (.cons (.refl _) (.cons (.refl _) (.cons (.refl _) (.cons (.nil _) .nil))))))))))
 refine .mk λx30=>?_
 refine .mk ?_ ?_
 refine .mk λx31=>?_
 refine .mk λx32=>?_
 exact .mk (bK.agg (.cons (.refl _) (.cons (.refl _) (.cons (.refl _) (.cons (.refl _) (.cons (.refl _) (.cons (.refl _) (.cons (.refl _) (.cons (.refl _) (.cons (.nil _) .nil))))))))))
 refine .mk λx33=>?_
 refine .mk ?_ ?_
 refine .mk λx34=>?_
 refine .mk λx35=>?_
 exact .mk (bK.agg (.cons (.refl _) (.cons (.refl _) (.cons (.refl _) (.cons (.refl _) (.cons (.refl _) (.cons (.refl _) (.cons (.refl _) (.cons (.refl _) (.cons (.nil _) .nil))))))))))
 refine .mk λx36=>?_
 refine .mk ?_ ?_
 refine .mk λx37=>?_
 refine .mk λx38=>?_
 exact .mk (bK.agg (.cons (.refl _) (.cons (.refl _) (.cons (.refl _) (.cons (.refl _) (.cons (.refl _) (.cons (.refl _) (.cons (.refl _) (.cons (.refl _) (.cons (.nil _) .nil))))))))))
 refine .mk λx39=>?_
 refine .mk ?_ ?_
 refine .mk λx40=>?_
 exact .mk (bK.agg (.cons (.refl _) (.cons (.refl _) (.cons (.refl _) (.cons (.refl _) (.cons (.refl _) (.cons (.refl _) (.cons (.refl _) (.cons (.refl _) (.cons (.nil _) .nil))))))))))
 refine .mk λx41=>?_
 refine .mk ?_ ?_
 refine .mk λx42=>?_
 refine .mk λx43=>?_
 refine .mk λx44=>?_
 exact .mk (bK.agg (.cons (.refl _) (.cons (.refl _) (.cons (.refl _) (.cons (.refl _) (.cons (.refl _) (.cons (.refl _) (.cons (.refl _) (.cons (.refl _) (.cons (.nil _) .nil))))))))))
 refine .mk λx45=>?_
 refine .mk ?_ ?_
 refine .mk λx46=>?_
 exact .mk (bK.agg (.cons (.refl _) (.cons (.refl _) (.cons (.refl _) (.cons (.refl _) (.cons (.refl _) (.cons (.refl _) (.cons (.refl _) (.cons (.refl _) (.cons (.nil _) .nil))))))))))
 refine .mk λx47=>?_
 refine .mk ?_ ?_
 refine .mk λx48=>?_
 exact .mk (bK.agg (.cons (.refl _) (.cons (.refl _) (.cons (.refl _) (.cons (.refl _) (.cons (.refl _) (.cons (.refl _) (.cons (.refl _) (.cons (.refl _) (.cons (.nil _) .nil))))))))))
 refine .mk λx49=>?_
 refine .mk ?_ ?_
 refine .mk (bE (bX (y:=aD 1 fI ([x21]:List Int)) (dQ (ps:=[(0,_)]) (rows:=[[int x21]]) rfl Tryz.underlying22 fT (.cons rfl .nil) (by kernel_rfl) rfl rfl rfl) rfl)) ?_
 refine .mk λx50=>?_
 refine .mk λx51=>?_
 refine .mk (bE (bX (y:=aD 1 fI ([x21,x51]:List Int)) (dQ (ps:=[(0,_),(1,_)]) (rows:=[[int x21],[int x51]]) rfl Tryz.underlying22 fT (.cons rfl (.cons rfl .nil)) (by kernel_rfl) rfl rfl rfl) rfl)) ?_
 refine .mk λx52=>?_
 refine .mk λx53=>?_
 refine .mk (bE (bX (y:=aD 1 fI ([0,x52,x53]:List Int)) (dQ (ps:=[(0,_),(1,_),(2,_)]) (rows:=[[int 0],[int x52],[int x53]]) rfl Tryz.underlying22 fT (.cons rfl (.cons rfl (.cons rfl .nil))) (by kernel_rfl) rfl rfl rfl) rfl)) ?_
 refine .mk _ (bE (qJ (cs:=[aD 1 fI ([x21]:List Int),aD 1 fI ([x21,x51]:List Int),aD 1 fI ([0,x52,x53]:List Int)]) (ps:=[(0,_),(1,_),(2,_)]) rfl Tryz.underlying63 kC z63 rfl (.cons rfl (.cons rfl (.cons rfl .nil))) (by kernel_rfl))) ?_
 refine .mk λx54=>?_
 refine .mk λx55 e55=>?_
 refine .mk _ (bE (uR (g:=(fL 1 fI)) (l:=([([x21]:List Int),([x21,x51]:List Int),([0,x52,x53]:List Int)]:List (List Int))) (v:=x55) (w:=aD 1 fI x55) rfl Tryz.underlying63 kC rfl rfl rfl e55 (λ_=>rfl) hw1)) ?_
 refine .mk λx56=>?_
 exact .mk
 refine .mk λx57=>?_
 refine .mk ?_ ?_
 refine .mk ?_
 refine .mk λx58=>?_
 refine .mk λx59=>?_
 refine .mk λp60=>?_
 refine .mk λx61 e61=>?_
 refine .mk _ (λH hH _=>oC rfl rfl rfl p60 e61) ?_
 refine .mk λx62=>?_
 refine .mk λp63=>?_
 refine .mk λx64 e64=>?_
 refine .mk _ (λH hH _=>oC rfl rfl rfl p63 e64) ?_
 refine .mk λx65=>?_
 refine .mk λx66=>?_
 exact .mk (bK.agg (.cons (.refl _) (.cons (.refl _) (.cons (.refl _) (.cons (.refl _) (.cons (.refl _) (.cons (.refl _) (.cons (.refl _) (.cons (.refl _) (.cons (.nil _) .nil))))))))))
 refine .mk λx67=>?_
 refine .mk ?_ ?_
 refine .mk λx68=>?_
 refine .mk λx69=>?_
 exact .mk (bK.agg (.cons (.refl _) (.cons (.refl _) (.cons (.refl _) (.cons (.refl _) (.cons (.refl _) (.cons (.refl _) (.cons (.refl _) (.cons (.refl _) (.cons (.nil _) .nil))))))))))
 refine .mk λx70=>?_
 refine .mk ?_ ?_
 exact .mk (bK.agg (.cons (.refl _) (.cons (.refl _) (.cons (.refl _) (.cons (.refl _) (.cons (.refl _) (.cons (.refl _) (.cons (.refl _) (.cons (.refl _) (.cons (.nil _) .nil))))))))))
 refine .mk λx71=>?_
 refine .mk ?_ ?_
 exact .mk (bK.agg (.cons (.refl _) (.cons (.refl _) (.cons (.refl _) (.cons (.refl _) (.cons (.refl _) (.cons (.refl _) (.cons (.refl _) (.cons (.refl _) (.cons (.nil _) .nil))))))))))
 exact .mk (bK.agg (.cons (.refl _) (.cons (.refl _) (.cons (.refl _) (.cons (.refl _) (.cons (.refl _) (.cons (.refl _) (.cons (.refl _) (.cons (.refl _) (.cons (.nil _) .nil))))))))))
def aI2 (n:Nat) (a1:eZ) (a2:List Int):WB ((List aS)) :=
 .al 1<|.jn 2 [4] [] [3] (λu6 (a:(List aS))=>[(5,.sl 3 (u6 3) 0 a.length)]) (λ_ a=>[.nw 3 41 9 (a.map aS.av)]) (.no 5 3 41 9<|.lp [1,2,4] [1] [3] (λu10 (a:Int×(List aS))=>[(5,.sl 3 (u10 3) 0 a.2.length),(6,int a.1)]) (λ_ a=>[.nw 3 41 9 (a.2.map aS.av)]) n ((0:Int),(([]:List aS):List aS)) (pw λy0_2 y0_3=>.jn 0 [1,2,4,5,6] [1,3] [] (λ_ (a:Bool)=>[(14,aF a)]) (λ_ _=>[]) (.ln 9 fI a2<|.bB 10 (decide (y0_2<(a2.length:Int))) λx5=>.ifs [10] x5 (.bB 13 (decide (y0_2<120)) λx6=>.ret x6) (.ret false)) (λy1_1=>.ifs [14] y1_1 (.dr [(1,[1])] [(8,[])] [1] [8] [0,1,2,3,4,5,6,7,8,9] (.ix 21 fI a2 y0_2 λx7=>.cl 23 (L3 a1 x7) aM1 aO2 λx8=>.to 24 (aD 9 aS.av ([x8]:List aS))<|.bl (y0_3++([x8]:List aS):List aS) λx9=>.as (x9.length<=68719476736) inferInstance<|.ge 25 0<|.bI 16 (aI (y0_2+1)) λx12=>.brk ((x12:Int),x9))) (.esc (.ret y0_3))))) (λy2_2=>.ret ((y2_2:List aS)))
def MJ (n:Nat) (a1:eZ) (a2:List Int):Option ((List aS)):=(aI2 n a1 a2).run
theorem ZH {n a1 a2}:PZ (MJ n a1 a2) 6 [.agg (eZ.av a1),aD 1 fI a2] (λr=>aD 9 aS.av r):=wq Tryz.func6
def aFW (n:Nat) (a1:eZ) (a2:List Int):WB (aA) :=
 .al 1<|.al 2<|.cl 11 (IK n a1) qF (λ_=>aOJ) λx5=>.al 3<|.cl 16 (MJ n a1 a2) BK ZH λx7=>.jn 1 [4,5] [2,3] [] (λ_ (a:Unit)=>[]) (λ_ _=>[]) (.lp [4,5,7,8] [2,3] [] (λ_ (a:Unit)=>[]) (λ_ _=>[]) n () (λ_=>.ln 19 aS.av x7<|.bB 20 (decide (0<(x7.length:Int))) λx8=>.az [20] x8 (.esc (.ret ())))) (λ_=>.ret ((x5.1:aA)))
def AO (n:Nat) (a1:eZ) (a2:List Int):Option (aA):=(aFW n a1 a2).run
theorem NF {n a1 a2}:PZ (AO n a1 a2) 5 [.agg (eZ.av a1),aD 1 fI a2] (λr=>.agg (aA.av r)):=wq Tryz.func5
def aAN :WB (nA) :=
 .al 1<|.gv 1<|.ret (((⟨([]:List UInt8),([69,73,76,81,65]:List UInt8),([81,65,82]:List UInt8),([81,82]:List UInt8),([69,73,76,81,65]:List UInt8),([81,65,82]:List UInt8),([69,73,76,81]:List UInt8),([69,73,76,81]:List UInt8),([69,73,76,84,81]:List UInt8),([69,73,65]:List UInt8),([69,73,65]:List UInt8),([84,65,83]:List UInt8),([69,73,76,84,81,65]:List UInt8),([76,81,82]:List UInt8),([69]:List UInt8),([69]:List UInt8),([69]:List UInt8)⟩:nA):nA))
def MG :Option (nA):=(aAN ).run
theorem aHE:PZ (MG ) 48 [] (λr=>.agg (nA.av r)):=by
 refine wm Tryz.func48 ?_
 intro v1
 refine .mk _ (bE (qJ (cs:=[str ([]:List UInt8),str ([69,73,76,81,65]:List UInt8),str ([81,65,82]:List UInt8),str ([81,82]:List UInt8),str ([69,73,76,81,65]:List UInt8),str ([81,65,82]:List UInt8),str ([69,73,76,81]:List UInt8),str ([69,73,76,81]:List UInt8),str ([69,73,76,84,81]:List UInt8),str ([69,73,65]:List UInt8),str ([69,73,65]:List UInt8),str ([84,65,83]:List UInt8),str ([69,73,76,84,81,65]:List UInt8),str ([76,81,82]:List UInt8),str ([69]:List UInt8),str ([69]:List UInt8),str ([69]:List UInt8)]) (ps:=[(1,_),(2,_),(3,_),(4,_),(5,_),(6,_),(7,_),(8,_),(9,_),(10,_),(11,_),(12,_),(13,_),(14,_),(15,_),(16,_)]) rfl Tryz.underlying94 gQ z94 rfl (.cons rfl (.cons rfl (.cons rfl (.cons rfl (.cons rfl (.cons rfl (.cons rfl (.cons rfl (.cons rfl (.cons rfl (.cons rfl (.cons rfl (.cons rfl (.cons rfl (.cons rfl (.cons rfl .nil)))))))))))))))) (by kernel_rfl))) ?_
 exact .mk
def WK (a1:List UInt8) (a2:Int):WB (Int) :=
 .bl (yX a1 a2:Int) λx3=>.gv 7<|.ret ((x3:Int))
def UK (a1:List UInt8) (a2:Int):Option (Int):=(WK a1 a2).run
theorem aIJ {a1 a2}:PZ (UK a1 a2) 220 [str a1,.sc (.int .u8 a2)] int:=by
 refine wm Tryz.func220 ?_
 refine .mk λx3 e3=>?_
 refine .mk _ (bE (bX (y:=int x3) (aMK rfl Tryz.func244 rfl rfl ibx iby rfl rfl) (congrArg int e3))) ?_
 exact .mk
def aF3 (a1:List UInt8) (a2:Int):WB (Int) :=
 .cl 7 (UK a1 a2) aOW aIJ λx3=>.ret ((x3:Int))
def qL (a1:List UInt8) (a2:Int):Option (Int):=(aF3 a1 a2).run
theorem rA {a1 a2}:PZ (qL a1 a2) 164 [str a1,.sc (.int .u8 a2)] int:=by
 refine wm Tryz.func164 ?_
 refine .mk λx3 e3=>?_
 exact .mk
def oV (a1:Int) (a2:Int):Option (Int×Int) :=
bnd (decide (a2=69)) λx3 =>
cond x3 (some ((0:Int),(3:Int))) (bnd (decide (a2=73)) λx4 =>
cond x4 (some ((0:Int),(4:Int))) (bnd (decide (a2=76)) λx5 =>
cond x5 (some ((0:Int),(1:Int))) (bnd (decide (a2=84)) λx6 =>
cond x6 (some ((0:Int),((nM [(8,1),(12,3),(11,2)] a1):Int))) (bnd (decide (a2=81)) λx7 =>
cond x7 (bnd (decide (a1=7)) λx12 =>
cond x12 (some ((0:Int),(1073741824:Int))) (some ((1:Int),(1073741824:Int)))) (bnd (decide (a2=65)) λx8 =>
cond x8 ((show Option (Bool) from
bnd (decide (a1=9)) λx10 =>
cond x10 (some (true:Bool)) (bnd (decide (a1=10)) λx11 =>
some (x11:Bool))).bind <| λy0_1 =>
cond y0_1 (some ((0:Int),(1073741824:Int))) (some ((0:Int),(1125899906842624:Int)))) (some ((0:Int),(39:Int))))))))
theorem qZ {a1:Int} {a2:Int} {r:Int×Int} (h0:oV a1 a2=some r):PP Tryz.prog 50 [int a1,.sc (.int .i32 a2)] (λy=>y=.aU [int r.1,int r.2]):=by
  unfold oV at h0
  refine uD (R0:=λy H=>Cv (jZ H) y (.aU [int r.1,int r.2])) ?_ (λy H hc=>⟨_,rfl,.aU (N6 (qX (r.1)) (qX (r.2))),hc⟩)
  refine gN (c:=_) Tryz.func50 rfl rfl ?_;intro Q hret hnorm
  refine tc aN 13 (.mk ?_)
  refine nb aN h0 λx3 h0=>?_
  refine tr aN 2 (.mk ?_)
  cases x3
  replace h0:=cf h0
  refine tc aN 3 (.mk ?_)
  refine nb aN h0 λx4 h0=>?_
  refine tr aN 2 (.mk ?_)
  cases x4
  replace h0:=cf h0
  refine tc aN 3 (.mk ?_)
  refine nb aN h0 λx5 h0=>?_
  refine tr aN 2 (.mk ?_)
  cases x5
  replace h0:=cf h0
  refine tc aN 3 (.mk ?_)
  refine nb aN h0 λx6 h0=>?_
  refine tr aN 2 (.mk ?_)
  cases x6
  replace h0:=cf h0
  refine tc aN 3 (.mk ?_)
  refine nb aN h0 λx7 h0=>?_
  refine tr aN 2 (.mk ?_)
  cases x7
  replace h0:=cf h0
  refine tc aN 3 (.mk ?_)
  refine nb aN h0 λx8 h0=>?_
  refine tr aN 2 (.mk ?_)
  cases x8
  replace h0:=cf h0
  refine tc aN 8 (.mk ?_)
  obtain rfl:=eG h0
  refine wR hret (rT (rT .nil)) ?_
  exact .refl _
  replace h0:=ct h0
  refine tc aN 3 (.mk ?_)
  refine jn h0 [4,5] [] (λ(a:Bool) (k:Unit)=>[(30,aF a)]) (λa k=>[]) ⟨λj9 h1=>?_,?_⟩
  refine tc aN 2 (.mk ?_)
  refine nb aN h1 λx10 h1=>?_
  refine tr aN 1 (.mk ?_)
  cases x10
  replace h1:=cf h1
  refine tr aN 1 (.mk ?_)
  refine nb aN h1 λx11 h1=>?_
  refine tr aN 2 (.mk ?_)
  exact lf h1 () eD
  replace h1:=ct h1
  refine tr aN 4 (.mk ?_)
  exact lf h1 () eD
  rintro y0_1 _ h0
  cases y0_1
  replace h0:=cf h0
  refine tc aN 7 (.mk ?_)
  obtain rfl:=eG h0
  refine wR hret (rT (rT .nil)) ?_
  exact .refl _
  replace h0:=ct h0
  refine tc aN 6 (.mk ?_)
  obtain rfl:=eG h0
  refine wR hret (rT (rT .nil)) ?_
  exact .refl _
  replace h0:=ct h0
  refine tc aN 5 (.mk ?_)
  refine nb aN h0 λx12 h0=>?_
  refine tr aN 1 (.mk ?_)
  cases x12
  replace h0:=cf h0
  refine tc aN 7 (.mk ?_)
  obtain rfl:=eG h0
  refine wR hret (rT (rT .nil)) ?_
  exact .refl _
  replace h0:=ct h0
  refine tc aN 6 (.mk ?_)
  obtain rfl:=eG h0
  refine wR hret (rT (rT .nil)) ?_
  exact .refl _
  replace h0:=ct h0
  refine tc aN 2 (.mk ?_)
  refine aFM [some (15,none),none,none,none,some (16,none),some (17,some (int a1)),some (18,some (int (nM [(8,1),(12,3),(11,2)] a1))),some (4,some (int 0)),some (5,some (int (nM [(8,1),(12,3),(11,2)] a1)))] [(1,8,1),(2,12,3),(3,11,2)] 0 15 [.mk,.ins 8 1,.ins 12 3,.ins 11 2,.pu,.pu,.lk a1,.pu,.pu] mixed Tryz.underlying142 Tryz.underlying3 zi3 (by kernel_rfl) rfl ⟨⟨rfl,rfl,rfl,rfl⟩,⟨rfl,rfl,rfl,.head _⟩,⟨rfl,rfl,rfl,.tail _ (.head _)⟩,⟨rfl,rfl,rfl,.tail _ (.tail _ (.head _))⟩,⟨_,_,rfl,rfl,λ_=>kV rfl rfl⟩,⟨_,_,rfl,rfl,λ_=>kV rfl rfl⟩,⟨16,_,18,rfl,rfl,rfl,λ_=>rfl,λ_=>rfl⟩,⟨_,_,rfl,rfl,λ_=>sD rfl rfl⟩,⟨_,_,rfl,rfl,λ_=>sD rfl rfl⟩,trivial⟩ λ_=>?_
  obtain rfl:=eG h0
  refine wR hret (rT (rT .nil)) ?_
  exact .refl _
  replace h0:=ct h0
  refine tc aN 6 (.mk ?_)
  obtain rfl:=eG h0
  refine wR hret (rT (rT .nil)) ?_
  exact .refl _
  replace h0:=ct h0
  refine tc aN 6 (.mk ?_)
  obtain rfl:=eG h0
  refine wR hret (rT (rT .nil)) ?_
  exact .refl _
  replace h0:=ct h0
  refine tc aN 6 (.mk ?_)
  obtain rfl:=eG h0
  refine wR hret (rT (rT .nil)) ?_
  exact .refl _
def aK6 (n:Nat) (a1:List Int):WB (Bool) :=
 .gv 6<|.al 1<|.ln 8 fI a1<|.dF 0 [0,2] [] [] (λ_ (a:Unit)=>[]) (λ_ _=>[]) (.lp [0,2,3,7,8] [] [] (λ_ (a:Int×(List Bool))=>[(9,int a.1)]) (λ_ a=>[.kp 1 [a.2.map aF]]) n ((0:Int),((List.replicate 40 false):List Bool)) (pw λy0_1 y0_2=>.bB 10 (decide (y0_1<(a1.length:Int))) λx3=>.ifs [10] x3 (.ix 11 fI a1 y0_1 λx4=>.jn 0 [0,2,3,5,7,8,9] [1] [] (λ_ (a:Bool)=>[(23,aF a)]) (λ_ _=>[]) (.bB 14 (decide (x4<0)) λx5=>.ifs [14] x5 (.ret true) (.bB 17 (decide (x4>=40)) λx6=>.ifs [17] x6 (.ret true) (.as ((0:Int)<=x4/\x4<40) inferInstance<|.bo (ix y0_2 x4) λx8=>.gv 21<|.gv 22<|.ret x8))) (λy1_1=>.ifs [23] y1_1 (.esc (.esc (.ret ((false:Bool))))) (.as ((0:Int)<=x4/\x4<40) inferInstance<|.bo (ix y0_2 x4) λx10=>.gv 25<|.bl (y0_2.set (Int.toNat x4) true:List Bool) λx11=>.ge 1007002 0<|.bI 26 (aI (y0_1+1)) λx12=>.brk ((x12:Int),x11)))) (.esc (.brk ())))) (λ_=>.ln 28 fI a1<|.bB 29 (decide ((a1.length:Int)>0)) λx13=>.ret ((x13:Bool)))
def J3 (n:Nat) (a1:List Int):Option (Bool):=(aK6 n a1).run
theorem aG3 {n a1}:PZ (J3 n a1) 52 [aD 1 fI a1] aF:=by
 refine wm Tryz.func52 ?_
 refine .mk _ (bE (qJ (cs:=[aF false,aF false,aF false,aF false,aF false,aF false,aF false,aF false,aF false,aF false,aF false,aF false,aF false,aF false,aF false,aF false,aF false,aF false,aF false,aF false,aF false,aF false,aF false,aF false,aF false,aF false,aF false,aF false,aF false,aF false,aF false,aF false,aF false,aF false,aF false,aF false,aF false,aF false,aF false,aF false]) (ps:=[]) rfl Tryz.underlying143 rE z143 rfl .nil (by kernel_rfl))) ?_
 intro v2
 refine .mk ?_
 refine .mk ?_ ?_
 refine .mk ?_
 intro _ _
 refine .mk λx3=>?_
 refine .mk ?_ ?_
 refine .mk λx4 e4=>?_
 refine .mk ?_ ?_
 refine .mk λx5=>?_
 refine .mk .mk ?_
 refine .mk λx6=>?_
 refine .mk .mk ?_
 refine .mk λp7=>?_
 refine .mk λx8 e8=>?_
 refine .mk _ (bE (FM rfl Tryz.underlying143 rE rfl rfl rfl rfl rfl p7)) ?_
 refine .mk _ (bE (aIE (g:=aF) rfl rE rfl rfl rfl rfl e8)) ?_
 exact .mk
 intro _ _
 refine .mk .mk ?_
 refine .mk λp9=>?_
 refine .mk λx10 e10=>?_
 refine .mk _ (bE (FM rfl Tryz.underlying143 rE rfl rfl rfl rfl rfl p9)) ?_
 refine .mk λx11 e11=>?_
 refine .mk _ ⟨λ_=>bQ.dM (eO (ob':=(⟨143,40,true,true,_,[x11.map aF]⟩:bC)) (aEO rfl rE rfl rfl rfl rfl rfl rfl e10 e11) rfl) (λ_ h=>h) (λ_ _=>trivial),λ_ _ _=>trivial⟩ ?_
 rintro _ _ ⟨rfl,rfl⟩
 refine .mk λx12=>?_
 exact .mk
 exact .mk
 intro _ _
 refine .mk ?_
 refine .mk λx13=>?_
 exact .mk
end
end Go.Pv
