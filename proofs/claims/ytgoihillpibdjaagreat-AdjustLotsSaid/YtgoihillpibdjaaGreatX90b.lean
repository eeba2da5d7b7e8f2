import Derived.Test.YtgoihillpibdjaaGreatX90
set_option linter.unusedVariables false
set_option linter.unusedSimpArgs false
namespace Go.Pv
open Go.Proofs
set_option maxRecDepth 100000
set_option maxHeartbeats 4000000
noncomputable section
def aD6 (n:Nat) (a1:Int):WB (fG) :=
 .al 1<|.cl 13 (zL a1 1073741824) IF I5 λx3=>.bI 15 (x3.tmod 2) λx4=>.bI 16 (aW (2+x4)) λx5=>.bI 18 (aW (x3.tdiv 2)) λx6=>.bI 19 (x6.tmod 3) λx7=>.bI 20 (aW (2+x7)) λx8=>.bI 23 (aW (x3.tdiv 6)) λx9=>.bI 24 (x9.tmod 4) λx10=>.bI 25 (aW (1+x10)) λx11=>.al 2<|.jn 1 [2,3,4,5,6] [1] [4] (λ_ (a:(List Int))=>[]) (λu2 a=>[.kp 2 [[int x5,int x11,.sl 4 (u2 4) 0 a.length,.sc (.slice none 0 0),.sc (.slice none 0 0)]],.nw 4 3 1 (a.map fI)]) (.nc 2 0 2 4 3 1<|.lp [2,3,4,5,6] [1] [4] (λ_ (a:Int×(List Int))=>[(7,int a.1)]) (λu3 a=>[.kp 2 [[int x5,int x11,.sl 4 (u3 4) 0 a.2.length,.sc (.slice none 0 0),.sc (.slice none 0 0)]],.nw 4 3 1 (a.2.map fI)]) n ((0:Int),(([]:List Int):List Int)) (pw λy0_1 y0_3=>.bB 29 (decide (y0_1<x8)) λx14=>.ifs [29] x14 (.bI 35 (aW (x3.tdiv 24)) λx15=>.bI 36 (x15.tmod 7) λx16=>.bI 38 (aW (x16+y0_1)) λx17=>.to 39 (aN 1 fI ([x17]:List Int))<|.bl (y0_3++([x17]:List Int):List Int) λx18=>.as (x18.length<=68719476736) inferInstance<|.ge 40 0<|.bI 31 (aW (y0_1+1)) λx21=>.brk ((x21:Int),x18)) (.esc (.ret y0_3)))) (λy1_2=>.jn 1 [2,6] [1,4] [11,12] (λ_ (a:(List (List Int))×(List (List Int)))=>[]) (λu20 a=>[.kp 2 [[int x5,int x11,.sl 4 (u20 4) 0 y1_2.length,.sl 11 (u20 11) 0 a.1.length,.sl 12 (u20 12) 0 a.2.length]],.nw 11 22 1 (a.1.map (fL 1 fI)),.nw 12 22 1 (a.2.map (fL 1 fI))]) (.nc 2 0 3 11 22 1<|.nc 2 0 4 12 22 1<|.lp [2,3,4,5,6] [1,4] [11,12] (λ_ (a:Int×(List (List Int))×(List (List Int)))=>[(8,int a.1)]) (λu25 a=>[.kp 2 [[int x5,int x11,.sl 4 (u25 4) 0 y1_2.length,.sl 11 (u25 11) 0 a.2.1.length,.sl 12 (u25 12) 0 a.2.2.length]],.nw 11 22 1 (a.2.1.map (fL 1 fI)),.nw 12 22 1 (a.2.2.map (fL 1 fI))]) n ((0:Int),(([]:List (List Int)):List (List Int)),(([]:List (List Int)):List (List Int))) (pw λy2_1 q0=>(pw λy2_4 y2_5=>.bB 44 (decide (y2_1<x5)) λx24=>.ifs [44] x24 (.jn 1 [2,3,4,5,6,8] [1,4] [11,12] (λ_ (a:(List (List Int))×(List (List Int)))=>[]) (λu28 a=>[.kp 2 [[int x5,int x11,.sl 4 (u28 4) 0 y1_2.length,.sl 11 (u28 11) 0 a.1.length,.sl 12 (u28 12) 0 a.2.length]],.nw 11 22 1 (a.1.map (fL 1 fI)),.nw 12 22 1 (a.2.map (fL 1 fI))]) (.jn 3 [2,3,4,5,6,8] [1,2,4,11,12] [7,8] (λu30 (a:(List Int)×(List Int))=>[(9,.sl 7 (u30 7) 0 a.1.length),(10,.sl 8 (u30 8) 0 a.2.length)]) (λ_ a=>[.nw 7 3 1 (a.1.map fI),.nw 8 3 1 (a.2.map fI)]) (.no 9 7 3 1<|.no 10 8 3 1<|.lp [2,3,4,5,6,8] [1,2,4,11,12] [7,8] (λu31 (a:Int×(List Int)×(List Int))=>[(9,.sl 7 (u31 7) 0 a.2.1.length),(10,.sl 8 (u31 8) 0 a.2.2.length),(11,int a.1)]) (λ_ a=>[.nw 7 3 1 (a.2.1.map fI),.nw 8 3 1 (a.2.2.map fI)]) n ((0:Int),(([]:List Int):List Int),(([]:List Int):List Int)) (pw λy3_3 q0=>(pw λy3_4 y3_5=>.bB 49 (decide (y3_3<x8)) λx27=>.ifs [49] x27 (.bI 54 (aW (x3.tdiv 168)) λx28=>.bI 56 (aW (x28+y3_3)) λx29=>.bI 59 (aW (x3.tdiv 672)) λx30=>.bI 60 (x30.tmod 4) λx31=>.bI 61 (aW (y2_1*x31)) λx32=>.bI 62 (aW (x29+x32)) λx33=>.bI 63 (x33.tmod 4) λx34=>.bI 64 (aW (1+x34)) λx35=>.to 65 (aN 1 fI ([x35]:List Int))<|.bl (y3_4++([x35]:List Int):List Int) λx36=>.as (x36.length<=68719476736) inferInstance<|.ge 66 0<|.bI 69 (aW (x3.tdiv 2688)) λx39=>.bI 71 (aW (7*y3_3)) λx40=>.bI 72 (aW (x39+x40)) λx41=>.bI 74 (aW (x41+y2_1)) λx42=>.bI 75 (x42.tmod 40) λx43=>.to 76 (aN 1 fI ([x43]:List Int))<|.bl (y3_5++([x43]:List Int):List Int) λx44=>.as (x44.length<=68719476736) inferInstance<|.ge 77 0<|.bI 51 (aW (y3_3+1)) λx47=>.brk ((x47:Int),x36,x44)) (.esc (.ret ((y3_4:List Int),y3_5)))) q0)) (pw λy4_3 y4_4=>.dr [(0,[2]),(1,[2]),(5,[2]),(6,[2]),(10,[2]),(12,[2])] [(11,[]),(13,[])] [2] [4,9,11,13] [0,1,2,3,5,6,7,8,4,10,9,11,12,13] (.gv 81<|.gv 86<|.bl (y2_4++[y4_3]:List (List Int)) λx48=>.as (x48.length<=68719476736) inferInstance<|.ge 82 0<|.bl (y2_5++[y4_4]:List (List Int)) λx51=>.as (x51.length<=68719476736) inferInstance<|.ge 87 0<|.ret ((x48:List (List Int)),(x51:List (List Int)))))) (pw λy5_3 y5_4=>.bI 46 (aW (y2_1+1)) λx54=>.brk ((x54:Int),(y5_3:List (List Int)),(y5_4:List (List Int))))) (.esc (.ret ((y2_4:List (List Int)),(y2_5:List (List Int)))))) q0)) (pw λy6_3 y6_4=>.ret (((⟨x5,x11,y1_2,y6_3,y6_4⟩:fG):fG))))
def FW (n:Nat) (a1:Int):Option (fG):=(aD6 n a1).run
theorem aB4 {n a1}:PZ (FW n a1) 5 [int a1] (λr=>.agg (fG.av r)):=by
 refine wm Tryz.func5 ?_
 intro v2
 refine .mk λx3 e3=>?_
 refine .mk λx4=>?_
 refine .mk λx5=>?_
 refine .mk λx6=>?_
 refine .mk λx7=>?_
 refine .mk λx8=>?_
 refine .mk λx9=>?_
 refine .mk λx10=>?_
 refine .mk λx11=>?_
 intro v12
 refine .mk ?_ ?_
 intro v13
 refine .mk ?_
 rintro ⟨y0_1,y0_3⟩ _
 refine .mk λx14=>?_
 refine .mk ?_ ?_
 refine .mk λx15=>?_
 refine .mk λx16=>?_
 refine .mk λx17=>?_
 refine .mk (fD (jY (y:=aN 1 fI ([x17]:List Int)) (jM (ps:=[(0,_)]) (rows:=[[int x17]]) rfl Tryz.underlying22 kE (.cons rfl .nil) (by kernel_rfl) rfl rfl rfl) rfl)) ?_
 refine .mk λx18 e18=>?_
 refine .mk λp19=>?_
 refine .mk _ ⟨λ_=>oH (g:=fI) (l:=y0_3) (m:=([x17]:List Int)) .any rfl Tryz.underlying22 kE nX rfl rfl rfl rfl rfl rfl rfl rfl rfl rfl (Eq.symm rfl) (.refl _) (λ_=>rfl) e18 p19,λ_ _ _=>trivial⟩ ?_
 rintro _ _ ⟨v20,-,rfl,rfl⟩
 refine .mk λx21=>?_
 exact .mk
 exact .mk
 intro _ _
 refine .mk ?_ ?_
 intro v22
 intro v23
 refine .mk ?_
 rintro ⟨y2_1,y2_4,y2_5⟩ _
 refine .mk λx24=>?_
 refine .mk ?_ ?_
 refine .mk ?_ ?_
 refine .mk ?_ ?_
 intro v25
 intro v26
 refine .mk ?_
 rintro ⟨y3_3,y3_4,y3_5⟩ _
 refine .mk λx27=>?_
 refine .mk ?_ ?_
 refine .mk λx28=>?_
 refine .mk λx29=>?_
 refine .mk λx30=>?_
 refine .mk λx31=>?_
 refine .mk λx32=>?_
 refine .mk λx33=>?_
 refine .mk λx34=>?_
 refine .mk λx35=>?_
 refine .mk (fD (jY (y:=aN 1 fI ([x35]:List Int)) (jM (ps:=[(0,_)]) (rows:=[[int x35]]) rfl Tryz.underlying22 kE (.cons rfl .nil) (by kernel_rfl) rfl rfl rfl) rfl)) ?_
 refine .mk λx36 e36=>?_
 refine .mk λp37=>?_
 refine .mk _ ⟨λ_=>oH (g:=fI) (l:=y3_4) (m:=([x35]:List Int)) .any rfl Tryz.underlying22 kE nX rfl rfl rfl rfl rfl rfl rfl rfl rfl rfl (Eq.symm rfl) (.refl _) (λ_=>rfl) e36 p37,λ_ _ _=>trivial⟩ ?_
 rintro _ _ ⟨v38,-,rfl,rfl⟩
 refine .mk λx39=>?_
 refine .mk λx40=>?_
 refine .mk λx41=>?_
 refine .mk λx42=>?_
 refine .mk λx43=>?_
 refine .mk (fD (jY (y:=aN 1 fI ([x43]:List Int)) (jM (ps:=[(0,_)]) (rows:=[[int x43]]) rfl Tryz.underlying22 kE (.cons rfl .nil) (by kernel_rfl) rfl rfl rfl) rfl)) ?_
 refine .mk λx44 e44=>?_
 refine .mk λp45=>?_
 refine .mk _ ⟨λ_=>oH (g:=fI) (l:=y3_5) (m:=([x43]:List Int)) .any rfl Tryz.underlying22 kE nX rfl rfl rfl rfl rfl rfl rfl rfl rfl rfl (Eq.symm rfl) (.refl _) (λ_=>rfl) e44 p45,λ_ _ _=>trivial⟩ ?_
 rintro _ _ ⟨v46,-,rfl,rfl⟩
 refine .mk λx47=>?_
 exact .mk
 exact .mk
 rintro ⟨y4_3,y4_4⟩ u30
 refine .mk ?_
 refine .mk _ (λH hH _=>jM (ps:=[(0,_)]) (rows:=[[.sl 7 (u30 7) 0 y4_3.length]]) rfl Tryz.underlying23 FP (.cons rfl .nil) (by kernel_rfl) rfl rfl rfl) ?_
 refine .mk _ (λH hH _=>jM (ps:=[(0,_)]) (rows:=[[.sl 8 (u30 8) 0 y4_4.length]]) rfl Tryz.underlying23 FP (.cons rfl .nil) (by kernel_rfl) rfl rfl rfl) ?_
 refine .mk λx48 e48=>?_
 refine .mk λp49=>?_
 refine .mk _ ⟨λ_=>eG.jS 7 rfl (oH (g:=(fL 1 fI)) (l:=y2_4) (m:=[y4_3]) .any rfl Tryz.underlying23 FP P7 rfl rfl rfl rfl rfl rfl rfl rfl rfl rfl (Eq.symm rfl) (jN.list (.cons (.cons (gQ rfl rfl rfl rfl rfl (Eq.symm rfl)) .nil) .nil)) (λ_=>rfl) e48 p49),by rintro _ _ ⟨v50,-,rfl,rfl⟩;exact ⟨rfl,trivial⟩⟩ ?_
 rintro _ _ ⟨v50,-,rfl,rfl⟩
 refine .mk λx51 e51=>?_
 refine .mk λp52=>?_
 refine .mk _ ⟨λ_=>eG.jS 8 rfl (oH (g:=(fL 1 fI)) (l:=y2_5) (m:=[y4_4]) .any rfl Tryz.underlying23 FP P7 rfl rfl rfl rfl rfl rfl rfl rfl rfl rfl (Eq.symm rfl) (jN.list (.cons (.cons (gQ rfl rfl rfl rfl rfl (Eq.symm rfl)) .nil) .nil)) (λ_=>rfl) e51 p52),by rintro _ _ ⟨v53,-,rfl,rfl⟩;exact ⟨rfl,trivial⟩⟩ ?_
 rintro _ _ ⟨v53,-,rfl,rfl⟩
 exact .mk
 intro _ _
 refine .mk λx54=>?_
 exact .mk
 exact .mk
 intro _ _
 exact .mk (dX.agg (.cons (.refl _) (.cons (.refl _) (.cons (gQ rfl rfl rfl rfl rfl (Eq.symm rfl)) (.cons (gQ rfl rfl rfl rfl rfl (Eq.symm rfl)) (.cons (gQ rfl rfl rfl rfl rfl (Eq.symm rfl)) .nil))))))
def aGU (n:Nat) (a1:List Int) (a2:Int) (a3:Int) (a4:Int):WB (Bool) :=
 .ln 11 fI a1<|.bB 13 (decide ((a1.length:Int)≠a2)) λx5=>.ifs [13] x5 (.ret ((false:Bool))) (.eZ 2 [8] [] [] (λ_ (a:Unit)=>[]) (λ_ _=>[]) (.lp [0,1,2,3,8] [] [] (λ_ (a:Int)=>[(9,int a)]) (λ_ _=>[]) n 0 (λy0_1=>.bB 16 (decide (y0_1<a2)) λx6=>.ifs [16] x6 (.jn 2 [0,1,2,3,8,9] [] [] (λ_ (a:Bool)=>[(32,bD a)]) (λ_ _=>[]) (.ix 21 fI a1 y0_1 λx7=>.bB 24 (decide (x7<a3)) λx8=>.ifs [24] x8 (.ret true) (.ix 28 fI a1 y0_1 λx9=>.bB 31 (decide (x9>a4)) λx10=>.ret x10)) (λy1_1=>.ifs [32] y1_1 (.esc (.esc (.ret ((false:Bool))))) (.bI 18 (aW (y0_1+1)) λx11=>.brk x11))) (.esc (.brk ())))) (λ_=>.ret ((true:Bool))))
def BU (n:Nat) (a1:List Int) (a2:Int) (a3:Int) (a4:Int):Option (Bool):=(aGU n a1 a2 a3 a4).run
theorem RH {n a1 a2 a3 a4}:PZ (BU n a1 a2 a3 a4) 63 [aN 1 fI a1,int a2,int a3,int a4] bD:=wq Tryz.func63
def aI8 (n:Nat) (a1:fG):WB (Bool) :=
 .al 1<|.ln 7 fI a1.cB<|.jn 0 [1,2,3] [1] [] (λ_ (a:Bool)=>[(56,bD a)]) (λ_ _=>[]) (.bB 10 (decide (a1.gD<1)) λx3=>.ifs [10] x3 (.ret true) (.bB 14 (decide (a1.gD>4)) λx4=>.ifs [14] x4 (.ret true) (.bB 19 (decide (a1.gP<1)) λx5=>.ifs [19] x5 (.ret true) (.bB 24 (decide (a1.gP>12)) λx6=>.ifs [24] x6 (.ret true) (.bB 28 (decide ((a1.cB.length:Int)<1)) λx7=>.ifs [28] x7 (.ret true) (.bB 32 (decide ((a1.cB.length:Int)>5)) λx8=>.ifs [32] x8 (.ret true) (.cl 38 (BU n a1.cB (a1.cB.length:Int) 0 1073741824) P8 RH λx9=>.bB 39 (!x9) λx10=>.ifs [39] x10 (.ret true) (.ln 44 (fL 1 fI) a1.Methods<|.bB 47 (decide ((a1.Methods.length:Int)≠a1.gD)) λx11=>.ifs [47] x11 (.ret true) (.ln 52 (fL 1 fI) a1.gB<|.bB 55 (decide ((a1.gB.length:Int)≠a1.gD)) λx12=>.ret x12))))))))) (λy0_1=>.ifs [56] y0_1 (.ret ((false:Bool))) (.eZ 2 [2] [] [] (λ_ (a:Unit)=>[]) (λ_ _=>[]) (.lp [1,2,3] [1] [] (λ_ (a:Int)=>[(4,int a)]) (λ_ _=>[]) n 0 (λy1_1=>.bB 60 (decide (y1_1<a1.gD)) λx13=>.ifs [60] x13 (.jn 2 [1,2,3,4] [1] [] (λ_ (a:Bool)=>[(80,bD a)]) (λ_ _=>[]) (.ix 66 (fL 1 fI) a1.Methods y1_1 λx14=>.cl 69 (BU n x14 (a1.cB.length:Int) 1 4) P8 RH λx15=>.bB 70 (!x15) λx16=>.ifs [70] x16 (.ret true) (.ix 75 (fL 1 fI) a1.gB y1_1 λx17=>.cl 78 (BU n x17 (a1.cB.length:Int) 0 1073741824) P8 RH λx18=>.bB 79 (!x18) λx19=>.ret x19)) (λy2_1=>.ifs [80] y2_1 (.esc (.esc (.ret ((false:Bool))))) (.bI 62 (aW (y1_1+1)) λx20=>.brk x20))) (.esc (.brk ())))) (λ_=>.ret ((true:Bool)))))
def FD (n:Nat) (a1:fG):Option (Bool):=(aI8 n a1).run
theorem aGQ {n a1}:PZ (FD n a1) 31 [.agg (fG.av a1)] bD:=wq Tryz.func31
def wW (a1:fG):Nat->Int->(List Int)->Option ((List Int))
  | 0,_,_=>none
  | n+1,y1_1,y1_2 =>
    bnd (decide (y1_1<(a1.cB.length:Int))) λx29 =>
    cond x29 ((ix y1_2 y1_1).bind λx30 =>
    bnd (y1_2.set (Int.toNat y1_1) ((-1):Int)) λx31 =>
    bnd (aW (y1_1+1)) λx32 =>
    wW a1 n (x32:Int) (x31:List Int)) (some (y1_2:List Int))
def vV (a1:fG):Nat->Int->(List aP)->Option ((List aP))
  | 0,_,_=>none
  | n+1,y0_1,y0_3 =>
    bnd (decide (y0_1<a1.gD)) λx9 =>
    cond x9 ((show Option ((List aP)) from
    bnd (aW ((a1.cB.length:Int)*2)) λx11 =>
    iQ ((0:Int)<=x11/\(x11:Int)<=1048576)<|
    bnd (List.replicate (Int.toNat x11) ((⟨[],(⟨0,0,0⟩:kJ)⟩:aQ):aQ)) λx13 =>
    iQ ((0:Int)<=17/\(17:Int)<=1048576)<|
    bnd (List.replicate (Int.toNat 17) (0:Int)) λx16 =>
    iQ ((0:Int)<=(a1.cB.length:Int)/\((a1.cB.length:Int):Int)<=1048576)<|
    bnd (List.replicate (Int.toNat (a1.cB.length:Int)) ((⟨0,0,0,0,0,0,0,0,0,0,0⟩:cK):cK)) λx19 =>
    iQ ((0:Int)<=(a1.cB.length:Int)/\((a1.cB.length:Int):Int)<=1048576)<|
    bnd (List.replicate (Int.toNat (a1.cB.length:Int)) (0:Int)) λx22 =>
    iQ ((0:Int)<=(a1.cB.length:Int)/\((a1.cB.length:Int):Int)<=1048576)<|
    bnd (List.replicate (Int.toNat (a1.cB.length:Int)) (0:Int)) λx25 =>
    (show Option ((List Int)) from
    wW a1 n (0:Int) (x22:List Int)).bind <| λy2_1 =>
    bnd (y0_3++[(⟨1,false,x13,x16,x19,y2_1,x25,[]⟩:aP)]) λx33 =>
    iQ (x33.length<=68719476736)<|
    some (x33:List aP)).bind <| λy3_2 =>
    bnd (aW (y0_1+1)) λx36 =>
    vV a1 n (x36:Int) (y3_2:List aP)) (some (y0_3:List aP))
def BH (n:Nat) (a1:fG):Option (aA×Int) :=
(FD n a1).bind λx4 =>
bnd (!x4) λx5 =>
cond x5 (some (((⟨(⟨0,0,[],[],[]⟩:fG),[],[],[],[],0⟩:aA):aA),(1:Int))) ((show Option ((List aP)) from
vV a1 n (0:Int) (([]:List aP):List aP)).bind <| λy4_2 =>
some (((⟨a1,y4_2,[],[],[],0⟩:aA):aA),(0:Int)))
theorem aFO {n:Nat} {a1:fG} {r:aA×Int} (h0:BH n a1=some r):PP Tryz.prog 15 [.agg (fG.av a1)] (λy=>y=.bT [.agg (aA.av r.1),int r.2]):=by
  unfold BH at h0
  refine U2 (R0:=λy H=>Cv (qP H) y (.bT [.agg (aA.av r.1),int r.2])) ?_ (λy H hc=>⟨_,rfl,.bT (aLS ((λ(a:aA)=>PV.agg (aA.gJ a)) (r.1)) (fE (r.2))),hc⟩)
  refine pcw (c:=_) Tryz.func15 rfl rfl ?_;intro Q hret hnorm
  refine tc iL 2 (.mk ?_)
  refine sB 1 λv2=>?_
  refine sA 2 z32 λv3=>?_
  refine tr iL 6 (.mk ?_)
  obtain ⟨x4,e4,h0⟩:=oM h0
  refine sC ZV (aGQ _ e4) ?_
  refine nb iL h0 λx5 h0=>?_
  refine tr iL 1 (.mk ?_)
  cases x5
  replace h0:=cf h0
  refine tc iL 5 (.mk ?_)
  refine sY (wF (cs:=[int a1.gD,int a1.gP,aN 1 fI a1.cB,aN 1 (fL 1 fI) a1.Methods,aN 1 (fL 1 fI) a1.gB,.sc (.slice none 0 0),.sc (.slice none 0 0),.sc (.slice none 0 0),.sc (.slice none 0 0),int 0]) (ps:=[(0,_)]) rfl aHM z32 rfl (.cons rfl .nil) (by kernel_rfl)) ?_
  refine sA 3 z32 λv6=>?_
  refine sS ⟨32,10,true,true,v6,[[int a1.gD,int a1.gP,aN 1 fI a1.cB,aN 1 (fL 1 fI) a1.Methods,aN 1 (fL 1 fI) a1.gB,.sc (.slice none 0 0),.sc (.slice none 0 0),.sc (.slice none 0 0),.sc (.slice none 0 0),int 0]]⟩ DK ?_
  refine tr iL 5 (.mk ?_)
  refine sY (vU rfl Tryz.underlying22 rfl (XY _)) ?_
  refine tr iL 7 (.mk ?_)
  refine jn h0 [2,3,4] [2] (λ(a:(List aP)) (k:Nat)=>[]) (λa k=>[(3,⟨32,10,true,true,v6,[[int a1.gD,int a1.gP,aN 1 fI a1.cB,aN 1 (fL 1 fI) a1.Methods,aN 1 (fL 1 fI) a1.gB,.sl 11 k 0 a.length,.sc (.slice none 0 0),.sc (.slice none 0 0),.sc (.slice none 0 0),int 0]]⟩),(11,⟨60,8,true,true,k,a.map aP.av⟩)]) ⟨λj7 h1=>?_,?_⟩
  refine tc iL 1 (.mk ?_)
  refine aAI 3 0 5 11 60 8 (rows:=λv8=>[[int a1.gD,int a1.gP,aN 1 fI a1.cB,aN 1 (fL 1 fI) a1.Methods,aN 1 (fL 1 fI) a1.gB,.sl 11 v8 0 0,.sc (.slice none 0 0),.sc (.slice none 0 0),.sc (.slice none 0 0),int 0]]) rfl rfl rfl rfl (λ_=>rfl) ?_;intro v8
  refine lp (λn (a:Int×(List aP))=>vV a1 n a.1 a.2) ((0:Int),(([]:List aP):List aP)) v8 h1 [1,2,3,4,5] [1,2] (λ(a:Int×(List aP)) (k:Nat)=>[(6,int a.1)]) (λa k=>[(3,⟨32,10,true,true,v6,[[int a1.gD,int a1.gP,aN 1 fI a1.cB,aN 1 (fL 1 fI) a1.Methods,aN 1 (fL 1 fI) a1.gB,.sl 11 k 0 a.2.length,.sc (.slice none 0 0),.sc (.slice none 0 0),.sc (.slice none 0 0),int 0]]⟩),(11,⟨60,8,true,true,k,a.2.map aP.av⟩)]) (λ_=>rfl) ⟨E6,?_⟩
  rintro n ⟨y0_1,y0_3⟩ w0_2 hm h1
  replace h1:vV a1 (n+1) y0_1 y0_3=some _:=h1
  rw [vV] at h1
  refine tc iL 6 (.mk ?_)
  refine nb iL h1 λx9 h1=>?_
  refine tr iL 1 (.mk ?_)
  cases x9
  replace h1:=cf h1
  refine tc iL 2 (.mk ?_)
  exact lf h1 w0_2 E6
  replace h1:=ct h1
  refine tc iL 3 (.mk ?_)
  refine jn h1 [1,2,3,4,5,6] [1,2] (λ(a:(List aP)) (k:Nat)=>[]) (λa k=>[(3,⟨32,10,true,true,v6,[[int a1.gD,int a1.gP,aN 1 fI a1.cB,aN 1 (fL 1 fI) a1.Methods,aN 1 (fL 1 fI) a1.gB,.sl 11 k 0 a.length,.sc (.slice none 0 0),.sc (.slice none 0 0),.sc (.slice none 0 0),int 0]]⟩),(11,⟨60,8,true,true,k,a.map aP.av⟩)]) ⟨λj10 h2=>?_,?_⟩
  refine tc iL 2 (.mk ?_)
  refine aC1 [0,1,3,0,0,16,0,64,0,256,1023,0,4095] (λi k=>bif Nat.beq i 12 then (Nat.beq k 4 || Nat.beq k 5 || Nat.beq k 6 || Nat.beq k 7 || Nat.beq k 8 || Nat.beq k 9) else false) (λi=>bif Nat.beq i 2 then (some 4) else bif Nat.beq i 3 then (some 5) else bif Nat.beq i 5 then (some 6) else bif Nat.beq i 7 then (some 7) else bif Nat.beq i 9 then (some 8) else bif Nat.beq i 11 then (some 9) else bif Nat.beq i 12 then (some 9) else none) mixed (by kernel_rfl) ?_;intro C K hK
  refine wT rfl (λH hH=>vO rfl rfl) ?_
  obtain ⟨x11,e11,h2⟩:=xN h2
  refine wT rfl (λH hH=>WU rfl rfl rfl e11) ?_
  obtain ⟨pW,h2⟩:=uJ h2
  obtain ⟨x13,e13,h2⟩:=xN h2
  have lx13:x13.length=(Int.toNat x11):=by rw [<- e13];exact List.length_replicate
  refine vB rfl rfl (λH hH=>D7 (BX 4 (g:=aQ.av) (z0:=((⟨[],(⟨0,0,0⟩:kJ)⟩:aQ):aQ)) (.one _) rfl Tryz.underlying57 R9 SL rfl rfl rfl pW (.cons (.nil _) (.cons (.sc _) (.cons (.sc _) (.cons (.sc _) .nil)))) e13)) ?_;generalize C+2=v14
  obtain ⟨p15,h2⟩:=uJ h2
  obtain ⟨x16,e16,h2⟩:=xN h2
  have lx16:x16.length=(Int.toNat 17):=by rw [<- e16];exact List.length_replicate
  refine vB rfl rfl (λH hH=>D7 (BX 5 (g:=fI) (z0:=(0:Int)) (.one _) rfl Tryz.underlying22 kE nX rfl rfl rfl p15 (.cons (.sc _) .nil) e16)) ?_;generalize C+3=v17
  refine wT rfl (λH hH=>vO rfl rfl) ?_
  obtain ⟨p18,h2⟩:=uJ h2
  obtain ⟨x19,e19,h2⟩:=xN h2
  have lx19:x19.length=(Int.toNat (a1.cB.length:Int)):=by rw [<- e19];exact List.length_replicate
  refine vB rfl rfl (λH hH=>D7 (BX 6 (g:=cK.av) (z0:=((⟨0,0,0,0,0,0,0,0,0,0,0⟩:cK):cK)) (.one _) rfl Tryz.underlying58 TU VI rfl rfl rfl p18 (.cons (.sc _) (.cons (.sc _) (.cons (.sc _) (.cons (.sc _) (.cons (.sc _) (.cons (.sc _) (.cons (.sc _) (.cons (.sc _) (.cons (.sc _) (.cons (.sc _) (.cons (.sc _) .nil))))))))))) e19)) ?_;generalize C+5=v20
  refine wT rfl (λH hH=>vO rfl rfl) ?_
  obtain ⟨p21,h2⟩:=uJ h2
  obtain ⟨x22,e22,h2⟩:=xN h2
  have lx22:x22.length=(Int.toNat (a1.cB.length:Int)):=by rw [<- e22];exact List.length_replicate
  refine vB rfl rfl (λH hH=>D7 (BX 7 (g:=fI) (z0:=(0:Int)) (.one _) rfl Tryz.underlying22 kE nX rfl rfl rfl p21 (.cons (.sc _) .nil) e22)) ?_;generalize C+7=v23
  refine wT rfl (λH hH=>vO rfl rfl) ?_
  obtain ⟨p24,h2⟩:=uJ h2
  obtain ⟨x25,e25,h2⟩:=xN h2
  have lx25:x25.length=(Int.toNat (a1.cB.length:Int)):=by rw [<- e25];exact List.length_replicate
  refine vB rfl rfl (λH hH=>D7 (BX 8 (g:=fI) (z0:=(0:Int)) (.one _) rfl Tryz.underlying22 kE nX rfl rfl rfl p24 (.cons (.sc _) .nil) e25)) ?_;generalize C+9=v26
  refine wT rfl (λH hH=>wF (cs:=[int 1,bD false,.sl 4 v14 0 (Int.toNat x11),.sl 5 v17 0 (Int.toNat 17),.sl 6 v20 0 (Int.toNat (a1.cB.length:Int)),.sl 7 v23 0 (Int.toNat (a1.cB.length:Int)),.sl 8 v26 0 (Int.toNat (a1.cB.length:Int)),.sc (.slice none 0 0)]) (ps:=[(0,_),(2,_),(3,_),(4,_),(5,_),(6,_)]) rfl aWM z60 rfl (.cons rfl (.cons rfl (.cons rfl (.cons rfl (.cons rfl (.cons rfl .nil)))))) (by kernel_rfl)) ?_
  refine vB rfl rfl (λH hH=>aIK 9 rfl z60 rfl) ?_;generalize C+11=v27
  refine aSW rfl rfl rfl (λH hH=>iR (ob':=(⟨60,8,true,true,v27,[[int 1,bD false,.sl 4 v14 0 (Int.toNat x11),.sl 5 v17 0 (Int.toNat 17),.sl 6 v20 0 (Int.toNat (a1.cB.length:Int)),.sl 7 v23 0 (Int.toNat (a1.cB.length:Int)),.sl 8 v26 0 (Int.toNat (a1.cB.length:Int)),.sc (.slice none 0 0)]]⟩:bZ)) (iH rfl nY rfl rfl ((hH _ rfl).trans rfl) rfl rfl rfl rfl rfl rfl) rfl) ?_
  refine aH1 (hK _ ?_)
  refine tc iL 5 (.mk ?_)
  refine jn h2 [1,2,3,4,5,6,7] [1,2,3,4,5,6,8,11] (λ(a:(List Int)) (k:Unit)=>[]) (λa k=>[(7,⟨3,1,true,true,v23,a.map fI⟩),(9,⟨60,8,true,true,v27,[[int 1,bD false,.sl 4 v14 0 (Int.toNat x11),.sl 5 v17 0 (Int.toNat 17),.sl 6 v20 0 (Int.toNat (a1.cB.length:Int)),.sl 7 v23 0 a.length,.sl 8 v26 0 (Int.toNat (a1.cB.length:Int)),.sc (.slice none 0 0)]]⟩)]) ⟨λj28 h3=>?_,?_⟩
  refine tc iL 1 (.mk ?_)
  refine lp (λn (a:Int×(List Int))=>wW a1 n a.1 a.2) ((0:Int),(x22:List Int)) () h3 [1,2,3,4,5,6,7] [1,2,3,4,5,6,8,11] (λ(a:Int×(List Int)) (k:Unit)=>[(8,int a.1)]) (λa k=>[(7,⟨3,1,true,true,v23,a.2.map fI⟩),(9,⟨60,8,true,true,v27,[[int 1,bD false,.sl 4 v14 0 (Int.toNat x11),.sl 5 v17 0 (Int.toNat 17),.sl 6 v20 0 (Int.toNat (a1.cB.length:Int)),.sl 7 v23 0 a.2.length,.sl 8 v26 0 (Int.toNat (a1.cB.length:Int)),.sc (.slice none 0 0)]]⟩)]) (λ_=>rfl) ⟨NC ⟨⟨_,rfl,(.refl _)⟩,⟨_,rfl,(.refl _)⟩,⟨_,rfl,(.refl _)⟩,⟨_,rfl,(.refl _)⟩,⟨_,rfl,(.refl _)⟩,⟨_,rfl,(.refl _)⟩,⟨_,rfl,(.refl _)⟩,⟨_,rfl,(.refl _)⟩,trivial⟩ ⟨⟨_,rfl,(.refl _)⟩,⟨_,rfl,⟨rfl,(.cons (.cons (.refl _) (.cons (.refl _) (.cons (.refl _) (.cons (.refl _) (.cons (.refl _) (.cons (sM (Eq.symm lx22)) (.cons (.refl _) (.cons (.refl _) .nil)))))))) .nil)⟩⟩,⟨_,rfl,(.refl _)⟩,⟨_,rfl,(.refl _)⟩,⟨_,rfl,(.refl _)⟩,⟨_,rfl,(.refl _)⟩,⟨_,rfl,(.refl _)⟩,⟨_,rfl,(.refl _)⟩,⟨_,rfl,(.refl _)⟩,⟨_,rfl,(.refl _)⟩,trivial⟩,?_⟩
  rintro n ⟨y1_1,y1_2⟩ _ hm h3
  replace h3:wW a1 (n+1) y1_1 y1_2=some _:=h3
  rw [wW] at h3
  refine tc iL 5 (.mk ?_)
  refine nb iL h3 λx29 h3=>?_
  refine tr iL 1 (.mk ?_)
  cases x29
  replace h3:=cf h3
  refine tc iL 2 (.mk ?_)
  exact lf h3 () E6
  replace h3:=ct h3
  refine tc iL 8 (.mk ?_)
  obtain ⟨x30,e30,h3⟩:=oM h3
  refine sY (iJ rfl Tryz.underlying22 gI rfl rfl rfl rfl rfl (Eq.symm rfl) (List.length_map _) e30) ?_
  obtain ⟨x31,e31,h3⟩:=xN h3
  have fx31:=jW e30 e31;have lx31:=jU e31 (rfl:y1_2.length=y1_2.length)
  refine aJD rfl rfl (iR (ob':=(⟨3,1,true,true,v23,x31.map fI⟩:bZ)) (iH rfl gI rfl rfl rfl rfl rfl (fV e30) rfl rfl rfl) (jJ (kU e31))) ?_
  refine tr iL 4 (.mk ?_)
  refine ni iL h3 λx32 h3=>?_
  refine tr iL 2 (.mk ?_)
  exact bk (x32,x31) () h3 (NC ⟨⟨_,rfl,(.refl _)⟩,⟨_,rfl,(.refl _)⟩,⟨_,rfl,(.refl _)⟩,⟨_,rfl,(.refl _)⟩,⟨_,rfl,(.refl _)⟩,⟨_,rfl,(.refl _)⟩,⟨_,rfl,(.refl _)⟩,⟨_,rfl,(.refl _)⟩,trivial⟩ ⟨⟨_,rfl,(.refl _)⟩,⟨_,rfl,⟨rfl,(.cons (.cons (.refl _) (.cons (.refl _) (.cons (.refl _) (.cons (.refl _) (.cons (.refl _) (.cons (sM (Eq.symm lx31)) (.cons (.refl _) (.cons (.refl _) .nil)))))))) .nil)⟩⟩,⟨_,rfl,(.refl _)⟩,⟨_,rfl,(.refl _)⟩,⟨_,rfl,(.refl _)⟩,⟨_,rfl,(.refl _)⟩,⟨_,rfl,(.refl _)⟩,⟨_,rfl,(.refl _)⟩,⟨_,rfl,(.refl _)⟩,⟨_,rfl,(.refl _)⟩,trivial⟩)
  rintro y2_1 _ h2
  refine tc iL 4 (.mk ?_)
  refine sY (jM (ps:=[(0,_)]) (rows:=[[int 1,bD false,.sl 4 v14 0 (Int.toNat x11),.sl 5 v17 0 (Int.toNat 17),.sl 6 v20 0 (Int.toNat (a1.cB.length:Int)),.sl 7 v23 0 y2_1.length,.sl 8 v26 0 (Int.toNat (a1.cB.length:Int)),.sc (.slice none 0 0)]]) rfl Tryz.underlying27 CJ (.cons rfl .nil) (by kernel_rfl) rfl rfl rfl) ?_
  obtain ⟨x33,e33,h2⟩:=xN h2
  obtain ⟨p34,h2⟩:=uJ h2
  refine P5 rfl rfl rfl (eG.jS 4 rfl (eG.jS 5 rfl (eG.jS 6 rfl (eG.jS 7 rfl (eG.jS 8 rfl (oH (g:=aP.av) (l:=y0_3) (m:=[(⟨1,false,x13,x16,x19,y2_1,x25,[]⟩:aP)]) .any rfl Tryz.underlying27 CJ IE rfl rfl rfl rfl rfl rfl rfl rfl rfl rfl (Eq.symm rfl) (jN.list (ys:=[aP.av (⟨1,false,x13,x16,x19,y2_1,x25,[]⟩:aP)]) (.cons (qG (.cons (.refl _) (.cons (.refl _) (.cons (gQ rfl rfl rfl rfl rfl (Eq.symm lx13)) (.cons (gQ rfl rfl rfl rfl rfl (Eq.symm lx16)) (.cons (gQ rfl rfl rfl rfl rfl (Eq.symm lx19)) (.cons (gQ rfl rfl rfl rfl rfl (Eq.symm rfl)) (.cons (gQ rfl rfl rfl rfl rfl (Eq.symm lx25)) (.cons (.nil _) .nil)))))))) (aP.eP _)) .nil)) aP.one e33 p34)))))) ?_;rintro _ _ ⟨v35,-,rfl,rfl⟩
  refine tr iL 1 (.mk ?_)
  refine sS ⟨32,10,true,true,v6,[[int a1.gD,int a1.gP,aN 1 fI a1.cB,aN 1 (fL 1 fI) a1.Methods,aN 1 (fL 1 fI) a1.gB,.sl 11 v35 0 x33.length,.sc (.slice none 0 0),.sc (.slice none 0 0),.sc (.slice none 0 0),int 0]]⟩ U5 ?_
  refine tr iL 2 (.mk ?_)
  exact lf h2 v35 E6
  rintro y3_2 w3_1 h1
  refine tc iL 2 (.mk ?_)
  refine ni iL h1 λx36 h1=>?_
  refine tr iL 2 (.mk ?_)
  exact bk (x36,y3_2) w3_1 h1 E6
  rintro y4_2 w4_1 h0
  refine tc iL 3 (.mk ?_)
  refine sS ⟨32,10,true,true,v3,[[int a1.gD,int a1.gP,aN 1 fI a1.cB,aN 1 (fL 1 fI) a1.Methods,aN 1 (fL 1 fI) a1.gB,.sl 11 w4_1 0 y4_2.length,.sc (.slice none 0 0),.sc (.slice none 0 0),.sc (.slice none 0 0),int 0]]⟩ DK ?_
  refine tr iL 2 (.mk ?_)
  obtain rfl:=Q9 h0
  refine wR hret (rC DK (rT .nil)) ?_
  exact dX.bT (.cons (dX.agg (.cons (.refl _) (.cons (.refl _) (.cons (.refl _) (.cons (.refl _) (.cons (.refl _) (.cons (gQ rfl rfl rfl rfl rfl (Eq.symm rfl)) (.cons (.nil _) (.cons (.nil _) (.cons (.nil _) (.cons (.refl _) .nil))))))))))) (.cons (.refl _) .nil))
  replace h0:=ct h0
  refine tc iL 3 (.mk ?_)
  refine sY (wF (cs:=[int 0,int 0,.sc (.slice none 0 0),.sc (.slice none 0 0),.sc (.slice none 0 0),.sc (.slice none 0 0),.sc (.slice none 0 0),.sc (.slice none 0 0),.sc (.slice none 0 0),int 0]) (ps:=[]) rfl aHM z32 rfl .nil (by kernel_rfl)) ?_
  refine sS ⟨32,10,true,true,v3,[[int 0,int 0,.sc (.slice none 0 0),.sc (.slice none 0 0),.sc (.slice none 0 0),.sc (.slice none 0 0),.sc (.slice none 0 0),.sc (.slice none 0 0),.sc (.slice none 0 0),int 0]]⟩ DK ?_
  refine tr iL 2 (.mk ?_)
  obtain rfl:=Q9 h0
  refine wR hret (rC DK (rT .nil)) ?_
  exact dX.bT (.cons (dX.agg (.cons (.refl _) (.cons (.refl _) (.cons (.nil _) (.cons (.nil _) (.cons (.nil _) (.cons (.nil _) (.cons (.nil _) (.cons (.nil _) (.cons (.nil _) (.cons (.refl _) .nil))))))))))) (.cons (.refl _) .nil))
def aIA (a1:fG) (a2:Int):WB (bM) :=
 .al 1<|.al 2<|.cl 14 (zL a2 1099511627776) IF I5 λx5=>.dr [(2,[1]),(3,[1]),(7,[1]),(8,[1])] [] [1] [] [0,1,2,3,4,5,6,7,8,9,10,11,12,13,14,15,16,17] (.bI 16 (aW (x5.tdiv 32)) λx6=>.as (a1.gD≠0) inferInstance<|.bl (x6.tmod a1.gD:Int) λx8=>.gv 19<|.bI 21 (aW (x5.tdiv 128)) λx9=>.ln 24 fI a1.cB<|.as ((a1.cB.length:Int)≠0) inferInstance<|.bl (x9.tmod (a1.cB.length:Int):Int) λx11=>.gv 25<|.bI 27 (aW (x5.tdiv 1024)) λx12=>.bI 28 (x12.tmod 8) λx13=>.bI 29 (aW (x13.tdiv 7)) λx14=>.bI 31 (aW (x5.tdiv 8192)) λx15=>.bI 32 (x15.tmod 24) λx16=>.bI 33 (aW (1+x16)) λx17=>.bI 35 (aW (x5.tdiv 196608)) λx18=>.bI 36 (x18.tmod 900) λx19=>.bI 38 (aW (x5.tdiv 7000000)) λx20=>.bI 39 (x20.tmod 12) λx21=>.bI 41 (x5.tmod 32) λx22=>.bB 44 (decide (x22<8)) λx23=>.ifs [44] x23 (.ret (((⟨1,x8,x11,x14,0,x17,x19,0,[]⟩:bM):bM))) (.bB 53 (decide (x22<11)) λx24=>.ifs [53] x24 (.bI 56 (aW (x17.tdiv 3)) λx25=>.bI 57 (aW (1+x25)) λx26=>.ret (((⟨2,0,0,0,0,x26,x19,x21,[]⟩:bM):bM))) (.bB 62 (decide (x22=11)) λx27=>.ifs [62] x27 (.bI 65 (aW (x17.tdiv 6)) λx28=>.bI 66 (aW (1+x28)) λx29=>.ret (((⟨3,0,0,0,0,x29,0,x21,[]⟩:bM):bM))) (.bB 70 (decide (x22<17)) λx30=>.ifs [70] x30 (.bI 75 (aW (x17.tdiv 3)) λx31=>.bI 76 (aW (1+x31)) λx32=>.ret (((⟨4,x8,x11,x14,0,x32,x19,0,[]⟩:bM):bM))) (.bB 81 (decide (x22<19)) λx33=>.ifs [81] x33 (.bI 84 (aW (x17.tdiv 8)) λx34=>.bI 85 (aW (1+x34)) λx35=>.ret (((⟨5,0,0,0,0,x35,x19,x21,[]⟩:bM):bM))) (.bB 90 (decide (x22=19)) λx36=>.ifs [90] x36 (.bI 95 (aW (x17.tdiv 8)) λx37=>.bI 96 (aW (1+x37)) λx38=>.ret (((⟨6,x8,x11,x14,0,x38,0,0,[]⟩:bM):bM))) (.bB 100 (decide (x22=20)) λx39=>.ifs [100] x39 (.bI 105 (aW (x17-1)) λx40=>.ret (((⟨7,x8,x11,x14,0,x40,0,0,[]⟩:bM):bM))) (.bB 109 (decide (x22=21)) λx41=>.ifs [109] x41 (.bI 114 (aW (1-x14)) λx42=>.bI 116 (aW (x17.tdiv 3)) λx43=>.bI 117 (aW (1+x43)) λx44=>.ret (((⟨8,x8,x11,x14,x42,x44,0,0,[]⟩:bM):bM))) (.bB 121 (decide (x22=22)) λx45=>.ifs [121] x45 (.bI 125 (x19.tmod 60) λx46=>.ret (((⟨9,x8,x11,0,0,0,x46,0,[]⟩:bM):bM))) (.bB 129 (decide (x22=23)) λx47=>.ifs [129] x47 (.bI 133 (x19.tmod 60) λx48=>.ret (((⟨10,x8,x11,0,0,0,x48,0,[]⟩:bM):bM))) (.bB 137 (decide (x22=24)) λx49=>.ifs [137] x49 (.to 139 (aN 1 fI ([x21]:List Int))<|.bI 142 (aW (x21+1)) λx50=>.bI 143 (x50.tmod 12) λx51=>.to 144 (aN 1 fI ([x21,x51]:List Int))<|.bI 146 (aW (x21+1)) λx52=>.bI 148 (aW (x21+2)) λx53=>.to 149 (aN 1 fI ([0,x52,x53]:List Int))<|.gv 150<|.bI 152 (x17.tmod 3) λx54=>.bo (ix ([([x21]:List Int),([x21,x51]:List Int),([0,x52,x53]:List Int)]:List (List Int)) x54) λx55=>.gv 153<|.bI 155 (x19.tmod 3) λx56=>.ret (((⟨11,0,0,0,x56,0,x19,0,x55⟩:bM):bM))) (.bB 160 (decide (x22<27)) λx57=>.ifs [160] x57 (.dr [(6,[1]),(7,[1]),(11,[1]),(12,[1])] [(19,[])] [1] [19] [0,1,2,3,4,5,6,7,8,9,10,11,12,13,14,15,16,17,18,19] (.bI 165 (aW (x8+1)) λx58=>.bI 169 (aW (a1.gD-1)) λx59=>.as (x59≠0) inferInstance<|.bl (x19.tmod x59:Int) λx61=>.gv 170<|.bI 171 (aW (x58+x61)) λx62=>.as (a1.gD≠0) inferInstance<|.bl (x62.tmod a1.gD:Int) λx64=>.gv 174<|.bI 176 (aW (x17.tdiv 3)) λx65=>.bI 177 (aW (1+x65)) λx66=>.ret (((⟨12,x8,x11,x14,x64,x66,x19,0,[]⟩:bM):bM)))) (.bB 182 (decide (x22<29)) λx67=>.ifs [182] x67 (.bI 186 (aW (x17.tdiv 4)) λx68=>.bI 187 (aW (1+x68)) λx69=>.ret (((⟨13,0,0,x14,0,x69,0,x21,[]⟩:bM):bM))) (.bB 191 (decide (x22=29)) λx70=>.ifs [191] x70 (.ret (((⟨14,x8,0,0,0,0,0,0,[]⟩:bM):bM))) (.bB 196 (decide (x22=30)) λx71=>.ifs [196] x71 (.ret (((⟨15,x8,0,0,0,0,0,0,[]⟩:bM):bM))) (.ret (((⟨16,x8,0,0,0,0,0,0,[]⟩:bM):bM))))))))))))))))))
def zM (a1:fG) (a2:Int):Option (bM):=(aIA a1 a2).run
theorem K7 {a1 a2}:PZ (zM a1 a2) 11 [.agg (fG.av a1),int a2] (λr=>.agg (bM.av r)):=by
 refine wm Tryz.func11 ?_
 intro v3
 intro v4
 refine .mk λx5 e5=>?_
 refine .mk ?_
 refine .mk λx6=>?_
 refine .mk λp7=>?_
 refine .mk λx8 e8=>?_
 refine .mk _ (λH hH _=>yV rfl rfl rfl p7 e8) ?_
 refine .mk λx9=>?_
 refine .mk ?_
 refine .mk λxS=>?_
 refine .mk λx11 e11=>?_
 refine .mk _ (λH hH _=>yV rfl rfl rfl xS e11) ?_
 refine .mk λx12=>?_
 refine .mk λx13=>?_
 refine .mk λx14=>?_
 refine .mk λx15=>?_
 refine .mk λx16=>?_
 refine .mk λx17=>?_
 refine .mk λx18=>?_
 refine .mk λx19=>?_
 refine .mk λx20=>?_
 refine .mk λx21=>?_
 refine .mk λx22=>?_
 refine .mk λx23=>?_
 refine .mk ?_ ?_
 exact .mk (dX.agg (.cons (.refl _) (.cons (.refl _) (.cons (.refl _) (.cons (.refl _) (.cons (.refl _) (.cons (.refl _) (.cons (.refl _) (.cons (.refl _) (.cons (.nil _) .nil))))))))))
 refine .mk λx24=>?_
 refine .mk ?_ ?_
 refine .mk λx25=>?_
 refine .mk λx26=>?_
 exact .mk (dX.agg (.cons (.refl _) (.cons (.refl _) (.cons (.refl _) (.cons (.refl _) (.cons (.refl _) (.cons (.refl _) (.cons (.refl _) (.cons (.refl _) (.cons (.nil _) .nil))))))))))
 refine .mk λx27=>?_
 refine .mk ?_ ?_
 refine .mk λx28=>?_
 refine .mk λx29=>?_
 exact .mk (dX.agg (.cons (.refl _) (.cons (.refl _) (.cons (.refl _) (.cons (.refl _) (.cons (.refl _) (.cons (.refl _) (.cons (.refl _) (.cons (.refl _) (.cons (.nil _) .nil))))))))))
 refine .mk λx30=>?_
 refine .mk ?_ ?_
 refine .mk λx31=>?_
 refine .mk λx32=>?_
 exact .mk (dX.agg (.cons (.refl _) (.cons (.refl _) (.cons (.refl _) (.cons (.refl _) (.cons (.refl _) (.cons (.refl _) (.cons (.refl _) (.cons (.refl _) (.cons (.nil _) .nil))))))))))
 refine .mk λx33=>?_
 refine .mk ?_ ?_
 refine .mk λx34=>?_
 refine .mk λx35=>?_
 exact .mk (dX.agg (.cons (.refl _) (.cons (.refl _) (.cons (.refl _) (.cons (.refl _) (.cons (.refl _) (.cons (.refl _) (.cons (.refl _) (.cons (.refl _) (.cons (.nil _) .nil))))))))))
 refine .mk λx36=>?_
 refine .mk ?_ ?_
 refine .mk λx37=>?_
 refine .mk λx38=>?_
 exact .mk (dX.agg (.cons (.refl _) (.cons (.refl _) (.cons (.refl _) (.cons (.refl _) (.cons (.refl _) (.cons (.refl _) (.cons (.refl _) (.cons (.refl _) (.cons (.nil _) .nil))))))))))
 refine .mk λx39=>?_
 refine .mk ?_ ?_
 refine .mk λx40=>?_
 exact .mk (dX.agg (.cons (.refl _) (.cons (.refl _) (.cons (.refl _) (.cons (.refl _) (.cons (.refl _) (.cons (.refl _) (.cons (.refl _) (.cons (.refl _) (.cons (.nil _) .nil))))))))))
 refine .mk λx41=>?_
 refine .mk ?_ ?_
 refine .mk λx42=>?_
 refine .mk λx43=>?_
 refine .mk λx44=>?_
 exact .mk (dX.agg (.cons (.refl _) (.cons (.refl _) (.cons (.refl _) (.cons (.refl _) (.cons (.refl _) (.cons (.refl _) (.cons (.refl _) (.cons (.refl _) (.cons (.nil _) .nil))))))))))
 refine .mk λx45=>?_
 refine .mk ?_ ?_
 refine .mk λx46=>?_
 exact .mk (dX.agg (.cons (.refl _) (.cons (.refl _) (.cons (.refl _) (.cons (.refl _) (.cons (.refl _) (.cons (.refl _) (.cons (.refl _) (.cons (.refl _) (.cons (.nil _) .nil))))))))))
 refine .mk λx47=>?_
 refine .mk ?_ ?_
 refine .mk λx48=>?_
 exact .mk (dX.agg (.cons (.refl _) (.cons (.refl _) (.cons (.refl _) (.cons (.refl _) (.cons (.refl _) (.cons (.refl _) (.cons (.refl _) (.cons (.refl _) (.cons (.nil _) .nil))))))))))
 refine .mk λx49=>?_
 refine .mk ?_ ?_
 refine .mk (fD (jY (y:=aN 1 fI ([x21]:List Int)) (jM (ps:=[(0,_)]) (rows:=[[int x21]]) rfl Tryz.underlying22 kE (.cons rfl .nil) (by kernel_rfl) rfl rfl rfl) rfl)) ?_
 refine .mk λx50=>?_
 refine .mk λx51=>?_
 refine .mk (fD (jY (y:=aN 1 fI ([x21,x51]:List Int)) (jM (ps:=[(0,_),(1,_)]) (rows:=[[int x21],[int x51]]) rfl Tryz.underlying22 kE (.cons rfl (.cons rfl .nil)) (by kernel_rfl) rfl rfl rfl) rfl)) ?_
 refine .mk λx52=>?_
 refine .mk λx53=>?_
 refine .mk (fD (jY (y:=aN 1 fI ([0,x52,x53]:List Int)) (jM (ps:=[(0,_),(1,_),(2,_)]) (rows:=[[int 0],[int x52],[int x53]]) rfl Tryz.underlying22 kE (.cons rfl (.cons rfl (.cons rfl .nil))) (by kernel_rfl) rfl rfl rfl) rfl)) ?_
 refine .mk _ (fD (FE (cs:=[aN 1 fI ([x21]:List Int),aN 1 fI ([x21,x51]:List Int),aN 1 fI ([0,x52,x53]:List Int)]) (ps:=[(0,_),(1,_),(2,_)]) rfl Tryz.underlying63 oJ z63 rfl (.cons rfl (.cons rfl (.cons rfl .nil))) (by kernel_rfl))) ?_
 refine .mk λx54=>?_
 refine .mk λx55 e55=>?_
 refine .mk _ (fD (OW (g:=(fL 1 fI)) (l:=([([x21]:List Int),([x21,x51]:List Int),([0,x52,x53]:List Int)]:List (List Int))) (v:=x55) (w:=aN 1 fI x55) rfl Tryz.underlying63 oJ rfl rfl rfl e55 (λ_=>rfl) hw1)) ?_
 refine .mk λx56=>?_
 exact .mk
 refine .mk λx57=>?_
 refine .mk ?_ ?_
 refine .mk ?_
 refine .mk λx58=>?_
 refine .mk λx59=>?_
 refine .mk λp60=>?_
 refine .mk λx61 e61=>?_
 refine .mk _ (λH hH _=>yV rfl rfl rfl p60 e61) ?_
 refine .mk λx62=>?_
 refine .mk λp63=>?_
 refine .mk λx64 e64=>?_
 refine .mk _ (λH hH _=>yV rfl rfl rfl p63 e64) ?_
 refine .mk λx65=>?_
 refine .mk λx66=>?_
 exact .mk (dX.agg (.cons (.refl _) (.cons (.refl _) (.cons (.refl _) (.cons (.refl _) (.cons (.refl _) (.cons (.refl _) (.cons (.refl _) (.cons (.refl _) (.cons (.nil _) .nil))))))))))
 refine .mk λx67=>?_
 refine .mk ?_ ?_
 refine .mk λx68=>?_
 refine .mk λx69=>?_
 exact .mk (dX.agg (.cons (.refl _) (.cons (.refl _) (.cons (.refl _) (.cons (.refl _) (.cons (.refl _) (.cons (.refl _) (.cons (.refl _) (.cons (.refl _) (.cons (.nil _) .nil))))))))))
 refine .mk λx70=>?_
 refine .mk ?_ ?_
 exact .mk (dX.agg (.cons (.refl _) (.cons (.refl _) (.cons (.refl _) (.cons (.refl _) (.cons (.refl _) (.cons (.refl _) (.cons (.refl _) (.cons (.refl _) (.cons (.nil _) .nil))))))))))
 refine .mk λx71=>?_
 refine .mk ?_ ?_
 exact .mk (dX.agg (.cons (.refl _) (.cons (.refl _) (.cons (.refl _) (.cons (.refl _) (.cons (.refl _) (.cons (.refl _) (.cons (.refl _) (.cons (.refl _) (.cons (.nil _) .nil))))))))))
 exact .mk (dX.agg (.cons (.refl _) (.cons (.refl _) (.cons (.refl _) (.cons (.refl _) (.cons (.refl _) (.cons (.refl _) (.cons (.refl _) (.cons (.refl _) (.cons (.nil _) .nil))))))))))
def YM (n:Nat) (a1:fG) (a2:List Int):WB ((List bM)) :=
 .al 1<|.jn 2 [4] [] [3] (λu6 (a:(List bM))=>[(5,.sl 3 (u6 3) 0 a.length)]) (λ_ a=>[.nw 3 35 9 (a.map bM.av)]) (.no 5 3 35 9<|.lp [1,2,4] [1] [3] (λu10 (a:Int×(List bM))=>[(5,.sl 3 (u10 3) 0 a.2.length),(6,int a.1)]) (λ_ a=>[.nw 3 35 9 (a.2.map bM.av)]) n ((0:Int),(([]:List bM):List bM)) (pw λy0_2 y0_3=>.jn 0 [1,2,4,5,6] [1,3] [] (λ_ (a:Bool)=>[(14,bD a)]) (λ_ _=>[]) (.ln 9 fI a2<|.bB 10 (decide (y0_2<(a2.length:Int))) λx5=>.ifs [10] x5 (.bB 13 (decide (y0_2<120)) λx6=>.ret x6) (.ret false)) (λy1_1=>.ifs [14] y1_1 (.dr [(1,[1])] [(8,[])] [1] [8] [0,1,2,3,4,5,6,7,8,9] (.ix 21 fI a2 y0_2 λx7=>.cl 23 (zM a1 x7) KS K7 λx8=>.to 24 (aN 9 bM.av ([x8]:List bM))<|.bl (y0_3++([x8]:List bM):List bM) λx9=>.as (x9.length<=68719476736) inferInstance<|.ge 25 0<|.bI 16 (aW (y0_2+1)) λx12=>.brk ((x12:Int),x9))) (.esc (.ret y0_3))))) (λy2_2=>.ret ((y2_2:List bM)))
def MF (n:Nat) (a1:fG) (a2:List Int):Option ((List bM)):=(YM n a1 a2).run
theorem aU2 {n a1 a2}:PZ (MF n a1 a2) 16 [.agg (fG.av a1),aN 1 fI a2] (λr=>aN 9 bM.av r):=wq Tryz.func16
def aCQ (a1:Int):WB ((List UInt8)) :=
 .bB 5 (decide (a1=1)) λx2=>.jn 0 [2,3] [] [] (λ_ (a:Bool)=>[(4,bD a)]) (λ_ _=>[]) (.ifs [4,5] x2 (.ret true) (.bB 6 (decide (a1=4)) λx3=>.ret x3)) (λy0_1=>.ifs [4] y0_1 (.ret ((([101,105,108,113,97]:List UInt8):List UInt8))) (.bB 8 (decide (a1=2)) λx4=>.jn 0 [2,3] [] [] (λ_ (a:Bool)=>[(7,bD a)]) (λ_ _=>[]) (.ifs [7,8] x4 (.ret true) (.bB 9 (decide (a1=5)) λx5=>.ret x5)) (λy1_1=>.ifs [7] y1_1 (.ret ((([113,97,114]:List UInt8):List UInt8))) (.bB 11 (decide (a1=3)) λx6=>.ifs [11] x6 (.ret ((([113,114]:List UInt8):List UInt8))) (.bB 13 (decide (a1=6)) λx7=>.jn 0 [2,3] [] [] (λ_ (a:Bool)=>[(12,bD a)]) (λ_ _=>[]) (.ifs [12,13] x7 (.ret true) (.bB 14 (decide (a1=7)) λx8=>.ret x8)) (λy2_1=>.ifs [12] y2_1 (.ret ((([101,105,108,113]:List UInt8):List UInt8))) (.bB 16 (decide (a1=8)) λx9=>.ifs [16] x9 (.ret ((([101,105,108,116,113]:List UInt8):List UInt8))) (.bB 18 (decide (a1=9)) λx10=>.jn 0 [2,3] [] [] (λ_ (a:Bool)=>[(17,bD a)]) (λ_ _=>[]) (.ifs [17,18] x10 (.ret true) (.bB 19 (decide (a1=10)) λx11=>.ret x11)) (λy3_1=>.ifs [17] y3_1 (.ret ((([101,105,97]:List UInt8):List UInt8))) (.bB 21 (decide (a1=11)) λx12=>.ifs [21] x12 (.ret ((([116,97,115]:List UInt8):List UInt8))) (.bB 23 (decide (a1=12)) λx13=>.ifs [23] x13 (.ret ((([101,105,108,116,113,97]:List UInt8):List UInt8))) (.bB 25 (decide (a1=13)) λx14=>.ifs [25] x14 (.ret ((([108,113,114]:List UInt8):List UInt8))) (.bB 27 (decide (a1=14)) λx15=>.jn 0 [2] [] [] (λ_ (a:Bool)=>[(26,bD a)]) (λ_ _=>[]) (.ifs [26,27] x15 (.ret true) (.bB 28 (decide (a1=15)) λx16=>.ifs [28] x16 (.ret true) (.bB 29 (decide (a1=16)) λx17=>.ret x17))) (λy4_1=>.ifs [26] y4_1 (.ret ((([101]:List UInt8):List UInt8))) (.ret ((([]:List UInt8):List UInt8)))))))))))))))))
def ME (a1:Int):Option ((List UInt8)):=(aCQ a1).run
theorem aXG {a1}:PZ (ME a1) 18 [int a1] str:=wq Tryz.func18
def XK (a1:bM):WB (Bool) :=
 .al 1<|.bB 6 (decide (a1.Kind=8)) λx3=>.ifs [6] x3 (.jn 1 [1] [1] [] (λ_ (a:Bool)=>[(2,bD a)]) (λ_ _=>[]) (.bB 9 (decide (a1.To>=0)) λx4=>.ifs [9] x4 (.bB 13 (decide (a1.To<2)) λx5=>.ifs [13] x5 (.bB 20 (decide (a1.To≠a1.Loc)) λx6=>.ret x6) (.ret false)) (.ret false)) (λy0_1=>.ret ((y0_1:Bool)))) (.bB 23 (decide (a1.Kind=12)) λx7=>.ifs [23] x7 (.jn 1 [1] [1] [] (λ_ (a:Bool)=>[(2,bD a)]) (λ_ _=>[]) (.bB 26 (decide (a1.To>=0)) λx8=>.ifs [26] x8 (.bB 30 (decide (a1.To<4)) λx9=>.ifs [30] x9 (.bB 37 (decide (a1.To≠a1.E)) λx10=>.ret x10) (.ret false)) (.ret false)) (λy1_1=>.ret ((y1_1:Bool)))) (.jn 1 [] [] [] (λ_ (a:Bool)=>[(2,bD a)]) (λ_ _=>[]) (.bB 41 (decide (a1.To>=0)) λx11=>.ifs [41] x11 (.bB 45 (decide (a1.To<=2)) λx12=>.ret x12) (.ret false)) (λy2_1=>.ret ((y2_1:Bool)))))
def IP (a1:bM):Option (Bool):=(XK a1).run
theorem aZN {a1}:PZ (IP a1) 32 [.agg (bM.av a1)] bD:=wq Tryz.func32
def YW (n:Nat) (a1:List Int):WB (Bool) :=
 .eZ 2 [0,2] [] [] (λ_ (a:Unit)=>[]) (λ_ _=>[]) (.lp [0,2] [] [] (λ_ (a:Int)=>[(3,int a)]) (λ_ _=>[]) n 0 (λy0_1=>.ln 7 fI a1<|.bB 8 (decide (y0_1<(a1.length:Int))) λx2=>.ifs [8] x2 (.eZ 1 [0,2,3] [] [] (λ_ (a:Unit)=>[]) (λ_ _=>[]) (.jn 1 [0,2,3] [] [] (λ_ (a:Bool)=>[(22,bD a)]) (λ_ _=>[]) (.ix 13 fI a1 y0_1 λx3=>.bB 15 (decide (x3<0)) λx4=>.ifs [15] x4 (.ret true) (.ix 19 fI a1 y0_1 λx5=>.bB 21 (decide (x5>=40)) λx6=>.ret x6)) (λy1_1=>.ifs [22] y1_1 (.esc (.esc (.esc (.ret ((false:Bool)))))) (.eZ 2 [0,2,3] [] [] (λ_ (a:Unit)=>[]) (λ_ _=>[]) (.lp [0,2,3] [] [] (λ_ (a:Int)=>[(4,int a)]) (λ_ _=>[]) n 0 (λy2_1=>.bB 25 (decide (y2_1<y0_1)) λx7=>.ifs [25] x7 (.dr [] [] [] [] [0,1,2,3,4,5,6,7,8] (.ix 30 fI a1 y2_1 λx8=>.ix 34 fI a1 y0_1 λx9=>.bB 36 (decide (x8=x9)) λx10=>.ifs [36] x10 (.esc (.esc (.esc (.esc (.esc (.ret ((false:Bool)))))))) (.bI 27 (aW (y2_1+1)) λx11=>.brk x11))) (.esc (.brk ())))) (λ_=>.brk ())))) (λ_=>.bI 10 (aW (y0_1+1)) λx12=>.brk x12)) (.esc (.brk ())))) (λ_=>.jn 0 [] [] [] (λ_ (a:Bool)=>[(2,bD a)]) (λ_ _=>[]) (.ln 38 fI a1<|.bB 39 (decide ((a1.length:Int)>=1)) λx13=>.ifs [39] x13 (.ln 42 fI a1<|.bB 43 (decide ((a1.length:Int)<=40)) λx14=>.ret x14) (.ret false)) (λy6_1=>.ret ((y6_1:Bool))))
def KD (n:Nat) (a1:List Int):Option (Bool):=(YW n a1).run
theorem a0F {n a1}:PZ (KD n a1) 33 [aN 1 fI a1] bD:=wq Tryz.func33
def aG6 (n:Nat) (a1:bM) (a2:bM) (a3:Int):WB (bM×Bool) :=
 .al 1<|.al 2<|.al 3<|.bB 10 (decide (a3=101)) λx7=>.ifs [10] x7 (.jn 2 [3,4,6] [1,2] [] (λ_ (a:Bool)=>[(7,bD a)]) (λ_ _=>[.kp 3 [[int a2.Kind,int a1.E,int a2.Item,int a2.Loc,int a2.To,int a2.aI,int a2.bO,int a2.Ref,aN 1 fI a2.eY]]]) (.dr [(0,[2]),(1,[1]),(2,[1]),(5,[1]),(6,[1])] [(9,[1])] [1,2] [9] [0,1,2,3,4,5,6,7,8,9,10] (.bB 17 (decide (a1.E>=0)) λx8=>.ifs [17] x8 (.bB 21 (decide (a1.E<4)) λx9=>.ret x9) (.ret false))) (λy0_1=>.ret (((⟨a2.Kind,a1.E,a2.Item,a2.Loc,a2.To,a2.aI,a2.bO,a2.Ref,a2.eY⟩:bM):bM),y0_1))) (.bB 24 (decide (a3=105)) λx10=>.ifs [24] x10 (.jn 2 [3,4,6] [1,2] [] (λ_ (a:Bool)=>[(7,bD a)]) (λ_ _=>[.kp 3 [[int a2.Kind,int a2.E,int a1.Item,int a2.Loc,int a2.To,int a2.aI,int a2.bO,int a2.Ref,aN 1 fI a2.eY]]]) (.dr [(0,[2]),(1,[1]),(2,[1]),(5,[1]),(6,[1])] [(9,[1])] [1,2] [9] [0,1,2,3,4,5,6,7,8,9,10] (.bB 31 (decide (a1.Item>=0)) λx11=>.ifs [31] x11 (.bB 35 (decide (a1.Item<5)) λx12=>.ret x12) (.ret false))) (λy1_1=>.ret (((⟨a2.Kind,a2.E,a1.Item,a2.Loc,a2.To,a2.aI,a2.bO,a2.Ref,a2.eY⟩:bM):bM),y1_1))) (.bB 38 (decide (a3=108)) λx13=>.ifs [38] x13 (.jn 2 [3,4,6] [1,2] [] (λ_ (a:Bool)=>[(7,bD a)]) (λ_ _=>[.kp 3 [[int a2.Kind,int a2.E,int a2.Item,int a1.Loc,int a2.To,int a2.aI,int a2.bO,int a2.Ref,aN 1 fI a2.eY]]]) (.dr [(0,[2]),(1,[1]),(2,[1]),(5,[1]),(6,[1])] [(9,[1])] [1,2] [9] [0,1,2,3,4,5,6,7,8,9,10] (.bB 45 (decide (a1.Loc>=0)) λx14=>.ifs [45] x14 (.bB 49 (decide (a1.Loc<2)) λx15=>.ret x15) (.ret false))) (λy2_1=>.ret (((⟨a2.Kind,a2.E,a2.Item,a1.Loc,a2.To,a2.aI,a2.bO,a2.Ref,a2.eY⟩:bM):bM),y2_1))) (.bB 52 (decide (a3=116)) λx16=>.ifs [52] x16 (.dr [(0,[2]),(1,[1])] [(3,[])] [1,2] [3] [0,1,2,3,4] (.cl 58 (IP a1) aYI aZN λx17=>.ret (((⟨a2.Kind,a2.E,a2.Item,a2.Loc,a1.To,a2.aI,a2.bO,a2.Ref,a2.eY⟩:bM):bM),x17))) (.bB 60 (decide (a3=113)) λx18=>.ifs [60] x18 (.jn 2 [3,4,6] [1,2] [] (λ_ (a:Bool)=>[(7,bD a)]) (λ_ _=>[.kp 3 [[int a2.Kind,int a2.E,int a2.Item,int a2.Loc,int a2.To,int a1.aI,int a2.bO,int a2.Ref,aN 1 fI a2.eY]]]) (.dr [(0,[2]),(1,[1]),(2,[1]),(5,[1]),(6,[1]),(9,[1]),(10,[1]),(13,[1]),(14,[1])] [(19,[1])] [1,2] [19] [0,1,2,3,4,5,6,7,8,9,10,11,12,13,14,15,16,17,18,19,20] (.bB 67 (decide (a1.aI<=1073741824)) λx19=>.ifs [67] x19 (.bB 71 (decide (a1.aI>=1)) λx20=>.ifs [71] x20 (.ret true) (.bB 75 (decide (a1.aI=0)) λx21=>.ifs [75] x21 (.bB 79 (decide (a1.Kind=7)) λx22=>.ret x22) (.ret false))) (.ret false))) (λy3_1=>.ret (((⟨a2.Kind,a2.E,a2.Item,a2.Loc,a2.To,a1.aI,a2.bO,a2.Ref,a2.eY⟩:bM):bM),y3_1))) (.bB 84 (decide (a3=97)) λx23=>.ifs [84] x23 (.jn 2 [3,4,6] [1,2] [] (λ_ (a:Bool)=>[(7,bD a)]) (λ_ _=>[.kp 3 [[int a2.Kind,int a2.E,int a2.Item,int a2.Loc,int a2.To,int a2.aI,int a1.bO,int a2.Ref,aN 1 fI a2.eY]]]) (.dr [(0,[2]),(1,[1]),(2,[1]),(5,[1]),(6,[1]),(10,[1]),(11,[1]),(14,[1]),(15,[1]),(18,[1]),(19,[1])] [(24,[1])] [1,2] [24] [0,1,2,3,4,5,6,7,8,9,10,11,12,13,14,15,16,17,18,19,20,21,22,23,24,25] (.bB 91 (decide (a1.bO>=0)) λx24=>.ifs [91] x24 (.bB 95 (decide (a1.bO<=1125899906842624)) λx25=>.ifs [95] x25 (.bB 100 (decide (a1.bO<=1073741824)) λx26=>.ifs [100] x26 (.ret true) (.bB 104 (decide (a1.Kind≠9)) λx27=>.ifs [104] x27 (.bB 108 (decide (a1.Kind≠10)) λx28=>.ret x28) (.ret false))) (.ret false)) (.ret false))) (λy4_1=>.ret (((⟨a2.Kind,a2.E,a2.Item,a2.Loc,a2.To,a2.aI,a1.bO,a2.Ref,a2.eY⟩:bM):bM),y4_1))) (.bB 113 (decide (a3=114)) λx29=>.ifs [113] x29 (.jn 2 [3,4,6] [1,2] [] (λ_ (a:Bool)=>[(7,bD a)]) (λ_ _=>[.kp 3 [[int a2.Kind,int a2.E,int a2.Item,int a2.Loc,int a2.To,int a2.aI,int a2.bO,int a1.Ref,aN 1 fI a2.eY]]]) (.dr [(0,[2]),(1,[1]),(2,[1]),(5,[1]),(6,[1])] [(9,[1])] [1,2] [9] [0,1,2,3,4,5,6,7,8,9,10] (.bB 120 (decide (a1.Ref>=0)) λx30=>.ifs [120] x30 (.bB 124 (decide (a1.Ref<40)) λx31=>.ret x31) (.ret false))) (λy5_1=>.ret (((⟨a2.Kind,a2.E,a2.Item,a2.Loc,a2.To,a2.aI,a2.bO,a1.Ref,a2.eY⟩:bM):bM),y5_1))) (.dr [(0,[2]),(1,[1]),(2,[1])] [(4,[])] [1,2] [4] [0,1,2,3,4,5] (.cl 132 (KD n a1.eY) aW1 a0F λx32=>.ret (((⟨a2.Kind,a2.E,a2.Item,a2.Loc,a2.To,a2.aI,a2.bO,a2.Ref,a1.eY⟩:bM):bM),x32)))))))))
def J2 (n:Nat) (a1:bM) (a2:bM) (a3:Int):Option (bM×Bool):=(aG6 n a1 a2 a3).run
theorem aRA {n a1 a2 a3}:PZ (J2 n a1 a2 a3) 19 [.agg (bM.av a1),.agg (bM.av a2),.sc (.int .u8 a3)] (λr=>.bT [.agg (bM.av r.1),bD r.2]):=wq Tryz.func19
def UX (n:Nat) (a1:List Int) (a2:List Int):WB (Bool) :=
 .ln 7 fI a1<|.ln 9 fI a2<|.bB 10 (decide ((a1.length:Int)≠(a2.length:Int))) λx3=>.ifs [10] x3 (.ret ((false:Bool))) (.eZ 2 [4] [] [] (λ_ (a:Unit)=>[]) (λ_ _=>[]) (.lp [0,1,4] [] [] (λ_ (a:Int)=>[(5,int a)]) (λ_ _=>[]) n 0 (λy0_1=>.ln 13 fI a1<|.bB 14 (decide (y0_1<(a1.length:Int))) λx4=>.ifs [14] x4 (.dr [] [] [] [] [0,1,2,3,4,5,6,7,8] (.ix 19 fI a1 y0_1 λx5=>.ix 23 fI a2 y0_1 λx6=>.bB 25 (decide (x5≠x6)) λx7=>.ifs [25] x7 (.esc (.esc (.ret ((false:Bool))))) (.bI 16 (aW (y0_1+1)) λx8=>.brk x8))) (.esc (.brk ())))) (λ_=>.ret ((true:Bool))))
def sD (n:Nat) (a1:List Int) (a2:List Int):Option (Bool):=(UX n a1 a2).run
theorem CZ {n a1 a2}:PZ (sD n a1 a2) 34 [aN 1 fI a1,aN 1 fI a2] bD:=wq Tryz.func34
def aDM (n:Nat) (a1:bM) (a2:bM):WB (Bool) :=
 .al 1<|.al 2<|.jn 0 [] [] [] (λ_ (a:Bool)=>[(4,bD a)]) (λ_ _=>[]) (.bB 9 (decide (a1.Kind=a2.Kind)) λx5=>.ifs [9] x5 (.bB 15 (decide (a1.E=a2.E)) λx6=>.ifs [15] x6 (.bB 22 (decide (a1.Item=a2.Item)) λx7=>.ifs [22] x7 (.bB 29 (decide (a1.Loc=a2.Loc)) λx8=>.ifs [29] x8 (.bB 36 (decide (a1.To=a2.To)) λx9=>.ifs [36] x9 (.bB 43 (decide (a1.aI=a2.aI)) λx10=>.ifs [43] x10 (.bB 50 (decide (a1.bO=a2.bO)) λx11=>.ifs [50] x11 (.bB 57 (decide (a1.Ref=a2.Ref)) λx12=>.ifs [57] x12 (.cl 64 (sD n a1.eY a2.eY) CV CZ λx13=>.ret x13) (.ret false)) (.ret false)) (.ret false)) (.ret false)) (.ret false)) (.ret false)) (.ret false)) (.ret false)) (λy0_1=>.ret ((y0_1:Bool)))
def LB (n:Nat) (a1:bM) (a2:bM):Option (Bool):=(aDM n a1 a2).run
theorem aL9 {n a1 a2}:PZ (LB n a1 a2) 20 [.agg (bM.av a1),.agg (bM.av a2)] bD:=wq Tryz.func20
end
end Go.Pv
