import Derived.Test.YtidcjedeacampaaGreatX80
set_option linter.unusedVariables false
set_option linter.unusedSimpArgs false
namespace Go.Pv
open Go.Proofs
set_option maxRecDepth 100000
set_option maxHeartbeats 4000000
noncomputable section
def aD3 (a1:Int) (a2:Int):WT Tryz.prog (.b (Int)) :=
 .as (a2≠0) inferInstance<|.bl (a1.tmod a2:Int) λx4=>.gv 8<|.bB 10 (decide (x4<0)) λx5=>.jn 0 [4] [] [] (λ_ (a:Int)=>[(5,int a)]) (λ_ _=>[]) (.ifs [10] x5 (.bI 13 (bE (x4+a2)) λx6=>.ret x6) (.ret x4)) (λy0_1=>.ret ((y0_1:Int)))
def zI (a1:Int) (a2:Int):Option (Int):=(aD3 a1 a2).run
theorem MX {a1 a2 r} (h0:zI a1 a2=some r):PP Tryz.prog 14 [int a1,int a2] (λy=>y=int r) :=
 bY mixed aA (λr:Int=>int r) h0 Tryz.func14 (λr=>bQ r) 100000 au
def yS (x3:Int) (x8:Int):Nat->Int->(List Int)->Option ((List Int))
  | 0,_,_=>none
  | n+1,y0_1,y0_3 =>
    bnd (decide (y0_1<x8)) λx15 =>
    cond x15 (bnd (bE (x3.tdiv 24)) λx16 =>
    bnd (x16.tmod 7) λx17 =>
    bnd (bE (x17+y0_1)) λx18 =>
    bnd (y0_3++([x18]:List Int)) λx19 =>
    gV (x19.length<=68719476736)<|
    bnd (bE (y0_1+1)) λx22 =>
    yS x3 x8 n (x22:Int) (x19:List Int)) (some (y0_3:List Int))
def xM (x3:Int) (x8:Int) (y2_1:Int):Nat->Int->(List Int)->(List Int)->Option ((List Int)×(List Int))
  | 0,_,_,_=>none
  | n+1,y3_3,y3_4,y3_5 =>
    bnd (decide (y3_3<x8)) λx31 =>
    cond x31 (bnd (bE (x3.tdiv 168)) λx32 =>
    bnd (bE (x32+y3_3)) λx33 =>
    bnd (bE (x3.tdiv 672)) λx34 =>
    bnd (x34.tmod 4) λx35 =>
    bnd (bE (y2_1*x35)) λx36 =>
    bnd (bE (x33+x36)) λx37 =>
    bnd (x37.tmod 4) λx38 =>
    bnd (bE (1+x38)) λx39 =>
    bnd (y3_4++([x39]:List Int)) λx40 =>
    gV (x40.length<=68719476736)<|
    bnd (bE (x3.tdiv 2688)) λx43 =>
    bnd (bE (7*y3_3)) λx44 =>
    bnd (bE (x43+x44)) λx45 =>
    bnd (bE (x45+y2_1)) λx46 =>
    bnd (x46.tmod 40) λx47 =>
    bnd (y3_5++([x47]:List Int)) λx48 =>
    gV (x48.length<=68719476736)<|
    bnd (bE (y3_3+1)) λx51 =>
    xM x3 x8 y2_1 n (x51:Int) (x40:List Int) (x48:List Int)) (some ((y3_4:List Int),(y3_5:List Int)))
def yF (x3:Int) (x5:Int) (x8:Int):Nat->Int->(List (List Int))->(List (List Int))->Option ((List (List Int))×(List (List Int)))
  | 0,_,_,_=>none
  | n+1,y2_1,y2_4,y2_5 =>
    bnd (decide (y2_1<x5)) λx26 =>
    cond x26 ((show Option ((List (List Int))×(List (List Int))) from
    (show Option ((List Int)×(List Int)) from
    xM x3 x8 y2_1 n (0:Int) (([]:List Int):List Int) (([]:List Int):List Int)).bind <| p2 λ(y4_3:List Int) (y4_4:List Int) =>
    bnd (y2_4++[y4_3]) λx52 =>
    gV (x52.length<=68719476736)<|
    bnd (y2_5++[y4_4]) λx55 =>
    gV (x55.length<=68719476736)<|
    some ((x52:List (List Int)),(x55:List (List Int)))).bind <| p2 λ(y5_3:List (List Int)) (y5_4:List (List Int)) =>
    bnd (bE (y2_1+1)) λx58 =>
    yF x3 x5 x8 n (x58:Int) (y5_3:List (List Int)) (y5_4:List (List Int))) (some ((y2_4:List (List Int)),(y2_5:List (List Int))))
def FX (n:Nat) (a1:Int):Option (fM) :=
(zI a1 1073741824).bind λx3 =>
bnd (x3.tmod 2) λx4 =>
bnd (bE (2+x4)) λx5 =>
bnd (bE (x3.tdiv 2)) λx6 =>
bnd (x6.tmod 3) λx7 =>
bnd (bE (2+x7)) λx8 =>
bnd (bE (x3.tdiv 6)) λx9 =>
bnd (x9.tmod 4) λx10 =>
bnd (bE (1+x10)) λx11 =>
(show Option ((List Int)) from
yS x3 x8 n (0:Int) (([]:List Int):List Int)).bind <| λy1_2 =>
(show Option ((List (List Int))×(List (List Int))) from
yF x3 x5 x8 n (0:Int) (([]:List (List Int)):List (List Int)) (([]:List (List Int)):List (List Int))).bind <| p2 λ(y6_3:List (List Int)) (y6_4:List (List Int)) =>
some (((⟨x5,x11,y1_2,y6_3,y6_4⟩:fM):fM))
theorem aM2 {n:Nat} {a1:Int} {r:fM} (h0:FX n a1=some r):PP Tryz.prog 5 [int a1] (λy=>y=.agg (fM.av r)):=by
  unfold FX at h0
  refine oN (R0:=λy H=>Cv (lH H) y (.agg (fM.av r))) ?_ (λy H hc=>⟨_,rfl,(λ(a:fM)=>PV.agg (fM.dR a)) r,hc⟩)
  refine lN (c:=_) Tryz.func5 rfl rfl ?_;intro Q hret hnorm
  refine tc aA 2 (.mk ?_)
  refine sA 1 z25 λv2=>?_
  refine tr aA 4 (.mk ?_)
  obtain ⟨x3,e3,h0⟩:=fE h0
  refine sC IA (MX e3) ?_
  refine tr aA 5 (.mk ?_)
  refine ni aA h0 λx4 h0=>?_
  refine ni aA h0 λx5 h0=>?_
  refine tr aA 1 (.mk ?_)
  refine ni aA h0 λx6 h0=>?_
  refine ni aA h0 λx7 h0=>?_
  refine ni aA h0 λx8 h0=>?_
  refine tr aA 7 (.mk ?_)
  refine ni aA h0 λx9 h0=>?_
  refine ni aA h0 λx10 h0=>?_
  refine ni aA h0 λx11 h0=>?_
  refine tr aA 1 (.mk ?_)
  refine sA 2 z25 λv12=>?_
  refine sS ⟨25,5,true,true,v12,[[int x5,int x11,.sc (.slice none 0 0),.sc (.slice none 0 0),.sc (.slice none 0 0)]]⟩ L5 ?_
  refine tr aA 6 (.mk ?_)
  refine jn h0 [2,3,4,5,6] [1] (λ(a:(List Int)) (k:Nat)=>[]) (λa k=>[(2,⟨25,5,true,true,v12,[[int x5,int x11,.sl 4 k 0 a.length,.sc (.slice none 0 0),.sc (.slice none 0 0)]]⟩),(4,⟨3,1,true,true,k,a.map fI⟩)]) ⟨λj13 h1=>?_,?_⟩
  refine tc aA 1 (.mk ?_)
  refine FJ 2 0 2 4 3 1 (rows:=λv14=>[[int x5,int x11,.sl 4 v14 0 0,.sc (.slice none 0 0),.sc (.slice none 0 0)]]) rfl rfl rfl rfl (λ_=>rfl) ?_;intro v14
  refine lp (λn (a:Int×(List Int))=>yS x3 x8 n a.1 a.2) ((0:Int),(([]:List Int):List Int)) v14 h1 [2,3,4,5,6] [1] (λ(a:Int×(List Int)) (k:Nat)=>[(7,int a.1)]) (λa k=>[(2,⟨25,5,true,true,v12,[[int x5,int x11,.sl 4 k 0 a.2.length,.sc (.slice none 0 0),.sc (.slice none 0 0)]]⟩),(4,⟨3,1,true,true,k,a.2.map fI⟩)]) (λ_=>rfl) ⟨dP,?_⟩
  rintro n ⟨y0_1,y0_3⟩ w0_2 hm h1
  replace h1:yS x3 x8 (n+1) y0_1 y0_3=some _:=h1
  rw [yS] at h1
  refine tc aA 5 (.mk ?_)
  refine nb aA h1 λx15 h1=>?_
  refine tr aA 1 (.mk ?_)
  cases x15
  replace h1:=cf h1
  refine tc aA 2 (.mk ?_)
  exact lf h1 w0_2 dP
  replace h1:=ct h1
  refine tc aA 8 (.mk ?_)
  refine ni aA h1 λx16 h1=>?_
  refine ni aA h1 λx17 h1=>?_
  refine tr aA 1 (.mk ?_)
  refine ni aA h1 λx18 h1=>?_
  refine sY (fT (y:=aH 1 fI ([x18]:List Int)) (jP (ps:=[(0,_)]) (rows:=[[int x18]]) rfl Tryz.underlying22 kC (.cons rfl .nil) (by kernel_rfl) rfl rfl rfl) rfl) ?_
  obtain ⟨x19,e19,h1⟩:=iI h1
  obtain ⟨p20,h1⟩:=iR h1
  refine oJ rfl rfl rfl (lV (g:=fI) (l:=y0_3) (m:=([x18]:List Int)) .any rfl Tryz.underlying22 kC nK rfl rfl rfl rfl rfl rfl rfl rfl rfl rfl (Eq.symm rfl) (.refl _) (λ_=>rfl) e19 p20) ?_;rintro _ _ ⟨v21,-,rfl,rfl⟩
  refine tr aA 1 (.mk ?_)
  refine sS ⟨25,5,true,true,v12,[[int x5,int x11,.sl 4 v21 0 x19.length,.sc (.slice none 0 0),.sc (.slice none 0 0)]]⟩ lT ?_
  refine tr aA 4 (.mk ?_)
  refine ni aA h1 λx22 h1=>?_
  refine tr aA 2 (.mk ?_)
  exact bk (x22,x19) v21 h1 dP
  rintro y1_2 w1_1 h0
  refine tc aA 5 (.mk ?_)
  refine jn h0 [2,6] [1,4] (λ(a:(List (List Int))×(List (List Int))) (k:Nat×Nat)=>[]) (λa k=>[(2,⟨25,5,true,true,v12,[[int x5,int x11,.sl 4 w1_1 0 y1_2.length,.sl 11 k.1 0 a.1.length,.sl 12 k.2 0 a.2.length]]⟩),(11,⟨22,1,true,true,k.1,a.1.map (fL 1 fI)⟩),(12,⟨22,1,true,true,k.2,a.2.map (fL 1 fI)⟩)]) ⟨λj23 h1=>?_,?_⟩
  refine tc aA 1 (.mk ?_)
  refine FJ 2 0 3 11 22 1 (rows:=λv24=>[[int x5,int x11,.sl 4 w1_1 0 y1_2.length,.sl 11 v24 0 0,.sc (.slice none 0 0)]]) rfl rfl rfl rfl (λ_=>rfl) ?_;intro v24
  refine FJ 2 0 4 12 22 1 (rows:=λv25=>[[int x5,int x11,.sl 4 w1_1 0 y1_2.length,.sl 11 v24 0 0,.sl 12 v25 0 0]]) rfl rfl rfl rfl (λ_=>rfl) ?_;intro v25
  refine lp (λn (a:Int×(List (List Int))×(List (List Int)))=>yF x3 x5 x8 n a.1 a.2.1 a.2.2) ((0:Int),(([]:List (List Int)):List (List Int)),(([]:List (List Int)):List (List Int))) (v24,v25) h1 [2,3,4,5,6] [1,4] (λ(a:Int×(List (List Int))×(List (List Int))) (k:Nat×Nat)=>[(8,int a.1)]) (λa k=>[(2,⟨25,5,true,true,v12,[[int x5,int x11,.sl 4 w1_1 0 y1_2.length,.sl 11 k.1 0 a.2.1.length,.sl 12 k.2 0 a.2.2.length]]⟩),(11,⟨22,1,true,true,k.1,a.2.1.map (fL 1 fI)⟩),(12,⟨22,1,true,true,k.2,a.2.2.map (fL 1 fI)⟩)]) (λ_=>rfl) ⟨dP,?_⟩
  rintro n ⟨y2_1,y2_4,y2_5⟩ ⟨w2_2,w2_3⟩ hm h1
  replace h1:yF x3 x5 x8 (n+1) y2_1 y2_4 y2_5=some _:=h1
  rw [yF] at h1
  refine tc aA 5 (.mk ?_)
  refine nb aA h1 λx26 h1=>?_
  refine tr aA 1 (.mk ?_)
  cases x26
  replace h1:=cf h1
  refine tc aA 2 (.mk ?_)
  exact lf h1 (w2_2,w2_3) dP
  replace h1:=ct h1
  refine tc aA 3 (.mk ?_)
  refine jn h1 [2,3,4,5,6,8] [1,4] (λ(a:(List (List Int))×(List (List Int))) (k:Nat×Nat)=>[]) (λa k=>[(2,⟨25,5,true,true,v12,[[int x5,int x11,.sl 4 w1_1 0 y1_2.length,.sl 11 k.1 0 a.1.length,.sl 12 k.2 0 a.2.length]]⟩),(11,⟨22,1,true,true,k.1,a.1.map (fL 1 fI)⟩),(12,⟨22,1,true,true,k.2,a.2.map (fL 1 fI)⟩)]) ⟨λj27 h2=>?_,?_⟩
  refine tc aA 11 (.mk ?_)
  refine jn h2 [2,3,4,5,6,8] [1,2,4,11,12] (λ(a:(List Int)×(List Int)) (k:Nat×Nat)=>[(9,.sl 7 k.1 0 a.1.length),(10,.sl 8 k.2 0 a.2.length)]) (λa k=>[(7,⟨3,1,true,true,k.1,a.1.map fI⟩),(8,⟨3,1,true,true,k.2,a.2.map fI⟩)]) ⟨λj28 h3=>?_,?_⟩
  refine tc aA 1 (.mk ?_)
  refine vM 9 7 3 1 rfl rfl ?_;intro v29
  refine vM 10 8 3 1 rfl rfl ?_;intro v30
  refine lp (λn (a:Int×(List Int)×(List Int))=>xM x3 x8 y2_1 n a.1 a.2.1 a.2.2) ((0:Int),(([]:List Int):List Int),(([]:List Int):List Int)) (v29,v30) h3 [2,3,4,5,6,8] [1,2,4,11,12] (λ(a:Int×(List Int)×(List Int)) (k:Nat×Nat)=>[(9,.sl 7 k.1 0 a.2.1.length),(10,.sl 8 k.2 0 a.2.2.length),(11,int a.1)]) (λa k=>[(7,⟨3,1,true,true,k.1,a.2.1.map fI⟩),(8,⟨3,1,true,true,k.2,a.2.2.map fI⟩)]) (λ_=>rfl) ⟨dP,?_⟩
  rintro n ⟨y3_3,y3_4,y3_5⟩ ⟨w3_1,w3_2⟩ hm h3
  replace h3:xM x3 x8 y2_1 (n+1) y3_3 y3_4 y3_5=some _:=h3
  rw [xM] at h3
  refine tc aA 5 (.mk ?_)
  refine nb aA h3 λx31 h3=>?_
  refine tr aA 1 (.mk ?_)
  cases x31
  replace h3:=cf h3
  refine tc aA 2 (.mk ?_)
  exact lf h3 (w3_1,w3_2) dP
  replace h3:=ct h3
  refine tc aA 7 (.mk ?_)
  refine ni aA h3 λx32 h3=>?_
  refine tr aA 1 (.mk ?_)
  refine ni aA h3 λx33 h3=>?_
  refine tr aA 2 (.mk ?_)
  refine ni aA h3 λx34 h3=>?_
  refine ni aA h3 λx35 h3=>?_
  refine ni aA h3 λx36 h3=>?_
  refine ni aA h3 λx37 h3=>?_
  refine ni aA h3 λx38 h3=>?_
  refine ni aA h3 λx39 h3=>?_
  refine sY (fT (y:=aH 1 fI ([x39]:List Int)) (jP (ps:=[(0,_)]) (rows:=[[int x39]]) rfl Tryz.underlying22 kC (.cons rfl .nil) (by kernel_rfl) rfl rfl rfl) rfl) ?_
  obtain ⟨x40,e40,h3⟩:=iI h3
  obtain ⟨p41,h3⟩:=iR h3
  refine oJ rfl rfl rfl (lV (g:=fI) (l:=y3_4) (m:=([x39]:List Int)) .any rfl Tryz.underlying22 kC nK rfl rfl rfl rfl rfl rfl rfl rfl rfl rfl (Eq.symm rfl) (.refl _) (λ_=>rfl) e40 p41) ?_;rintro _ _ ⟨v42,-,rfl,rfl⟩
  refine tr aA 2 (.mk ?_)
  refine ni aA h3 λx43 h3=>?_
  refine tr aA 1 (.mk ?_)
  refine ni aA h3 λx44 h3=>?_
  refine ni aA h3 λx45 h3=>?_
  refine tr aA 1 (.mk ?_)
  refine ni aA h3 λx46 h3=>?_
  refine ni aA h3 λx47 h3=>?_
  refine sY (fT (y:=aH 1 fI ([x47]:List Int)) (jP (ps:=[(0,_)]) (rows:=[[int x47]]) rfl Tryz.underlying22 kC (.cons rfl .nil) (by kernel_rfl) rfl rfl rfl) rfl) ?_
  obtain ⟨x48,e48,h3⟩:=iI h3
  obtain ⟨p49,h3⟩:=iR h3
  refine oJ rfl rfl rfl (lV (g:=fI) (l:=y3_5) (m:=([x47]:List Int)) .any rfl Tryz.underlying22 kC nK rfl rfl rfl rfl rfl rfl rfl rfl rfl rfl (Eq.symm rfl) (.refl _) (λ_=>rfl) e48 p49) ?_;rintro _ _ ⟨v50,-,rfl,rfl⟩
  refine tr aA 6 (.mk ?_)
  refine ni aA h3 λx51 h3=>?_
  refine tr aA 2 (.mk ?_)
  exact bk (x51,x40,x48) (v42,v50) h3 dP
  rintro ⟨y4_3,y4_4⟩ ⟨w4_1,w4_2⟩ h2
  replace h2:=mZ h2
  refine pR [0,1,0,4,15,0,32,0,128,511,127,2047,4095,8191] (rl [(0,[2]),(1,[2]),(5,[2]),(6,[2]),(10,[2]),(12,[2])] []) (rl [(11,[]),(13,[])] [2]) (rl [(4,false),(9,false),(11,false),(13,false)] true) [0,1,2,3,5,6,7,8,4,10,9,11,12,13] mixed (by kernel_rfl) ?_;intro K hK
  refine eF J3 ?_
  refine eL zK ?_
  refine eM ?_
  refine eP (λH hH=>jP (ps:=[(0,_)]) (rows:=[[.sl 7 w4_1 0 y4_3.length]]) rfl Tryz.underlying23 IX (.cons rfl .nil) (by kernel_rfl) rfl rfl rfl) ?_
  refine eF OX ?_
  refine eL zK ?_
  refine eM ?_
  refine eP (λH hH=>jP (ps:=[(0,_)]) (rows:=[[.sl 8 w4_2 0 y4_4.length]]) rfl Tryz.underlying23 IX (.cons rfl .nil) (by kernel_rfl) rfl rfl rfl) ?_
  obtain ⟨x52,e52,h2⟩:=iI h2
  obtain ⟨p53,h2⟩:=iR h2
  refine zG rfl rfl rfl rfl (eG.kS 7 rfl (lV (g:=(fL 1 fI)) (l:=y2_4) (m:=[y4_3]) .any rfl Tryz.underlying23 IX ZB rfl rfl rfl rfl rfl rfl rfl rfl rfl rfl (Eq.symm rfl) (kJ.list (.cons (.cons (gY rfl rfl rfl rfl rfl (Eq.symm rfl)) .nil) .nil)) (λ_=>rfl) e52 p53)) (by rintro _ _ ⟨v54,-,rfl,rfl⟩;exact ⟨rfl,trivial⟩) ?_;rintro _ _ ⟨v54,-,rfl,rfl⟩
  refine eF J3 ?_
  obtain ⟨x55,e55,h2⟩:=iI h2
  obtain ⟨p56,h2⟩:=iR h2
  refine zG rfl rfl rfl rfl (eG.kS 8 rfl (lV (g:=(fL 1 fI)) (l:=y2_5) (m:=[y4_4]) .any rfl Tryz.underlying23 IX ZB rfl rfl rfl rfl rfl rfl rfl rfl rfl rfl (Eq.symm rfl) (kJ.list (.cons (.cons (gY rfl rfl rfl rfl rfl (Eq.symm rfl)) .nil) .nil)) (λ_=>rfl) e55 p56)) (by rintro _ _ ⟨v57,-,rfl,rfl⟩;exact ⟨rfl,trivial⟩) ?_;rintro _ _ ⟨v57,-,rfl,rfl⟩
  refine uD rfl rfl rfl rfl (eG.iA (iP (ob':=(⟨25,5,true,true,v12,[[int x5,int x11,.sl 4 w1_1 0 y1_2.length,.sl 11 v54 0 x52.length,.sl 12 w2_3 0 y2_5.length]]⟩:cO)) (iL rfl zK rfl rfl rfl rfl rfl rfl rfl rfl rfl) rfl) (λ_ h=>h) (λ_ _=>trivial)) (by rintro _ _ ⟨rfl,rfl⟩;exact trivial) ?_;rintro _ _ ⟨rfl,rfl⟩
  refine eF OX ?_
  refine uD rfl rfl rfl rfl (eG.iA (iP (ob':=(⟨25,5,true,true,v12,[[int x5,int x11,.sl 4 w1_1 0 y1_2.length,.sl 11 v54 0 x52.length,.sl 12 v57 0 x55.length]]⟩:cO)) (iL rfl zK rfl rfl rfl rfl rfl rfl rfl rfl rfl) rfl) (λ_ h=>h) (λ_ _=>trivial)) (by rintro _ _ ⟨rfl,rfl⟩;exact trivial) ?_;rintro _ _ ⟨rfl,rfl⟩
  refine oK (hK _ ?_)
  refine tc aA 1 (.mk ?_)
  exact lf h2 (v54,v57) dP
  rintro ⟨y5_3,y5_4⟩ ⟨w5_1,w5_2⟩ h1
  replace h1:=mZ h1
  refine tc aA 2 (.mk ?_)
  refine ni aA h1 λx58 h1=>?_
  refine tr aA 2 (.mk ?_)
  exact bk (x58,y5_3,y5_4) (w5_1,w5_2) h1 dP
  rintro ⟨y6_3,y6_4⟩ ⟨w6_1,w6_2⟩ h0
  replace h0:=mZ h0
  refine tc aA 3 (.mk ?_)
  refine sS ⟨25,5,true,true,v2,[[int x5,int x11,.sl 4 w1_1 0 y1_2.length,.sl 11 w6_1 0 y6_3.length,.sl 12 w6_2 0 y6_4.length]]⟩ L5 ?_
  refine tr aA 1 (.mk ?_)
  obtain rfl:=fV h0
  refine wR hret (rC L5 .nil) ?_
  exact (dG.agg (.cons (.refl _) (.cons (.refl _) (.cons (gY rfl rfl rfl rfl rfl (Eq.symm rfl)) (.cons (gY rfl rfl rfl rfl rfl (Eq.symm rfl)) (.cons (gY rfl rfl rfl rfl rfl (Eq.symm rfl)) .nil))))))
def UN (n:Nat) (a1:List Int) (a2:Int) (a3:Int) (a4:Int):WT Tryz.prog (.b (Bool)) :=
 .ln 11 fI a1<|.bB 13 (decide ((a1.length:Int)≠a2)) λx5=>.ifs [13] x5 (.ret ((false:Bool))) (.fH 2 [8] [] [] (λ_ (a:Unit)=>[]) (λ_ _=>[]) (.lp [0,1,2,3,8] [] [] (λ_ (a:Int)=>[(9,int a)]) (λ_ _=>[]) n 0 (λy0_1=>.bB 16 (decide (y0_1<a2)) λx6=>.ifs [16] x6 (.jn 2 [0,1,2,3,8,9] [] [] (λ_ (a:Bool)=>[(32,aZ a)]) (λ_ _=>[]) (.ix 21 fI a1 y0_1 λx7=>.bB 24 (decide (x7<a3)) λx8=>.ifs [24] x8 (.ret true) (.ix 28 fI a1 y0_1 λx9=>.bB 31 (decide (x9>a4)) λx10=>.ret x10)) (λy1_1=>.ifs [32] y1_1 (.esc (.esc (.ret ((false:Bool))))) (.bI 18 (bE (y0_1+1)) λx11=>.brk x11))) (.esc (.brk ())))) (λ_=>.ret ((true:Bool))))
def BR (n:Nat) (a1:List Int) (a2:Int) (a3:Int) (a4:Int):Option (Bool):=(UN n a1 a2 a3 a4).run
theorem R3 {n a1 a2 a3 a4 r} (h0:BR n a1 a2 a3 a4=some r):PP Tryz.prog 76 [aH 1 fI a1,int a2,int a3,int a4] (λy=>y=aZ r) :=
 bY mixed aA (λr:Bool=>aZ r) h0 Tryz.func76 (λr=>gT r) 100000 au
def W9 (n:Nat) (a1:fM):WT Tryz.prog (.b (Bool)) :=
 .al 1<|.ln 7 fI a1.bW<|.jn 0 [1,2,3] [1] [] (λ_ (a:Bool)=>[(56,aZ a)]) (λ_ _=>[]) (.bB 10 (decide (a1.gG<1)) λx3=>.ifs [10] x3 (.ret true) (.bB 14 (decide (a1.gG>4)) λx4=>.ifs [14] x4 (.ret true) (.bB 19 (decide (a1.gZ<1)) λx5=>.ifs [19] x5 (.ret true) (.bB 24 (decide (a1.gZ>12)) λx6=>.ifs [24] x6 (.ret true) (.bB 28 (decide ((a1.bW.length:Int)<1)) λx7=>.ifs [28] x7 (.ret true) (.bB 32 (decide ((a1.bW.length:Int)>5)) λx8=>.ifs [32] x8 (.ret true) (.cl 38 (BR n a1.bW (a1.bW.length:Int) 0 1073741824) RZ R3 λx9=>.bB 39 (!x9) λx10=>.ifs [39] x10 (.ret true) (.ln 44 (fL 1 fI) a1.Methods<|.bB 47 (decide ((a1.Methods.length:Int)≠a1.gG)) λx11=>.ifs [47] x11 (.ret true) (.ln 52 (fL 1 fI) a1.gX<|.bB 55 (decide ((a1.gX.length:Int)≠a1.gG)) λx12=>.ret x12))))))))) (λy0_1=>.ifs [56] y0_1 (.ret ((false:Bool))) (.fH 2 [2] [] [] (λ_ (a:Unit)=>[]) (λ_ _=>[]) (.lp [1,2,3] [1] [] (λ_ (a:Int)=>[(4,int a)]) (λ_ _=>[]) n 0 (λy1_1=>.bB 60 (decide (y1_1<a1.gG)) λx13=>.ifs [60] x13 (.jn 2 [1,2,3,4] [1] [] (λ_ (a:Bool)=>[(80,aZ a)]) (λ_ _=>[]) (.ix 66 (fL 1 fI) a1.Methods y1_1 λx14=>.cl 69 (BR n x14 (a1.bW.length:Int) 1 4) RZ R3 λx15=>.bB 70 (!x15) λx16=>.ifs [70] x16 (.ret true) (.ix 75 (fL 1 fI) a1.gX y1_1 λx17=>.cl 78 (BR n x17 (a1.bW.length:Int) 0 1073741824) RZ R3 λx18=>.bB 79 (!x18) λx19=>.ret x19)) (λy2_1=>.ifs [80] y2_1 (.esc (.esc (.ret ((false:Bool))))) (.bI 62 (bE (y1_1+1)) λx20=>.brk x20))) (.esc (.brk ())))) (λ_=>.ret ((true:Bool)))))
def E9 (n:Nat) (a1:fM):Option (Bool):=(W9 n a1).run
theorem aDT {n a1 r} (h0:E9 n a1=some r):PP Tryz.prog 39 [.agg (fM.av a1)] (λy=>y=aZ r) :=
 bY mixed aA (λr:Bool=>aZ r) h0 Tryz.func39 (λr=>gT r) 100000 au
def yQ (a1:fM):Nat->Int->(List Int)->Option ((List Int))
  | 0,_,_=>none
  | n+1,y1_1,y1_2 =>
    bnd (decide (y1_1<(a1.bW.length:Int))) λx29 =>
    cond x29 ((ix y1_2 y1_1).bind λx30 =>
    bnd (y1_2.set (Int.toNat y1_1) ((-1):Int)) λx31 =>
    bnd (bE (y1_1+1)) λx32 =>
    yQ a1 n (x32:Int) (x31:List Int)) (some (y1_2:List Int))
def xK (a1:fM):Nat->Int->(List aP)->Option ((List aP))
  | 0,_,_=>none
  | n+1,y0_1,y0_3 =>
    bnd (decide (y0_1<a1.gG)) λx9 =>
    cond x9 ((show Option ((List aP)) from
    bnd (bE ((a1.bW.length:Int)*2)) λx11 =>
    gV ((0:Int)<=x11/\(x11:Int)<=1048576)<|
    bnd (List.replicate (Int.toNat x11) ((⟨[],(⟨0,0,0⟩:l9)⟩:aS):aS)) λx13 =>
    gV ((0:Int)<=17/\(17:Int)<=1048576)<|
    bnd (List.replicate (Int.toNat 17) (0:Int)) λx16 =>
    gV ((0:Int)<=(a1.bW.length:Int)/\((a1.bW.length:Int):Int)<=1048576)<|
    bnd (List.replicate (Int.toNat (a1.bW.length:Int)) ((⟨0,0,0,0,0,0,0,0,0,0,0⟩:cB):cB)) λx19 =>
    gV ((0:Int)<=(a1.bW.length:Int)/\((a1.bW.length:Int):Int)<=1048576)<|
    bnd (List.replicate (Int.toNat (a1.bW.length:Int)) (0:Int)) λx22 =>
    gV ((0:Int)<=(a1.bW.length:Int)/\((a1.bW.length:Int):Int)<=1048576)<|
    bnd (List.replicate (Int.toNat (a1.bW.length:Int)) (0:Int)) λx25 =>
    (show Option ((List Int)) from
    yQ a1 n (0:Int) (x22:List Int)).bind <| λy2_1 =>
    bnd (y0_3++[(⟨1,false,x13,x16,x19,y2_1,x25,[]⟩:aP)]) λx33 =>
    gV (x33.length<=68719476736)<|
    some (x33:List aP)).bind <| λy3_2 =>
    bnd (bE (y0_1+1)) λx36 =>
    xK a1 n (x36:Int) (y3_2:List aP)) (some (y0_3:List aP))
def BK (n:Nat) (a1:fM):Option (aB×Int) :=
(E9 n a1).bind λx4 =>
bnd (!x4) λx5 =>
cond x5 (some (((⟨(⟨0,0,[],[],[]⟩:fM),[],[],[],[],0⟩:aB):aB),(1:Int))) ((show Option ((List aP)) from
xK a1 n (0:Int) (([]:List aP):List aP)).bind <| λy4_2 =>
some (((⟨a1,y4_2,[],[],[],0⟩:aB):aB),(0:Int)))
theorem aBB {n:Nat} {a1:fM} {r:aB×Int} (h0:BK n a1=some r):PP Tryz.prog 15 [.agg (fM.av a1)] (λy=>y=.bD [.agg (aB.av r.1),int r.2]):=by
  unfold BK at h0
  refine oN (R0:=λy H=>Cv (lH H) y (.bD [.agg (aB.av r.1),int r.2])) ?_ (λy H hc=>⟨_,rfl,.bD (gK ((λ(a:aB)=>PV.agg (aB.dR a)) (r.1)) (bQ (r.2))),hc⟩)
  refine lN (c:=_) Tryz.func15 rfl rfl ?_;intro Q hret hnorm
  refine tc aA 2 (.mk ?_)
  refine sB 1 λv2=>?_
  refine sA 2 z32 λv3=>?_
  refine tr aA 6 (.mk ?_)
  obtain ⟨x4,e4,h0⟩:=fE h0
  refine sC aAB (aDT e4) ?_
  refine nb aA h0 λx5 h0=>?_
  refine tr aA 1 (.mk ?_)
  cases x5
  replace h0:=cf h0
  refine tc aA 5 (.mk ?_)
  refine sY (MF (cs:=[int a1.gG,int a1.gZ,aH 1 fI a1.bW,aH 1 (fL 1 fI) a1.Methods,aH 1 (fL 1 fI) a1.gX,.sc (.slice none 0 0),.sc (.slice none 0 0),.sc (.slice none 0 0),.sc (.slice none 0 0),int 0]) (ps:=[(0,_)]) rfl aAF z32 rfl (.cons rfl .nil) (by kernel_rfl)) ?_
  refine sA 3 z32 λv6=>?_
  refine sS ⟨32,10,true,true,v6,[[int a1.gG,int a1.gZ,aH 1 fI a1.bW,aH 1 (fL 1 fI) a1.Methods,aH 1 (fL 1 fI) a1.gX,.sc (.slice none 0 0),.sc (.slice none 0 0),.sc (.slice none 0 0),.sc (.slice none 0 0),int 0]]⟩ lX ?_
  refine tr aA 5 (.mk ?_)
  refine sY (kX rfl Tryz.underlying22 rfl (mF _)) ?_
  refine tr aA 7 (.mk ?_)
  refine jn h0 [2,3,4] [2] (λ(a:(List aP)) (k:Nat)=>[]) (λa k=>[(3,⟨32,10,true,true,v6,[[int a1.gG,int a1.gZ,aH 1 fI a1.bW,aH 1 (fL 1 fI) a1.Methods,aH 1 (fL 1 fI) a1.gX,.sl 11 k 0 a.length,.sc (.slice none 0 0),.sc (.slice none 0 0),.sc (.slice none 0 0),int 0]]⟩),(11,⟨60,8,true,true,k,a.map aP.av⟩)]) ⟨λj7 h1=>?_,?_⟩
  refine tc aA 1 (.mk ?_)
  refine FJ 3 0 5 11 60 8 (rows:=λv8=>[[int a1.gG,int a1.gZ,aH 1 fI a1.bW,aH 1 (fL 1 fI) a1.Methods,aH 1 (fL 1 fI) a1.gX,.sl 11 v8 0 0,.sc (.slice none 0 0),.sc (.slice none 0 0),.sc (.slice none 0 0),int 0]]) rfl rfl rfl rfl (λ_=>rfl) ?_;intro v8
  refine lp (λn (a:Int×(List aP))=>xK a1 n a.1 a.2) ((0:Int),(([]:List aP):List aP)) v8 h1 [1,2,3,4,5] [1,2] (λ(a:Int×(List aP)) (k:Nat)=>[(6,int a.1)]) (λa k=>[(3,⟨32,10,true,true,v6,[[int a1.gG,int a1.gZ,aH 1 fI a1.bW,aH 1 (fL 1 fI) a1.Methods,aH 1 (fL 1 fI) a1.gX,.sl 11 k 0 a.2.length,.sc (.slice none 0 0),.sc (.slice none 0 0),.sc (.slice none 0 0),int 0]]⟩),(11,⟨60,8,true,true,k,a.2.map aP.av⟩)]) (λ_=>rfl) ⟨dP,?_⟩
  rintro n ⟨y0_1,y0_3⟩ w0_2 hm h1
  replace h1:xK a1 (n+1) y0_1 y0_3=some _:=h1
  rw [xK] at h1
  refine tc aA 6 (.mk ?_)
  refine nb aA h1 λx9 h1=>?_
  refine tr aA 1 (.mk ?_)
  cases x9
  replace h1:=cf h1
  refine tc aA 2 (.mk ?_)
  exact lf h1 w0_2 dP
  replace h1:=ct h1
  refine tc aA 3 (.mk ?_)
  refine jn h1 [1,2,3,4,5,6] [1,2] (λ(a:(List aP)) (k:Nat)=>[]) (λa k=>[(3,⟨32,10,true,true,v6,[[int a1.gG,int a1.gZ,aH 1 fI a1.bW,aH 1 (fL 1 fI) a1.Methods,aH 1 (fL 1 fI) a1.gX,.sl 11 k 0 a.length,.sc (.slice none 0 0),.sc (.slice none 0 0),.sc (.slice none 0 0),int 0]]⟩),(11,⟨60,8,true,true,k,a.map aP.av⟩)]) ⟨λj10 h2=>?_,?_⟩
  refine tc aA 2 (.mk ?_)
  refine PO [0,1,3,0,0,16,0,64,0,256,1023,0,4095] (λi k=>bif Nat.beq i 12 then (Nat.beq k 4 || Nat.beq k 5 || Nat.beq k 6 || Nat.beq k 7 || Nat.beq k 8 || Nat.beq k 9) else false) (λi=>bif Nat.beq i 2 then (some 4) else bif Nat.beq i 3 then (some 5) else bif Nat.beq i 5 then (some 6) else bif Nat.beq i 7 then (some 7) else bif Nat.beq i 9 then (some 8) else bif Nat.beq i 11 then (some 9) else bif Nat.beq i 12 then (some 9) else none) mixed (by kernel_rfl) ?_;intro C K hK
  refine iF rfl (λH hH=>iE rfl rfl) ?_
  obtain ⟨x11,e11,h2⟩:=iI h2
  refine iF rfl (λH hH=>T3 rfl rfl rfl e11) ?_
  obtain ⟨wN,h2⟩:=iR h2
  obtain ⟨x13,e13,h2⟩:=iI h2
  have lx13:x13.length=(Int.toNat x11):=by rw [<- e13];exact List.length_replicate
  refine rX rfl rfl (λH hH=>EP (FI 4 (g:=aS.av) (z0:=((⟨[],(⟨0,0,0⟩:l9)⟩:aS):aS)) (.one _) rfl Tryz.underlying57 EN ID rfl rfl rfl wN (.cons (.nil _) (.cons (.sc _) (.cons (.sc _) (.cons (.sc _) .nil)))) e13)) ?_;generalize C+2=v14
  obtain ⟨p15,h2⟩:=iR h2
  obtain ⟨x16,e16,h2⟩:=iI h2
  have lx16:x16.length=(Int.toNat 17):=by rw [<- e16];exact List.length_replicate
  refine rX rfl rfl (λH hH=>EP (FI 5 (g:=fI) (z0:=(0:Int)) (.one _) rfl Tryz.underlying22 kC nK rfl rfl rfl p15 (.cons (.sc _) .nil) e16)) ?_;generalize C+3=v17
  refine iF rfl (λH hH=>iE rfl rfl) ?_
  obtain ⟨p18,h2⟩:=iR h2
  obtain ⟨x19,e19,h2⟩:=iI h2
  have lx19:x19.length=(Int.toNat (a1.bW.length:Int)):=by rw [<- e19];exact List.length_replicate
  refine rX rfl rfl (λH hH=>EP (FI 6 (g:=cB.av) (z0:=((⟨0,0,0,0,0,0,0,0,0,0,0⟩:cB):cB)) (.one _) rfl Tryz.underlying58 D7 NH rfl rfl rfl p18 (.cons (.sc _) (.cons (.sc _) (.cons (.sc _) (.cons (.sc _) (.cons (.sc _) (.cons (.sc _) (.cons (.sc _) (.cons (.sc _) (.cons (.sc _) (.cons (.sc _) (.cons (.sc _) .nil))))))))))) e19)) ?_;generalize C+5=v20
  refine iF rfl (λH hH=>iE rfl rfl) ?_
  obtain ⟨p21,h2⟩:=iR h2
  obtain ⟨x22,e22,h2⟩:=iI h2
  have lx22:x22.length=(Int.toNat (a1.bW.length:Int)):=by rw [<- e22];exact List.length_replicate
  refine rX rfl rfl (λH hH=>EP (FI 7 (g:=fI) (z0:=(0:Int)) (.one _) rfl Tryz.underlying22 kC nK rfl rfl rfl p21 (.cons (.sc _) .nil) e22)) ?_;generalize C+7=v23
  refine iF rfl (λH hH=>iE rfl rfl) ?_
  obtain ⟨p24,h2⟩:=iR h2
  obtain ⟨x25,e25,h2⟩:=iI h2
  have lx25:x25.length=(Int.toNat (a1.bW.length:Int)):=by rw [<- e25];exact List.length_replicate
  refine rX rfl rfl (λH hH=>EP (FI 8 (g:=fI) (z0:=(0:Int)) (.one _) rfl Tryz.underlying22 kC nK rfl rfl rfl p24 (.cons (.sc _) .nil) e25)) ?_;generalize C+9=v26
  refine iF rfl (λH hH=>MF (cs:=[int 1,aZ false,.sl 4 v14 0 (Int.toNat x11),.sl 5 v17 0 (Int.toNat 17),.sl 6 v20 0 (Int.toNat (a1.bW.length:Int)),.sl 7 v23 0 (Int.toNat (a1.bW.length:Int)),.sl 8 v26 0 (Int.toNat (a1.bW.length:Int)),.sc (.slice none 0 0)]) (ps:=[(0,_),(2,_),(3,_),(4,_),(5,_),(6,_)]) rfl aF5 z60 rfl (.cons rfl (.cons rfl (.cons rfl (.cons rfl (.cons rfl (.cons rfl .nil)))))) (by kernel_rfl)) ?_
  refine rX rfl rfl (λH hH=>GN 9 rfl z60 rfl) ?_;generalize C+11=v27
  refine FN rfl rfl rfl (λH hH=>iP (ob':=(⟨60,8,true,true,v27,[[int 1,aZ false,.sl 4 v14 0 (Int.toNat x11),.sl 5 v17 0 (Int.toNat 17),.sl 6 v20 0 (Int.toNat (a1.bW.length:Int)),.sl 7 v23 0 (Int.toNat (a1.bW.length:Int)),.sl 8 v26 0 (Int.toNat (a1.bW.length:Int)),.sc (.slice none 0 0)]]⟩:cO)) (iL rfl mQ rfl rfl ((hH _ rfl).trans rfl) rfl rfl rfl rfl rfl rfl) rfl) ?_
  refine RE (hK _ ?_)
  refine tc aA 5 (.mk ?_)
  refine jn h2 [1,2,3,4,5,6,7] [1,2,3,4,5,6,8,11] (λ(a:(List Int)) (k:Unit)=>[]) (λa k=>[(7,⟨3,1,true,true,v23,a.map fI⟩),(9,⟨60,8,true,true,v27,[[int 1,aZ false,.sl 4 v14 0 (Int.toNat x11),.sl 5 v17 0 (Int.toNat 17),.sl 6 v20 0 (Int.toNat (a1.bW.length:Int)),.sl 7 v23 0 a.length,.sl 8 v26 0 (Int.toNat (a1.bW.length:Int)),.sc (.slice none 0 0)]]⟩)]) ⟨λj28 h3=>?_,?_⟩
  refine tc aA 1 (.mk ?_)
  refine lp (λn (a:Int×(List Int))=>yQ a1 n a.1 a.2) ((0:Int),(x22:List Int)) () h3 [1,2,3,4,5,6,7] [1,2,3,4,5,6,8,11] (λ(a:Int×(List Int)) (k:Unit)=>[(8,int a.1)]) (λa k=>[(7,⟨3,1,true,true,v23,a.2.map fI⟩),(9,⟨60,8,true,true,v27,[[int 1,aZ false,.sl 4 v14 0 (Int.toNat x11),.sl 5 v17 0 (Int.toNat 17),.sl 6 v20 0 (Int.toNat (a1.bW.length:Int)),.sl 7 v23 0 a.2.length,.sl 8 v26 0 (Int.toNat (a1.bW.length:Int)),.sc (.slice none 0 0)]]⟩)]) (λ_=>rfl) ⟨D8 ⟨⟨_,rfl,(.refl _)⟩,⟨_,rfl,(.refl _)⟩,⟨_,rfl,(.refl _)⟩,⟨_,rfl,(.refl _)⟩,⟨_,rfl,(.refl _)⟩,⟨_,rfl,(.refl _)⟩,⟨_,rfl,(.refl _)⟩,⟨_,rfl,(.refl _)⟩,trivial⟩ ⟨⟨_,rfl,(.refl _)⟩,⟨_,rfl,⟨rfl,(.cons (.cons (.refl _) (.cons (.refl _) (.cons (.refl _) (.cons (.refl _) (.cons (.refl _) (.cons (rA (Eq.symm lx22)) (.cons (.refl _) (.cons (.refl _) .nil)))))))) .nil)⟩⟩,⟨_,rfl,(.refl _)⟩,⟨_,rfl,(.refl _)⟩,⟨_,rfl,(.refl _)⟩,⟨_,rfl,(.refl _)⟩,⟨_,rfl,(.refl _)⟩,⟨_,rfl,(.refl _)⟩,⟨_,rfl,(.refl _)⟩,⟨_,rfl,(.refl _)⟩,trivial⟩,?_⟩
  rintro n ⟨y1_1,y1_2⟩ _ hm h3
  replace h3:yQ a1 (n+1) y1_1 y1_2=some _:=h3
  rw [yQ] at h3
  refine tc aA 5 (.mk ?_)
  refine nb aA h3 λx29 h3=>?_
  refine tr aA 1 (.mk ?_)
  cases x29
  replace h3:=cf h3
  refine tc aA 2 (.mk ?_)
  exact lf h3 () dP
  replace h3:=ct h3
  refine tc aA 8 (.mk ?_)
  obtain ⟨x30,e30,h3⟩:=fE h3
  refine sY (iT rfl Tryz.underlying22 dM rfl rfl rfl rfl rfl (Eq.symm rfl) (List.length_map _) e30) ?_
  obtain ⟨x31,e31,h3⟩:=iI h3
  have fx31:=mX e30 e31;have lx31:=l6 e31 (rfl:y1_2.length=y1_2.length)
  refine LH rfl rfl (iP (ob':=(⟨3,1,true,true,v23,x31.map fI⟩:cO)) (iL rfl dM rfl rfl rfl rfl rfl (iN e30) rfl rfl rfl) (jZ (oI e31))) ?_
  refine tr aA 4 (.mk ?_)
  refine ni aA h3 λx32 h3=>?_
  refine tr aA 2 (.mk ?_)
  exact bk (x32,x31) () h3 (D8 ⟨⟨_,rfl,(.refl _)⟩,⟨_,rfl,(.refl _)⟩,⟨_,rfl,(.refl _)⟩,⟨_,rfl,(.refl _)⟩,⟨_,rfl,(.refl _)⟩,⟨_,rfl,(.refl _)⟩,⟨_,rfl,(.refl _)⟩,⟨_,rfl,(.refl _)⟩,trivial⟩ ⟨⟨_,rfl,(.refl _)⟩,⟨_,rfl,⟨rfl,(.cons (.cons (.refl _) (.cons (.refl _) (.cons (.refl _) (.cons (.refl _) (.cons (.refl _) (.cons (rA (Eq.symm lx31)) (.cons (.refl _) (.cons (.refl _) .nil)))))))) .nil)⟩⟩,⟨_,rfl,(.refl _)⟩,⟨_,rfl,(.refl _)⟩,⟨_,rfl,(.refl _)⟩,⟨_,rfl,(.refl _)⟩,⟨_,rfl,(.refl _)⟩,⟨_,rfl,(.refl _)⟩,⟨_,rfl,(.refl _)⟩,⟨_,rfl,(.refl _)⟩,trivial⟩)
  rintro y2_1 _ h2
  refine tc aA 4 (.mk ?_)
  refine sY (jP (ps:=[(0,_)]) (rows:=[[int 1,aZ false,.sl 4 v14 0 (Int.toNat x11),.sl 5 v17 0 (Int.toNat 17),.sl 6 v20 0 (Int.toNat (a1.bW.length:Int)),.sl 7 v23 0 y2_1.length,.sl 8 v26 0 (Int.toNat (a1.bW.length:Int)),.sc (.slice none 0 0)]]) rfl Tryz.underlying27 yH (.cons rfl .nil) (by kernel_rfl) rfl rfl rfl) ?_
  obtain ⟨x33,e33,h2⟩:=iI h2
  obtain ⟨p34,h2⟩:=iR h2
  refine oJ rfl rfl rfl (eG.kS 4 rfl (eG.kS 5 rfl (eG.kS 6 rfl (eG.kS 7 rfl (eG.kS 8 rfl (lV (g:=aP.av) (l:=y0_3) (m:=[(⟨1,false,x13,x16,x19,y2_1,x25,[]⟩:aP)]) .any rfl Tryz.underlying27 yH EH rfl rfl rfl rfl rfl rfl rfl rfl rfl rfl (Eq.symm rfl) (kJ.list (ys:=[aP.av (⟨1,false,x13,x16,x19,y2_1,x25,[]⟩:aP)]) (.cons (uO (.cons (.refl _) (.cons (.refl _) (.cons (gY rfl rfl rfl rfl rfl (Eq.symm lx13)) (.cons (gY rfl rfl rfl rfl rfl (Eq.symm lx16)) (.cons (gY rfl rfl rfl rfl rfl (Eq.symm lx19)) (.cons (gY rfl rfl rfl rfl rfl (Eq.symm rfl)) (.cons (gY rfl rfl rfl rfl rfl (Eq.symm lx25)) (.cons (.nil _) .nil)))))))) (aP.fB _)) .nil)) aP.one e33 p34)))))) ?_;rintro _ _ ⟨v35,-,rfl,rfl⟩
  refine tr aA 1 (.mk ?_)
  refine sS ⟨32,10,true,true,v6,[[int a1.gG,int a1.gZ,aH 1 fI a1.bW,aH 1 (fL 1 fI) a1.Methods,aH 1 (fL 1 fI) a1.gX,.sl 11 v35 0 x33.length,.sc (.slice none 0 0),.sc (.slice none 0 0),.sc (.slice none 0 0),int 0]]⟩ vK ?_
  refine tr aA 2 (.mk ?_)
  exact lf h2 v35 dP
  rintro y3_2 w3_1 h1
  refine tc aA 2 (.mk ?_)
  refine ni aA h1 λx36 h1=>?_
  refine tr aA 2 (.mk ?_)
  exact bk (x36,y3_2) w3_1 h1 dP
  rintro y4_2 w4_1 h0
  refine tc aA 3 (.mk ?_)
  refine sS ⟨32,10,true,true,v3,[[int a1.gG,int a1.gZ,aH 1 fI a1.bW,aH 1 (fL 1 fI) a1.Methods,aH 1 (fL 1 fI) a1.gX,.sl 11 w4_1 0 y4_2.length,.sc (.slice none 0 0),.sc (.slice none 0 0),.sc (.slice none 0 0),int 0]]⟩ lX ?_
  refine tr aA 2 (.mk ?_)
  obtain rfl:=fV h0
  refine wR hret (rC lX (rT .nil)) ?_
  exact dG.bD (.cons (dG.agg (.cons (.refl _) (.cons (.refl _) (.cons (.refl _) (.cons (.refl _) (.cons (.refl _) (.cons (gY rfl rfl rfl rfl rfl (Eq.symm rfl)) (.cons (.nil _) (.cons (.nil _) (.cons (.nil _) (.cons (.refl _) .nil))))))))))) (.cons (.refl _) .nil))
  replace h0:=ct h0
  refine tc aA 3 (.mk ?_)
  refine sY (MF (cs:=[int 0,int 0,.sc (.slice none 0 0),.sc (.slice none 0 0),.sc (.slice none 0 0),.sc (.slice none 0 0),.sc (.slice none 0 0),.sc (.slice none 0 0),.sc (.slice none 0 0),int 0]) (ps:=[]) rfl aAF z32 rfl .nil (by kernel_rfl)) ?_
  refine sS ⟨32,10,true,true,v3,[[int 0,int 0,.sc (.slice none 0 0),.sc (.slice none 0 0),.sc (.slice none 0 0),.sc (.slice none 0 0),.sc (.slice none 0 0),.sc (.slice none 0 0),.sc (.slice none 0 0),int 0]]⟩ lX ?_
  refine tr aA 2 (.mk ?_)
  obtain rfl:=fV h0
  refine wR hret (rC lX (rT .nil)) ?_
  exact dG.bD (.cons (dG.agg (.cons (.refl _) (.cons (.refl _) (.cons (.nil _) (.cons (.nil _) (.cons (.nil _) (.cons (.nil _) (.cons (.nil _) (.cons (.nil _) (.cons (.nil _) (.cons (.refl _) .nil))))))))))) (.cons (.refl _) .nil))
def aBW (a1:fM) (a2:Int):WT Tryz.prog (.b (bJ)) :=
 .al 1<|.al 2<|.cl 14 (zI a2 1099511627776) IA MX λx5=>.dr [(2,[1]),(3,[1]),(7,[1]),(8,[1])] [] [1] [] [0,1,2,3,4,5,6,7,8,9,10,11,12,13,14,15,16,17] (.bI 16 (bE (x5.tdiv 32)) λx6=>.as (a1.gG≠0) inferInstance<|.bl (x6.tmod a1.gG:Int) λx8=>.gv 19<|.bI 21 (bE (x5.tdiv 128)) λx9=>.ln 24 fI a1.bW<|.as ((a1.bW.length:Int)≠0) inferInstance<|.bl (x9.tmod (a1.bW.length:Int):Int) λx11=>.gv 25<|.bI 27 (bE (x5.tdiv 1024)) λx12=>.bI 28 (x12.tmod 8) λx13=>.bI 29 (bE (x13.tdiv 7)) λx14=>.bI 31 (bE (x5.tdiv 8192)) λx15=>.bI 32 (x15.tmod 24) λx16=>.bI 33 (bE (1+x16)) λx17=>.bI 35 (bE (x5.tdiv 196608)) λx18=>.bI 36 (x18.tmod 900) λx19=>.bI 38 (bE (x5.tdiv 7000000)) λx20=>.bI 39 (x20.tmod 12) λx21=>.bI 41 (x5.tmod 32) λx22=>.bB 44 (decide (x22<8)) λx23=>.ifs [44] x23 (.ret (((⟨1,x8,x11,x14,0,x17,x19,0,[]⟩:bJ):bJ))) (.bB 53 (decide (x22<11)) λx24=>.ifs [53] x24 (.bI 56 (bE (x17.tdiv 3)) λx25=>.bI 57 (bE (1+x25)) λx26=>.ret (((⟨2,0,0,0,0,x26,x19,x21,[]⟩:bJ):bJ))) (.bB 62 (decide (x22=11)) λx27=>.ifs [62] x27 (.bI 65 (bE (x17.tdiv 6)) λx28=>.bI 66 (bE (1+x28)) λx29=>.ret (((⟨3,0,0,0,0,x29,0,x21,[]⟩:bJ):bJ))) (.bB 70 (decide (x22<17)) λx30=>.ifs [70] x30 (.bI 75 (bE (x17.tdiv 3)) λx31=>.bI 76 (bE (1+x31)) λx32=>.ret (((⟨4,x8,x11,x14,0,x32,x19,0,[]⟩:bJ):bJ))) (.bB 81 (decide (x22<19)) λx33=>.ifs [81] x33 (.bI 84 (bE (x17.tdiv 8)) λx34=>.bI 85 (bE (1+x34)) λx35=>.ret (((⟨5,0,0,0,0,x35,x19,x21,[]⟩:bJ):bJ))) (.bB 90 (decide (x22=19)) λx36=>.ifs [90] x36 (.bI 95 (bE (x17.tdiv 8)) λx37=>.bI 96 (bE (1+x37)) λx38=>.ret (((⟨6,x8,x11,x14,0,x38,0,0,[]⟩:bJ):bJ))) (.bB 100 (decide (x22=20)) λx39=>.ifs [100] x39 (.bI 105 (bE (x17-1)) λx40=>.ret (((⟨7,x8,x11,x14,0,x40,0,0,[]⟩:bJ):bJ))) (.bB 109 (decide (x22=21)) λx41=>.ifs [109] x41 (.bI 114 (bE (1-x14)) λx42=>.bI 116 (bE (x17.tdiv 3)) λx43=>.bI 117 (bE (1+x43)) λx44=>.ret (((⟨8,x8,x11,x14,x42,x44,0,0,[]⟩:bJ):bJ))) (.bB 121 (decide (x22=22)) λx45=>.ifs [121] x45 (.bI 125 (x19.tmod 60) λx46=>.ret (((⟨9,x8,x11,0,0,0,x46,0,[]⟩:bJ):bJ))) (.bB 129 (decide (x22=23)) λx47=>.ifs [129] x47 (.bI 133 (x19.tmod 60) λx48=>.ret (((⟨10,x8,x11,0,0,0,x48,0,[]⟩:bJ):bJ))) (.bB 137 (decide (x22=24)) λx49=>.ifs [137] x49 (.to 139 (aH 1 fI ([x21]:List Int))<|.bI 142 (bE (x21+1)) λx50=>.bI 143 (x50.tmod 12) λx51=>.to 144 (aH 1 fI ([x21,x51]:List Int))<|.bI 146 (bE (x21+1)) λx52=>.bI 148 (bE (x21+2)) λx53=>.to 149 (aH 1 fI ([0,x52,x53]:List Int))<|.gv 150<|.bI 152 (x17.tmod 3) λx54=>.bo (ix ([([x21]:List Int),([x21,x51]:List Int),([0,x52,x53]:List Int)]:List (List Int)) x54) λx55=>.gv 153<|.bI 155 (x19.tmod 3) λx56=>.ret (((⟨11,0,0,0,x56,0,x19,0,x55⟩:bJ):bJ))) (.bB 160 (decide (x22<27)) λx57=>.ifs [160] x57 (.dr [(6,[1]),(7,[1]),(11,[1]),(12,[1])] [(19,[])] [1] [19] [0,1,2,3,4,5,6,7,8,9,10,11,12,13,14,15,16,17,18,19] (.bI 165 (bE (x8+1)) λx58=>.bI 169 (bE (a1.gG-1)) λx59=>.as (x59≠0) inferInstance<|.bl (x19.tmod x59:Int) λx61=>.gv 170<|.bI 171 (bE (x58+x61)) λx62=>.as (a1.gG≠0) inferInstance<|.bl (x62.tmod a1.gG:Int) λx64=>.gv 174<|.bI 176 (bE (x17.tdiv 3)) λx65=>.bI 177 (bE (1+x65)) λx66=>.ret (((⟨12,x8,x11,x14,x64,x66,x19,0,[]⟩:bJ):bJ)))) (.bB 182 (decide (x22<29)) λx67=>.ifs [182] x67 (.bI 186 (bE (x17.tdiv 4)) λx68=>.bI 187 (bE (1+x68)) λx69=>.ret (((⟨13,0,0,x14,0,x69,0,x21,[]⟩:bJ):bJ))) (.bB 191 (decide (x22=29)) λx70=>.ifs [191] x70 (.ret (((⟨14,x8,0,0,0,0,0,0,[]⟩:bJ):bJ))) (.bB 196 (decide (x22=30)) λx71=>.ifs [196] x71 (.ret (((⟨15,x8,0,0,0,0,0,0,[]⟩:bJ):bJ))) (.ret (((⟨16,x8,0,0,0,0,0,0,[]⟩:bJ):bJ))))))))))))))))))
def CG (a1:fM) (a2:Int):Option (bJ):=(aBW a1 a2).run
theorem QD {a1:fM} {a2:Int} {r:bJ} (h0:CG a1 a2=some r):PP Tryz.prog 11 [.agg (fM.av a1),int a2] (λy=>y=.agg (bJ.av r)):=by
 refine bY mixed aA (λ(r:bJ)=>.agg (bJ.av r)) h0 Tryz.func11 (λr=>(λ(a:bJ)=>PV.agg (bJ.dR a)) r) 100000 ?_
 intro v3
 intro v4
 refine .mk λx5 e5=>?_
 refine .mk ?_
 refine .mk λx6=>?_
 refine .mk λp7=>?_
 refine .mk λx8 e8=>?_
 refine .mk _ (λH hH _=>xQ rfl rfl rfl p7 e8) ?_
 refine .mk λx9=>?_
 refine .mk ?_
 refine .mk λwB=>?_
 refine .mk λx11 e11=>?_
 refine .mk _ (λH hH _=>xQ rfl rfl rfl wB e11) ?_
 refine .mk λx12=>?_
 refine .mk λx13=>?_
 refine .mk λx14=>?_
 refine .mk λx15=>?_
 refine .mk λx16=>?_
 refine .mk λx17=>?_
 refine .mk λx18=>?_
 refine .mk λx19=>?_
 refine .mk λx20=>?_
 refine .mk λx21=>?_
 refine .mk λx22=>?_
 refine .mk λx23=>?_
 refine .mk ?_ ?_
 exact .mk (dG.agg (.cons (.refl _) (.cons (.refl _) (.cons (.refl _) (.cons (.refl _) (.cons (.refl _) (.cons (.refl _) (.cons (.refl _) (.cons (.refl _) (.cons (.nil _) .nil))))))))))
 refine .mk λx24=>?_
 refine .mk ?_ ?_
 refine .mk λx25=>?_
 refine .mk λx26=>?_
 exact .mk (dG.agg (.cons (.refl _) (.cons (.refl _) (.cons (.refl _) (.cons (.refl _) (.cons (.refl _) (.cons (.refl _) (.cons (.refl _) (.cons (.refl _) (.cons (.nil _) .nil))))))))))
 refine .mk λx27=>?_
 refine .mk ?_ ?_
 refine .mk λx28=>?_
 refine .mk λx29=>?_
 exact .mk (dG.agg (.cons (.refl _) (.cons (.refl _) (.cons (.refl _) (.cons (.refl _) (.cons (.refl _) (.cons (.refl _) (.cons (.refl _) (.cons (.refl _) (.cons (.nil _) .nil))))))))))
 refine .mk λx30=>?_
 refine .mk ?_ ?_
 refine .mk λx31=>?_
 refine .mk λx32=>?_
 exact .mk (dG.agg (.cons (.refl _) (.cons (.refl _) (.cons (.refl _) (.cons (.refl _) (.cons (.refl _) (.cons (.refl _) (.cons (.refl _) (.cons (.refl _) (.cons (.nil _) .nil))))))))))
 refine .mk λx33=>?_
 refine .mk ?_ ?_
 refine .mk λx34=>?_
 refine .mk λx35=>?_
 exact .mk (dG.agg (.cons (.refl _) (.cons (.refl _) (.cons (.refl _) (.cons (.refl _) (.cons (.refl _) (.cons (.refl _) (.cons (.refl _) (.cons (.refl _) (.cons (.nil _) .nil))))))))))
 refine .mk λx36=>?_
 refine .mk ?_ ?_
 refine .mk λx37=>?_
 refine .mk λx38=>?_
 exact .mk (dG.agg (.cons (.refl _) (.cons (.refl _) (.cons (.refl _) (.cons (.refl _) (.cons (.refl _) (.cons (.refl _) (.cons (.refl _) (.cons (.refl _) (.cons (.nil _) .nil))))))))))
 refine .mk λx39=>?_
 refine .mk ?_ ?_
 refine .mk λx40=>?_
 exact .mk (dG.agg (.cons (.refl _) (.cons (.refl _) (.cons (.refl _) (.cons (.refl _) (.cons (.refl _) (.cons (.refl _) (.cons (.refl _) (.cons (.refl _) (.cons (.nil _) .nil))))))))))
 refine .mk λx41=>?_
 refine .mk ?_ ?_
 refine .mk λx42=>?_
 refine .mk λx43=>?_
 refine .mk λx44=>?_
 exact .mk (dG.agg (.cons (.refl _) (.cons (.refl _) (.cons (.refl _) (.cons (.refl _) (.cons (.refl _) (.cons (.refl _) (.cons (.refl _) (.cons (.refl _) (.cons (.nil _) .nil))))))))))
 refine .mk λx45=>?_
 refine .mk ?_ ?_
 refine .mk λx46=>?_
 exact .mk (dG.agg (.cons (.refl _) (.cons (.refl _) (.cons (.refl _) (.cons (.refl _) (.cons (.refl _) (.cons (.refl _) (.cons (.refl _) (.cons (.refl _) (.cons (.nil _) .nil))))))))))
 refine .mk λx47=>?_
 refine .mk ?_ ?_
 refine .mk λx48=>?_
 exact .mk (dG.agg (.cons (.refl _) (.cons (.refl _) (.cons (.refl _) (.cons (.refl _) (.cons (.refl _) (.cons (.refl _) (.cons (.refl _) (.cons (.refl _) (.cons (.nil _) .nil))))))))))
 refine .mk λx49=>?_
 refine .mk ?_ ?_
 refine .mk (fK (fT (y:=aH 1 fI ([x21]:List Int)) (jP (ps:=[(0,_)]) (rows:=[[int x21]]) rfl Tryz.underlying22 kC (.cons rfl .nil) (by kernel_rfl) rfl rfl rfl) rfl)) ?_
 refine .mk λx50=>?_
 refine .mk λx51=>?_
 refine .mk (fK (fT (y:=aH 1 fI ([x21,x51]:List Int)) (jP (ps:=[(0,_),(1,_)]) (rows:=[[int x21],[int x51]]) rfl Tryz.underlying22 kC (.cons rfl (.cons rfl .nil)) (by kernel_rfl) rfl rfl rfl) rfl)) ?_
 refine .mk λx52=>?_
 refine .mk λx53=>?_
 refine .mk (fK (fT (y:=aH 1 fI ([0,x52,x53]:List Int)) (jP (ps:=[(0,_),(1,_),(2,_)]) (rows:=[[int 0],[int x52],[int x53]]) rfl Tryz.underlying22 kC (.cons rfl (.cons rfl (.cons rfl .nil))) (by kernel_rfl) rfl rfl rfl) rfl)) ?_
 refine .mk _ (fK (GX (cs:=[aH 1 fI ([x21]:List Int),aH 1 fI ([x21,x51]:List Int),aH 1 fI ([0,x52,x53]:List Int)]) (ps:=[(0,_),(1,_),(2,_)]) rfl Tryz.underlying63 lT z63 rfl (.cons rfl (.cons rfl (.cons rfl .nil))) (by kernel_rfl))) ?_
 refine .mk λx54=>?_
 refine .mk λx55 e55=>?_
 refine .mk _ (fK (XH (g:=(fL 1 fI)) (l:=([([x21]:List Int),([x21,x51]:List Int),([0,x52,x53]:List Int)]:List (List Int))) (v:=x55) (w:=aH 1 fI x55) rfl Tryz.underlying63 lT rfl rfl rfl e55 (λ_=>rfl) hw1)) ?_
 refine .mk λx56=>?_
 exact .mk
 refine .mk λx57=>?_
 refine .mk ?_ ?_
 refine .mk ?_
 refine .mk λx58=>?_
 refine .mk λx59=>?_
 refine .mk λp60=>?_
 refine .mk λx61 e61=>?_
 refine .mk _ (λH hH _=>xQ rfl rfl rfl p60 e61) ?_
 refine .mk λx62=>?_
 refine .mk λp63=>?_
 refine .mk λx64 e64=>?_
 refine .mk _ (λH hH _=>xQ rfl rfl rfl p63 e64) ?_
 refine .mk λx65=>?_
 refine .mk λx66=>?_
 exact .mk (dG.agg (.cons (.refl _) (.cons (.refl _) (.cons (.refl _) (.cons (.refl _) (.cons (.refl _) (.cons (.refl _) (.cons (.refl _) (.cons (.refl _) (.cons (.nil _) .nil))))))))))
 refine .mk λx67=>?_
 refine .mk ?_ ?_
 refine .mk λx68=>?_
 refine .mk λx69=>?_
 exact .mk (dG.agg (.cons (.refl _) (.cons (.refl _) (.cons (.refl _) (.cons (.refl _) (.cons (.refl _) (.cons (.refl _) (.cons (.refl _) (.cons (.refl _) (.cons (.nil _) .nil))))))))))
 refine .mk λx70=>?_
 refine .mk ?_ ?_
 exact .mk (dG.agg (.cons (.refl _) (.cons (.refl _) (.cons (.refl _) (.cons (.refl _) (.cons (.refl _) (.cons (.refl _) (.cons (.refl _) (.cons (.refl _) (.cons (.nil _) .nil))))))))))
 refine .mk λx71=>?_
 refine .mk ?_ ?_
 exact .mk (dG.agg (.cons (.refl _) (.cons (.refl _) (.cons (.refl _) (.cons (.refl _) (.cons (.refl _) (.cons (.refl _) (.cons (.refl _) (.cons (.refl _) (.cons (.nil _) .nil))))))))))
 exact .mk (dG.agg (.cons (.refl _) (.cons (.refl _) (.cons (.refl _) (.cons (.refl _) (.cons (.refl _) (.cons (.refl _) (.cons (.refl _) (.cons (.refl _) (.cons (.nil _) .nil))))))))))
def TQ (n:Nat) (a1:fM) (a2:List Int):WT Tryz.prog (.b ((List bJ))) :=
 .al 1<|.jn 2 [4] [] [3] (λu6 (a:(List bJ))=>[(5,.sl 3 (u6 3) 0 a.length)]) (λ_ a=>[.nw 3 35 9 (a.map bJ.av)]) (.no 5 3 35 9<|.lp [1,2,4] [1] [3] (λu10 (a:Int×(List bJ))=>[(5,.sl 3 (u10 3) 0 a.2.length),(6,int a.1)]) (λ_ a=>[.nw 3 35 9 (a.2.map bJ.av)]) n ((0:Int),(([]:List bJ):List bJ)) (pw λy0_2 y0_3=>.jn 0 [1,2,4,5,6] [1,3] [] (λ_ (a:Bool)=>[(14,aZ a)]) (λ_ _=>[]) (.ln 9 fI a2<|.bB 10 (decide (y0_2<(a2.length:Int))) λx5=>.ifs [10] x5 (.bB 13 (decide (y0_2<120)) λx6=>.ret x6) (.ret false)) (λy1_1=>.ifs [14] y1_1 (.dr [(1,[1])] [(8,[])] [1] [8] [0,1,2,3,4,5,6,7,8,9] (.ix 21 fI a2 y0_2 λx7=>.cl 23 (CG a1 x7) NR QD λx8=>.to 24 (aH 9 bJ.av ([x8]:List bJ))<|.bl (y0_3++([x8]:List bJ):List bJ) λx9=>.as (x9.length<=68719476736) inferInstance<|.ge 25 0<|.bI 16 (bE (y0_2+1)) λx12=>.brk ((x12:Int),x9))) (.esc (.ret y0_3))))) (λy2_2=>.ret ((y2_2:List bJ)))
def J4 (n:Nat) (a1:fM) (a2:List Int):Option ((List bJ)):=(TQ n a1 a2).run
theorem aU5 {n a1 a2 r} (h0:J4 n a1 a2=some r):PP Tryz.prog 16 [.agg (fM.av a1),aH 1 fI a2] (λy=>y=aH 9 bJ.av r) :=
 bY mixed aA (λr:(List bJ)=>aH 9 bJ.av r) h0 Tryz.func16 (λr=>(jD bJ.dR) r) 100000 au
def ZT (a1:Int):WT Tryz.prog (.b ((List UInt8))) :=
 .bB 5 (decide (a1=1)) λx2=>.jn 0 [2,3] [] [] (λ_ (a:Bool)=>[(4,aZ a)]) (λ_ _=>[]) (.ifs [4,5] x2 (.ret true) (.bB 6 (decide (a1=4)) λx3=>.ret x3)) (λy0_1=>.ifs [4] y0_1 (.ret ((([101,105,108,113,97]:List UInt8):List UInt8))) (.bB 8 (decide (a1=2)) λx4=>.jn 0 [2,3] [] [] (λ_ (a:Bool)=>[(7,aZ a)]) (λ_ _=>[]) (.ifs [7,8] x4 (.ret true) (.bB 9 (decide (a1=5)) λx5=>.ret x5)) (λy1_1=>.ifs [7] y1_1 (.ret ((([113,97,114]:List UInt8):List UInt8))) (.bB 11 (decide (a1=3)) λx6=>.ifs [11] x6 (.ret ((([113,114]:List UInt8):List UInt8))) (.bB 13 (decide (a1=6)) λx7=>.jn 0 [2,3] [] [] (λ_ (a:Bool)=>[(12,aZ a)]) (λ_ _=>[]) (.ifs [12,13] x7 (.ret true) (.bB 14 (decide (a1=7)) λx8=>.ret x8)) (λy2_1=>.ifs [12] y2_1 (.ret ((([101,105,108,113]:List UInt8):List UInt8))) (.bB 16 (decide (a1=8)) λx9=>.ifs [16] x9 (.ret ((([101,105,108,116,113]:List UInt8):List UInt8))) (.bB 18 (decide (a1=9)) λx10=>.jn 0 [2,3] [] [] (λ_ (a:Bool)=>[(17,aZ a)]) (λ_ _=>[]) (.ifs [17,18] x10 (.ret true) (.bB 19 (decide (a1=10)) λx11=>.ret x11)) (λy3_1=>.ifs [17] y3_1 (.ret ((([101,105,97]:List UInt8):List UInt8))) (.bB 21 (decide (a1=11)) λx12=>.ifs [21] x12 (.ret ((([116,97,115]:List UInt8):List UInt8))) (.bB 23 (decide (a1=12)) λx13=>.ifs [23] x13 (.ret ((([101,105,108,116,113,97]:List UInt8):List UInt8))) (.bB 25 (decide (a1=13)) λx14=>.ifs [25] x14 (.ret ((([108,113,114]:List UInt8):List UInt8))) (.bB 27 (decide (a1=14)) λx15=>.jn 0 [2] [] [] (λ_ (a:Bool)=>[(26,aZ a)]) (λ_ _=>[]) (.ifs [26,27] x15 (.ret true) (.bB 28 (decide (a1=15)) λx16=>.ifs [28] x16 (.ret true) (.bB 29 (decide (a1=16)) λx17=>.ret x17))) (λy4_1=>.ifs [26] y4_1 (.ret ((([101]:List UInt8):List UInt8))) (.ret ((([]:List UInt8):List UInt8)))))))))))))))))
def IK (a1:Int):Option ((List UInt8)):=(ZT a1).run
theorem aP8 {a1 r} (h0:IK a1=some r):PP Tryz.prog 18 [int a1] (λy=>y=str r) :=
 bY mixed aA (λr:(List UInt8)=>str r) h0 Tryz.func18 (λr=>pvS r) 100000 au
def aBF (a1:bJ):WT Tryz.prog (.b (Bool)) :=
 .al 1<|.bB 6 (decide (a1.Kind=8)) λx3=>.ifs [6] x3 (.jn 1 [1] [1] [] (λ_ (a:Bool)=>[(2,aZ a)]) (λ_ _=>[]) (.bB 9 (decide (a1.To>=0)) λx4=>.ifs [9] x4 (.bB 13 (decide (a1.To<2)) λx5=>.ifs [13] x5 (.bB 20 (decide (a1.To≠a1.Loc)) λx6=>.ret x6) (.ret false)) (.ret false)) (λy0_1=>.ret ((y0_1:Bool)))) (.bB 23 (decide (a1.Kind=12)) λx7=>.ifs [23] x7 (.jn 1 [1] [1] [] (λ_ (a:Bool)=>[(2,aZ a)]) (λ_ _=>[]) (.bB 26 (decide (a1.To>=0)) λx8=>.ifs [26] x8 (.bB 30 (decide (a1.To<4)) λx9=>.ifs [30] x9 (.bB 37 (decide (a1.To≠a1.E)) λx10=>.ret x10) (.ret false)) (.ret false)) (λy1_1=>.ret ((y1_1:Bool)))) (.jn 1 [] [] [] (λ_ (a:Bool)=>[(2,aZ a)]) (λ_ _=>[]) (.bB 41 (decide (a1.To>=0)) λx11=>.ifs [41] x11 (.bB 45 (decide (a1.To<=2)) λx12=>.ret x12) (.ret false)) (λy2_1=>.ret ((y2_1:Bool)))))
def J7 (a1:bJ):Option (Bool):=(aBF a1).run
theorem aMS {a1 r} (h0:J7 a1=some r):PP Tryz.prog 40 [.agg (bJ.av a1)] (λy=>y=aZ r) :=
 bY mixed aA (λr:Bool=>aZ r) h0 Tryz.func40 (λr=>gT r) 100000 au
end
end Go.Pv
