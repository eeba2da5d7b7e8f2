import Derived.Test.YtmokiknakhhhdaaGreatXRd
set_option linter.unusedVariables false
set_option linter.unusedSimpArgs false
namespace Go.Pv
open Go.Proofs
set_option maxRecDepth 100000
set_option maxHeartbeats 4000000
noncomputable section
def aIW (n:Nat) (a1:List (List Int)):WB ((List (List Int))) :=
 .ln 7 (fL 1 fI) a1<|.jn 0 [2] [] [3] (λu2 (a:(List (List Int)))=>[(3,.sl 3 (u2 3) 0 a.length)]) (λ_ a=>[.nw 3 23 1 (a.map (fL 1 fI))]) (.no 3 3 23 1<|.lp [2,6,7] [] [3] (λu3 (a:Int×(List (List Int)))=>[(3,.sl 3 (u3 3) 0 a.2.length),(8,int a.1)]) (λ_ a=>[.nw 3 23 1 (a.2.map (fL 1 fI))]) n ((0:Int),(([]:List (List Int)):List (List Int))) (pw λy0_2 y0_3=>.bB 9 (decide (y0_2<(a1.length:Int))) λx3=>.ifs [9] x3 (.ix 10 (fL 1 fI) a1 y0_2 λx4=>.as (x4.length<=68719476736) inferInstance<|.ge 14 1<|.gv 15<|.bl (y0_3++[x4]:List (List Int)) λx7=>.as (x7.length<=68719476736) inferInstance<|.ge 16 0<|.bI 17 (bM (y0_2+1)) λx10=>.brk ((x10:Int),(x7:List (List Int)))) (.esc (.ret (y0_3:List (List Int)))))) (λy1_2=>.ret ((y1_2:List (List Int))))
def JG (n:Nat) (a1:List (List Int)):Option ((List (List Int))):=(aIW n a1).run
theorem RB {n a1}:PZ (JG n a1) 29 [aG 1 (fL 1 fI) a1] (λr=>aG 1 (fL 1 fI) r):=by
 refine wm Tryz.func29 ?_
 refine .mk ?_
 refine .mk ?_ ?_
 intro v2
 refine .mk ?_
 rintro ⟨y0_2,y0_3⟩ _
 refine .mk λx3=>?_
 refine .mk ?_ ?_
 refine .mk λx4 e4=>?_
 refine .mk λp5=>?_
 refine .mk _ ⟨λ_=>aN rfl rfl (.cons rfl .nil) CV (pN (GZ.pc (id:=1) (l:=x4) rfl p5) (.cons (.refl _) .nil)),λ_ _ _=>trivial⟩ ?_
 rintro _ _ ⟨v6,rfl,rfl⟩
 refine .mk _ (aT (dQ (ps:=[(0,_)]) (rows:=[[.sl 1 v6 0 x4.length]]) rfl Tryz.underlying24 oZ (.cons rfl .nil) (by kernel_rfl) rfl rfl rfl)) ?_
 refine .mk λx7 e7=>?_
 refine .mk λp8=>?_
 refine .mk _ ⟨λ_=>bZ.o9 1 rfl (iB (g:=(fL 1 fI)) (l:=y0_3) (m:=[x4]) .any rfl Tryz.underlying24 oZ wE rfl rfl rfl rfl rfl rfl rfl rfl rfl rfl (Eq.symm rfl) (fV.list (.cons (.cons (gJ rfl rfl rfl rfl rfl (Eq.symm rfl)) .nil) .nil)) (λ_=>rfl) e7 p8),λ_ _ _=>trivial⟩ ?_
 rintro _ _ ⟨v9,-,rfl,rfl⟩
 refine .mk λx10=>?_
 exact .mk
 exact .mk
 intro _ _
 exact .mk (gJ rfl rfl rfl rfl rfl (Eq.symm rfl))
def BD (a1:eU):Nat->Int->(List Int)->Option ((List Int))
  | 0,_,_=>none
  | n+1,y1_1,y1_2 =>
    bnd (decide (y1_1<((Int.toNat (a1.dH.length:Int)):Int))) λx33 =>
    cond x33 ((ix y1_2 y1_1).bind λx34 =>
    bnd (y1_2.set (Int.toNat y1_1) ((-1):Int)) λx35 =>
    bnd (bM (y1_1+1)) λx36 =>
    BD a1 n (x36:Int) (x35:List Int)) (some (y1_2:List Int))
def AZ (a1:eU):Nat->Int->(List bC)->Option ((List bC))
  | 0,_,_=>none
  | n+1,y0_1,y0_3 =>
    bnd (decide (y0_1<a1.iD)) λx13 =>
    cond x13 ((show Option ((List bC)) from
    bnd (bM ((a1.dH.length:Int)*2)) λx15 =>
    bU ((0:Int)<=x15/\(x15:Int)<=1048576)<|
    bnd (List.replicate (Int.toNat x15) ((⟨[],(⟨0,0,0⟩:uJ)⟩:dK):dK)) λx17 =>
    bU ((0:Int)<=17/\(17:Int)<=1048576)<|
    bnd (List.replicate (Int.toNat 17) (0:Int)) λx20 =>
    bU ((0:Int)<=(a1.dH.length:Int)/\((a1.dH.length:Int):Int)<=1048576)<|
    bnd (List.replicate (Int.toNat (a1.dH.length:Int)) ((⟨0,0,0,0,0,0,0,0,0,0,0⟩:gI):gI)) λx23 =>
    bU ((0:Int)<=(a1.dH.length:Int)/\((a1.dH.length:Int):Int)<=1048576)<|
    bnd (List.replicate (Int.toNat (a1.dH.length:Int)) (0:Int)) λx26 =>
    bU ((0:Int)<=(a1.dH.length:Int)/\((a1.dH.length:Int):Int)<=1048576)<|
    bnd (List.replicate (Int.toNat (a1.dH.length:Int)) (0:Int)) λx29 =>
    (show Option ((List Int)) from
    BD a1 n (0:Int) (x26:List Int)).bind <| λy2_1 =>
    bnd (y0_3++[(⟨1,false,x17,x20,x23,y2_1,x29,[]⟩:bC)]) λx37 =>
    bU (x37.length<=68719476736)<|
    some (x37:List bC)).bind <| λy3_2 =>
    bnd (bM (y0_1+1)) λx40 =>
    AZ a1 n (x40:Int) (y3_2:List bC)) (some (y0_3:List bC))
def C4 (n:Nat) (a1:eU):Option (bD×Int) :=
(CO n a1).bind λx4 =>
bnd (!x4) λx5 =>
bU (x5=false)<|
bU (a1.dH.length<=68719476736)<|
(JG n a1.Methods).bind λx8 =>
(JG n a1.jO).bind λx9 =>
(show Option ((List bC)) from
AZ a1 n (0:Int) (([]:List bC):List bC)).bind <| λy4_2 =>
some (((⟨(⟨a1.iD,a1.kV,a1.dH,x8,x9⟩:eU),y4_2,[],[],[],0⟩:bD):bD),(0:Int))
theorem aCV {n:Nat} {a1:eU} {r:bD×Int} (h0:C4 n a1=some r):PP Tryz.prog 14 [.agg (eU.av a1)] (λy=>y=.aS [.agg (bD.av r.1),int r.2]):=by
  unfold C4 at h0
  refine kE (R0:=λy H=>Cv (iN H) y (.aS [.agg (bD.av r.1),int r.2])) ?_ (λy H hc=>⟨_,rfl,.aS (BH ((λ(a:bD)=>PV.agg (bD.eH a)) (r.1)) (qI (r.2))),hc⟩)
  refine dD (c:=_) Tryz.func14 rfl rfl ?_;intro Q hret hnorm
  refine tc aA 2 (.mk ?_)
  refine sB 1 λv2=>?_
  refine sA 2 z35 λv3=>?_
  refine tr aA 6 (.mk ?_)
  obtain ⟨x4,e4,h0⟩:=bJ h0
  refine sC FE (DT _ e4) ?_
  refine nb aA h0 λx5 h0=>?_
  refine tr aA 1 (.mk ?_)
  replace h0:=cO h0
  obtain ⟨rfl,h0⟩:=h0
  refine tc aA 3 (.mk ?_)
  refine nH [0,1,3,0,8,31,0,64,255,223,1023,2047,4095,8191,16383] (rl [(0,[1]),(1,[1]),(3,[1]),(4,[1]),(6,[1]),(7,[1]),(9,[1]),(11,[1]),(13,[1])] []) (rl [(10,[]),(12,[]),(14,[])] [1]) (rl [(2,false),(10,false),(12,false),(14,false)] true) [0,1,3,4,6,7,2,5,8,9,10,11,12,13,14] mixed (by kernel_rfl) ?_;intro K hK
  refine eF VV ?_
  refine eL vD ?_
  refine eF U7 ?_
  refine eL yT ?_
  refine eF YF ?_
  refine eL yT ?_
  obtain ⟨p6,h0⟩:=cO h0
  refine MI rfl rfl rfl rfl (aN rfl rfl (.cons rfl .nil) CV (pN (GZ.pc (id:=3) (l:=a1.dH) rfl p6) (.cons (.refl _) .nil))) (by rintro _ _ ⟨v7,rfl,rfl⟩;exact ⟨rfl,trivial⟩) ?_;rintro _ _ ⟨v7,rfl,rfl⟩
  obtain ⟨x8,e8,h0⟩:=bJ h0
  refine eP (λH hH=>gH rfl rfl (.cons rfl .nil) YG (bO.refl _) (RB _ e8)) ?_
  obtain ⟨x9,e9,h0⟩:=bJ h0
  refine eP (λH hH=>gH rfl rfl (.cons rfl .nil) YG (bO.refl _) (RB _ e9)) ?_
  refine eF VV ?_
  refine jR rfl rfl rfl rfl (bZ.fA (gM (ob':=(⟨26,5,true,true,v2,[[int a1.iD,int a1.kV,.sl 3 v7 0 a1.dH.length,aG 1 (fL 1 fI) a1.Methods,aG 1 (fL 1 fI) a1.jO]]⟩:bA)) (dZ rfl vD rfl rfl rfl rfl rfl rfl rfl rfl rfl) rfl) (λ_ h=>h) (λ_ _=>trivial)) (by rintro _ _ ⟨rfl,rfl⟩;exact trivial) ?_;rintro _ _ ⟨rfl,rfl⟩
  refine eF U7 ?_
  refine jR rfl rfl rfl rfl (bZ.fA (gM (ob':=(⟨26,5,true,true,v2,[[int a1.iD,int a1.kV,.sl 3 v7 0 a1.dH.length,aG 1 (fL 1 fI) x8,aG 1 (fL 1 fI) a1.jO]]⟩:bA)) (dZ rfl yT rfl rfl rfl rfl rfl rfl rfl rfl rfl) rfl) (λ_ h=>h) (λ_ _=>trivial)) (by rintro _ _ ⟨rfl,rfl⟩;exact trivial) ?_;rintro _ _ ⟨rfl,rfl⟩
  refine eF YF ?_
  refine jR rfl rfl rfl rfl (bZ.fA (gM (ob':=(⟨26,5,true,true,v2,[[int a1.iD,int a1.kV,.sl 3 v7 0 a1.dH.length,aG 1 (fL 1 fI) x8,aG 1 (fL 1 fI) x9]]⟩:bA)) (dZ rfl yT rfl rfl rfl rfl rfl rfl rfl rfl rfl) rfl) (λ_ h=>h) (λ_ _=>trivial)) (by rintro _ _ ⟨rfl,rfl⟩;exact trivial) ?_;rintro _ _ ⟨rfl,rfl⟩
  refine jI (hK _ ?_)
  refine tc aA 3 (.mk ?_)
  refine sY (yC (cs:=[int a1.iD,int a1.kV,.sl 3 v7 0 a1.dH.length,aG 1 (fL 1 fI) x8,aG 1 (fL 1 fI) x9,.sc (.slice none 0 0),.sc (.slice none 0 0),.sc (.slice none 0 0),.sc (.slice none 0 0),int 0]) (ps:=[(0,_)]) rfl aHB z35 rfl (.cons rfl .nil) (by kernel_rfl)) ?_
  refine sA 4 z35 λv10=>?_
  refine sS ⟨35,10,true,true,v10,[[int a1.iD,int a1.kV,.sl 3 v7 0 a1.dH.length,aG 1 (fL 1 fI) x8,aG 1 (fL 1 fI) x9,.sc (.slice none 0 0),.sc (.slice none 0 0),.sc (.slice none 0 0),.sc (.slice none 0 0),int 0]]⟩ uO ?_
  refine tr aA 5 (.mk ?_)
  refine sY (iT rfl Tryz.underlying23 rfl (.sl rfl rfl)) ?_
  refine tr aA 9 (.mk ?_)
  refine jn h0 [2,3,4] [2,3] (λ(a:(List bC)) (k:Nat)=>[]) (λa k=>[(4,⟨35,10,true,true,v10,[[int a1.iD,int a1.kV,.sl 3 v7 0 a1.dH.length,aG 1 (fL 1 fI) x8,aG 1 (fL 1 fI) x9,.sl 12 k 0 a.length,.sc (.slice none 0 0),.sc (.slice none 0 0),.sc (.slice none 0 0),int 0]]⟩),(12,⟨47,8,true,true,k,a.map bC.av⟩)]) ⟨λj11 h1=>?_,?_⟩
  refine tc aA 1 (.mk ?_)
  refine QC 4 0 5 12 47 8 (rows:=λv12=>[[int a1.iD,int a1.kV,.sl 3 v7 0 a1.dH.length,aG 1 (fL 1 fI) x8,aG 1 (fL 1 fI) x9,.sl 12 v12 0 0,.sc (.slice none 0 0),.sc (.slice none 0 0),.sc (.slice none 0 0),int 0]]) rfl rfl rfl rfl (λ_=>rfl) ?_;intro v12
  refine lp (λn (a:Int×(List bC))=>AZ a1 n a.1 a.2) ((0:Int),(([]:List bC):List bC)) v12 h1 [2,3,4,5,30] [2,3] (λ(a:Int×(List bC)) (k:Nat)=>[(31,int a.1)]) (λa k=>[(4,⟨35,10,true,true,v10,[[int a1.iD,int a1.kV,.sl 3 v7 0 a1.dH.length,aG 1 (fL 1 fI) x8,aG 1 (fL 1 fI) x9,.sl 12 k 0 a.2.length,.sc (.slice none 0 0),.sc (.slice none 0 0),.sc (.slice none 0 0),int 0]]⟩),(12,⟨47,8,true,true,k,a.2.map bC.av⟩)]) (λ_=>rfl) ⟨aW,?_⟩
  rintro n ⟨y0_1,y0_3⟩ w0_2 hm h1
  replace h1:AZ a1 (n+1) y0_1 y0_3=some _:=h1
  rw [AZ] at h1
  refine tc aA 2 (.mk ?_)
  refine nb aA h1 λx13 h1=>?_
  refine tr aA 2 (.mk ?_)
  cases x13
  replace h1:=cf h1
  refine tc aA 2 (.mk ?_)
  exact lf h1 w0_2 aW
  replace h1:=ct h1
  refine tc aA 3 (.mk ?_)
  refine jn h1 [2,3,4,5,30,31] [2,3] (λ(a:(List bC)) (k:Nat)=>[]) (λa k=>[(4,⟨35,10,true,true,v10,[[int a1.iD,int a1.kV,.sl 3 v7 0 a1.dH.length,aG 1 (fL 1 fI) x8,aG 1 (fL 1 fI) x9,.sl 12 k 0 a.length,.sc (.slice none 0 0),.sc (.slice none 0 0),.sc (.slice none 0 0),int 0]]⟩),(12,⟨47,8,true,true,k,a.map bC.av⟩)]) ⟨λj14 h2=>?_,?_⟩
  refine tc aA 2 (.mk ?_)
  refine AQ [0,1,3,0,0,16,0,64,0,256,1023,0,4095] (λi k=>bif Nat.beq i 12 then (Nat.beq k 5 || Nat.beq k 6 || Nat.beq k 7 || Nat.beq k 8 || Nat.beq k 9 || Nat.beq k 10) else false) (λi=>bif Nat.beq i 2 then (some 5) else bif Nat.beq i 3 then (some 6) else bif Nat.beq i 5 then (some 7) else bif Nat.beq i 7 then (some 8) else bif Nat.beq i 9 then (some 9) else bif Nat.beq i 11 then (some 10) else bif Nat.beq i 12 then (some 10) else none) mixed (by kernel_rfl) ?_;intro C K hK
  refine iH rfl (λH hH=>bF rfl rfl) ?_
  obtain ⟨x15,e15,h2⟩:=aP h2
  refine iH rfl (λH hH=>DY rfl rfl rfl e15) ?_
  obtain ⟨p16,h2⟩:=cO h2
  obtain ⟨x17,e17,h2⟩:=aP h2
  have lx17:x17.length=(Int.toNat x15):=by rw [<- e17];exact List.length_replicate
  refine oN rfl rfl (λH hH=>BR (wI 5 (g:=dK.av) (z0:=((⟨[],(⟨0,0,0⟩:uJ)⟩:dK):dK)) (.one _) rfl Tryz.underlying44 X4 TJ rfl rfl rfl p16 (.cons (.nil _) (.cons (.sc _) (.cons (.sc _) (.cons (.sc _) .nil)))) e17)) ?_;generalize C+2=v18
  obtain ⟨p19,h2⟩:=cO h2
  obtain ⟨x20,e20,h2⟩:=aP h2
  have lx20:x20.length=(Int.toNat 17):=by rw [<- e20];exact List.length_replicate
  refine oN rfl rfl (λH hH=>BR (wI 6 (g:=fI) (z0:=(0:Int)) (.one _) rfl Tryz.underlying23 kN pZ rfl rfl rfl p19 (.cons (.sc _) .nil) e20)) ?_;generalize C+3=v21
  refine iH rfl (λH hH=>bF rfl rfl) ?_
  obtain ⟨p22,h2⟩:=cO h2
  obtain ⟨x23,e23,h2⟩:=aP h2
  have lx23:x23.length=(Int.toNat (a1.dH.length:Int)):=by rw [<- e23];exact List.length_replicate
  refine oN rfl rfl (λH hH=>BR (wI 7 (g:=gI.av) (z0:=((⟨0,0,0,0,0,0,0,0,0,0,0⟩:gI):gI)) (.one _) rfl Tryz.underlying45 XJ WW rfl rfl rfl p22 (.cons (.sc _) (.cons (.sc _) (.cons (.sc _) (.cons (.sc _) (.cons (.sc _) (.cons (.sc _) (.cons (.sc _) (.cons (.sc _) (.cons (.sc _) (.cons (.sc _) (.cons (.sc _) .nil))))))))))) e23)) ?_;generalize C+5=v24
  refine iH rfl (λH hH=>bF rfl rfl) ?_
  obtain ⟨p25,h2⟩:=cO h2
  obtain ⟨x26,e26,h2⟩:=aP h2
  have lx26:x26.length=(Int.toNat (a1.dH.length:Int)):=by rw [<- e26];exact List.length_replicate
  refine oN rfl rfl (λH hH=>BR (wI 8 (g:=fI) (z0:=(0:Int)) (.one _) rfl Tryz.underlying23 kN pZ rfl rfl rfl p25 (.cons (.sc _) .nil) e26)) ?_;generalize C+7=v27
  refine iH rfl (λH hH=>bF rfl rfl) ?_
  obtain ⟨p28,h2⟩:=cO h2
  obtain ⟨x29,e29,h2⟩:=aP h2
  have lx29:x29.length=(Int.toNat (a1.dH.length:Int)):=by rw [<- e29];exact List.length_replicate
  refine oN rfl rfl (λH hH=>BR (wI 9 (g:=fI) (z0:=(0:Int)) (.one _) rfl Tryz.underlying23 kN pZ rfl rfl rfl p28 (.cons (.sc _) .nil) e29)) ?_;generalize C+9=v30
  refine iH rfl (λH hH=>yC (cs:=[int 1,aB false,.sl 5 v18 0 (Int.toNat x15),.sl 6 v21 0 (Int.toNat 17),.sl 7 v24 0 (Int.toNat (a1.dH.length:Int)),.sl 8 v27 0 (Int.toNat (a1.dH.length:Int)),.sl 9 v30 0 (Int.toNat (a1.dH.length:Int)),.sc (.slice none 0 0)]) (ps:=[(0,_),(2,_),(3,_),(4,_),(5,_),(6,_)]) rfl aC8 z47 rfl (.cons rfl (.cons rfl (.cons rfl (.cons rfl (.cons rfl (.cons rfl .nil)))))) (by kernel_rfl)) ?_
  refine oN rfl rfl (λH hH=>MQ 10 rfl z47 rfl) ?_;generalize C+11=v31
  refine TI rfl rfl rfl (λH hH=>gM (ob':=(⟨47,8,true,true,v31,[[int 1,aB false,.sl 5 v18 0 (Int.toNat x15),.sl 6 v21 0 (Int.toNat 17),.sl 7 v24 0 (Int.toNat (a1.dH.length:Int)),.sl 8 v27 0 (Int.toNat (a1.dH.length:Int)),.sl 9 v30 0 (Int.toNat (a1.dH.length:Int)),.sc (.slice none 0 0)]]⟩:bA)) (dZ rfl E8 rfl rfl ((hH _ rfl).trans rfl) rfl rfl rfl rfl rfl rfl) rfl) ?_
  refine zY (hK _ ?_)
  refine tc aA 5 (.mk ?_)
  refine sY (iT rfl Tryz.underlying23 rfl (.sl rfl rfl)) ?_
  refine tr aA 2 (.mk ?_)
  refine jn h2 [2,3,4,5,6,30,31] [2,3,4,5,6,7,9,12] (λ(a:(List Int)) (k:Unit)=>[]) (λa k=>[(8,⟨3,1,true,true,v27,a.map fI⟩),(10,⟨47,8,true,true,v31,[[int 1,aB false,.sl 5 v18 0 (Int.toNat x15),.sl 6 v21 0 (Int.toNat 17),.sl 7 v24 0 (Int.toNat (a1.dH.length:Int)),.sl 8 v27 0 a.length,.sl 9 v30 0 (Int.toNat (a1.dH.length:Int)),.sc (.slice none 0 0)]]⟩)]) ⟨λj32 h3=>?_,?_⟩
  refine tc aA 1 (.mk ?_)
  refine lp (λn (a:Int×(List Int))=>BD a1 n a.1 a.2) ((0:Int),(x26:List Int)) () h3 [2,3,4,5,6,30,31,46] [2,3,4,5,6,7,9,12] (λ(a:Int×(List Int)) (k:Unit)=>[(47,int a.1)]) (λa k=>[(8,⟨3,1,true,true,v27,a.2.map fI⟩),(10,⟨47,8,true,true,v31,[[int 1,aB false,.sl 5 v18 0 (Int.toNat x15),.sl 6 v21 0 (Int.toNat 17),.sl 7 v24 0 (Int.toNat (a1.dH.length:Int)),.sl 8 v27 0 a.2.length,.sl 9 v30 0 (Int.toNat (a1.dH.length:Int)),.sc (.slice none 0 0)]]⟩)]) (λ_=>rfl) ⟨zC ⟨⟨_,rfl,(.refl _)⟩,⟨_,rfl,(.refl _)⟩,⟨_,rfl,(.refl _)⟩,⟨_,rfl,(.refl _)⟩,⟨_,rfl,(.refl _)⟩,⟨_,rfl,(.refl _)⟩,⟨_,rfl,(.refl _)⟩,⟨_,rfl,(.refl _)⟩,⟨_,rfl,(.refl _)⟩,trivial⟩ ⟨⟨_,rfl,(.refl _)⟩,⟨_,rfl,⟨rfl,(.cons (.cons (.refl _) (.cons (.refl _) (.cons (.refl _) (.cons (.refl _) (.cons (.refl _) (.cons (sF (Eq.symm lx26)) (.cons (.refl _) (.cons (.refl _) .nil)))))))) .nil)⟩⟩,⟨_,rfl,(.refl _)⟩,⟨_,rfl,(.refl _)⟩,⟨_,rfl,(.refl _)⟩,⟨_,rfl,(.refl _)⟩,⟨_,rfl,(.refl _)⟩,⟨_,rfl,(.refl _)⟩,⟨_,rfl,(.refl _)⟩,⟨_,rfl,(.refl _)⟩,trivial⟩,?_⟩
  rintro n ⟨y1_1,y1_2⟩ _ hm h3
  replace h3:BD a1 (n+1) y1_1 y1_2=some _:=h3
  rw [BD] at h3
  refine tc aA 2 (.mk ?_)
  refine nb aA h3 λx33 h3=>?_
  refine tr aA 2 (.mk ?_)
  cases x33
  replace h3:=cf h3
  refine tc aA 2 (.mk ?_)
  exact lf h3 () aW
  replace h3:=ct h3
  refine tc aA 13 (.mk ?_)
  obtain ⟨x34,e34,h3⟩:=bJ h3
  refine sY (lY rfl Tryz.underlying23 bW rfl rfl rfl rfl rfl (Eq.symm rfl) (List.length_map _) e34) ?_
  obtain ⟨x35,e35,h3⟩:=aP h3
  have fx35:=oU e34 e35;have lx35:=nX e35 (rfl:y1_2.length=y1_2.length)
  refine NA rfl rfl (gM (ob':=(⟨3,1,true,true,v27,x35.map fI⟩:bA)) (dZ rfl bW rfl rfl rfl rfl rfl (kK e34) rfl rfl rfl) (qO (sH e35))) ?_
  refine tr aA 3 (.mk ?_)
  refine ni aA h3 λx36 h3=>?_
  refine tr aA 2 (.mk ?_)
  exact bk (x36,x35) () h3 (zC ⟨⟨_,rfl,(.refl _)⟩,⟨_,rfl,(.refl _)⟩,⟨_,rfl,(.refl _)⟩,⟨_,rfl,(.refl _)⟩,⟨_,rfl,(.refl _)⟩,⟨_,rfl,(.refl _)⟩,⟨_,rfl,(.refl _)⟩,⟨_,rfl,(.refl _)⟩,⟨_,rfl,(.refl _)⟩,trivial⟩ ⟨⟨_,rfl,(.refl _)⟩,⟨_,rfl,⟨rfl,(.cons (.cons (.refl _) (.cons (.refl _) (.cons (.refl _) (.cons (.refl _) (.cons (.refl _) (.cons (sF (Eq.symm lx35)) (.cons (.refl _) (.cons (.refl _) .nil)))))))) .nil)⟩⟩,⟨_,rfl,(.refl _)⟩,⟨_,rfl,(.refl _)⟩,⟨_,rfl,(.refl _)⟩,⟨_,rfl,(.refl _)⟩,⟨_,rfl,(.refl _)⟩,⟨_,rfl,(.refl _)⟩,⟨_,rfl,(.refl _)⟩,⟨_,rfl,(.refl _)⟩,trivial⟩)
  rintro y2_1 _ h2
  refine tc aA 4 (.mk ?_)
  refine sY (dQ (ps:=[(0,_)]) (rows:=[[int 1,aB false,.sl 5 v18 0 (Int.toNat x15),.sl 6 v21 0 (Int.toNat 17),.sl 7 v24 0 (Int.toNat (a1.dH.length:Int)),.sl 8 v27 0 y2_1.length,.sl 9 v30 0 (Int.toNat (a1.dH.length:Int)),.sc (.slice none 0 0)]]) rfl Tryz.underlying30 NP (.cons rfl .nil) (by kernel_rfl) rfl rfl rfl) ?_
  obtain ⟨x37,e37,h2⟩:=aP h2
  obtain ⟨p38,h2⟩:=cO h2
  refine bL rfl rfl rfl (bZ.o9 5 rfl (bZ.o9 6 rfl (bZ.o9 7 rfl (bZ.o9 8 rfl (bZ.o9 9 rfl (iB (g:=bC.av) (l:=y0_3) (m:=[(⟨1,false,x17,x20,x23,y2_1,x29,[]⟩:bC)]) .any rfl Tryz.underlying30 NP Y1 rfl rfl rfl rfl rfl rfl rfl rfl rfl rfl (Eq.symm rfl) (fV.list (ys:=[bC.av (⟨1,false,x17,x20,x23,y2_1,x29,[]⟩:bC)]) (.cons (wB (.cons (.refl _) (.cons (.refl _) (.cons (gJ rfl rfl rfl rfl rfl (Eq.symm lx17)) (.cons (gJ rfl rfl rfl rfl rfl (Eq.symm lx20)) (.cons (gJ rfl rfl rfl rfl rfl (Eq.symm lx23)) (.cons (gJ rfl rfl rfl rfl rfl (Eq.symm rfl)) (.cons (gJ rfl rfl rfl rfl rfl (Eq.symm lx29)) (.cons (.nil _) .nil)))))))) (bC.gU _)) .nil)) bC.one e37 p38)))))) ?_;rintro _ _ ⟨v39,-,rfl,rfl⟩
  refine tr aA 1 (.mk ?_)
  refine sS ⟨35,10,true,true,v10,[[int a1.iD,int a1.kV,.sl 3 v7 0 a1.dH.length,aG 1 (fL 1 fI) x8,aG 1 (fL 1 fI) x9,.sl 12 v39 0 x37.length,.sc (.slice none 0 0),.sc (.slice none 0 0),.sc (.slice none 0 0),int 0]]⟩ aLM ?_
  refine tr aA 2 (.mk ?_)
  exact lf h2 v39 aW
  rintro y3_2 w3_1 h1
  refine tc aA 1 (.mk ?_)
  refine ni aA h1 λx40 h1=>?_
  refine tr aA 2 (.mk ?_)
  exact bk (x40,y3_2) w3_1 h1 aW
  rintro y4_2 w4_1 h0
  refine tc aA 3 (.mk ?_)
  refine sS ⟨35,10,true,true,v3,[[int a1.iD,int a1.kV,.sl 3 v7 0 a1.dH.length,aG 1 (fL 1 fI) x8,aG 1 (fL 1 fI) x9,.sl 12 w4_1 0 y4_2.length,.sc (.slice none 0 0),.sc (.slice none 0 0),.sc (.slice none 0 0),int 0]]⟩ uO ?_
  refine tr aA 2 (.mk ?_)
  obtain rfl:=bE h0
  refine wR hret (rC uO (rT .nil)) ?_
  exact bO.aS (.cons (bO.agg (.cons (.refl _) (.cons (.refl _) (.cons (gJ rfl rfl rfl rfl rfl (Eq.symm rfl)) (.cons (.refl _) (.cons (.refl _) (.cons (gJ rfl rfl rfl rfl rfl (Eq.symm rfl)) (.cons (.nil _) (.cons (.nil _) (.cons (.nil _) (.cons (.refl _) .nil))))))))))) (.cons (.refl _) .nil))
def aEE (a1:bD) (a2:Int) (a3:Int):WB (Bool) :=
 .al 1<|.jn 0 [1,3,6] [1] [] (λ_ (a:Bool)=>[(29,aB a)]) (λ_ _=>[]) (.bB 10 (decide (a2<0)) λx5=>.ifs [10] x5 (.ret true) (.ln 15 bC.av a1.dX<|.bB 16 (decide (a2>=(a1.dX.length:Int))) λx6=>.ifs [16] x6 (.ret true) (.bB 20 (decide (a3<0)) λx7=>.ifs [20] x7 (.ret true) (.ln 27 fI a1.dR.dH<|.bB 28 (decide (a3>=(a1.dR.dH.length:Int))) λx8=>.ret x8)))) (λy0_1=>.az [29] y0_1 (.dr [(0,[1]),(1,[1]),(5,[1]),(6,[1]),(7,[1])] [] [1] [9,10] [0,1,2,3,4,5,6,7,8,9,10,11] (.oC 33 bC.av gE bC.gU a1.dX a2 λx9=>.ln 38 fI a1.dR.dH<|.al 2<|.jn 0 [] [] [] (λ_ (a:Bool)=>[(6,aB a)]) (λ_ _=>[]) (.ln 41 dK.av x9.iF<|.bI 43 (bM ((a1.dR.dH.length:Int)*2)) λx11=>.bB 44 (decide ((x9.iF.length:Int)>=x11)) λx12=>.ifs [44] x12 (.ln 48 gI.av x9.gZ<|.bB 50 (decide ((x9.gZ.length:Int)>=(a1.dR.dH.length:Int))) λx13=>.ifs [50] x13 (.ln 57 (fL 1 fI) a1.dR.Methods<|.bB 58 (decide (a2<(a1.dR.Methods.length:Int))) λx14=>.ifs [58] x14 (.ln 65 (fL 1 fI) a1.dR.jO<|.bB 66 (decide (a2<(a1.dR.jO.length:Int))) λx15=>.ifs [66] x15 (.ix 73 (fL 1 fI) a1.dR.Methods a2 λx16=>.ln 75 fI x16<|.bB 77 (decide ((x16.length:Int)>=(a1.dR.dH.length:Int))) λx17=>.ifs [77] x17 (.ix 84 (fL 1 fI) a1.dR.jO a2 λx18=>.ln 86 fI x18<|.bB 88 (decide ((x18.length:Int)>=(a1.dR.dH.length:Int))) λx19=>.ret x19) (.ret false)) (.ret false)) (.ret false)) (.ret false)) (.ret false)) (λy1_1=>.ret ((y1_1:Bool))))))
def ET (a1:bD) (a2:Int) (a3:Int):Option (Bool):=(aEE a1 a2 a3).run
theorem NC {a1 a2 a3}:PZ (ET a1 a2 a3) 186 [.agg (bD.av a1),int a2,int a3] aB:=wq Tryz.func186
def aDH (a1:bD) (a2:Int) (a3:Int):WB (Int) :=
 .al 1<|.cl 11 (ET a1 a2 a3) IU NC λx5=>.bB 12 (!x5) λx6=>.az [12] x6 (.oC 17 bC.av gE bC.gU a1.dX a2 λx7=>.wt 13 <|.az [13] x7.Closed (.ret ((0:Int))))
def KC (a1:bD) (a2:Int) (a3:Int):Option (Int):=(aDH a1 a2 a3).run
theorem TH {a1 a2 a3}:PZ (KC a1 a2 a3) 192 [.agg (bD.av a1),int a2,int a3] int:=wq Tryz.func192
def YD (a1:Int) (a2:Int) (a3:Int):WB (Bool) :=
 .jn 1 [] [] [] (λ_ (a:Bool)=>[(6,aB a)]) (λ_ _=>[]) (.bB 9 (decide (a1>=a2)) λx4=>.ifs [9] x4 (.bB 13 (decide (a1<=a3)) λx5=>.ret x5) (.ret false)) (λy0_1=>.ret ((y0_1:Bool)))
def lH (a1:Int) (a2:Int) (a3:Int):Option (Bool):=(YD a1 a2 a3).run
theorem mH {a1 a2 a3}:PZ (lH a1 a2 a3) 76 [int a1,int a2,int a3] aB:=wq Tryz.func76
def aHY (a1:bD) (a2:Int) (a3:Int) (a4:Int):WB (Int) :=
 .al 1<|.jn 0 [2,3,8] [] [] (λ_ (a:Bool)=>[(18,aB a)]) (λ_ _=>[]) (.cl 12 (ET a1 a2 a3) IU NC λx6=>.bB 13 (!x6) λx7=>.ifs [13] x7 (.ret true) (.cl 16 (lH a4 0 1) mE mH λx8=>.bB 17 (!x8) λx9=>.ret x9)) (λy0_1=>.az [18] y0_1 (.bI 20 (bM (a3*2)) λx10=>.bI 22 (bM (x10+a4)) λx11=>.ret ((x11:Int))))
def L8 (a1:bD) (a2:Int) (a3:Int) (a4:Int):Option (Int):=(aHY a1 a2 a3 a4).run
theorem V3 {a1 a2 a3 a4}:PZ (L8 a1 a2 a3 a4) 216 [.agg (bD.av a1),int a2,int a3,int a4] int:=wq Tryz.func216
def aCY (a1:dB):WB (Bool) :=
 .al 1<|.jn 0 [] [] [] (λ_ (a:Bool)=>[(2,aB a)]) (λ_ _=>[]) (.bB 5 (decide (a1.aM<1)) λx3=>.ifs [5] x3 (.ret true) (.bB 9 (decide (a1.aM>288230376151711744)) λx4=>.ifs [9] x4 (.ret true) (.bB 14 (decide (a1.Value<0)) λx5=>.ifs [14] x5 (.ret true) (.bB 19 (decide (a1.Value>288230376151711744)) λx6=>.ifs [19] x6 (.ret true) (.bB 24 (decide (a1.gG<(-288230376151711744))) λx7=>.ifs [24] x7 (.ret true) (.bB 29 (decide (a1.gG>288230376151711744)) λx8=>.ret x8)))))) (λy0_1=>.ret ((y0_1:Bool)))
def TD (a1:dB):Option (Bool):=(aCY a1).run
theorem aJO {a1}:PZ (TD a1) 213 [.agg (dB.av a1)] aB:=wq Tryz.func213
def aIH (a1:Int):WB (Bool) :=
 .jn 1 [] [] [] (λ_ (a:Bool)=>[(2,aB a)]) (λ_ _=>[]) (.bB 4 (decide (a1>=(-288230376151711744))) λx2=>.ifs [4] x2 (.bB 7 (decide (a1<=288230376151711744)) λx3=>.ret x3) (.ret false)) (λy0_1=>.ret ((y0_1:Bool)))
def EY (a1:Int):Option (Bool):=(aIH a1).run
theorem MR {a1}:PZ (EY a1) 105 [int a1] aB:=wq Tryz.func105
def aG7 (a1:Int) (a2:Int):WB (Int×Int) :=
 .jn 1 [0,1,4,5] [] [] (λ_ (a:Bool)=>[(20,aB a)]) (λ_ _=>[]) (.cl 7 (EY a1) ND MR λx3=>.bB 8 (!x3) λx4=>.ifs [8] x4 (.ret true) (.cl 11 (EY a2) ND MR λx5=>.bB 12 (!x5) λx6=>.ifs [12] x6 (.ret true) (.bI 17 (bM (a1+a2)) λx7=>.cl 18 (EY x7) ND MR λx8=>.bB 19 (!x8) λx9=>.ret x9))) (λy0_1=>.az [20] y0_1 (.bI 23 (bM (a1+a2)) λx10=>.ret ((x10:Int),0)))
def o8 (a1:Int) (a2:Int):Option (Int×Int):=(aG7 a1 a2).run
theorem pW {a1 a2}:PZ (o8 a1 a2) 55 [int a1,int a2] (λr=>.aS [int r.1,int r.2]):=wq Tryz.func55
def aNF (n:Nat) (a1:List Int):WB (Int×Int) :=
 .ln 9 fI a1<|.jn 0 [2,3] [] [] (λ_ (a:Int)=>[(4,int a)]) (λ_ _=>[]) (.lp [2,3,8,9] [] [] (λ_ (a:Int×Int)=>[(4,int a.1),(10,int a.2)]) (λ_ _=>[]) n ((0:Int),0) (pw λy0_1 y0_2=>.bB 11 (decide (y0_2<(a1.length:Int))) λx2=>.ifs [11] x2 (.ix 12 fI a1 y0_2 λx3=>.cl 17 (o8 y0_1 x3) pO pW λx4=>.bB 21 (decide (x4.2≠0)) λx5=>.az [21] x5 (.bI 23 (bM (y0_2+1)) λx6=>.brk ((x4.1:Int),x6))) (.esc (.ret y0_1)))) (λy1_1=>.ret ((y1_1:Int),0))
def sG (n:Nat) (a1:List Int):Option (Int×Int):=(aNF n a1).run
theorem tV {n a1}:PZ (sG n a1) 98 [aG 1 fI a1] (λr=>.aS [int r.1,int r.2]):=wq Tryz.func98
def aLK (n:Nat) (a1:List dB):WB (dB×Int) :=
 .al 1<|.ln 15 dB.av a1<|.jn 0 [2,3] [1] [6,7,8] (λu2 (a:(List Int)×(List Int)×(List Int))=>[(4,.sl 6 (u2 6) 0 a.1.length),(5,.sl 7 (u2 7) 0 a.2.1.length),(6,.sl 8 (u2 8) 0 a.2.2.length)]) (λ_ a=>[.nw 6 3 1 (a.1.map fI),.nw 7 3 1 (a.2.1.map fI),.nw 8 3 1 (a.2.2.map fI)]) (.no 4 6 3 1<|.no 5 7 3 1<|.no 6 8 3 1<|.lp [2,3,14,15] [1] [6,7,8] (λu3 (a:Int×(List Int)×(List Int)×(List Int))=>[(4,.sl 6 (u3 6) 0 a.2.1.length),(5,.sl 7 (u3 7) 0 a.2.2.1.length),(6,.sl 8 (u3 8) 0 a.2.2.2.length),(16,int a.1)]) (λ_ a=>[.nw 6 3 1 (a.2.1.map fI),.nw 7 3 1 (a.2.2.1.map fI),.nw 8 3 1 (a.2.2.2.map fI)]) n ((0:Int),(([]:List Int):List Int),(([]:List Int):List Int),(([]:List Int):List Int)) (pw λy0_4 q0=>(pw λy0_5 q1=>(pw λy0_6 y0_7=>.bB 17 (decide (y0_4<(a1.length:Int))) λx6=>.ifs [17] x6 (.ix 18 dB.av a1 y0_4 λx7=>.al 2<|.dr [(1,[2]),(2,[2]),(6,[2]),(7,[2]),(11,[2]),(12,[2])] [(14,[])] [2] [4,9,14] [0,1,2,3,5,6,7,8,10,11,12,13,4,9,14,15,16,17] (.to 23 (aG 1 fI ([x7.aM]:List Int))<|.to 28 (aG 1 fI ([x7.Value]:List Int))<|.to 33 (aG 1 fI ([x7.gG]:List Int))<|.bl (y0_5++([x7.aM]:List Int):List Int) λx9=>.as (x9.length<=68719476736) inferInstance<|.ge 24 0<|.bl (y0_6++([x7.Value]:List Int):List Int) λx12=>.as (x12.length<=68719476736) inferInstance<|.ge 29 0<|.bl (y0_7++([x7.gG]:List Int):List Int) λx15=>.as (x15.length<=68719476736) inferInstance<|.ge 34 0<|.bI 35 (bM (y0_4+1)) λx18=>.brk ((x18:Int),x9,x12,x15))) (.esc (.ret ((y0_5:List Int),y0_6,y0_7)))) q1) q0)) (pw λy1_4 q0=>(pw λy1_5 y1_6=>.al 9<|.gv 45<|.jn 0 [2,3,9] [1] [] (λ_ (a:dB)=>[]) (λ_ a=>[.kp 9 [[int a.aM,int a.Value,int a.gG]]]) (.un 24 (.kB 48 true<|.gv 49<|.al 10<|.nS 54 (sG n y1_4) uN tV (λ_=>rfl) λx21=>.bB 58 (decide (x21.2≠0)) λx22=>.az [58] x22 (.kI 65 1<|.kB 48 true<|.gv 49<|.al 11<|.nS 54 (sG n y1_5) uN tV (λ_=>rfl) λx24=>.bB 58 (decide (x24.2≠0)) λx25=>.az [58] x25 (.kI 65 2<|.kB 48 true<|.gv 49<|.al 12<|.nS 54 (sG n y1_6) uN tV (λ_=>rfl) λx27=>.bB 58 (decide (x27.2≠0)) λx28=>.az [58] x28 (.kI 65 3<|.kB 48 false<|.ret ((⟨x21.1,x24.1,x27.1⟩:dB):dB)))))) (λy2_1=>.ret ((y2_1:dB),0))) q0)
def AI (n:Nat) (a1:List dB):Option (dB×Int):=(aLK n a1).run
theorem EB {n a1}:PZ (AI n a1) 174 [aG 3 dB.av a1] (λr=>.aS [.agg (dB.av r.1),int r.2]):=by
 refine wm Tryz.func174 ?_
 intro v2
 refine .mk ?_
 refine .mk ?_ ?_
 intro v3
 intro v4
 intro v5
 refine .mk ?_
 rintro ⟨y0_4,y0_5,y0_6,y0_7⟩ _
 refine .mk λx6=>?_
 refine .mk ?_ ?_
 refine .mk λx7 e7=>?_
 intro v8
 refine .mk ?_
 refine .mk (λH hH _=>aH (y:=aG 1 fI ([x7.aM]:List Int)) (dQ (ps:=[(0,_)]) (rows:=[[int x7.aM]]) rfl Tryz.underlying23 kN (.cons rfl .nil) (by kernel_rfl) rfl rfl rfl) rfl) ?_
 refine .mk (λH hH _=>aH (y:=aG 1 fI ([x7.Value]:List Int)) (dQ (ps:=[(0,_)]) (rows:=[[int x7.Value]]) rfl Tryz.underlying23 kN (.cons rfl .nil) (by kernel_rfl) rfl rfl rfl) rfl) ?_
 refine .mk (λH hH _=>aH (y:=aG 1 fI ([x7.gG]:List Int)) (dQ (ps:=[(0,_)]) (rows:=[[int x7.gG]]) rfl Tryz.underlying23 kN (.cons rfl .nil) (by kernel_rfl) rfl rfl rfl) rfl) ?_
 refine .mk λx9 e9=>?_
 refine .mk λp10=>?_
 refine .mk _ ⟨λ_=>iB (g:=fI) (l:=y0_5) (m:=([x7.aM]:List Int)) .any rfl Tryz.underlying23 kN pZ rfl rfl rfl rfl rfl rfl rfl rfl rfl rfl (Eq.symm rfl) (.refl _) (λ_=>rfl) e9 p10,by rintro _ _ ⟨v11,-,rfl,rfl⟩;exact ⟨rfl,trivial⟩⟩ ?_
 rintro _ _ ⟨v11,-,rfl,rfl⟩
 refine .mk λx12 e12=>?_
 refine .mk λp13=>?_
 refine .mk _ ⟨λ_=>iB (g:=fI) (l:=y0_6) (m:=([x7.Value]:List Int)) .any rfl Tryz.underlying23 kN pZ rfl rfl rfl rfl rfl rfl rfl rfl rfl rfl (Eq.symm rfl) (.refl _) (λ_=>rfl) e12 p13,by rintro _ _ ⟨v14,-,rfl,rfl⟩;exact ⟨rfl,trivial⟩⟩ ?_
 rintro _ _ ⟨v14,-,rfl,rfl⟩
 refine .mk λx15 e15=>?_
 refine .mk λp16=>?_
 refine .mk _ ⟨λ_=>iB (g:=fI) (l:=y0_7) (m:=([x7.gG]:List Int)) .any rfl Tryz.underlying23 kN pZ rfl rfl rfl rfl rfl rfl rfl rfl rfl rfl (Eq.symm rfl) (.refl _) (λ_=>rfl) e15 p16,by rintro _ _ ⟨v17,-,rfl,rfl⟩;exact trivial⟩ ?_
 rintro _ _ ⟨v17,-,rfl,rfl⟩
 refine .mk λx18=>?_
 exact .mk
 exact .mk
 rintro ⟨y1_4,y1_5,y1_6⟩ u2
 intro v19
 refine .mk _ (aT (dQ (ps:=[(0,_),(1,_),(2,_)]) (rows:=[[.pt 9 v19 0 0,.sl 6 (u2 6) 0 y1_4.length],[.pt 9 v19 0 1,.sl 7 (u2 7) 0 y1_5.length],[.pt 9 v19 0 2,.sl 8 (u2 8) 0 y1_6.length]]) rfl Tryz.underlying323 aMS (.cons rfl (.cons rfl (.cons rfl .nil))) (by kernel_rfl) rfl rfl rfl)) ?_
 refine .mk ?_ ?_
 refine .mk ?_
 refine .mk _ (aT (dV (j:=0) rfl Tryz.underlying323 LB rfl rfl rfl (.list rfl))) ?_
 intro v20
 refine .mk (λx21 e21=>?_) rfl (by rintro _ rfl;exact (.cons (gJ rfl rfl rfl rfl rfl (Eq.symm rfl)) .nil))
 refine .mk λx22=>?_
 refine .mk ?_
 refine .mk ?_
 refine .mk ?_
 refine .mk _ (aT (dV (j:=1) rfl Tryz.underlying323 LB rfl rfl rfl (.list rfl))) ?_
 intro v23
 refine .mk (λx24 e24=>?_) rfl (by rintro _ rfl;exact (.cons (gJ rfl rfl rfl rfl rfl (Eq.symm rfl)) .nil))
 refine .mk λx25=>?_
 refine .mk ?_
 refine .mk ?_
 refine .mk ?_
 refine .mk _ (aT (dV (j:=2) rfl Tryz.underlying323 LB rfl rfl rfl (.list rfl))) ?_
 intro v26
 refine .mk (λx27 e27=>?_) rfl (by rintro _ rfl;exact (.cons (gJ rfl rfl rfl rfl rfl (Eq.symm rfl)) .nil))
 refine .mk λx28=>?_
 refine .mk ?_
 refine .mk ?_
 refine .mk ?_
 exact .mk
 intro _ _
 exact .mk
def aI1 (n:Nat) (a1:List dB):WB (Bool) :=
 .ln 9 dB.av a1<|.jn 0 [2] [] [3] (λu2 (a:(List Int))=>[(3,.sl 3 (u2 3) 0 a.length)]) (λ_ a=>[.nw 3 3 1 (a.map fI)]) (.no 3 3 3 1<|.lp [2,8,9] [] [3] (λu3 (a:Int×(List Int))=>[(3,.sl 3 (u3 3) 0 a.2.length),(10,int a.1)]) (λ_ a=>[.nw 3 3 1 (a.2.map fI)]) n ((0:Int),(([]:List Int):List Int)) (pw λy0_2 y0_3=>.bB 11 (decide (y0_2<(a1.length:Int))) λx3=>.ifs [11] x3 (.ix 12 dB.av a1 y0_2 λx4=>.al 1<|.bI 19 (bM (0-x4.gG)) λx6=>.bl (if x6>x4.gG then x6 else x4.gG:Int) λx7=>.gv 20<|.to 21 (aG 1 fI ([x7]:List Int))<|.bl (y0_3++([x7]:List Int):List Int) λx8=>.as (x8.length<=68719476736) inferInstance<|.ge 22 0<|.bI 23 (bM (y0_2+1)) λx11=>.brk ((x11:Int),x8)) (.esc (.ret y0_3)))) (λy1_2=>.nS 26 (sG n y1_2) uN tV (λ_=>rfl) λx12=>.bB 30 (decide (x12.2=0)) λx13=>.ret ((x13:Bool)))
def TF (n:Nat) (a1:List dB):Option (Bool):=(aI1 n a1).run
theorem aCS {n a1}:PZ (TF n a1) 214 [aG 3 dB.av a1] aB:=wq Tryz.func214
def aG2 (n:Nat) (a1:List dB):WB (Bool) :=
 .jn 1 [0,2] [] [] (λ_ (a:Bool)=>[(11,aB a)]) (λ_ _=>[]) (.ln 6 dB.av a1<|.bB 7 (decide ((a1.length:Int)>30)) λx2=>.ifs [7] x2 (.ret true) (.inl 10 aGD Tryz.func212 [] [] (λ_ (a:Bool)=>aB a) (λ_ _=>[]) (.inl 7 aKD Tryz.func250 [] [] (λ_ (a:Int)=>int a) (λ_ _=>[]) (.ln 7 dB.av a1<|.iA 0 [4] [] [] (λ_ (a:Unit)=>[]) (λ_ _=>[]) (.lp [0,1,4,7] [] [] (λ_ (a:Int)=>[(8,int a)]) (λ_ _=>[]) n 0 (λy0_1=>.bB 9 (decide (y0_1<(a1.length:Int))) λx3=>.ifs [9] x3 (.ix 14 dB.av a1 y0_1 λx4=>.cl 16 (TD x4) aE4 aJO λx5=>.ifs [16] x5 (.esc (.esc (.ret y0_1))) (.bI 18 (bM (y0_1+1)) λx6=>.brk x6)) (.esc (.brk ())))) (λ_=>.ret (-1))) (λy2_1=>.bB 8 (decide (y2_1>=0)) λx7=>.ret x7)) (λy3_1=>.ret y3_1))) (λy4_1=>.az [11] y4_1 (.cl 14 (AI n a1) D9 EB λx8=>.al 1<|.jn 0 [] [] [] (λ_ (a:Bool)=>[(2,aB a)]) (λ_ _=>[]) (.bB 18 (decide (x8.2=0)) λx10=>.ifs [18] x10 (.cl 21 (TF n a1) aAE aCS λx11=>.ret x11) (.ret false)) (λy5_1=>.ret ((y5_1:Bool)))))
def DV (n:Nat) (a1:List dB):Option (Bool):=(aG2 n a1).run
theorem NG {n a1}:PZ (DV n a1) 169 [aG 3 dB.av a1] aB:=wq Tryz.func169
def aAT (n:Nat) (a1:List dB) (a2:dB):WB ((List dB)×Int) :=
 .al 1<|.as (a1.length<=68719476736) inferInstance<|.ge 8 2<|.jn 1 [0,3,4,5] [1,2] [] (λ_ (a:Bool)=>[(9,aB a)]) (λ_ _=>[]) (.bB 12 (decide (a2.aM<1)) λx6=>.ifs [12] x6 (.ret true) (.bB 16 (decide (a2.Value<0)) λx7=>.ret x7)) (λy0_1=>.az [9] y0_1 (.bB 22 (decide ((a1.length:Int)>=30)) λx8=>.az [22] x8 (.dr [(2,[1])] [(4,[])] [1] [1,4] [0,2,3,1,4,5] (.to 27 (aG 3 dB.av ([a2]:List dB))<|.as (a1.length<=68719476736) inferInstance<|.ge 25 3<|.bl (a1++([a2]:List dB):List dB) λx11=>.as (x11.length<=68719476736) inferInstance<|.ge 28 0<|.nS 30 (DV n x11) M9 NG (λ_=>rfl) λx14=>.bB 31 (!x14) λx15=>.az [31] x15 (.ret ((x11:List dB),0))))))
def L6 (n:Nat) (a1:List dB) (a2:dB):Option ((List dB)×Int):=(aAT n a1 a2).run
theorem OZ {n a1 a2}:PZ (L6 n a1 a2) 253 [aG 3 dB.av a1,.agg (dB.av a2)] (λr=>.aS [aG 3 dB.av r.1,int r.2]):=by
 refine wm Tryz.func253 ?_
 intro v3
 refine .mk λp4=>?_
 refine .mk _ ⟨λ_=>aN rfl rfl (.cons rfl .nil) JS (pN (LM.pc (id:=2) (l:=a1) rfl p4) (.cons (.refl _) .nil)),λ_ _ _=>trivial⟩ ?_
 rintro _ _ ⟨v5,rfl,rfl⟩
 refine .mk ?_ ?_
 refine .mk λx6=>?_
 refine .mk .mk ?_
 refine .mk λx7=>?_
 exact .mk
 intro _ _
 refine .mk ?_
 refine .mk λx8=>?_
 refine .mk ?_
 refine .mk ?_
 refine .mk (λH hH _=>aH (y:=aG 3 dB.av ([a2]:List dB)) (dQ (ps:=[(0,_)]) (rows:=[[int a2.aM,int a2.Value,int a2.gG]]) rfl Tryz.underlying185 IC (.cons rfl .nil) (by kernel_rfl) rfl rfl rfl) rfl) ?_
 refine .mk λp9=>?_
 refine .mk _ ⟨λ_=>bZ.o9 2 rfl (aN rfl rfl (.cons rfl .nil) JS (pN (LM.pc (id:=3) (l:=a1) rfl p9) (.cons (gJ rfl rfl rfl rfl rfl (Eq.symm rfl)) .nil))),by rintro _ _ ⟨v10,rfl,rfl⟩;exact ⟨rfl,trivial⟩⟩ ?_
 rintro _ _ ⟨v10,rfl,rfl⟩
 refine .mk λx11 e11=>?_
 refine .mk λp12=>?_
 refine .mk _ ⟨λ_=>iB (g:=dB.av) (l:=a1) (m:=([a2]:List dB)) .any rfl Tryz.underlying185 IC RU rfl rfl rfl rfl rfl rfl rfl rfl rfl rfl (Eq.symm rfl) (.refl _) (λ_=>rfl) e11 p12,by rintro _ _ ⟨v13,-,rfl,rfl⟩;exact trivial⟩ ?_
 rintro _ _ ⟨v13,-,rfl,rfl⟩
 refine .mk (λx14 e14=>?_) rfl (by rintro _ rfl;exact (.cons (gJ rfl rfl rfl rfl rfl (Eq.symm rfl)) .nil))
 refine .mk λx15=>?_
 refine .mk ?_
 exact .mk (bO.aS (.cons (gJ rfl rfl rfl rfl rfl (Eq.symm rfl)) (.cons (.refl _) .nil)))
def aD6 (a1:dK) (a2:List dB):WB (dK) :=
 .al 1<|.al 2<|.ret (((⟨a2,a1.gK⟩:dK):dK))
def N6 (a1:dK) (a2:List dB):Option (dK):=(aD6 a1 a2).run
theorem WJ {a1 a2}:PZ (N6 a1 a2) 273 [.agg (dK.av a1),aG 3 dB.av a2] (λr=>.agg (dK.av r)):=wq Tryz.func273
def aIC (n:Nat) (a1:List dB) (a2:dB):WB ((List dB)×Int) :=
 .al 1<|.dr [(3,[1])] [] [1] [0] [2,3,0,1,4,5,6,7,8,9] (.inl 10 YV Tryz.func220 [1] [] (λ_ (a:Unit)=>.agg [.fn (.func 253) [] [],.fn (.func 254) [] [],.fn (.func 174) [] []]) (λ_ _=>[]) (.al 2<|.ret ()) (λ_=>.cl 14 (L6 n a1 a2) WL OZ λx5=>.bB 18 (decide (x5.2≠0)) λx6=>.ifs [18] x6 (.ret ((x5.1:List dB),x5.2)) (.inl 22 YV Tryz.func220 [1] [] (λ_ (a:Unit)=>.agg [.fn (.func 253) [] [],.fn (.func 254) [] [],.fn (.func 174) [] []]) (λ_ _=>[]) (.al 3<|.ret ()) (λ_=>.cl 25 (AI n x5.1) D9 EB λx8=>.al 4<|.bB 29 (decide (x8.2≠0)) λx10=>.ifs [29] x10 (.as (a1.length<=68719476736) inferInstance<|.ge 31 5<|.ret ((a1:List dB),x8.2)) (.to 34 (aG 3 dB.av ([x8.1]:List dB))<|.ret ((([x8.1]:List dB):List dB),0))))))
def O5 (n:Nat) (a1:List dB) (a2:dB):Option ((List dB)×Int):=(aIC n a1 a2).run
theorem aOA {n a1 a2}:PZ (O5 n a1 a2) 307 [aG 3 dB.av a1,.agg (dB.av a2)] (λr=>.aS [aG 3 dB.av r.1,int r.2]):=wq Tryz.func307
def aJL (a1:dK):WB (dK) :=
 .al 1<|.al 2<|.dr [(0,[1]),(1,[1]),(2,[1])] [(4,[]),(5,[])] [1] [3,4,5] [0,1,2,3,4,5] (.as (a1.kJ.length<=68719476736) inferInstance<|.ge 6 3<|.inl 7 IL Tryz.func273 [1,2,3] [] (λu2 (a:Unit)=>.agg [.sl 3 (u2 3) 0 a1.kJ.length,int a1.gK.a0,int a1.gK.a1,int a1.gK.a2]) (λ_ _=>[]) (.al 4<|.al 5<|.ret ()) (λ_=>.ret ((a1:dK))))
def XM (a1:dK):Option (dK):=(aJL a1).run
theorem aE1 {a1}:PZ (XM a1) 260 [.agg (dK.av a1)] (λr=>.agg (dK.av r)):=wq Tryz.func260
def aL4 (n:Nat) (a1:Int) (a2:Int) (a3:dK) (a4:dB):WB (dK×Int×Int) :=
 .al 1<|.al 2<|.al 3<|.inl 17 VP Tryz.func168 [1,2,3] [] (B:=(Unit)⊕(Unit)⊕(Unit)) (λu2=>Sum.elim (λa=>.gQ 312 (.agg [])) (Sum.elim (λa=>.gQ 313 (.agg [])) (λa=>.sc .nilIface))) (λu2=>Sum.elim (λa=>[]) (Sum.elim (λa=>[]) (λa=>[]))) (.bB 7 (decide (a1=1)) λx8=>.ifs [7] x8 (.gv 9<|.ret (.inl ())) (.bB 11 (decide (a1=2)) λx9=>.ifs [11] x9 (.gv 13<|.ret (.inr (.inl ()))) (.bB 15 (decide (a1=3)) λx10=>.az [15] x10 (.bB 19 (decide (a1=4)) λx11=>.az [19] x11 (.ret (.inr (.inr ()))))))) (Sum.elim (λ_=>.gv 19<|.iv 26 ZO aFY Tryz.func303 [1,2,3] [] (λ_ (a:dK×Int)=>.aS [.agg [aG 3 dB.av a.1.kJ,int a.1.gK.a0,int a.1.gK.a1,int a.1.gK.a2],int 0,int a.2]) (λ_ _=>[]) (.al 9<|.al 10<|.al 11<|.al 12<|.cl 15 (L6 n a3.kJ a4) WL OZ λx16=>.cl 20 (N6 a3 x16.1) IL WJ λx17=>.ret ((x17:dK),x16.2)) (pw λy4_1 y4_2=>.al 8<|.bB 31 (decide (y4_2≠0)) λx19=>.az [31] x19 (.ret ((y4_1:dK),0,0)))) (Sum.elim (λ_=>.gv 19<|.iv 26 aN5 aLB Tryz.func305 [1,2,3] [] (λ_ (a:dK×Int)=>.aS [.agg [aG 3 dB.av a.1.kJ,int a.1.gK.a0,int a.1.gK.a1,int a.1.gK.a2],int 0,int a.2]) (λ_ _=>[]) (.al 17<|.al 18<|.al 19<|.al 20<|.cl 15 (O5 n a3.kJ a4) aKJ aOA λx24=>.cl 20 (N6 a3 x24.1) IL WJ λx25=>.ret ((x25:dK),x24.2)) (pw λy6_1 y6_2=>.al 8<|.bB 31 (decide (y6_2≠0)) λx27=>.az [31] x27 (.ret ((y6_1:dK),0,0)))) (λ_=>.gv 19<|.cl 21 (XM a3) aJV aE1 λx28=>.ret ((x28:dK),0,12))))
def VX (n:Nat) (a1:Int) (a2:Int) (a3:dK) (a4:dB):Option (dK×Int×Int):=(aL4 n a1 a2 a3 a4).run
theorem aBN {n a1 a2 a3 a4}:PZ (VX n a1 a2 a3 a4) 229 [int a1,int a2,.agg (dK.av a3),.agg (dB.av a4)] (λr=>.aS [.agg (dK.av r.1),int r.2.1,int r.2.2]):=wq Tryz.func229
def aF4 (a1:bD) (a2:Int) (a3:Int) (a4:Int):WB (dK) :=
 .al 1<|.al 2<|.cl 15 (L8 a1 a2 a3 a4) XK V3 λx7=>.bB 17 (decide (x7<0)) λx8=>.az [17] x8 (.oC 22 bC.av gE bC.gU a1.dX a2 λx9=>.ix 26 dK.av x9.iF x7 λx10=>.al 3<|.as (x10.kJ.length<=68719476736) inferInstance<|.ge 30 4<|.ret ((x10:dK)))
def LG (a1:bD) (a2:Int) (a3:Int) (a4:Int):Option (dK):=(aF4 a1 a2 a3 a4).run
theorem T4 {a1 a2 a3 a4}:PZ (LG a1 a2 a3 a4) 175 [.agg (bD.av a1),int a2,int a3,int a4] (λr=>.agg (dK.av r)):=wq Tryz.func175
def aEL (n:Nat) (a1:bD) (a2:Int) (a3:Int):WB (dB×Bool) :=
 .al 1<|.al 2<|.jn 2 [6,7] [2] [7,8,9] (λu2 (a:(List Int)×(List Int)×(List Int))=>[(8,.sl 7 (u2 7) 0 a.1.length),(9,.sl 8 (u2 8) 0 a.2.1.length),(10,.sl 9 (u2 9) 0 a.2.2.length)]) (λ_ a=>[.nw 7 3 1 (a.1.map fI),.nw 8 3 1 (a.2.1.map fI),.nw 9 3 1 (a.2.2.map fI)]) (.no 8 7 3 1<|.no 9 8 3 1<|.no 10 9 3 1<|.lp [1,2,3,6,7] [1,2] [7,8,9] (λu3 (a:Int×(List Int)×(List Int)×(List Int))=>[(8,.sl 7 (u3 7) 0 a.2.1.length),(9,.sl 8 (u3 8) 0 a.2.2.1.length),(10,.sl 9 (u3 9) 0 a.2.2.2.length),(20,int a.1)]) (λ_ a=>[.nw 7 3 1 (a.2.1.map fI),.nw 8 3 1 (a.2.2.1.map fI),.nw 9 3 1 (a.2.2.2.map fI)]) n ((0:Int),(([]:List Int):List Int),(([]:List Int):List Int),(([]:List Int):List Int)) (pw λy0_4 q0=>(pw λy0_5 q1=>(pw λy0_6 y0_7=>.bB 21 (decide (y0_4<2)) λx9=>.ifs [21] x9 (.cl 28 (LG a1 a2 a3 y0_4) O8 T4 λx10=>.cl 30 (AI n x10.kJ) D9 EB λx11=>.al 3<|.dr [(1,[3]),(2,[3]),(6,[3]),(7,[3]),(11,[3]),(12,[3])] [(14,[])] [3] [4,9,14] [0,1,2,3,5,6,7,8,10,11,12,13,4,9,14,15,16,17] (.to 36 (aG 1 fI ([x11.1.aM]:List Int))<|.to 41 (aG 1 fI ([x11.1.Value]:List Int))<|.to 46 (aG 1 fI ([x11.1.gG]:List Int))<|.bl (y0_5++([x11.1.aM]:List Int):List Int) λx13=>.as (x13.length<=68719476736) inferInstance<|.ge 37 0<|.bl (y0_6++([x11.1.Value]:List Int):List Int) λx16=>.as (x16.length<=68719476736) inferInstance<|.ge 42 0<|.bl (y0_7++([x11.1.gG]:List Int):List Int) λx19=>.as (x19.length<=68719476736) inferInstance<|.ge 47 0<|.bI 48 (bM (y0_4+1)) λx22=>.brk ((x22:Int),x13,x16,x19))) (.esc (.ret ((y0_5:List Int),y0_6,y0_7)))) q1) q0)) (pw λy1_4 q0=>(pw λy1_5 y1_6=>.nS 51 (sG n y1_4) uN tV (λ_=>rfl) λx23=>.nS 56 (sG n y1_5) uN tV (λ_=>rfl) λx24=>.nS 61 (sG n y1_6) uN tV (λ_=>rfl) λx25=>.bl (if x25.2>(if x24.2>x23.2 then x24.2 else x23.2) then x25.2 else (if x24.2>x23.2 then x24.2 else x23.2):Int) λx26=>.gv 71<|.bB 72 (decide (x26=0)) λx27=>.ret (((⟨x23.1,x24.1,x25.1⟩:dB):dB),x27)) q0)
def S7 (n:Nat) (a1:bD) (a2:Int) (a3:Int):Option (dB×Bool):=(aEL n a1 a2 a3).run
theorem aEF {n a1 a2 a3}:PZ (S7 n a1 a2 a3) 138 [.agg (bD.av a1),int a2,int a3] (λr=>.aS [.agg (dB.av r.1),aB r.2]):=wq Tryz.func138
def ZZ (n:Nat) (a1:bD) (a2:Int) (a3:Int):WB (Bool) :=
 .al 1<|.jn 2 [6] [] [4] (λu14 (a:(List Int))=>[(7,.sl 4 (u14 4) 0 a.length)]) (λ_ a=>[.nw 4 3 1 (a.map fI)]) (.no 7 4 3 1<|.lp [1,2,3,6] [1] [4] (λu18 (a:Int×(List Int))=>[(7,.sl 4 (u18 4) 0 a.2.length),(13,int a.1)]) (λ_ a=>[.nw 4 3 1 (a.2.map fI)]) n ((0:Int),(([]:List Int):List Int)) (pw λy0_2 y0_3=>.bB 14 (decide (y0_2<2)) λx6=>.ifs [14] x6 (.jn 1 [1,2,3,6,13] [1] [4] (λu21 (a:(List Int))=>[(7,.sl 4 (u21 4) 0 a.length)]) (λ_ a=>[.nw 4 3 1 (a.map fI)]) (.cl 20 (LG a1 a2 a3 y0_2) O8 T4 λx7=>.ln 22 dB.av x7.kJ<|.jn 0 [1,2,3,6,13] [1] [4] (λu23 (a:(List Int))=>[(7,.sl 4 (u23 4) 0 a.length)]) (λ_ a=>[.nw 4 3 1 (a.map fI)]) (.lp [1,2,3,6,13,21,22] [1] [4] (λu24 (a:Int×(List Int))=>[(7,.sl 4 (u24 4) 0 a.2.length),(23,int a.1)]) (λ_ a=>[.nw 4 3 1 (a.2.map fI)]) n ((0:Int),y0_3) (pw λy1_2 y1_3=>.bB 24 (decide (y1_2<(x7.kJ.length:Int))) λx8=>.ifs [24] x8 (.ix 25 dB.av x7.kJ y1_2 λx9=>.al 2<|.bI 32 (bM (0-x9.gG)) λx11=>.bl (if x11>x9.gG then x11 else x9.gG:Int) λx12=>.gv 33<|.to 34 (aG 1 fI ([x12]:List Int))<|.bl (y1_3++([x12]:List Int):List Int) λx13=>.as (x13.length<=68719476736) inferInstance<|.ge 35 0<|.bI 36 (bM (y1_2+1)) λx16=>.brk ((x16:Int),x13)) (.esc (.ret y1_3)))) (λy2_2=>.ret y2_2)) (λy3_2=>.bI 37 (bM (y0_2+1)) λx17=>.brk ((x17:Int),y3_2))) (.esc (.ret y0_3)))) (λy4_2=>.nS 40 (sG n y4_2) uN tV (λ_=>rfl) λx18=>.bB 44 (decide (x18.2=0)) λx19=>.ret ((x19:Bool)))
def P8 (n:Nat) (a1:bD) (a2:Int) (a3:Int):Option (Bool):=(ZZ n a1 a2 a3).run
theorem aBK {n a1 a2 a3}:PZ (P8 n a1 a2 a3) 231 [.agg (bD.av a1),int a2,int a3] aB:=wq Tryz.func231
end
end Go.Pv
