import Derived.Test.YtkgnickfdedbmabGreatXC
set_option linter.unusedVariables false
set_option linter.unusedSimpArgs false
namespace Go.Pv
open Go.Proofs
set_option maxRecDepth 100000
set_option maxHeartbeats 4000000
noncomputable section
def xD (a1:eZ):Nat->Int->(List Int)->Option ((List Int))
  | 0,_,_=>none
  | n+1,y1_1,y1_2 =>
    bnd (decide (y1_1<(a1.cB.length:Int))) λx29 =>
    cond x29 ((ix y1_2 y1_1).bind λx30 =>
    bnd (y1_2.set (Int.toNat y1_1) ((-1):Int)) λx31 =>
    bnd (aI (y1_1+1)) λx32 =>
    xD a1 n (x32:Int) (x31:List Int)) (some (y1_2:List Int))
def yQ (a1:eZ):Nat->Int->(List aP)->Option ((List aP))
  | 0,_,_=>none
  | n+1,y0_1,y0_3 =>
    bnd (decide (y0_1<a1.eH)) λx9 =>
    cond x9 ((show Option ((List aP)) from
    bnd (aI ((a1.cB.length:Int)*2)) λx11 =>
    fG ((0:Int)<=x11/\(x11:Int)<=1048576)<|
    bnd (List.replicate (Int.toNat x11) ((⟨[],(⟨0,0,0⟩:gJ)⟩:aM):aM)) λx13 =>
    fG ((0:Int)<=17/\(17:Int)<=1048576)<|
    bnd (List.replicate (Int.toNat 17) (0:Int)) λx16 =>
    fG ((0:Int)<=(a1.cB.length:Int)/\((a1.cB.length:Int):Int)<=1048576)<|
    bnd (List.replicate (Int.toNat (a1.cB.length:Int)) ((⟨0,0,0,0,0,0,0,0,0,0,0⟩:bM):bM)) λx19 =>
    fG ((0:Int)<=(a1.cB.length:Int)/\((a1.cB.length:Int):Int)<=1048576)<|
    bnd (List.replicate (Int.toNat (a1.cB.length:Int)) (0:Int)) λx22 =>
    fG ((0:Int)<=(a1.cB.length:Int)/\((a1.cB.length:Int):Int)<=1048576)<|
    bnd (List.replicate (Int.toNat (a1.cB.length:Int)) (0:Int)) λx25 =>
    (show Option ((List Int)) from
    xD a1 n (0:Int) (x22:List Int)).bind <| λy2_1 =>
    bnd (y0_3++[(⟨1,false,x13,x16,x19,y2_1,x25,[]⟩:aP)]) λx33 =>
    fG (x33.length<=68719476736)<|
    some (x33:List aP)).bind <| λy3_2 =>
    bnd (aI (y0_1+1)) λx36 =>
    yQ a1 n (x36:Int) (y3_2:List aP)) (some (y0_3:List aP))
def IK (n:Nat) (a1:eZ):Option (aA×Int) :=
(TE n a1).bind λx4 =>
bnd (!x4) λx5 =>
cond x5 (some (((⟨(⟨0,0,[],[],[]⟩:eZ),[],[],[],[],0⟩:aA):aA),(1:Int))) ((show Option ((List aP)) from
yQ a1 n (0:Int) (([]:List aP):List aP)).bind <| λy4_2 =>
some (((⟨a1,y4_2,[],[],[],0⟩:aA):aA),(0:Int)))
theorem aOJ {n:Nat} {a1:eZ} {r:aA×Int} (h0:IK n a1=some r):PP Tryz.prog 8 [.agg (eZ.av a1)] (λy=>y=.aU [.agg (aA.av r.1),int r.2]):=by
  unfold IK at h0
  refine uD (R0:=λy H=>Cv (jZ H) y (.aU [.agg (aA.av r.1),int r.2])) ?_ (λy H hc=>⟨_,rfl,.aU (N6 ((λ(a:aA)=>PV.agg (aA.dA a)) (r.1)) (qX (r.2))),hc⟩)
  refine gN (c:=_) Tryz.func8 rfl rfl ?_;intro Q hret hnorm
  refine tc aN 2 (.mk ?_)
  refine sB 1 λv2=>?_
  refine sA 2 z31 λv3=>?_
  refine tr aN 6 (.mk ?_)
  obtain ⟨x4,e4,h0⟩:=dJ h0
  refine sC aA1 (aDK _ e4) ?_
  refine nb aN h0 λx5 h0=>?_
  refine tr aN 1 (.mk ?_)
  cases x5
  replace h0:=cf h0
  refine tc aN 5 (.mk ?_)
  refine sY (pY (cs:=[int a1.eH,int a1.fA,aD 1 fI a1.cB,aD 1 (fL 1 fI) a1.Methods,aD 1 (fL 1 fI) a1.dN,.sc (.slice none 0 0),.sc (.slice none 0 0),.sc (.slice none 0 0),.sc (.slice none 0 0),int 0]) (ps:=[(0,_)]) rfl O7 z31 rfl (.cons rfl .nil) (by kernel_rfl)) ?_
  refine sA 3 z31 λv6=>?_
  refine sS ⟨31,10,true,true,v6,[[int a1.eH,int a1.fA,aD 1 fI a1.cB,aD 1 (fL 1 fI) a1.Methods,aD 1 (fL 1 fI) a1.dN,.sc (.slice none 0 0),.sc (.slice none 0 0),.sc (.slice none 0 0),.sc (.slice none 0 0),int 0]]⟩ yK ?_
  refine tr aN 5 (.mk ?_)
  refine sY (oU rfl Tryz.underlying22 rfl (F9 _)) ?_
  refine tr aN 7 (.mk ?_)
  refine jn h0 [2,3,4] [2] (λ(a:(List aP)) (k:Nat)=>[]) (λa k=>[(3,⟨31,10,true,true,v6,[[int a1.eH,int a1.fA,aD 1 fI a1.cB,aD 1 (fL 1 fI) a1.Methods,aD 1 (fL 1 fI) a1.dN,.sl 11 k 0 a.length,.sc (.slice none 0 0),.sc (.slice none 0 0),.sc (.slice none 0 0),int 0]]⟩),(11,⟨42,8,true,true,k,a.map aP.av⟩)]) ⟨λj7 h1=>?_,?_⟩
  refine tc aN 1 (.mk ?_)
  refine VT 3 0 5 11 42 8 (rows:=λv8=>[[int a1.eH,int a1.fA,aD 1 fI a1.cB,aD 1 (fL 1 fI) a1.Methods,aD 1 (fL 1 fI) a1.dN,.sl 11 v8 0 0,.sc (.slice none 0 0),.sc (.slice none 0 0),.sc (.slice none 0 0),int 0]]) rfl rfl rfl rfl (λ_=>rfl) ?_;intro v8
  refine lp (λn (a:Int×(List aP))=>yQ a1 n a.1 a.2) ((0:Int),(([]:List aP):List aP)) v8 h1 [1,2,3,4,5] [1,2] (λ(a:Int×(List aP)) (k:Nat)=>[(6,int a.1)]) (λa k=>[(3,⟨31,10,true,true,v6,[[int a1.eH,int a1.fA,aD 1 fI a1.cB,aD 1 (fL 1 fI) a1.Methods,aD 1 (fL 1 fI) a1.dN,.sl 11 k 0 a.2.length,.sc (.slice none 0 0),.sc (.slice none 0 0),.sc (.slice none 0 0),int 0]]⟩),(11,⟨42,8,true,true,k,a.2.map aP.av⟩)]) (λ_=>rfl) ⟨eD,?_⟩
  rintro n ⟨y0_1,y0_3⟩ w0_2 hm h1
  replace h1:yQ a1 (n+1) y0_1 y0_3=some _:=h1
  rw [yQ] at h1
  refine tc aN 6 (.mk ?_)
  refine nb aN h1 λx9 h1=>?_
  refine tr aN 1 (.mk ?_)
  cases x9
  replace h1:=cf h1
  refine tc aN 2 (.mk ?_)
  exact lf h1 w0_2 eD
  replace h1:=ct h1
  refine tc aN 3 (.mk ?_)
  refine jn h1 [1,2,3,4,5,6] [1,2] (λ(a:(List aP)) (k:Nat)=>[]) (λa k=>[(3,⟨31,10,true,true,v6,[[int a1.eH,int a1.fA,aD 1 fI a1.cB,aD 1 (fL 1 fI) a1.Methods,aD 1 (fL 1 fI) a1.dN,.sl 11 k 0 a.length,.sc (.slice none 0 0),.sc (.slice none 0 0),.sc (.slice none 0 0),int 0]]⟩),(11,⟨42,8,true,true,k,a.map aP.av⟩)]) ⟨λj10 h2=>?_,?_⟩
  refine tc aN 2 (.mk ?_)
  refine OH [0,1,3,0,0,16,0,64,0,256,1023,0,4095] (λi k=>bif Nat.beq i 12 then (Nat.beq k 4 || Nat.beq k 5 || Nat.beq k 6 || Nat.beq k 7 || Nat.beq k 8 || Nat.beq k 9) else false) (λi=>bif Nat.beq i 2 then (some 4) else bif Nat.beq i 3 then (some 5) else bif Nat.beq i 5 then (some 6) else bif Nat.beq i 7 then (some 7) else bif Nat.beq i 9 then (some 8) else bif Nat.beq i 11 then (some 9) else bif Nat.beq i 12 then (some 9) else none) mixed (by kernel_rfl) ?_;intro C K hK
  refine pV rfl (λH hH=>kV rfl rfl) ?_
  obtain ⟨x11,e11,h2⟩:=pM h2
  refine pV rfl (λH hH=>RL rfl rfl rfl e11) ?_
  obtain ⟨p12,h2⟩:=j5 h2
  obtain ⟨x13,e13,h2⟩:=pM h2
  have lx13:x13.length=(Int.toNat x11):=by rw [<- e13];exact List.length_replicate
  refine o7 rfl rfl (λH hH=>yP (uL 4 (g:=aM.av) (z0:=((⟨[],(⟨0,0,0⟩:gJ)⟩:aM):aM)) (.one _) rfl Tryz.underlying39 EQ DV rfl rfl rfl p12 (.cons (.nil _) (.cons (.sc _) (.cons (.sc _) (.cons (.sc _) .nil)))) e13)) ?_;generalize C+2=v14
  obtain ⟨p15,h2⟩:=j5 h2
  obtain ⟨x16,e16,h2⟩:=pM h2
  have lx16:x16.length=(Int.toNat 17):=by rw [<- e16];exact List.length_replicate
  refine o7 rfl rfl (λH hH=>yP (uL 5 (g:=fI) (z0:=(0:Int)) (.one _) rfl Tryz.underlying22 fT kY rfl rfl rfl p15 (.cons (.sc _) .nil) e16)) ?_;generalize C+3=v17
  refine pV rfl (λH hH=>kV rfl rfl) ?_
  obtain ⟨p18,h2⟩:=j5 h2
  obtain ⟨x19,e19,h2⟩:=pM h2
  have lx19:x19.length=(Int.toNat (a1.cB.length:Int)):=by rw [<- e19];exact List.length_replicate
  refine o7 rfl rfl (λH hH=>yP (uL 6 (g:=bM.av) (z0:=((⟨0,0,0,0,0,0,0,0,0,0,0⟩:bM):bM)) (.one _) rfl Tryz.underlying40 EB ES rfl rfl rfl p18 (.cons (.sc _) (.cons (.sc _) (.cons (.sc _) (.cons (.sc _) (.cons (.sc _) (.cons (.sc _) (.cons (.sc _) (.cons (.sc _) (.cons (.sc _) (.cons (.sc _) (.cons (.sc _) .nil))))))))))) e19)) ?_;generalize C+5=v20
  refine pV rfl (λH hH=>kV rfl rfl) ?_
  obtain ⟨p21,h2⟩:=j5 h2
  obtain ⟨x22,e22,h2⟩:=pM h2
  have lx22:x22.length=(Int.toNat (a1.cB.length:Int)):=by rw [<- e22];exact List.length_replicate
  refine o7 rfl rfl (λH hH=>yP (uL 7 (g:=fI) (z0:=(0:Int)) (.one _) rfl Tryz.underlying22 fT kY rfl rfl rfl p21 (.cons (.sc _) .nil) e22)) ?_;generalize C+7=v23
  refine pV rfl (λH hH=>kV rfl rfl) ?_
  obtain ⟨p24,h2⟩:=j5 h2
  obtain ⟨x25,e25,h2⟩:=pM h2
  have lx25:x25.length=(Int.toNat (a1.cB.length:Int)):=by rw [<- e25];exact List.length_replicate
  refine o7 rfl rfl (λH hH=>yP (uL 8 (g:=fI) (z0:=(0:Int)) (.one _) rfl Tryz.underlying22 fT kY rfl rfl rfl p24 (.cons (.sc _) .nil) e25)) ?_;generalize C+9=v26
  refine pV rfl (λH hH=>pY (cs:=[int 1,aF false,.sl 4 v14 0 (Int.toNat x11),.sl 5 v17 0 (Int.toNat 17),.sl 6 v20 0 (Int.toNat (a1.cB.length:Int)),.sl 7 v23 0 (Int.toNat (a1.cB.length:Int)),.sl 8 v26 0 (Int.toNat (a1.cB.length:Int)),.sc (.slice none 0 0)]) (ps:=[(0,_),(2,_),(3,_),(4,_),(5,_),(6,_)]) rfl YP z42 rfl (.cons rfl (.cons rfl (.cons rfl (.cons rfl (.cons rfl (.cons rfl .nil)))))) (by kernel_rfl)) ?_
  refine o7 rfl rfl (λH hH=>VS 9 rfl z42 rfl) ?_;generalize C+11=v27
  refine aJS rfl rfl rfl (λH hH=>eO (ob':=(⟨42,8,true,true,v27,[[int 1,aF false,.sl 4 v14 0 (Int.toNat x11),.sl 5 v17 0 (Int.toNat 17),.sl 6 v20 0 (Int.toNat (a1.cB.length:Int)),.sl 7 v23 0 (Int.toNat (a1.cB.length:Int)),.sl 8 v26 0 (Int.toNat (a1.cB.length:Int)),.sc (.slice none 0 0)]]⟩:bC)) (dZ rfl jE rfl rfl ((hH _ rfl).trans rfl) rfl rfl rfl rfl rfl rfl) rfl) ?_
  refine KV (hK _ ?_)
  refine tc aN 5 (.mk ?_)
  refine jn h2 [1,2,3,4,5,6,7] [1,2,3,4,5,6,8,11] (λ(a:(List Int)) (k:Unit)=>[]) (λa k=>[(7,⟨3,1,true,true,v23,a.map fI⟩),(9,⟨42,8,true,true,v27,[[int 1,aF false,.sl 4 v14 0 (Int.toNat x11),.sl 5 v17 0 (Int.toNat 17),.sl 6 v20 0 (Int.toNat (a1.cB.length:Int)),.sl 7 v23 0 a.length,.sl 8 v26 0 (Int.toNat (a1.cB.length:Int)),.sc (.slice none 0 0)]]⟩)]) ⟨λj28 h3=>?_,?_⟩
  refine tc aN 1 (.mk ?_)
  refine lp (λn (a:Int×(List Int))=>xD a1 n a.1 a.2) ((0:Int),(x22:List Int)) () h3 [1,2,3,4,5,6,7] [1,2,3,4,5,6,8,11] (λ(a:Int×(List Int)) (k:Unit)=>[(8,int a.1)]) (λa k=>[(7,⟨3,1,true,true,v23,a.2.map fI⟩),(9,⟨42,8,true,true,v27,[[int 1,aF false,.sl 4 v14 0 (Int.toNat x11),.sl 5 v17 0 (Int.toNat 17),.sl 6 v20 0 (Int.toNat (a1.cB.length:Int)),.sl 7 v23 0 a.2.length,.sl 8 v26 0 (Int.toNat (a1.cB.length:Int)),.sc (.slice none 0 0)]]⟩)]) (λ_=>rfl) ⟨mQ ⟨⟨_,rfl,(.refl _)⟩,⟨_,rfl,(.refl _)⟩,⟨_,rfl,(.refl _)⟩,⟨_,rfl,(.refl _)⟩,⟨_,rfl,(.refl _)⟩,⟨_,rfl,(.refl _)⟩,⟨_,rfl,(.refl _)⟩,⟨_,rfl,(.refl _)⟩,trivial⟩ ⟨⟨_,rfl,(.refl _)⟩,⟨_,rfl,⟨rfl,(.cons (.cons (.refl _) (.cons (.refl _) (.cons (.refl _) (.cons (.refl _) (.cons (.refl _) (.cons (nC (Eq.symm lx22)) (.cons (.refl _) (.cons (.refl _) .nil)))))))) .nil)⟩⟩,⟨_,rfl,(.refl _)⟩,⟨_,rfl,(.refl _)⟩,⟨_,rfl,(.refl _)⟩,⟨_,rfl,(.refl _)⟩,⟨_,rfl,(.refl _)⟩,⟨_,rfl,(.refl _)⟩,⟨_,rfl,(.refl _)⟩,⟨_,rfl,(.refl _)⟩,trivial⟩,?_⟩
  rintro n ⟨y1_1,y1_2⟩ _ hm h3
  replace h3:xD a1 (n+1) y1_1 y1_2=some _:=h3
  rw [xD] at h3
  refine tc aN 5 (.mk ?_)
  refine nb aN h3 λx29 h3=>?_
  refine tr aN 1 (.mk ?_)
  cases x29
  replace h3:=cf h3
  refine tc aN 2 (.mk ?_)
  exact lf h3 () eD
  replace h3:=ct h3
  refine tc aN 8 (.mk ?_)
  obtain ⟨x30,e30,h3⟩:=dJ h3
  refine sY (eB rfl Tryz.underlying22 fC rfl rfl rfl rfl rfl (Eq.symm rfl) (List.length_map _) e30) ?_
  obtain ⟨x31,e31,h3⟩:=pM h3
  have fx31:=fP e30 e31;have lx31:=fH e31 (rfl:y1_2.length=y1_2.length)
  refine O5 rfl rfl (eO (ob':=(⟨3,1,true,true,v23,x31.map fI⟩:bC)) (dZ rfl fC rfl rfl rfl rfl rfl (cZ e30) rfl rfl rfl) (eU (iI e31))) ?_
  refine tr aN 4 (.mk ?_)
  refine ni aN h3 λx32 h3=>?_
  refine tr aN 2 (.mk ?_)
  exact bk (x32,x31) () h3 (mQ ⟨⟨_,rfl,(.refl _)⟩,⟨_,rfl,(.refl _)⟩,⟨_,rfl,(.refl _)⟩,⟨_,rfl,(.refl _)⟩,⟨_,rfl,(.refl _)⟩,⟨_,rfl,(.refl _)⟩,⟨_,rfl,(.refl _)⟩,⟨_,rfl,(.refl _)⟩,trivial⟩ ⟨⟨_,rfl,(.refl _)⟩,⟨_,rfl,⟨rfl,(.cons (.cons (.refl _) (.cons (.refl _) (.cons (.refl _) (.cons (.refl _) (.cons (.refl _) (.cons (nC (Eq.symm lx31)) (.cons (.refl _) (.cons (.refl _) .nil)))))))) .nil)⟩⟩,⟨_,rfl,(.refl _)⟩,⟨_,rfl,(.refl _)⟩,⟨_,rfl,(.refl _)⟩,⟨_,rfl,(.refl _)⟩,⟨_,rfl,(.refl _)⟩,⟨_,rfl,(.refl _)⟩,⟨_,rfl,(.refl _)⟩,⟨_,rfl,(.refl _)⟩,trivial⟩)
  rintro y2_1 _ h2
  refine tc aN 4 (.mk ?_)
  refine sY (dQ (ps:=[(0,_)]) (rows:=[[int 1,aF false,.sl 4 v14 0 (Int.toNat x11),.sl 5 v17 0 (Int.toNat 17),.sl 6 v20 0 (Int.toNat (a1.cB.length:Int)),.sl 7 v23 0 y2_1.length,.sl 8 v26 0 (Int.toNat (a1.cB.length:Int)),.sc (.slice none 0 0)]]) rfl Tryz.underlying26 qW (.cons rfl .nil) (by kernel_rfl) rfl rfl rfl) ?_
  obtain ⟨x33,e33,h2⟩:=pM h2
  obtain ⟨p34,h2⟩:=j5 h2
  refine gV rfl rfl rfl (bQ.fO 4 rfl (bQ.fO 5 rfl (bQ.fO 6 rfl (bQ.fO 7 rfl (bQ.fO 8 rfl (jU (g:=aP.av) (l:=y0_3) (m:=[(⟨1,false,x13,x16,x19,y2_1,x25,[]⟩:aP)]) .any rfl Tryz.underlying26 qW yE rfl rfl rfl rfl rfl rfl rfl rfl rfl rfl (Eq.symm rfl) (fD.list (ys:=[aP.av (⟨1,false,x13,x16,x19,y2_1,x25,[]⟩:aP)]) (.cons (lW (.cons (.refl _) (.cons (.refl _) (.cons (dH rfl rfl rfl rfl rfl (Eq.symm lx13)) (.cons (dH rfl rfl rfl rfl rfl (Eq.symm lx16)) (.cons (dH rfl rfl rfl rfl rfl (Eq.symm lx19)) (.cons (dH rfl rfl rfl rfl rfl (Eq.symm rfl)) (.cons (dH rfl rfl rfl rfl rfl (Eq.symm lx25)) (.cons (.nil _) .nil)))))))) (aP.bW _)) .nil)) aP.one e33 p34)))))) ?_;rintro _ _ ⟨v35,-,rfl,rfl⟩
  refine tr aN 1 (.mk ?_)
  refine sS ⟨31,10,true,true,v6,[[int a1.eH,int a1.fA,aD 1 fI a1.cB,aD 1 (fL 1 fI) a1.Methods,aD 1 (fL 1 fI) a1.dN,.sl 11 v35 0 x33.length,.sc (.slice none 0 0),.sc (.slice none 0 0),.sc (.slice none 0 0),int 0]]⟩ zH ?_
  refine tr aN 2 (.mk ?_)
  exact lf h2 v35 eD
  rintro y3_2 w3_1 h1
  refine tc aN 2 (.mk ?_)
  refine ni aN h1 λx36 h1=>?_
  refine tr aN 2 (.mk ?_)
  exact bk (x36,y3_2) w3_1 h1 eD
  rintro y4_2 w4_1 h0
  refine tc aN 3 (.mk ?_)
  refine sS ⟨31,10,true,true,v3,[[int a1.eH,int a1.fA,aD 1 fI a1.cB,aD 1 (fL 1 fI) a1.Methods,aD 1 (fL 1 fI) a1.dN,.sl 11 w4_1 0 y4_2.length,.sc (.slice none 0 0),.sc (.slice none 0 0),.sc (.slice none 0 0),int 0]]⟩ yK ?_
  refine tr aN 2 (.mk ?_)
  obtain rfl:=eG h0
  refine wR hret (rC yK (rT .nil)) ?_
  exact bK.aU (.cons (bK.agg (.cons (.refl _) (.cons (.refl _) (.cons (.refl _) (.cons (.refl _) (.cons (.refl _) (.cons (dH rfl rfl rfl rfl rfl (Eq.symm rfl)) (.cons (.nil _) (.cons (.nil _) (.cons (.nil _) (.cons (.refl _) .nil))))))))))) (.cons (.refl _) .nil))
  replace h0:=ct h0
  refine tc aN 3 (.mk ?_)
  refine sY (pY (cs:=[int 0,int 0,.sc (.slice none 0 0),.sc (.slice none 0 0),.sc (.slice none 0 0),.sc (.slice none 0 0),.sc (.slice none 0 0),.sc (.slice none 0 0),.sc (.slice none 0 0),int 0]) (ps:=[]) rfl O7 z31 rfl .nil (by kernel_rfl)) ?_
  refine sS ⟨31,10,true,true,v3,[[int 0,int 0,.sc (.slice none 0 0),.sc (.slice none 0 0),.sc (.slice none 0 0),.sc (.slice none 0 0),.sc (.slice none 0 0),.sc (.slice none 0 0),.sc (.slice none 0 0),int 0]]⟩ yK ?_
  refine tr aN 2 (.mk ?_)
  obtain rfl:=eG h0
  refine wR hret (rC yK (rT .nil)) ?_
  exact bK.aU (.cons (bK.agg (.cons (.refl _) (.cons (.refl _) (.cons (.nil _) (.cons (.nil _) (.cons (.nil _) (.cons (.nil _) (.cons (.nil _) (.cons (.nil _) (.cons (.nil _) (.cons (.refl _) .nil))))))))))) (.cons (.refl _) .nil))
def VY (a1:Int) (a2:Int):WB (Int) :=
 .as (a2≠0) inferInstance<|.bl (a1.tmod a2:Int) λx4=>.gv 8<|.bB 10 (decide (x4<0)) λx5=>.jn 0 [4] [] [] (λ_ (a:Int)=>[(5,int a)]) (λ_ _=>[]) (.ifs [10] x5 (.bI 13 (aI (x4+a2)) λx6=>.ret x6) (.ret x4)) (λy0_1=>.ret ((y0_1:Int)))
def rQ (a1:Int) (a2:Int):Option (Int):=(VY a1 a2).run
theorem AY {a1 a2}:PZ (rQ a1 a2) 6 [int a1,int a2] int:=wq Tryz.func6
def aBO (a1:eZ) (a2:Int):WB (aS) :=
 .al 1<|.al 2<|.cl 14 (rQ a2 1099511627776) BK AY λx5=>.dr [(2,[1]),(3,[1]),(7,[1]),(8,[1])] [] [1] [] [0,1,2,3,4,5,6,7,8,9,10,11,12,13,14,15,16,17] (.bI 16 (aI (x5.tdiv 32)) λx6=>.as (a1.eH≠0) inferInstance<|.bl (x6.tmod a1.eH:Int) λx8=>.gv 19<|.bI 21 (aI (x5.tdiv 128)) λx9=>.ln 24 fI a1.cB<|.as ((a1.cB.length:Int)≠0) inferInstance<|.bl (x9.tmod (a1.cB.length:Int):Int) λx11=>.gv 25<|.bI 27 (aI (x5.tdiv 1024)) λx12=>.bI 28 (x12.tmod 8) λx13=>.bI 29 (aI (x13.tdiv 7)) λx14=>.bI 31 (aI (x5.tdiv 8192)) λx15=>.bI 32 (x15.tmod 24) λx16=>.bI 33 (aI (1+x16)) λx17=>.bI 35 (aI (x5.tdiv 196608)) λx18=>.bI 36 (x18.tmod 900) λx19=>.bI 38 (aI (x5.tdiv 7000000)) λx20=>.bI 39 (x20.tmod 12) λx21=>.bI 41 (x5.tmod 32) λx22=>.bB 44 (decide (x22<8)) λx23=>.ifs [44] x23 (.ret (((⟨1,x8,x11,x14,0,x17,x19,0,[]⟩:aS):aS))) (.bB 53 (decide (x22<11)) λx24=>.ifs [53] x24 (.bI 56 (aI (x17.tdiv 3)) λx25=>.bI 57 (aI (1+x25)) λx26=>.ret (((⟨2,0,0,0,0,x26,x19,x21,[]⟩:aS):aS))) (.bB 62 (decide (x22=11)) λx27=>.ifs [62] x27 (.bI 65 (aI (x17.tdiv 6)) λx28=>.bI 66 (aI (1+x28)) λx29=>.ret (((⟨3,0,0,0,0,x29,0,x21,[]⟩:aS):aS))) (.bB 70 (decide (x22<17)) λx30=>.ifs [70] x30 (.bI 75 (aI (x17.tdiv 3)) λx31=>.bI 76 (aI (1+x31)) λx32=>.ret (((⟨4,x8,x11,x14,0,x32,x19,0,[]⟩:aS):aS))) (.bB 81 (decide (x22<19)) λx33=>.ifs [81] x33 (.bI 84 (aI (x17.tdiv 8)) λx34=>.bI 85 (aI (1+x34)) λx35=>.ret (((⟨5,0,0,0,0,x35,x19,x21,[]⟩:aS):aS))) (.bB 90 (decide (x22=19)) λx36=>.ifs [90] x36 (.bI 95 (aI (x17.tdiv 8)) λx37=>.bI 96 (aI (1+x37)) λx38=>.ret (((⟨6,x8,x11,x14,0,x38,0,0,[]⟩:aS):aS))) (.bB 100 (decide (x22=20)) λx39=>.ifs [100] x39 (.bI 105 (aI (x17-1)) λx40=>.ret (((⟨7,x8,x11,x14,0,x40,0,0,[]⟩:aS):aS))) (.bB 109 (decide (x22=21)) λx41=>.ifs [109] x41 (.bI 114 (aI (1-x14)) λx42=>.bI 116 (aI (x17.tdiv 3)) λx43=>.bI 117 (aI (1+x43)) λx44=>.ret (((⟨8,x8,x11,x14,x42,x44,0,0,[]⟩:aS):aS))) (.bB 121 (decide (x22=22)) λx45=>.ifs [121] x45 (.bI 125 (x19.tmod 60) λx46=>.ret (((⟨9,x8,x11,0,0,0,x46,0,[]⟩:aS):aS))) (.bB 129 (decide (x22=23)) λx47=>.ifs [129] x47 (.bI 133 (x19.tmod 60) λx48=>.ret (((⟨10,x8,x11,0,0,0,x48,0,[]⟩:aS):aS))) (.bB 137 (decide (x22=24)) λx49=>.ifs [137] x49 (.to 139 (aD 1 fI ([x21]:List Int))<|.bI 142 (aI (x21+1)) λx50=>.bI 143 (x50.tmod 12) λx51=>.to 144 (aD 1 fI ([x21,x51]:List Int))<|.bI 146 (aI (x21+1)) λx52=>.bI 148 (aI (x21+2)) λx53=>.to 149 (aD 1 fI ([0,x52,x53]:List Int))<|.gv 150<|.bI 152 (x17.tmod 3) λx54=>.bo (ix ([([x21]:List Int),([x21,x51]:List Int),([0,x52,x53]:List Int)]:List (List Int)) x54) λx55=>.gv 153<|.bI 155 (x19.tmod 3) λx56=>.ret (((⟨11,0,0,0,x56,0,x19,0,x55⟩:aS):aS))) (.bB 160 (decide (x22<27)) λx57=>.ifs [160] x57 (.dr [(6,[1]),(7,[1]),(11,[1]),(12,[1])] [(19,[])] [1] [19] [0,1,2,3,4,5,6,7,8,9,10,11,12,13,14,15,16,17,18,19] (.bI 165 (aI (x8+1)) λx58=>.bI 169 (aI (a1.eH-1)) λx59=>.as (x59≠0) inferInstance<|.bl (x19.tmod x59:Int) λx61=>.gv 170<|.bI 171 (aI (x58+x61)) λx62=>.as (a1.eH≠0) inferInstance<|.bl (x62.tmod a1.eH:Int) λx64=>.gv 174<|.bI 176 (aI (x17.tdiv 3)) λx65=>.bI 177 (aI (1+x65)) λx66=>.ret (((⟨12,x8,x11,x14,x64,x66,x19,0,[]⟩:aS):aS)))) (.bB 182 (decide (x22<29)) λx67=>.ifs [182] x67 (.bI 186 (aI (x17.tdiv 4)) λx68=>.bI 187 (aI (1+x68)) λx69=>.ret (((⟨13,0,0,x14,0,x69,0,x21,[]⟩:aS):aS))) (.bB 191 (decide (x22=29)) λx70=>.ifs [191] x70 (.ret (((⟨14,x8,0,0,0,0,0,0,[]⟩:aS):aS))) (.bB 196 (decide (x22=30)) λx71=>.ifs [196] x71 (.ret (((⟨15,x8,0,0,0,0,0,0,[]⟩:aS):aS))) (.ret (((⟨16,x8,0,0,0,0,0,0,[]⟩:aS):aS))))))))))))))))))
def L3 (a1:eZ) (a2:Int):Option (aS):=(aBO a1 a2).run
theorem aO2 {a1 a2}:PZ (L3 a1 a2) 16 [.agg (eZ.av a1),int a2] (λr=>.agg (aS.av r)):=by
 refine wm Tryz.func16 ?_
 intro v3
 intro v4
 refine .mk λx5 e5=>?_
 refine .mk ?_
 refine .mk λx6=>?_
 refine .mk λp7=>?_
 refine .mk λx8 e8=>?_
 refine .mk _ (λH hH _=>oC rfl rfl rfl p7 e8) ?_
 refine .mk λx9=>?_
 refine .mk ?_
 refine .mk λp10=>?_
 refine .mk λx11 e11=>?_
 refine .mk _ (λH hH _=>oC rfl rfl rfl p10 e11) ?_
 refine .mk λx12=>?_
 refine .mk λx13=>?_
 refine .mk λx14=>?_
 refine .mk λx15=>?_
 refine .mk λx16=>?_
 refine .mk λx17=>?_
 refine .mk λx18=>?_
 refine .mk λx19=>?_
 refine .mk λx20=>?_
 refine .mk λx21=>?_
 refine .mk λx22=>?_
 refine .mk λx23=>?_
 refine .mk ?_ ?_
 exact .mk (bK.agg (.cons (.refl _) (.cons (.refl _) (.cons (.refl _) (.cons (.refl _) (.cons (.refl _) (.cons (.refl _) (.cons (.refl _) (.cons (.refl _) (.cons (.nil _) .nil))))))))))
 refine .mk λx24=>?_
 refine .mk ?_ ?_
 refine .mk λx25=>?_
 refine .mk λx26=>?_
 exact .mk (bK.agg (.cons (.refl _) (.cons (.refl _) (.cons (.refl _) (.cons (.refl _) (.cons (.refl _) (.cons (.refl _) (.cons (.refl _) (.cons (.refl _) (.cons (.nil _) .nil))))))))))
 refine .mk λx27=>?_
 refine .mk ?_ ?_
 refine .mk λx28=>?_
 refine .mk λx29=>?_
 exact .mk (bK.agg (.cons (.refl _) (.cons (.refl _) (.cons (.refl _) (.cons (.refl _) (.cons (.refl _) (.cons (.refl _) (.cons (.refl _) (.cons (.refl _) (.cons (.nil _) .nil))))))))))
 refine .mk λx30=>?_
 refine .mk ?_ ?_
 refine .mk λx31=>?_
 refine .mk λx32=>?_
 exact .mk (bK.agg (.cons (.refl _) (.cons (.refl _) (.cons (.refl _) (.cons (.refl _) (.cons (.refl _) (.cons (.refl _) (.cons (.refl _) (.cons (.refl _) (.cons (.nil _) .nil))))))))))
 refine .mk λx33=>?_
 refine .mk ?_ ?_
 refine .mk λx34=>?_
 refine .mk λx35=>?_
 exact .mk (bK.agg (.cons (.refl _) (.cons (.refl _) (.cons (.refl _) (.cons (.refl _) (.cons (.refl _) (.cons (.refl _) (.cons (.refl _) (.cons (.refl _) (.cons (.nil _) .nil))))))))))
 refine .mk λx36=>?_
 refine .mk ?_ ?_
 refine .mk λx37=>?_
 refine .mk λx38=>?_
 exact .mk (bK.agg (.cons (.refl _) (.cons (.refl _) (.cons (.refl _) (.cons (.refl _) (.cons (.refl _) (.cons (.refl _) (.cons (.refl _) (.cons (.refl _) (.cons (.nil _) .nil))))))))))
 refine .mk λx39=>?_
 refine .mk ?_ ?_
 refine .mk λx40=>?_
 exact .mk (bK.agg (.cons (.refl _) (.cons (.refl _) (.cons (.refl _) (.cons (.refl _) (.cons (.refl _) (.cons (.refl _) (.cons (.refl _) (.cons (.refl _) (.cons (.nil _) .nil))))))))))
 refine .mk λx41=>?_
 refine .mk ?_ ?_
 refine .mk λx42=>?_
 refine .mk λx43=>?_
 refine .mk λx44=>?_
 exact .mk (bK.agg (.cons (.refl _) (.cons (.refl _) (.cons (.refl _) (.cons (.refl _) (.cons (.refl _) (.cons (.refl _) (.cons (.refl _) (.cons (.refl _) (.cons (.nil _) .nil))))))))))
 refine .mk λx45=>?_
 refine .mk ?_ ?_
 refine .mk λx46=>?_
 exact .mk (bK.agg (.cons (.refl _) (.cons (.refl _) (.cons (.refl _) (.cons (.refl _) (.cons (.refl _) (.cons (.refl _) (.cons (.refl _) (.cons (.refl _) (.cons (.nil _) .nil))))))))))
 refine .mk λx47=>?_
 refine .mk ?_ ?_
 refine .mk λx48=>?_
 exact .mk (bK.agg (.cons (.refl _) (.cons (.refl _) (.cons (.refl _) (.cons (.refl _) (.cons (.refl _) (.cons (.refl _) (.cons (.refl _) (.cons (.refl _) (.cons (.nil _) .nil))))))))))
 refine .mk λx49=>?_
 refine .mk ?_ ?_
 refine .mk (bE (bX (y:=aD 1 fI ([x21]:List Int)) (dQ (ps:=[(0,_)]) (rows:=[[int x21]]) rfl Tryz.underlying22 fT (.cons rfl .nil) (by kernel_rfl) rfl rfl rfl) rfl)) ?_
 refine .mk λx50=>?_
 refine .mk λx51=>?_
 refine .mk (bE (bX (y:=aD 1 fI ([x21,x51]:List Int)) (dQ (ps:=[(0,_),(1,_)]) (rows:=[[int x21],[int x51]]) rfl Tryz.underlying22 fT (.cons rfl (.cons rfl .nil)) (by kernel_rfl) rfl rfl rfl) rfl)) ?_
 refine .mk λx52=>?_
 refine .mk λx53=>?_
 refine .mk (bE (bX (y:=aD 1 fI ([0,x52,x53]:List Int)) (dQ (ps:=[(0,_),(1,_),(2,_)]) (rows:=[[int 0],[int x52],[int x53]]) rfl Tryz.underlying22 fT (.cons rfl (.cons rfl (.cons rfl .nil))) (by kernel_rfl) rfl rfl rfl) rfl)) ?_
 refine .mk _ (bE (qJ (cs:=[aD 1 fI ([x21]:List Int),aD 1 fI ([x21,x51]:List Int),aD 1 fI ([0,x52,x53]:List Int)]) (ps:=[(0,_),(1,_),(2,_)]) rfl Tryz.underlying73 kC z73 rfl (.cons rfl (.cons rfl (.cons rfl .nil))) (by kernel_rfl))) ?_
 refine .mk λx54=>?_
 refine .mk λx55 e55=>?_
 refine .mk _ (bE (uR (g:=(fL 1 fI)) (l:=([([x21]:List Int),([x21,x51]:List Int),([0,x52,x53]:List Int)]:List (List Int))) (v:=x55) (w:=aD 1 fI x55) rfl Tryz.underlying73 kC rfl rfl rfl e55 (λ_=>rfl) hw1)) ?_
 refine .mk λx56=>?_
 exact .mk
 refine .mk λx57=>?_
 refine .mk ?_ ?_
 refine .mk ?_
 refine .mk λx58=>?_
 refine .mk λx59=>?_
 refine .mk λp60=>?_
 refine .mk λx61 e61=>?_
 refine .mk _ (λH hH _=>oC rfl rfl rfl p60 e61) ?_
 refine .mk λx62=>?_
 refine .mk λp63=>?_
 refine .mk λx64 e64=>?_
 refine .mk _ (λH hH _=>oC rfl rfl rfl p63 e64) ?_
 refine .mk λx65=>?_
 refine .mk λx66=>?_
 exact .mk (bK.agg (.cons (.refl _) (.cons (.refl _) (.cons (.refl _) (.cons (.refl _) (.cons (.refl _) (.cons (.refl _) (.cons (.refl _) (.cons (.refl _) (.cons (.nil _) .nil))))))))))
 refine .mk λx67=>?_
 refine .mk ?_ ?_
 refine .mk λx68=>?_
 refine .mk λx69=>?_
 exact .mk (bK.agg (.cons (.refl _) (.cons (.refl _) (.cons (.refl _) (.cons (.refl _) (.cons (.refl _) (.cons (.refl _) (.cons (.refl _) (.cons (.refl _) (.cons (.nil _) .nil))))))))))
 refine .mk λx70=>?_
 refine .mk ?_ ?_
 exact .mk (bK.agg (.cons (.refl _) (.cons (.refl _) (.cons (.refl _) (.cons (.refl _) (.cons (.refl _) (.cons (.refl _) (.cons (.refl _) (.cons (.refl _) (.cons (.nil _) .nil))))))))))
 refine .mk λx71=>?_
 refine .mk ?_ ?_
 exact .mk (bK.agg (.cons (.refl _) (.cons (.refl _) (.cons (.refl _) (.cons (.refl _) (.cons (.refl _) (.cons (.refl _) (.cons (.refl _) (.cons (.refl _) (.cons (.nil _) .nil))))))))))
 exact .mk (bK.agg (.cons (.refl _) (.cons (.refl _) (.cons (.refl _) (.cons (.refl _) (.cons (.refl _) (.cons (.refl _) (.cons (.refl _) (.cons (.refl _) (.cons (.nil _) .nil))))))))))
def aI2 (n:Nat) (a1:eZ) (a2:List Int):WB ((List aS)) :=
 .al 1<|.jn 2 [4] [] [3] (λu6 (a:(List aS))=>[(5,.sl 3 (u6 3) 0 a.length)]) (λ_ a=>[.nw 3 34 9 (a.map aS.av)]) (.no 5 3 34 9<|.lp [1,2,4] [1] [3] (λu10 (a:Int×(List aS))=>[(5,.sl 3 (u10 3) 0 a.2.length),(6,int a.1)]) (λ_ a=>[.nw 3 34 9 (a.2.map aS.av)]) n ((0:Int),(([]:List aS):List aS)) (pw λy0_2 y0_3=>.jn 0 [1,2,4,5,6] [1,3] [] (λ_ (a:Bool)=>[(14,aF a)]) (λ_ _=>[]) (.ln 9 fI a2<|.bB 10 (decide (y0_2<(a2.length:Int))) λx5=>.ifs [10] x5 (.bB 13 (decide (y0_2<120)) λx6=>.ret x6) (.ret false)) (λy1_1=>.ifs [14] y1_1 (.dr [(1,[1])] [(8,[])] [1] [8] [0,1,2,3,4,5,6,7,8,9] (.ix 21 fI a2 y0_2 λx7=>.cl 23 (L3 a1 x7) aFL aO2 λx8=>.to 24 (aD 9 aS.av ([x8]:List aS))<|.bl (y0_3++([x8]:List aS):List aS) λx9=>.as (x9.length<=68719476736) inferInstance<|.ge 25 0<|.bI 16 (aI (y0_2+1)) λx12=>.brk ((x12:Int),x9))) (.esc (.ret y0_3))))) (λy2_2=>.ret ((y2_2:List aS)))
def MJ (n:Nat) (a1:eZ) (a2:List Int):Option ((List aS)):=(aI2 n a1 a2).run
theorem ZH {n a1 a2}:PZ (MJ n a1 a2) 9 [.agg (eZ.av a1),aD 1 fI a2] (λr=>aD 9 aS.av r):=wq Tryz.func9
def YC (a1:Int):WB ((List UInt8)) :=
 .bB 5 (decide (a1=1)) λx2=>.jn 0 [2,3] [] [] (λ_ (a:Bool)=>[(4,aF a)]) (λ_ _=>[]) (.ifs [4,5] x2 (.ret true) (.bB 6 (decide (a1=4)) λx3=>.ret x3)) (λy0_1=>.ifs [4] y0_1 (.ret ((([101,105,108,113,97]:List UInt8):List UInt8))) (.bB 8 (decide (a1=2)) λx4=>.jn 0 [2,3] [] [] (λ_ (a:Bool)=>[(7,aF a)]) (λ_ _=>[]) (.ifs [7,8] x4 (.ret true) (.bB 9 (decide (a1=5)) λx5=>.ret x5)) (λy1_1=>.ifs [7] y1_1 (.ret ((([113,97,114]:List UInt8):List UInt8))) (.bB 11 (decide (a1=3)) λx6=>.ifs [11] x6 (.ret ((([113,114]:List UInt8):List UInt8))) (.bB 13 (decide (a1=6)) λx7=>.jn 0 [2,3] [] [] (λ_ (a:Bool)=>[(12,aF a)]) (λ_ _=>[]) (.ifs [12,13] x7 (.ret true) (.bB 14 (decide (a1=7)) λx8=>.ret x8)) (λy2_1=>.ifs [12] y2_1 (.ret ((([101,105,108,113]:List UInt8):List UInt8))) (.bB 16 (decide (a1=8)) λx9=>.ifs [16] x9 (.ret ((([101,105,108,116,113]:List UInt8):List UInt8))) (.bB 18 (decide (a1=9)) λx10=>.jn 0 [2,3] [] [] (λ_ (a:Bool)=>[(17,aF a)]) (λ_ _=>[]) (.ifs [17,18] x10 (.ret true) (.bB 19 (decide (a1=10)) λx11=>.ret x11)) (λy3_1=>.ifs [17] y3_1 (.ret ((([101,105,97]:List UInt8):List UInt8))) (.bB 21 (decide (a1=11)) λx12=>.ifs [21] x12 (.ret ((([116,97,115]:List UInt8):List UInt8))) (.bB 23 (decide (a1=12)) λx13=>.ifs [23] x13 (.ret ((([101,105,108,116,113,97]:List UInt8):List UInt8))) (.bB 25 (decide (a1=13)) λx14=>.ifs [25] x14 (.ret ((([108,113,114]:List UInt8):List UInt8))) (.bB 27 (decide (a1=14)) λx15=>.jn 0 [2] [] [] (λ_ (a:Bool)=>[(26,aF a)]) (λ_ _=>[]) (.ifs [26,27] x15 (.ret true) (.bB 28 (decide (a1=15)) λx16=>.ifs [28] x16 (.ret true) (.bB 29 (decide (a1=16)) λx17=>.ret x17))) (λy4_1=>.ifs [26] y4_1 (.ret ((([101]:List UInt8):List UInt8))) (.ret ((([]:List UInt8):List UInt8)))))))))))))))))
def UZ (a1:Int):Option ((List UInt8)):=(YC a1).run
theorem Y1 {a1}:PZ (UZ a1) 35 [int a1] str:=wq Tryz.func35
def aBE (a1:aS):WB (Bool) :=
 .al 1<|.bB 6 (decide (a1.Kind=8)) λx3=>.ifs [6] x3 (.jn 1 [1] [1] [] (λ_ (a:Bool)=>[(2,aF a)]) (λ_ _=>[]) (.bB 9 (decide (a1.To>=0)) λx4=>.ifs [9] x4 (.bB 13 (decide (a1.To<2)) λx5=>.ifs [13] x5 (.bB 20 (decide (a1.To≠a1.Loc)) λx6=>.ret x6) (.ret false)) (.ret false)) (λy0_1=>.ret ((y0_1:Bool)))) (.bB 23 (decide (a1.Kind=12)) λx7=>.ifs [23] x7 (.jn 1 [1] [1] [] (λ_ (a:Bool)=>[(2,aF a)]) (λ_ _=>[]) (.bB 26 (decide (a1.To>=0)) λx8=>.ifs [26] x8 (.bB 30 (decide (a1.To<4)) λx9=>.ifs [30] x9 (.bB 37 (decide (a1.To≠a1.E)) λx10=>.ret x10) (.ret false)) (.ret false)) (λy1_1=>.ret ((y1_1:Bool)))) (.jn 1 [] [] [] (λ_ (a:Bool)=>[(2,aF a)]) (λ_ _=>[]) (.bB 41 (decide (a1.To>=0)) λx11=>.ifs [41] x11 (.bB 45 (decide (a1.To<=2)) λx12=>.ret x12) (.ret false)) (λy2_1=>.ret ((y2_1:Bool)))))
def LX (a1:aS):Option (Bool):=(aBE a1).run
theorem aEI {a1}:PZ (LX a1) 69 [.agg (aS.av a1)] aF:=wq Tryz.func69
def aC0 (n:Nat) (a1:List Int):WB (Bool) :=
 .dF 2 [0,2] [] [] (λ_ (a:Unit)=>[]) (λ_ _=>[]) (.lp [0,2] [] [] (λ_ (a:Int)=>[(3,int a)]) (λ_ _=>[]) n 0 (λy0_1=>.ln 7 fI a1<|.bB 8 (decide (y0_1<(a1.length:Int))) λx2=>.ifs [8] x2 (.dF 1 [0,2,3] [] [] (λ_ (a:Unit)=>[]) (λ_ _=>[]) (.jn 1 [0,2,3] [] [] (λ_ (a:Bool)=>[(22,aF a)]) (λ_ _=>[]) (.ix 13 fI a1 y0_1 λx3=>.bB 15 (decide (x3<0)) λx4=>.ifs [15] x4 (.ret true) (.ix 19 fI a1 y0_1 λx5=>.bB 21 (decide (x5>=40)) λx6=>.ret x6)) (λy1_1=>.ifs [22] y1_1 (.esc (.esc (.esc (.ret ((false:Bool)))))) (.dF 2 [0,2,3] [] [] (λ_ (a:Unit)=>[]) (λ_ _=>[]) (.lp [0,2,3] [] [] (λ_ (a:Int)=>[(4,int a)]) (λ_ _=>[]) n 0 (λy2_1=>.bB 25 (decide (y2_1<y0_1)) λx7=>.ifs [25] x7 (.dr [] [] [] [] [0,1,2,3,4,5,6,7,8] (.ix 30 fI a1 y2_1 λx8=>.ix 34 fI a1 y0_1 λx9=>.bB 36 (decide (x8=x9)) λx10=>.ifs [36] x10 (.esc (.esc (.esc (.esc (.esc (.ret ((false:Bool)))))))) (.bI 27 (aI (y2_1+1)) λx11=>.brk x11))) (.esc (.brk ())))) (λ_=>.brk ())))) (λ_=>.bI 10 (aI (y0_1+1)) λx12=>.brk x12)) (.esc (.brk ())))) (λ_=>.jn 0 [] [] [] (λ_ (a:Bool)=>[(2,aF a)]) (λ_ _=>[]) (.ln 38 fI a1<|.bB 39 (decide ((a1.length:Int)>=1)) λx13=>.ifs [39] x13 (.ln 42 fI a1<|.bB 43 (decide ((a1.length:Int)<=40)) λx14=>.ret x14) (.ret false)) (λy6_1=>.ret ((y6_1:Bool))))
def PY (n:Nat) (a1:List Int):Option (Bool):=(aC0 n a1).run
theorem YL {n a1}:PZ (PY n a1) 70 [aD 1 fI a1] aF:=wq Tryz.func70
def aG4 (n:Nat) (a1:aS) (a2:aS) (a3:Int):WB (aS×Bool) :=
 .al 1<|.al 2<|.al 3<|.bB 10 (decide (a3=101)) λx7=>.ifs [10] x7 (.jn 2 [3,4,6] [1,2] [] (λ_ (a:Bool)=>[(7,aF a)]) (λ_ _=>[.kp 3 [[int a2.Kind,int a1.E,int a2.Item,int a2.Loc,int a2.To,int a2.aQ,int a2.bD,int a2.Ref,aD 1 fI a2.bT]]]) (.dr [(0,[2]),(1,[1]),(2,[1]),(5,[1]),(6,[1])] [(9,[1])] [1,2] [9] [0,1,2,3,4,5,6,7,8,9,10] (.bB 17 (decide (a1.E>=0)) λx8=>.ifs [17] x8 (.bB 21 (decide (a1.E<4)) λx9=>.ret x9) (.ret false))) (λy0_1=>.ret (((⟨a2.Kind,a1.E,a2.Item,a2.Loc,a2.To,a2.aQ,a2.bD,a2.Ref,a2.bT⟩:aS):aS),y0_1))) (.bB 24 (decide (a3=105)) λx10=>.ifs [24] x10 (.jn 2 [3,4,6] [1,2] [] (λ_ (a:Bool)=>[(7,aF a)]) (λ_ _=>[.kp 3 [[int a2.Kind,int a2.E,int a1.Item,int a2.Loc,int a2.To,int a2.aQ,int a2.bD,int a2.Ref,aD 1 fI a2.bT]]]) (.dr [(0,[2]),(1,[1]),(2,[1]),(5,[1]),(6,[1])] [(9,[1])] [1,2] [9] [0,1,2,3,4,5,6,7,8,9,10] (.bB 31 (decide (a1.Item>=0)) λx11=>.ifs [31] x11 (.bB 35 (decide (a1.Item<5)) λx12=>.ret x12) (.ret false))) (λy1_1=>.ret (((⟨a2.Kind,a2.E,a1.Item,a2.Loc,a2.To,a2.aQ,a2.bD,a2.Ref,a2.bT⟩:aS):aS),y1_1))) (.bB 38 (decide (a3=108)) λx13=>.ifs [38] x13 (.jn 2 [3,4,6] [1,2] [] (λ_ (a:Bool)=>[(7,aF a)]) (λ_ _=>[.kp 3 [[int a2.Kind,int a2.E,int a2.Item,int a1.Loc,int a2.To,int a2.aQ,int a2.bD,int a2.Ref,aD 1 fI a2.bT]]]) (.dr [(0,[2]),(1,[1]),(2,[1]),(5,[1]),(6,[1])] [(9,[1])] [1,2] [9] [0,1,2,3,4,5,6,7,8,9,10] (.bB 45 (decide (a1.Loc>=0)) λx14=>.ifs [45] x14 (.bB 49 (decide (a1.Loc<2)) λx15=>.ret x15) (.ret false))) (λy2_1=>.ret (((⟨a2.Kind,a2.E,a2.Item,a1.Loc,a2.To,a2.aQ,a2.bD,a2.Ref,a2.bT⟩:aS):aS),y2_1))) (.bB 52 (decide (a3=116)) λx16=>.ifs [52] x16 (.dr [(0,[2]),(1,[1])] [(3,[])] [1,2] [3] [0,1,2,3,4] (.cl 58 (LX a1) ZF aEI λx17=>.ret (((⟨a2.Kind,a2.E,a2.Item,a2.Loc,a1.To,a2.aQ,a2.bD,a2.Ref,a2.bT⟩:aS):aS),x17))) (.bB 60 (decide (a3=113)) λx18=>.ifs [60] x18 (.jn 2 [3,4,6] [1,2] [] (λ_ (a:Bool)=>[(7,aF a)]) (λ_ _=>[.kp 3 [[int a2.Kind,int a2.E,int a2.Item,int a2.Loc,int a2.To,int a1.aQ,int a2.bD,int a2.Ref,aD 1 fI a2.bT]]]) (.dr [(0,[2]),(1,[1]),(2,[1]),(5,[1]),(6,[1]),(9,[1]),(10,[1]),(13,[1]),(14,[1])] [(19,[1])] [1,2] [19] [0,1,2,3,4,5,6,7,8,9,10,11,12,13,14,15,16,17,18,19,20] (.bB 67 (decide (a1.aQ<=1073741824)) λx19=>.ifs [67] x19 (.bB 71 (decide (a1.aQ>=1)) λx20=>.ifs [71] x20 (.ret true) (.bB 75 (decide (a1.aQ=0)) λx21=>.ifs [75] x21 (.bB 79 (decide (a1.Kind=7)) λx22=>.ret x22) (.ret false))) (.ret false))) (λy3_1=>.ret (((⟨a2.Kind,a2.E,a2.Item,a2.Loc,a2.To,a1.aQ,a2.bD,a2.Ref,a2.bT⟩:aS):aS),y3_1))) (.bB 84 (decide (a3=97)) λx23=>.ifs [84] x23 (.jn 2 [3,4,6] [1,2] [] (λ_ (a:Bool)=>[(7,aF a)]) (λ_ _=>[.kp 3 [[int a2.Kind,int a2.E,int a2.Item,int a2.Loc,int a2.To,int a2.aQ,int a1.bD,int a2.Ref,aD 1 fI a2.bT]]]) (.dr [(0,[2]),(1,[1]),(2,[1]),(5,[1]),(6,[1]),(10,[1]),(11,[1]),(14,[1]),(15,[1]),(18,[1]),(19,[1])] [(24,[1])] [1,2] [24] [0,1,2,3,4,5,6,7,8,9,10,11,12,13,14,15,16,17,18,19,20,21,22,23,24,25] (.bB 91 (decide (a1.bD>=0)) λx24=>.ifs [91] x24 (.bB 95 (decide (a1.bD<=1125899906842624)) λx25=>.ifs [95] x25 (.bB 100 (decide (a1.bD<=1073741824)) λx26=>.ifs [100] x26 (.ret true) (.bB 104 (decide (a1.Kind≠9)) λx27=>.ifs [104] x27 (.bB 108 (decide (a1.Kind≠10)) λx28=>.ret x28) (.ret false))) (.ret false)) (.ret false))) (λy4_1=>.ret (((⟨a2.Kind,a2.E,a2.Item,a2.Loc,a2.To,a2.aQ,a1.bD,a2.Ref,a2.bT⟩:aS):aS),y4_1))) (.bB 113 (decide (a3=114)) λx29=>.ifs [113] x29 (.jn 2 [3,4,6] [1,2] [] (λ_ (a:Bool)=>[(7,aF a)]) (λ_ _=>[.kp 3 [[int a2.Kind,int a2.E,int a2.Item,int a2.Loc,int a2.To,int a2.aQ,int a2.bD,int a1.Ref,aD 1 fI a2.bT]]]) (.dr [(0,[2]),(1,[1]),(2,[1]),(5,[1]),(6,[1])] [(9,[1])] [1,2] [9] [0,1,2,3,4,5,6,7,8,9,10] (.bB 120 (decide (a1.Ref>=0)) λx30=>.ifs [120] x30 (.bB 124 (decide (a1.Ref<40)) λx31=>.ret x31) (.ret false))) (λy5_1=>.ret (((⟨a2.Kind,a2.E,a2.Item,a2.Loc,a2.To,a2.aQ,a2.bD,a1.Ref,a2.bT⟩:aS):aS),y5_1))) (.dr [(0,[2]),(1,[1]),(2,[1])] [(4,[])] [1,2] [4] [0,1,2,3,4,5] (.cl 132 (PY n a1.bT) aBK YL λx32=>.ret (((⟨a2.Kind,a2.E,a2.Item,a2.Loc,a2.To,a2.aQ,a2.bD,a2.Ref,a1.bT⟩:aS):aS),x32)))))))))
def TL (n:Nat) (a1:aS) (a2:aS) (a3:Int):Option (aS×Bool):=(aG4 n a1 a2 a3).run
theorem aF2 {n a1 a2 a3}:PZ (TL n a1 a2 a3) 36 [.agg (aS.av a1),.agg (aS.av a2),.sc (.int .u8 a3)] (λr=>.aU [.agg (aS.av r.1),aF r.2]):=wq Tryz.func36
def aMY (n:Nat) (a1:List Int) (a2:List Int):WB (Bool) :=
 .ln 7 fI a1<|.ln 9 fI a2<|.bB 10 (decide ((a1.length:Int)≠(a2.length:Int))) λx3=>.ifs [10] x3 (.ret ((false:Bool))) (.dF 2 [4] [] [] (λ_ (a:Unit)=>[]) (λ_ _=>[]) (.lp [0,1,4] [] [] (λ_ (a:Int)=>[(5,int a)]) (λ_ _=>[]) n 0 (λy0_1=>.ln 13 fI a1<|.bB 14 (decide (y0_1<(a1.length:Int))) λx4=>.ifs [14] x4 (.dr [] [] [] [] [0,1,2,3,4,5,6,7,8] (.ix 19 fI a1 y0_1 λx5=>.ix 23 fI a2 y0_1 λx6=>.bB 25 (decide (x5≠x6)) λx7=>.ifs [25] x7 (.esc (.esc (.ret ((false:Bool))))) (.bI 16 (aI (y0_1+1)) λx8=>.brk x8))) (.esc (.brk ())))) (λ_=>.ret ((true:Bool))))
def UI (n:Nat) (a1:List Int) (a2:List Int):Option (Bool):=(aMY n a1 a2).run
theorem aN3 {n a1 a2}:PZ (UI n a1 a2) 71 [aD 1 fI a1,aD 1 fI a2] aF:=wq Tryz.func71
def aN4 (n:Nat) (a1:aS) (a2:aS):WB (Bool) :=
 .al 1<|.al 2<|.jn 0 [] [] [] (λ_ (a:Bool)=>[(4,aF a)]) (λ_ _=>[]) (.bB 9 (decide (a1.Kind=a2.Kind)) λx5=>.ifs [9] x5 (.bB 15 (decide (a1.E=a2.E)) λx6=>.ifs [15] x6 (.bB 22 (decide (a1.Item=a2.Item)) λx7=>.ifs [22] x7 (.bB 29 (decide (a1.Loc=a2.Loc)) λx8=>.ifs [29] x8 (.bB 36 (decide (a1.To=a2.To)) λx9=>.ifs [36] x9 (.bB 43 (decide (a1.aQ=a2.aQ)) λx10=>.ifs [43] x10 (.bB 50 (decide (a1.bD=a2.bD)) λx11=>.ifs [50] x11 (.bB 57 (decide (a1.Ref=a2.Ref)) λx12=>.ifs [57] x12 (.cl 64 (UI n a1.bT a2.bT) YI aN3 λx13=>.ret x13) (.ret false)) (.ret false)) (.ret false)) (.ret false)) (.ret false)) (.ret false)) (.ret false)) (.ret false)) (λy0_1=>.ret ((y0_1:Bool)))
def SH (n:Nat) (a1:aS) (a2:aS):Option (Bool):=(aN4 n a1 a2).run
theorem aD7 {n a1 a2}:PZ (SH n a1 a2) 37 [.agg (aS.av a1),.agg (aS.av a2)] aF:=wq Tryz.func37
def aGU (n:Nat) (a1:aS):WB (Bool) :=
 .al 1<|.cl 10 (UZ a1.Kind) aBG Y1 λx3=>.al 2<|.dF 1 [1,2,3,4] [1] [] (λ_ (a:aS)=>[]) (λ_ a=>[.kp 2 [(aS.av a)]]) (.lp [1,2,3,4] [1] [] (λ_ (a:Int×aS)=>[(5,int a.1)]) (λ_ a=>[.kp 2 [(aS.av a.2)]]) n ((0:Int),((⟨a1.Kind,0,0,0,0,0,0,0,[]⟩:aS):aS)) (pw λy0_1 y0_2=>.gv 16<|.bB 17 (decide (y0_1<(x3.length:Int))) λx5=>.ifs [17] x5 (.dr [(0,[1]),(1,[2])] [(10,[])] [1,2] [9,10] [0,1,2,3,4,5,6,7,8,9,10,11] (.bo (ix x3 y0_1) λx6=>.gv 25<|.cl 26 (TL n a1 y0_2 (x6.toNat:Int)) aLB aF2 λx7=>.al 3<|.bB 7 (x7.2) λx9=>.bB 30 (!x9) λx10=>.ifs [30] x10 (.esc (.esc (.ret ((false:Bool))))) (.bI 19 (aI (y0_1+1)) λx11=>.brk ((x11:Int),x7.1)))) (.esc (.brk y0_2)))) (λy1_1=>.jn 0 [] [] [] (λ_ (a:Bool)=>[(2,aF a)]) (λ_ _=>[]) (.bl (decide (x3≠([]:List UInt8)):Bool) λx12=>.gv 33<|.ifs [33] x12 (.cl 37 (SH n a1 y1_1) aHJ aD7 λx13=>.ret x13) (.ret false)) (λy2_1=>.ret ((y2_1:Bool))))
def H9 (n:Nat) (a1:aS):Option (Bool):=(aGU n a1).run
theorem NZ {n a1}:PZ (H9 n a1) 17 [.agg (aS.av a1)] aF:=wq Tryz.func17
def aIC (a1:Int) (a2:Int):WB (Bool) :=
 .jn 1 [] [] [] (λ_ (a:Bool)=>[(4,aF a)]) (λ_ _=>[]) (.bB 6 (decide (a1>=0)) λx3=>.ifs [6] x3 (.bB 10 (decide (a1<=a2)) λx4=>.ret x4) (.ret false)) (λy0_1=>.ret ((y0_1:Bool)))
def sZ (a1:Int) (a2:Int):Option (Bool):=(aIC a1 a2).run
theorem wG {a1 a2}:PZ (sZ a1 a2) 133 [int a1,int a2] aF:=wq Tryz.func133
def XY (a1:aA) (a2:Int) (a3:Int):WB (Bool) :=
 .al 1<|.jn 0 [] [] [] (λ_ (a:Bool)=>[(6,aF a)]) (λ_ _=>[]) (.ln 10 aP.av a1.aW<|.bI 11 (aI ((a1.aW.length:Int)-1)) λx5=>.cl 12 (sZ a2 x5) vG wG λx6=>.ifs [12] x6 (.ln 18 fI a1.bA.cB<|.bI 19 (aI ((a1.bA.cB.length:Int)-1)) λx7=>.cl 20 (sZ a3 x7) vG wG λx8=>.ret x8) (.ret false)) (λy0_1=>.ret ((y0_1:Bool)))
def uK (a1:aA) (a2:Int) (a3:Int):Option (Bool):=(XY a1 a2 a3).run
theorem yC {a1 a2 a3}:PZ (uK a1 a2 a3) 132 [.agg (aA.av a1),int a2,int a3] aF:=wq Tryz.func132
def aE3 (a1:aA) (a2:Int) (a3:Int) (a4:Int):WB (aM) :=
 .al 1<|.al 2<|.jn 0 [1,2,3,4,8] [1,2] [] (λ_ (a:Bool)=>[(32,aF a)]) (λ_ _=>[]) (.cl 12 (uK a1 a2 a3) xK yC λx7=>.bB 13 (!x7) λx8=>.ifs [13] x8 (.ret true) (.cl 16 (sZ a4 1) vG wG λx9=>.bB 17 (!x9) λx10=>.ifs [17] x10 (.ret true) (.bI 21 (aI (a3*2)) λx11=>.bI 23 (aI (x11+a4)) λx12=>.gI 27 aP.av gE aP.bW a1.aW a2 λx13=>.ln 30 aM.av x13.dD<|.bB 31 (decide (x12>=(x13.dD.length:Int))) λx14=>.ret x14))) (λy0_1=>.ifs [32] y0_1 (.ret (((⟨[],(⟨0,0,0⟩:gJ)⟩:aM):aM))) (.gI 37 aP.av gE aP.bW a1.aW a2 λx15=>.bI 41 (aI (a3*2)) λx16=>.bI 43 (aI (x16+a4)) λx17=>.ix 44 aM.av x15.dD x17 λx18=>.ret ((x18:aM))))
def nS (a1:aA) (a2:Int) (a3:Int) (a4:Int):Option (aM):=(aE3 a1 a2 a3 a4).run
theorem oD {a1 a2 a3 a4}:PZ (nS a1 a2 a3 a4) 72 [.agg (aA.av a1),int a2,int a3,int a4] (λr=>.agg (aM.av r)):=wq Tryz.func72
def aOP (a1:Int):WB (Bool) :=
 .jn 1 [] [] [] (λ_ (a:Bool)=>[(2,aF a)]) (λ_ _=>[]) (.bB 4 (decide (a1>=(-288230376151711744))) λx2=>.ifs [4] x2 (.bB 7 (decide (a1<=288230376151711744)) λx3=>.ret x3) (.ret false)) (λy0_1=>.ret ((y0_1:Bool)))
def qO (a1:Int):Option (Bool):=(aOP a1).run
theorem tN {a1}:PZ (qO a1) 198 [int a1] aF:=wq Tryz.func198
def XP (a1:Int) (a2:Int):WB (Int×Int) :=
 .jn 1 [0,1,4,5] [] [] (λ_ (a:Bool)=>[(20,aF a)]) (λ_ _=>[]) (.cl 7 (qO a1) rF tN λx3=>.bB 8 (!x3) λx4=>.ifs [8] x4 (.ret true) (.cl 11 (qO a2) rF tN λx5=>.bB 12 (!x5) λx6=>.ifs [12] x6 (.ret true) (.bI 17 (aI (a1+a2)) λx7=>.cl 18 (qO x7) rF tN λx8=>.bB 19 (!x8) λx9=>.ret x9))) (λy0_1=>.ifs [20] y0_1 (.ret ((0:Int),2)) (.bI 23 (aI (a1+a2)) λx10=>.ret ((x10:Int),0)))
def oK (a1:Int) (a2:Int):Option (Int×Int):=(XP a1 a2).run
theorem qB {a1 a2}:PZ (oK a1 a2) 138 [int a1,int a2] (λr=>.aU [int r.1,int r.2]):=wq Tryz.func138
def aB5 (n:Nat) (a1:List aB):WB (aB×Int) :=
 .al 1<|.al 2<|.dF 1 [2,3,4] [1] [] (λ_ (a:aB)=>[]) (λ_ a=>[.kp 2 [[int a.aQ,int a.Value,int a.bO]]]) (.lp [0,2,3,4] [1] [] (λ_ (a:Int×aB)=>[(5,int a.1)]) (λ_ a=>[.kp 2 [[int a.2.aQ,int a.2.Value,int a.2.bO]]]) n ((0:Int),((⟨0,0,0⟩:aB):aB)) (pw λy0_1 y0_2=>.ln 14 aB.av a1<|.bB 15 (decide (y0_1<(a1.length:Int))) λx4=>.ifs [15] x4 (.dr [(0,[2]),(1,[2])] [] [2] [] [0,1,2,3,4,5,6,7,8,9,10,11,12] (.ix 23 aB.av a1 y0_1 λx5=>.cl 26 (oK y0_2.aQ x5.aQ) p8 qB λx6=>.dr [(0,[2]),(1,[2])] [] [2] [] [0,1,2,3,4,5,6,7,8,9,10,11,12] (.ix 34 aB.av a1 y0_1 λx7=>.cl 37 (oK y0_2.Value x7.Value) p8 qB λx8=>.dr [(0,[2]),(1,[2])] [] [2] [] [0,1,2,3,4,5,6,7,8,9,10,11,12] (.ix 45 aB.av a1 y0_1 λx9=>.cl 48 (oK y0_2.bO x9.bO) p8 qB λx10=>.jn 0 [0,2,3,4,5,6,8,10] [1,2] [] (λ_ (a:Bool)=>[(60,aF a)]) (λ_ _=>[]) (.bB 52 (decide (x6.2≠0)) λx11=>.ifs [52] x11 (.ret true) (.bB 55 (decide (x8.2≠0)) λx12=>.ifs [55] x12 (.ret true) (.bB 59 (decide (x10.2≠0)) λx13=>.ret x13))) (λy1_1=>.ifs [60] y1_1 (.esc (.esc (.ret (((⟨0,0,0⟩:aB):aB),2)))) (.bI 17 (aI (y0_1+1)) λx14=>.brk ((x14:Int),((⟨x6.1,x8.1,x10.1⟩:aB):aB)))))))) (.esc (.brk y0_2)))) (λy2_1=>.ret ((y2_1:aB),0))
def qM (n:Nat) (a1:List aB):Option (aB×Int):=(aB5 n a1).run
theorem tX {n a1}:PZ (qM n a1) 199 [aD 3 aB.av a1] (λr=>.aU [.agg (aB.av r.1),int r.2]):=wq Tryz.func199
def aBQ (a1:Int) (a2:Int):WB (Int×Int) :=
 .bI 18 (wu64 a1) λx3=>.bI 20 (wu64 a2) λx4=>.bl (wu64 ((BitVec.ofInt IntKind.u64.bits x3 &&& BitVec.ofInt IntKind.u64.bits 4294967295).toNat:Int):Int) λx5=>.gv 22<|.bI 24 (x3.fdiv (2 ^ (min (32:Int).toNat IntKind.u64.bits))) λx6=>.bl (wu64 ((BitVec.ofInt IntKind.u64.bits x4 &&& BitVec.ofInt IntKind.u64.bits 4294967295).toNat:Int):Int) λx7=>.gv 26<|.bI 28 (x4.fdiv (2 ^ (min (32:Int).toNat IntKind.u64.bits))) λx8=>.bI 31 (wu64 (x5*x7)) λx9=>.bI 34 (wu64 (x5*x8)) λx10=>.bI 37 (wu64 (x6*x7)) λx11=>.bI 40 (wu64 (x6*x8)) λx12=>.bI 42 (x9.fdiv (2 ^ (min (32:Int).toNat IntKind.u64.bits))) λx13=>.bl (wu64 ((BitVec.ofInt IntKind.u64.bits x10 &&& BitVec.ofInt IntKind.u64.bits 4294967295).toNat:Int):Int) λx14=>.gv 44<|.bI 45 (wu64 (x13+x14)) λx15=>.bl (wu64 ((BitVec.ofInt IntKind.u64.bits x11 &&& BitVec.ofInt IntKind.u64.bits 4294967295).toNat:Int):Int) λx16=>.gv 47<|.bI 48 (wu64 (x15+x16)) λx17=>.bI 51 (x10.fdiv (2 ^ (min (32:Int).toNat IntKind.u64.bits))) λx18=>.bI 52 (wu64 (x12+x18)) λx19=>.bI 54 (x11.fdiv (2 ^ (min (32:Int).toNat IntKind.u64.bits))) λx20=>.bI 55 (wu64 (x19+x20)) λx21=>.bI 57 (x17.fdiv (2 ^ (min (32:Int).toNat IntKind.u64.bits))) λx22=>.bI 58 (wu64 (x21+x22)) λx23=>.bI 60 (wu64 (x17*(2 ^ (min (32:Int).toNat IntKind.u64.bits)))) λx24=>.bl (wu64 ((BitVec.ofInt IntKind.u64.bits x9 &&& BitVec.ofInt IntKind.u64.bits 4294967295).toNat:Int):Int) λx25=>.gv 62<|.bl (wu64 ((BitVec.ofInt IntKind.u64.bits x24 ||| BitVec.ofInt IntKind.u64.bits x25).toNat:Int):Int) λx26=>.gv 63<|.ret ((x23:Int),x26)
def I6 (a1:Int) (a2:Int):Option (Int×Int):=(aBQ a1 a2).run
theorem M4 {a1 a2}:PZ (I6 a1 a2) 142 [int a1,int a2] (λr=>.aU [.sc (.int .u64 r.1),.sc (.int .u64 r.2)]):=wq Tryz.func142
def aBZ (n:Nat) (a1:Int) (a2:Int) (a3:Int):WB (Int×Int×Int) :=
 .jn 1 [0,1,2,6,7,8] [] [] (λ_ (a:Bool)=>[(24,aF a)]) (λ_ _=>[]) (.bB 16 (decide (a1<0)) λx4=>.ifs [16] x4 (.ret true) (.bB 19 (decide (a2<0)) λx5=>.ifs [19] x5 (.ret true) (.bB 23 (decide (a3<1)) λx6=>.ret x6))) (λy0_1=>.ifs [24] y0_1 (.ret ((0:Int),0,1)) (.cl 28 (I6 a1 a2) SI M4 λx7=>.bI 32 (wu64 a3) λx8=>.bB 35 (decide (x7.1>=x8)) λx9=>.ifs [35] x9 (.ret ((0:Int),0,2)) (.jn 3 [6,7,8] [] [] (λ_ (a:Int×Int)=>[(12,.sc (.int .u64 a.1)),(13,.sc (.int .u64 a.2))]) (λ_ _=>[]) (.lp [6,7,8,10,11] [] [] (λ_ (a:Int×Int×Int)=>[(12,.sc (.int .u64 a.1)),(13,.sc (.int .u64 a.2.1)),(14,int a.2.2)]) (λ_ _=>[]) n ((x7.1:Int),0,63) (pw λy1_1 q0=>(pw λy1_2 y1_3=>.bB 38 (decide (y1_3>=0)) λx10=>.ifs [38] x10 (.jn 1 [6,7,8,10,11,14] [] [] (λ_ (a:Int×Int)=>[(12,.sc (.int .u64 a.1)),(13,.sc (.int .u64 a.2))]) (λ_ _=>[]) (.bI 42 (wu64 (y1_1*(2 ^ (min (1:Int).toNat IntKind.u64.bits)))) λx11=>.bI 45 (wu64 y1_3) λx12=>.as ((0:Int)<=x12) inferInstance<|.bl (x7.2.fdiv (2 ^ (min x12.toNat IntKind.u64.bits)):Int) λx14=>.gv 46<|.bl (wu64 ((BitVec.ofInt IntKind.u64.bits x14 &&& BitVec.ofInt IntKind.u64.bits 1).toNat:Int):Int) λx15=>.gv 47<|.bl (wu64 ((BitVec.ofInt IntKind.u64.bits x11 ||| BitVec.ofInt IntKind.u64.bits x15).toNat:Int):Int) λx16=>.gv 48<|.bI 50 (wu64 (y1_2*(2 ^ (min (1:Int).toNat IntKind.u64.bits)))) λx17=>.bB 53 (decide (x16>=x8)) λx18=>.ifs [53] x18 (.bI 56 (wu64 (x16-x8)) λx19=>.bl (wu64 ((BitVec.ofInt IntKind.u64.bits x17 ||| BitVec.ofInt IntKind.u64.bits 1).toNat:Int):Int) λx20=>.gv 58<|.ret ((x19:Int),x20)) (.ret ((x16:Int),x17))) (pw λy2_1 y2_2=>.bI 40 (aI (y1_3-1)) λx21=>.brk ((y2_1:Int),y2_2,x21))) (.esc (.ret ((y1_1:Int),y1_2)))) q0)) (pw λy3_1 y3_2=>.bB 60 (decide (y3_2>288230376151711744)) λx22=>.ifs [60] x22 (.ret ((0:Int),0,2)) (.bI 62 (aI y3_2) λx23=>.bI 64 (aI y3_1) λx24=>.ret ((x23:Int),x24,0))))))
def oO (n:Nat) (a1:Int) (a2:Int) (a3:Int):Option (Int×Int×Int):=(aBZ n a1 a2 a3).run
theorem pO {n a1 a2 a3}:PZ (oO n a1 a2 a3) 208 [int a1,int a2,int a3] (λr=>.aU [int r.1,int r.2.1,int r.2.2]):=wq Tryz.func208
def aA8 (n:Nat) (a1:Int) (a2:Int) (a3:Int):WB (Int) :=
 .jn 1 [0,1,2,6] [] [] (λ_ (a:Bool)=>[(28,aF a)]) (λ_ _=>[]) (.bB 14 (decide (a3<1)) λx4=>.ifs [14] x4 (.ret true) (.bB 17 (decide (a2<0)) λx5=>.ifs [17] x5 (.ret true) (.bB 22 (decide (a2>a3)) λx6=>.ifs [22] x6 (.ret true) (.cl 26 (qO a1) rF tN λx7=>.bB 27 (!x7) λx8=>.ret x8)))) (λy0_1=>.ifs [28] y0_1 (.ret ((0:Int))) (.bB 30 (decide (a1<0)) λx9=>.ifs [30] x9 (.bI 33 (aI (0-a1)) λx10=>.cl 36 (oO n x10 a2 a3) pN pO λx11=>.bI 41 (aI (0-x11.1)) λx12=>.ret ((x12:Int))) (.cl 46 (oO n a1 a2 a3) pN pO λx13=>.ret ((x13.1:Int)))))
def l9 (n:Nat) (a1:Int) (a2:Int) (a3:Int):Option (Int):=(aA8 n a1 a2 a3).run
theorem nL {n a1 a2 a3}:PZ (l9 n a1 a2 a3) 205 [int a1,int a2,int a3] int:=wq Tryz.func205
end
end Go.Pv
