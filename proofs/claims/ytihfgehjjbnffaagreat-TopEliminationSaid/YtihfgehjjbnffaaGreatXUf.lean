import Derived.Test.YtihfgehjjbnffaaGreatXUe
set_option linter.unusedVariables false
set_option linter.unusedSimpArgs false
namespace Go.Pv
open Go.Proofs
set_option maxRecDepth 100000
set_option maxHeartbeats 4000000
noncomputable section
def GR (a1:gD):Nat->Int->(List Int)->Option ((List Int))
  | 0,_,_=>none
  | n+1,y1_1,y1_2 =>
    bnd (decide (y1_1<(a1.bN.length:Int))) λx29 =>
    cond x29 ((ix y1_2 y1_1).bind λx30 =>
    bnd (y1_2.set (Int.toNat y1_1) ((-1):Int)) λx31 =>
    bnd (bA (y1_1+1)) λx32 =>
    GR a1 n (x32:Int) (x31:List Int)) (some (y1_2:List Int))
def G9 (a1:gD):Nat->Int->(List aP)->Option ((List aP))
  | 0,_,_=>none
  | n+1,y0_1,y0_3 =>
    bnd (decide (y0_1<a1.fO)) λx9 =>
    cond x9 ((show Option ((List aP)) from
    bnd (bA ((a1.bN.length:Int)*2)) λx11 =>
    gZ ((0:Int)<=x11/\(x11:Int)<=1048576)<|
    bnd (List.replicate (Int.toNat x11) ((⟨[],(⟨0,0,0⟩:jE)⟩:aT):aT)) λx13 =>
    gZ ((0:Int)<=17/\(17:Int)<=1048576)<|
    bnd (List.replicate (Int.toNat 17) (0:Int)) λx16 =>
    gZ ((0:Int)<=(a1.bN.length:Int)/\((a1.bN.length:Int):Int)<=1048576)<|
    bnd (List.replicate (Int.toNat (a1.bN.length:Int)) ((⟨0,0,0,0,0,0,0,0,0,0,0⟩:dL):dL)) λx19 =>
    gZ ((0:Int)<=(a1.bN.length:Int)/\((a1.bN.length:Int):Int)<=1048576)<|
    bnd (List.replicate (Int.toNat (a1.bN.length:Int)) (0:Int)) λx22 =>
    gZ ((0:Int)<=(a1.bN.length:Int)/\((a1.bN.length:Int):Int)<=1048576)<|
    bnd (List.replicate (Int.toNat (a1.bN.length:Int)) (0:Int)) λx25 =>
    (show Option ((List Int)) from
    GR a1 n (0:Int) (x22:List Int)).bind <| λy2_1 =>
    bnd (y0_3++[(⟨1,false,x13,x16,x19,y2_1,x25,[]⟩:aP)]) λx33 =>
    gZ (x33.length<=68719476736)<|
    some (x33:List aP)).bind <| λy3_2 =>
    bnd (bA (y0_1+1)) λx36 =>
    G9 a1 n (x36:Int) (y3_2:List aP)) (some (y0_3:List aP))
def P6 (n:Nat) (a1:gD):Option (aA×Int) :=
(aEK n a1).bind λx4 =>
bnd (!x4) λx5 =>
cond x5 (some (((⟨(⟨0,0,[],[],[]⟩:gD),[],[],[],[],0⟩:aA):aA),(1:Int))) ((show Option ((List aP)) from
G9 a1 n (0:Int) (([]:List aP):List aP)).bind <| λy4_2 =>
some (((⟨a1,y4_2,[],[],[],0⟩:aA):aA),(0:Int)))
theorem aOV {n:Nat} {a1:gD} {r:aA×Int} (h0:P6 n a1=some r):PP Tryz.prog 12 [.agg (gD.av a1)] (λy=>y=.bD [.agg (aA.av r.1),int r.2]):=by
  unfold P6 at h0
  refine rF (R0:=λy H=>Cv (l6 H) y (.bD [.agg (aA.av r.1),int r.2])) ?_ (λy H hc=>⟨_,rfl,.bD (N6 ((λ(a:aA)=>PV.agg (aA.dX a)) (r.1)) (vO (r.2))),hc⟩)
  refine iI (c:=_) Tryz.func12 rfl rfl ?_;intro Q hret hnorm
  refine tc aG 2 (.mk ?_)
  refine sB 1 λv2=>?_
  refine sA 2 z33 λv3=>?_
  refine tr aG 6 (.mk ?_)
  obtain ⟨x4,e4,h0⟩:=dJ h0
  refine sC aPH (aRZ _ e4) ?_
  refine nb aG h0 λx5 h0=>?_
  refine tr aG 1 (.mk ?_)
  cases x5
  replace h0:=cf h0
  refine tc aG 5 (.mk ?_)
  refine sY (tF (cs:=[int a1.fO,int a1.iB,aH 1 fI a1.bN,aH 1 (fL 1 fI) a1.Methods,aH 1 (fL 1 fI) a1.fM,.sc (.slice none 0 0),.sc (.slice none 0 0),.sc (.slice none 0 0),.sc (.slice none 0 0),int 0]) (ps:=[(0,_)]) rfl L5 z33 rfl (.cons rfl .nil) (by kernel_rfl)) ?_
  refine sA 3 z33 λv6=>?_
  refine sS ⟨33,10,true,true,v6,[[int a1.fO,int a1.iB,aH 1 fI a1.bN,aH 1 (fL 1 fI) a1.Methods,aH 1 (fL 1 fI) a1.fM,.sc (.slice none 0 0),.sc (.slice none 0 0),.sc (.slice none 0 0),.sc (.slice none 0 0),int 0]]⟩ oP ?_
  refine tr aG 5 (.mk ?_)
  refine sY (mP rfl Tryz.underlying22 rfl (uY _)) ?_
  refine tr aG 7 (.mk ?_)
  refine jn h0 [2,3,4] [2] (λ(a:(List aP)) (k:Nat)=>[]) (λa k=>[(3,⟨33,10,true,true,v6,[[int a1.fO,int a1.iB,aH 1 fI a1.bN,aH 1 (fL 1 fI) a1.Methods,aH 1 (fL 1 fI) a1.fM,.sl 11 k 0 a.length,.sc (.slice none 0 0),.sc (.slice none 0 0),.sc (.slice none 0 0),int 0]]⟩),(11,⟨66,8,true,true,k,a.map aP.av⟩)]) ⟨λj7 h1=>?_,?_⟩
  refine tc aG 1 (.mk ?_)
  refine P9 3 0 5 11 66 8 (rows:=λv8=>[[int a1.fO,int a1.iB,aH 1 fI a1.bN,aH 1 (fL 1 fI) a1.Methods,aH 1 (fL 1 fI) a1.fM,.sl 11 v8 0 0,.sc (.slice none 0 0),.sc (.slice none 0 0),.sc (.slice none 0 0),int 0]]) rfl rfl rfl rfl (λ_=>rfl) ?_;intro v8
  refine lp (λn (a:Int×(List aP))=>G9 a1 n a.1 a.2) ((0:Int),(([]:List aP):List aP)) v8 h1 [1,2,3,4,5] [1,2] (λ(a:Int×(List aP)) (k:Nat)=>[(6,int a.1)]) (λa k=>[(3,⟨33,10,true,true,v6,[[int a1.fO,int a1.iB,aH 1 fI a1.bN,aH 1 (fL 1 fI) a1.Methods,aH 1 (fL 1 fI) a1.fM,.sl 11 k 0 a.2.length,.sc (.slice none 0 0),.sc (.slice none 0 0),.sc (.slice none 0 0),int 0]]⟩),(11,⟨66,8,true,true,k,a.2.map aP.av⟩)]) (λ_=>rfl) ⟨dY,?_⟩
  rintro n ⟨y0_1,y0_3⟩ w0_2 hm h1
  replace h1:G9 a1 (n+1) y0_1 y0_3=some _:=h1
  rw [G9] at h1
  refine tc aG 6 (.mk ?_)
  refine nb aG h1 λx9 h1=>?_
  refine tr aG 1 (.mk ?_)
  cases x9
  replace h1:=cf h1
  refine tc aG 2 (.mk ?_)
  exact lf h1 w0_2 dY
  replace h1:=ct h1
  refine tc aG 3 (.mk ?_)
  refine jn h1 [1,2,3,4,5,6] [1,2] (λ(a:(List aP)) (k:Nat)=>[]) (λa k=>[(3,⟨33,10,true,true,v6,[[int a1.fO,int a1.iB,aH 1 fI a1.bN,aH 1 (fL 1 fI) a1.Methods,aH 1 (fL 1 fI) a1.fM,.sl 11 k 0 a.length,.sc (.slice none 0 0),.sc (.slice none 0 0),.sc (.slice none 0 0),int 0]]⟩),(11,⟨66,8,true,true,k,a.map aP.av⟩)]) ⟨λj10 h2=>?_,?_⟩
  refine tc aG 2 (.mk ?_)
  refine K4 [0,1,3,0,0,16,0,64,0,256,1023,0,4095] (λi k=>bif Nat.beq i 12 then (Nat.beq k 4 || Nat.beq k 5 || Nat.beq k 6 || Nat.beq k 7 || Nat.beq k 8 || Nat.beq k 9) else false) (λi=>bif Nat.beq i 2 then (some 4) else bif Nat.beq i 3 then (some 5) else bif Nat.beq i 5 then (some 6) else bif Nat.beq i 7 then (some 7) else bif Nat.beq i 9 then (some 8) else bif Nat.beq i 11 then (some 9) else bif Nat.beq i 12 then (some 9) else none) mixed (by kernel_rfl) ?_;intro C K hK
  refine mX rfl (λH hH=>mK rfl rfl) ?_
  obtain ⟨x11,e11,h2⟩:=iZ h2
  refine mX rfl (λH hH=>TC rfl rfl rfl e11) ?_
  obtain ⟨p12,h2⟩:=jQ h2
  obtain ⟨x13,e13,h2⟩:=iZ h2
  have lx13:x13.length=(Int.toNat x11):=by rw [<- e13];exact List.length_replicate
  refine oU rfl rfl (λH hH=>qY (pO 4 (g:=aT.av) (z0:=((⟨[],(⟨0,0,0⟩:jE)⟩:aT):aT)) (.one _) rfl Tryz.underlying63 PT OG rfl rfl rfl p12 (.cons (.nil _) (.cons (.sc _) (.cons (.sc _) (.cons (.sc _) .nil)))) e13)) ?_;generalize C+2=v14
  obtain ⟨p15,h2⟩:=jQ h2
  obtain ⟨x16,e16,h2⟩:=iZ h2
  have lx16:x16.length=(Int.toNat 17):=by rw [<- e16];exact List.length_replicate
  refine oU rfl rfl (λH hH=>qY (pO 5 (g:=fI) (z0:=(0:Int)) (.one _) rfl Tryz.underlying22 iH lT rfl rfl rfl p15 (.cons (.sc _) .nil) e16)) ?_;generalize C+3=v17
  refine mX rfl (λH hH=>mK rfl rfl) ?_
  obtain ⟨p18,h2⟩:=jQ h2
  obtain ⟨x19,e19,h2⟩:=iZ h2
  have lx19:x19.length=(Int.toNat (a1.bN.length:Int)):=by rw [<- e19];exact List.length_replicate
  refine oU rfl rfl (λH hH=>qY (pO 6 (g:=dL.av) (z0:=((⟨0,0,0,0,0,0,0,0,0,0,0⟩:dL):dL)) (.one _) rfl Tryz.underlying64 NC JD rfl rfl rfl p18 (.cons (.sc _) (.cons (.sc _) (.cons (.sc _) (.cons (.sc _) (.cons (.sc _) (.cons (.sc _) (.cons (.sc _) (.cons (.sc _) (.cons (.sc _) (.cons (.sc _) (.cons (.sc _) .nil))))))))))) e19)) ?_;generalize C+5=v20
  refine mX rfl (λH hH=>mK rfl rfl) ?_
  obtain ⟨p21,h2⟩:=jQ h2
  obtain ⟨x22,e22,h2⟩:=iZ h2
  have lx22:x22.length=(Int.toNat (a1.bN.length:Int)):=by rw [<- e22];exact List.length_replicate
  refine oU rfl rfl (λH hH=>qY (pO 7 (g:=fI) (z0:=(0:Int)) (.one _) rfl Tryz.underlying22 iH lT rfl rfl rfl p21 (.cons (.sc _) .nil) e22)) ?_;generalize C+7=v23
  refine mX rfl (λH hH=>mK rfl rfl) ?_
  obtain ⟨p24,h2⟩:=jQ h2
  obtain ⟨x25,e25,h2⟩:=iZ h2
  have lx25:x25.length=(Int.toNat (a1.bN.length:Int)):=by rw [<- e25];exact List.length_replicate
  refine oU rfl rfl (λH hH=>qY (pO 8 (g:=fI) (z0:=(0:Int)) (.one _) rfl Tryz.underlying22 iH lT rfl rfl rfl p24 (.cons (.sc _) .nil) e25)) ?_;generalize C+9=v26
  refine mX rfl (λH hH=>tF (cs:=[int 1,aI false,.sl 4 v14 0 (Int.toNat x11),.sl 5 v17 0 (Int.toNat 17),.sl 6 v20 0 (Int.toNat (a1.bN.length:Int)),.sl 7 v23 0 (Int.toNat (a1.bN.length:Int)),.sl 8 v26 0 (Int.toNat (a1.bN.length:Int)),.sc (.slice none 0 0)]) (ps:=[(0,_),(2,_),(3,_),(4,_),(5,_),(6,_)]) rfl Y9 z66 rfl (.cons rfl (.cons rfl (.cons rfl (.cons rfl (.cons rfl (.cons rfl .nil)))))) (by kernel_rfl)) ?_
  refine oU rfl rfl (λH hH=>V3 9 rfl z66 rfl) ?_;generalize C+11=v27
  refine aEU rfl rfl rfl (λH hH=>fH (ob':=(⟨66,8,true,true,v27,[[int 1,aI false,.sl 4 v14 0 (Int.toNat x11),.sl 5 v17 0 (Int.toNat 17),.sl 6 v20 0 (Int.toNat (a1.bN.length:Int)),.sl 7 v23 0 (Int.toNat (a1.bN.length:Int)),.sl 8 v26 0 (Int.toNat (a1.bN.length:Int)),.sc (.slice none 0 0)]]⟩:bH)) (fC rfl o8 rfl rfl ((hH _ rfl).trans rfl) rfl rfl rfl rfl rfl rfl) rfl) ?_
  refine JM (hK _ ?_)
  refine tc aG 5 (.mk ?_)
  refine jn h2 [1,2,3,4,5,6,7] [1,2,3,4,5,6,8,11] (λ(a:(List Int)) (k:Unit)=>[]) (λa k=>[(7,⟨3,1,true,true,v23,a.map fI⟩),(9,⟨66,8,true,true,v27,[[int 1,aI false,.sl 4 v14 0 (Int.toNat x11),.sl 5 v17 0 (Int.toNat 17),.sl 6 v20 0 (Int.toNat (a1.bN.length:Int)),.sl 7 v23 0 a.length,.sl 8 v26 0 (Int.toNat (a1.bN.length:Int)),.sc (.slice none 0 0)]]⟩)]) ⟨λj28 h3=>?_,?_⟩
  refine tc aG 1 (.mk ?_)
  refine lp (λn (a:Int×(List Int))=>GR a1 n a.1 a.2) ((0:Int),(x22:List Int)) () h3 [1,2,3,4,5,6,7] [1,2,3,4,5,6,8,11] (λ(a:Int×(List Int)) (k:Unit)=>[(8,int a.1)]) (λa k=>[(7,⟨3,1,true,true,v23,a.2.map fI⟩),(9,⟨66,8,true,true,v27,[[int 1,aI false,.sl 4 v14 0 (Int.toNat x11),.sl 5 v17 0 (Int.toNat 17),.sl 6 v20 0 (Int.toNat (a1.bN.length:Int)),.sl 7 v23 0 a.2.length,.sl 8 v26 0 (Int.toNat (a1.bN.length:Int)),.sc (.slice none 0 0)]]⟩)]) (λ_=>rfl) ⟨jX ⟨⟨_,rfl,(.refl _)⟩,⟨_,rfl,(.refl _)⟩,⟨_,rfl,(.refl _)⟩,⟨_,rfl,(.refl _)⟩,⟨_,rfl,(.refl _)⟩,⟨_,rfl,(.refl _)⟩,⟨_,rfl,(.refl _)⟩,⟨_,rfl,(.refl _)⟩,trivial⟩ ⟨⟨_,rfl,(.refl _)⟩,⟨_,rfl,⟨rfl,(.cons (.cons (.refl _) (.cons (.refl _) (.cons (.refl _) (.cons (.refl _) (.cons (.refl _) (.cons (kJ (Eq.symm lx22)) (.cons (.refl _) (.cons (.refl _) .nil)))))))) .nil)⟩⟩,⟨_,rfl,(.refl _)⟩,⟨_,rfl,(.refl _)⟩,⟨_,rfl,(.refl _)⟩,⟨_,rfl,(.refl _)⟩,⟨_,rfl,(.refl _)⟩,⟨_,rfl,(.refl _)⟩,⟨_,rfl,(.refl _)⟩,⟨_,rfl,(.refl _)⟩,trivial⟩,?_⟩
  rintro n ⟨y1_1,y1_2⟩ _ hm h3
  replace h3:GR a1 (n+1) y1_1 y1_2=some _:=h3
  rw [GR] at h3
  refine tc aG 5 (.mk ?_)
  refine nb aG h3 λx29 h3=>?_
  refine tr aG 1 (.mk ?_)
  cases x29
  replace h3:=cf h3
  refine tc aG 2 (.mk ?_)
  exact lf h3 () dY
  replace h3:=ct h3
  refine tc aG 8 (.mk ?_)
  obtain ⟨x30,e30,h3⟩:=dJ h3
  refine sY (eY rfl Tryz.underlying22 dP rfl rfl rfl rfl rfl (Eq.symm rfl) (List.length_map _) e30) ?_
  obtain ⟨x31,e31,h3⟩:=iZ h3
  have fx31:=iE e30 e31;have lx31:=iD e31 (rfl:y1_2.length=y1_2.length)
  refine y5 rfl rfl (fH (ob':=(⟨3,1,true,true,v23,x31.map fI⟩:bH)) (fC rfl dP rfl rfl rfl rfl rfl (dN e30) rfl rfl rfl) (iC (jB e31))) ?_
  refine tr aG 4 (.mk ?_)
  refine ni aG h3 λx32 h3=>?_
  refine tr aG 2 (.mk ?_)
  exact bk (x32,x31) () h3 (jX ⟨⟨_,rfl,(.refl _)⟩,⟨_,rfl,(.refl _)⟩,⟨_,rfl,(.refl _)⟩,⟨_,rfl,(.refl _)⟩,⟨_,rfl,(.refl _)⟩,⟨_,rfl,(.refl _)⟩,⟨_,rfl,(.refl _)⟩,⟨_,rfl,(.refl _)⟩,trivial⟩ ⟨⟨_,rfl,(.refl _)⟩,⟨_,rfl,⟨rfl,(.cons (.cons (.refl _) (.cons (.refl _) (.cons (.refl _) (.cons (.refl _) (.cons (.refl _) (.cons (kJ (Eq.symm lx31)) (.cons (.refl _) (.cons (.refl _) .nil)))))))) .nil)⟩⟩,⟨_,rfl,(.refl _)⟩,⟨_,rfl,(.refl _)⟩,⟨_,rfl,(.refl _)⟩,⟨_,rfl,(.refl _)⟩,⟨_,rfl,(.refl _)⟩,⟨_,rfl,(.refl _)⟩,⟨_,rfl,(.refl _)⟩,⟨_,rfl,(.refl _)⟩,trivial⟩)
  rintro y2_1 _ h2
  refine tc aG 4 (.mk ?_)
  refine sY (gM (ps:=[(0,_)]) (rows:=[[int 1,aI false,.sl 4 v14 0 (Int.toNat x11),.sl 5 v17 0 (Int.toNat 17),.sl 6 v20 0 (Int.toNat (a1.bN.length:Int)),.sl 7 v23 0 y2_1.length,.sl 8 v26 0 (Int.toNat (a1.bN.length:Int)),.sc (.slice none 0 0)]]) rfl Tryz.underlying28 BU (.cons rfl .nil) (by kernel_rfl) rfl rfl rfl) ?_
  obtain ⟨x33,e33,h2⟩:=iZ h2
  obtain ⟨p34,h2⟩:=jQ h2
  refine iP rfl rfl rfl (bY.jK 4 rfl (bY.jK 5 rfl (bY.jK 6 rfl (bY.jK 7 rfl (bY.jK 8 rfl (kQ (g:=aP.av) (l:=y0_3) (m:=[(⟨1,false,x13,x16,x19,y2_1,x25,[]⟩:aP)]) .any rfl Tryz.underlying28 BU O5 rfl rfl rfl rfl rfl rfl rfl rfl rfl rfl (Eq.symm rfl) (iT.list (ys:=[aP.av (⟨1,false,x13,x16,x19,y2_1,x25,[]⟩:aP)]) (.cons (pZ (.cons (.refl _) (.cons (.refl _) (.cons (dZ rfl rfl rfl rfl rfl (Eq.symm lx13)) (.cons (dZ rfl rfl rfl rfl rfl (Eq.symm lx16)) (.cons (dZ rfl rfl rfl rfl rfl (Eq.symm lx19)) (.cons (dZ rfl rfl rfl rfl rfl (Eq.symm rfl)) (.cons (dZ rfl rfl rfl rfl rfl (Eq.symm lx25)) (.cons (.nil _) .nil)))))))) (aP.dA _)) .nil)) aP.one e33 p34)))))) ?_;rintro _ _ ⟨v35,-,rfl,rfl⟩
  refine tr aG 1 (.mk ?_)
  refine sS ⟨33,10,true,true,v6,[[int a1.fO,int a1.iB,aH 1 fI a1.bN,aH 1 (fL 1 fI) a1.Methods,aH 1 (fL 1 fI) a1.fM,.sl 11 v35 0 x33.length,.sc (.slice none 0 0),.sc (.slice none 0 0),.sc (.slice none 0 0),int 0]]⟩ EV ?_
  refine tr aG 2 (.mk ?_)
  exact lf h2 v35 dY
  rintro y3_2 w3_1 h1
  refine tc aG 2 (.mk ?_)
  refine ni aG h1 λx36 h1=>?_
  refine tr aG 2 (.mk ?_)
  exact bk (x36,y3_2) w3_1 h1 dY
  rintro y4_2 w4_1 h0
  refine tc aG 3 (.mk ?_)
  refine sS ⟨33,10,true,true,v3,[[int a1.fO,int a1.iB,aH 1 fI a1.bN,aH 1 (fL 1 fI) a1.Methods,aH 1 (fL 1 fI) a1.fM,.sl 11 w4_1 0 y4_2.length,.sc (.slice none 0 0),.sc (.slice none 0 0),.sc (.slice none 0 0),int 0]]⟩ oP ?_
  refine tr aG 2 (.mk ?_)
  obtain rfl:=eU h0
  refine wR hret (rC oP (rT .nil)) ?_
  exact bT.bD (.cons (bT.agg (.cons (.refl _) (.cons (.refl _) (.cons (.refl _) (.cons (.refl _) (.cons (.refl _) (.cons (dZ rfl rfl rfl rfl rfl (Eq.symm rfl)) (.cons (.nil _) (.cons (.nil _) (.cons (.nil _) (.cons (.refl _) .nil))))))))))) (.cons (.refl _) .nil))
  replace h0:=ct h0
  refine tc aG 3 (.mk ?_)
  refine sY (tF (cs:=[int 0,int 0,.sc (.slice none 0 0),.sc (.slice none 0 0),.sc (.slice none 0 0),.sc (.slice none 0 0),.sc (.slice none 0 0),.sc (.slice none 0 0),.sc (.slice none 0 0),int 0]) (ps:=[]) rfl L5 z33 rfl .nil (by kernel_rfl)) ?_
  refine sS ⟨33,10,true,true,v3,[[int 0,int 0,.sc (.slice none 0 0),.sc (.slice none 0 0),.sc (.slice none 0 0),.sc (.slice none 0 0),.sc (.slice none 0 0),.sc (.slice none 0 0),.sc (.slice none 0 0),int 0]]⟩ oP ?_
  refine tr aG 2 (.mk ?_)
  obtain rfl:=eU h0
  refine wR hret (rC oP (rT .nil)) ?_
  exact bT.bD (.cons (bT.agg (.cons (.refl _) (.cons (.refl _) (.cons (.nil _) (.cons (.nil _) (.cons (.nil _) (.cons (.nil _) (.cons (.nil _) (.cons (.nil _) (.cons (.nil _) (.cons (.refl _) .nil))))))))))) (.cons (.refl _) .nil))
def aXM (n:Nat) (a1:gD):WB (aA) :=
 .al 1<|.al 2<|.cl 7 (P6 n a1) aQR (λ_=>aOV) λx4=>.al 3<|.ret ((x4.1:aA))
def EP (n:Nat) (a1:gD):Option (aA):=(aXM n a1).run
theorem aT8 {n a1}:PZ (EP n a1) 6 [.agg (gD.av a1)] (λr=>.agg (aA.av r)):=wq Tryz.func6
def WK :WB (sK) :=
 .al 1<|.gv 1<|.ret (((⟨([]:List UInt8),([69,73,76,81,65]:List UInt8),([81,65,82]:List UInt8),([81,82]:List UInt8),([69,73,76,81,65]:List UInt8),([81,65,82]:List UInt8),([69,73,76,81]:List UInt8),([69,73,76,81]:List UInt8),([69,73,76,84,81]:List UInt8),([69,73,65]:List UInt8),([69,73,65]:List UInt8),([84,65,83]:List UInt8),([69,73,76,84,81,65]:List UInt8),([76,81,82]:List UInt8),([69]:List UInt8),([69]:List UInt8),([69]:List UInt8)⟩:sK):sK))
def J7 :Option (sK):=(WK ).run
theorem aI7:PZ (J7 ) 40 [] (λr=>.agg (sK.av r)):=by
 refine wm Tryz.func40 ?_
 intro v1
 refine .mk _ (bK (wF (cs:=[str ([]:List UInt8),str ([69,73,76,81,65]:List UInt8),str ([81,65,82]:List UInt8),str ([81,82]:List UInt8),str ([69,73,76,81,65]:List UInt8),str ([81,65,82]:List UInt8),str ([69,73,76,81]:List UInt8),str ([69,73,76,81]:List UInt8),str ([69,73,76,84,81]:List UInt8),str ([69,73,65]:List UInt8),str ([69,73,65]:List UInt8),str ([84,65,83]:List UInt8),str ([69,73,76,84,81,65]:List UInt8),str ([76,81,82]:List UInt8),str ([69]:List UInt8),str ([69]:List UInt8),str ([69]:List UInt8)]) (ps:=[(1,_),(2,_),(3,_),(4,_),(5,_),(6,_),(7,_),(8,_),(9,_),(10,_),(11,_),(12,_),(13,_),(14,_),(15,_),(16,_)]) rfl Tryz.underlying106 aA7 YF rfl (.cons rfl (.cons rfl (.cons rfl (.cons rfl (.cons rfl (.cons rfl (.cons rfl (.cons rfl (.cons rfl (.cons rfl (.cons rfl (.cons rfl (.cons rfl (.cons rfl (.cons rfl (.cons rfl .nil)))))))))))))))) (by kernel_rfl))) ?_
 exact .mk
def XX (a1:List UInt8) (a2:Int):WB (Int) :=
 .bl (FX a1 a2:Int) λx3=>.gv 7<|.ret ((x3:Int))
def WA (a1:List UInt8) (a2:Int):Option (Int):=(XX a1 a2).run
theorem aJN {a1 a2}:PZ (WA a1 a2) 173 [str a1,.sc (.int .u8 a2)] int:=by
 refine wm Tryz.func173 ?_
 refine .mk λx3 e3=>?_
 refine .mk _ (bK (dK (y:=int x3) (aJ9 rfl Tryz.func207 rfl rfl ibx iby rfl rfl) (congrArg int e3))) ?_
 exact .mk
def Z9 (a1:List UInt8) (a2:Int):WB (Int) :=
 .cl 7 (WA a1 a2) aP9 aJN λx3=>.ret ((x3:Int))
def sM (a1:List UInt8) (a2:Int):Option (Int):=(Z9 a1 a2).run
theorem y8 {a1 a2}:PZ (sM a1 a2) 123 [str a1,.sc (.int .u8 a2)] int:=by
 refine wm Tryz.func123 ?_
 refine .mk λx3 e3=>?_
 exact .mk
def qX (a1:Int) (a2:Int):Option (Int×Int) :=
bnd (decide (a2=69)) λx3 =>
cond x3 (some ((0:Int),(3:Int))) (bnd (decide (a2=73)) λx4 =>
cond x4 (some ((0:Int),(4:Int))) (bnd (decide (a2=76)) λx5 =>
cond x5 (some ((0:Int),(1:Int))) (bnd (decide (a2=84)) λx6 =>
cond x6 (some ((0:Int),((uS [(8,1),(12,3),(11,2)] a1):Int))) (bnd (decide (a2=81)) λx7 =>
cond x7 (bnd (decide (a1=7)) λx12 =>
cond x12 (some ((0:Int),(1073741824:Int))) (some ((1:Int),(1073741824:Int)))) (bnd (decide (a2=65)) λx8 =>
cond x8 ((show Option (Bool) from
bnd (decide (a1=9)) λx10 =>
cond x10 (some (true:Bool)) (bnd (decide (a1=10)) λx11 =>
some (x11:Bool))).bind <| λy0_1 =>
cond y0_1 (some ((0:Int),(1073741824:Int))) (some ((0:Int),(1125899906842624:Int)))) (some ((0:Int),(39:Int))))))))
theorem AQ {a1:Int} {a2:Int} {r:Int×Int} (h0:qX a1 a2=some r):PP Tryz.prog 42 [int a1,.sc (.int .i32 a2)] (λy=>y=.bD [int r.1,int r.2]):=by
  unfold qX at h0
  refine rF (R0:=λy H=>Cv (l6 H) y (.bD [int r.1,int r.2])) ?_ (λy H hc=>⟨_,rfl,.bD (N6 (vO (r.1)) (vO (r.2))),hc⟩)
  refine iI (c:=_) Tryz.func42 rfl rfl ?_;intro Q hret hnorm
  refine tc aG 13 (.mk ?_)
  refine nb aG h0 λx3 h0=>?_
  refine tr aG 2 (.mk ?_)
  cases x3
  replace h0:=cf h0
  refine tc aG 3 (.mk ?_)
  refine nb aG h0 λx4 h0=>?_
  refine tr aG 2 (.mk ?_)
  cases x4
  replace h0:=cf h0
  refine tc aG 3 (.mk ?_)
  refine nb aG h0 λx5 h0=>?_
  refine tr aG 2 (.mk ?_)
  cases x5
  replace h0:=cf h0
  refine tc aG 3 (.mk ?_)
  refine nb aG h0 λx6 h0=>?_
  refine tr aG 2 (.mk ?_)
  cases x6
  replace h0:=cf h0
  refine tc aG 3 (.mk ?_)
  refine nb aG h0 λx7 h0=>?_
  refine tr aG 2 (.mk ?_)
  cases x7
  replace h0:=cf h0
  refine tc aG 3 (.mk ?_)
  refine nb aG h0 λx8 h0=>?_
  refine tr aG 2 (.mk ?_)
  cases x8
  replace h0:=cf h0
  refine tc aG 8 (.mk ?_)
  obtain rfl:=eU h0
  refine wR hret (rT (rT .nil)) ?_
  exact .refl _
  replace h0:=ct h0
  refine tc aG 3 (.mk ?_)
  refine jn h0 [4,5] [] (λ(a:Bool) (k:Unit)=>[(30,aI a)]) (λa k=>[]) ⟨λj9 h1=>?_,?_⟩
  refine tc aG 2 (.mk ?_)
  refine nb aG h1 λx10 h1=>?_
  refine tr aG 1 (.mk ?_)
  cases x10
  replace h1:=cf h1
  refine tr aG 1 (.mk ?_)
  refine nb aG h1 λx11 h1=>?_
  refine tr aG 2 (.mk ?_)
  exact lf h1 () dY
  replace h1:=ct h1
  refine tr aG 4 (.mk ?_)
  exact lf h1 () dY
  rintro y0_1 _ h0
  cases y0_1
  replace h0:=cf h0
  refine tc aG 7 (.mk ?_)
  obtain rfl:=eU h0
  refine wR hret (rT (rT .nil)) ?_
  exact .refl _
  replace h0:=ct h0
  refine tc aG 6 (.mk ?_)
  obtain rfl:=eU h0
  refine wR hret (rT (rT .nil)) ?_
  exact .refl _
  replace h0:=ct h0
  refine tc aG 5 (.mk ?_)
  refine nb aG h0 λx12 h0=>?_
  refine tr aG 1 (.mk ?_)
  cases x12
  replace h0:=cf h0
  refine tc aG 7 (.mk ?_)
  obtain rfl:=eU h0
  refine wR hret (rT (rT .nil)) ?_
  exact .refl _
  replace h0:=ct h0
  refine tc aG 6 (.mk ?_)
  obtain rfl:=eU h0
  refine wR hret (rT (rT .nil)) ?_
  exact .refl _
  replace h0:=ct h0
  refine tc aG 2 (.mk ?_)
  refine aNF [some (15,none),none,none,none,some (16,none),some (17,some (int a1)),some (18,some (int (uS [(8,1),(12,3),(11,2)] a1))),some (4,some (int 0)),some (5,some (int (uS [(8,1),(12,3),(11,2)] a1)))] [(1,8,1),(2,12,3),(3,11,2)] 0 15 [.mk,.ins 8 1,.ins 12 3,.ins 11 2,.pu,.pu,.lk a1,.pu,.pu] mixed Tryz.underlying166 Tryz.underlying3 zi3 (by kernel_rfl) rfl ⟨⟨rfl,rfl,rfl,rfl⟩,⟨rfl,rfl,rfl,.head _⟩,⟨rfl,rfl,rfl,.tail _ (.head _)⟩,⟨rfl,rfl,rfl,.tail _ (.tail _ (.head _))⟩,⟨_,_,rfl,rfl,λ_=>mK rfl rfl⟩,⟨_,_,rfl,rfl,λ_=>mK rfl rfl⟩,⟨16,_,18,rfl,rfl,rfl,λ_=>rfl,λ_=>rfl⟩,⟨_,_,rfl,rfl,λ_=>uK rfl rfl⟩,⟨_,_,rfl,rfl,λ_=>uK rfl rfl⟩,trivial⟩ λ_=>?_
  obtain rfl:=eU h0
  refine wR hret (rT (rT .nil)) ?_
  exact .refl _
  replace h0:=ct h0
  refine tc aG 6 (.mk ?_)
  obtain rfl:=eU h0
  refine wR hret (rT (rT .nil)) ?_
  exact .refl _
  replace h0:=ct h0
  refine tc aG 6 (.mk ?_)
  obtain rfl:=eU h0
  refine wR hret (rT (rT .nil)) ?_
  exact .refl _
  replace h0:=ct h0
  refine tc aG 6 (.mk ?_)
  obtain rfl:=eU h0
  refine wR hret (rT (rT .nil)) ?_
  exact .refl _
def ZZ (n:Nat) (a1:List Int):WB (Bool) :=
 .gv 6<|.al 1<|.ln 8 fI a1<|.dU 0 [0,2] [] [] (λ_ (a:Unit)=>[]) (λ_ _=>[]) (.lp [0,2,3,7,8] [] [] (λ_ (a:Int×(List Bool))=>[(9,int a.1)]) (λ_ a=>[.kp 1 [a.2.map aI]]) n ((0:Int),((List.replicate 40 false):List Bool)) (pw λy0_1 y0_2=>.bB 10 (decide (y0_1<(a1.length:Int))) λx3=>.ifs [10] x3 (.ix 11 fI a1 y0_1 λx4=>.jn 0 [0,2,3,5,7,8,9] [1] [] (λ_ (a:Bool)=>[(23,aI a)]) (λ_ _=>[]) (.bB 14 (decide (x4<0)) λx5=>.ifs [14] x5 (.ret true) (.bB 17 (decide (x4>=40)) λx6=>.ifs [17] x6 (.ret true) (.as ((0:Int)<=x4/\x4<40) inferInstance<|.bo (ix y0_2 x4) λx8=>.gv 21<|.gv 22<|.ret x8))) (λy1_1=>.ifs [23] y1_1 (.esc (.esc (.ret ((false:Bool))))) (.as ((0:Int)<=x4/\x4<40) inferInstance<|.bo (ix y0_2 x4) λx10=>.gv 25<|.bl (y0_2.set (Int.toNat x4) true:List Bool) λx11=>.ge 1007002 0<|.bI 26 (bA (y0_1+1)) λx12=>.brk ((x12:Int),x11)))) (.esc (.brk ())))) (λ_=>.ln 28 fI a1<|.bB 29 (decide ((a1.length:Int)>0)) λx13=>.ret ((x13:Bool)))
def I6 (n:Nat) (a1:List Int):Option (Bool):=(ZZ n a1).run
theorem aPG {n a1}:PZ (I6 n a1) 44 [aH 1 fI a1] aI:=by
 refine wm Tryz.func44 ?_
 refine .mk _ (bK (wF (cs:=[aI false,aI false,aI false,aI false,aI false,aI false,aI false,aI false,aI false,aI false,aI false,aI false,aI false,aI false,aI false,aI false,aI false,aI false,aI false,aI false,aI false,aI false,aI false,aI false,aI false,aI false,aI false,aI false,aI false,aI false,aI false,aI false,aI false,aI false,aI false,aI false,aI false,aI false,aI false,aI false]) (ps:=[]) rfl Tryz.underlying167 zI z167 rfl .nil (by kernel_rfl))) ?_
 intro v2
 refine .mk ?_
 refine .mk ?_ ?_
 refine .mk ?_
 intro _ _
 refine .mk λx3=>?_
 refine .mk ?_ ?_
 refine .mk λx4 e4=>?_
 refine .mk ?_ ?_
 refine .mk λx5=>?_
 refine .mk .mk ?_
 refine .mk λx6=>?_
 refine .mk .mk ?_
 refine .mk λp7=>?_
 refine .mk λx8 e8=>?_
 refine .mk _ (bK (VV rfl Tryz.underlying167 zI rfl rfl rfl rfl rfl p7)) ?_
 refine .mk _ (bK (aUJ (g:=aI) rfl zI rfl rfl rfl rfl e8)) ?_
 exact .mk
 intro _ _
 refine .mk .mk ?_
 refine .mk λp9=>?_
 refine .mk λx10 e10=>?_
 refine .mk _ (bK (VV rfl Tryz.underlying167 zI rfl rfl rfl rfl rfl p9)) ?_
 refine .mk λx11 e11=>?_
 refine .mk _ ⟨λ_=>bY.eX (fH (ob':=(⟨167,40,true,true,_,[x11.map aI]⟩:bH)) (aI0 rfl zI rfl rfl rfl rfl rfl rfl e10 e11) rfl) (λ_ h=>h) (λ_ _=>trivial),λ_ _ _=>trivial⟩ ?_
 rintro _ _ ⟨rfl,rfl⟩
 refine .mk λx12=>?_
 exact .mk
 exact .mk
 intro _ _
 refine .mk ?_
 refine .mk λx13=>?_
 exact .mk
end
end Go.Pv
