import Derived.Test.YtfamehgkphejnaaGreatXTl
set_option linter.unusedVariables false
set_option linter.unusedSimpArgs false
namespace Go.Pv
open Go.Proofs
set_option maxRecDepth 100000
set_option maxHeartbeats 4000000
noncomputable section
def bDF (n:Nat) (a1:List (List Int)):WB ((List (List Int))) :=
 .ln 7 (fL 1 fI) a1<|.jn 0 [2] [] [3] (λu2 (a:(List (List Int)))=>[(3,.sl 3 (u2 3) 0 a.length)]) (λ_ a=>[.nw 3 22 1 (a.map (fL 1 fI))]) (.no 3 3 22 1<|.lp [2,6,7] [] [3] (λu3 (a:Int×(List (List Int)))=>[(3,.sl 3 (u3 3) 0 a.2.length),(8,int a.1)]) (λ_ a=>[.nw 3 22 1 (a.2.map (fL 1 fI))]) n ((0:Int),(([]:List (List Int)):List (List Int))) (pw λy0_2 y0_3=>.bB 9 (decide (y0_2<(a1.length:Int))) λx3=>.ifs [9] x3 (.ix 10 (fL 1 fI) a1 y0_2 λx4=>.as (x4.length<=68719476736) inferInstance<|.ge 14 1<|.gv 15<|.bl (y0_3++[x4]:List (List Int)) λx7=>.as (x7.length<=68719476736) inferInstance<|.ge 16 0<|.bI 17 (aI (y0_2+1)) λx10=>.brk ((x10:Int),(x7:List (List Int)))) (.esc (.ret (y0_3:List (List Int)))))) (λy1_2=>.ret ((y1_2:List (List Int))))
def a7M (n:Nat) (a1:List (List Int)):Option ((List (List Int))):=(bDF n a1).run
theorem a9E {n a1}:PZ (a7M n a1) 67 [aD 1 (fL 1 fI) a1] (λr=>aD 1 (fL 1 fI) r):=by
 refine wm Tryz.func67 ?_
 refine .mk ?_
 refine .mk ?_ ?_
 intro v2
 refine .mk ?_
 rintro ⟨y0_2,y0_3⟩ _
 refine .mk λx3=>?_
 refine .mk ?_ ?_
 refine .mk λx4 e4=>?_
 refine .mk λp5=>?_
 refine .mk _ ⟨λ_=>d9 rfl rfl (.cons rfl .nil) aKJ (iK (a4O.pc (id:=1) (l:=x4) rfl p5) (.cons (.refl _) .nil)),λ_ _ _=>trivial⟩ ?_
 rintro _ _ ⟨v6,rfl,rfl⟩
 refine .mk _ (bE (dQ (ps:=[(0,_)]) (rows:=[[.sl 1 v6 0 x4.length]]) rfl Tryz.underlying23 rM (.cons rfl .nil) (by kernel_rfl) rfl rfl rfl)) ?_
 refine .mk λx7 e7=>?_
 refine .mk λp8=>?_
 refine .mk _ ⟨λ_=>bQ.fO 1 rfl (jU (g:=(fL 1 fI)) (l:=y0_3) (m:=[x4]) .any rfl Tryz.underlying23 rM HV rfl rfl rfl rfl rfl rfl rfl rfl rfl rfl (Eq.symm rfl) (fD.list (.cons (.cons (dH rfl rfl rfl rfl rfl (Eq.symm rfl)) .nil) .nil)) (λ_=>rfl) e7 p8),λ_ _ _=>trivial⟩ ?_
 rintro _ _ ⟨v9,-,rfl,rfl⟩
 refine .mk λx10=>?_
 exact .mk
 exact .mk
 intro _ _
 exact .mk (dH rfl rfl rfl rfl rfl (Eq.symm rfl))
def a4X (a1:eZ):Nat->Int->(List Int)->Option ((List Int))
  | 0,_,_=>none
  | n+1,y1_1,y1_2 =>
    bnd (decide (y1_1<((Int.toNat (a1.cB.length:Int)):Int))) λx33 =>
    cond x33 ((ix y1_2 y1_1).bind λx34 =>
    bnd (y1_2.set (Int.toNat y1_1) ((-1):Int)) λx35 =>
    bnd (aI (y1_1+1)) λx36 =>
    a4X a1 n (x36:Int) (x35:List Int)) (some (y1_2:List Int))
def a4T (a1:eZ):Nat->Int->(List aP)->Option ((List aP))
  | 0,_,_=>none
  | n+1,y0_1,y0_3 =>
    bnd (decide (y0_1<a1.eH)) λx13 =>
    cond x13 ((show Option ((List aP)) from
    bnd (aI ((a1.cB.length:Int)*2)) λx15 =>
    fG ((0:Int)<=x15/\(x15:Int)<=1048576)<|
    bnd (List.replicate (Int.toNat x15) ((⟨[],(⟨0,0,0⟩:gJ)⟩:aM):aM)) λx17 =>
    fG ((0:Int)<=17/\(17:Int)<=1048576)<|
    bnd (List.replicate (Int.toNat 17) (0:Int)) λx20 =>
    fG ((0:Int)<=(a1.cB.length:Int)/\((a1.cB.length:Int):Int)<=1048576)<|
    bnd (List.replicate (Int.toNat (a1.cB.length:Int)) ((⟨0,0,0,0,0,0,0,0,0,0,0⟩:bM):bM)) λx23 =>
    fG ((0:Int)<=(a1.cB.length:Int)/\((a1.cB.length:Int):Int)<=1048576)<|
    bnd (List.replicate (Int.toNat (a1.cB.length:Int)) (0:Int)) λx26 =>
    fG ((0:Int)<=(a1.cB.length:Int)/\((a1.cB.length:Int):Int)<=1048576)<|
    bnd (List.replicate (Int.toNat (a1.cB.length:Int)) (0:Int)) λx29 =>
    (show Option ((List Int)) from
    a4X a1 n (0:Int) (x26:List Int)).bind <| λy2_1 =>
    bnd (y0_3++[(⟨1,false,x17,x20,x23,y2_1,x29,[]⟩:aP)]) λx37 =>
    fG (x37.length<=68719476736)<|
    some (x37:List aP)).bind <| λy3_2 =>
    bnd (aI (y0_1+1)) λx40 =>
    a4T a1 n (x40:Int) (y3_2:List aP)) (some (y0_3:List aP))
def a6Q (n:Nat) (a1:eZ):Option (aA×Int) :=
(a7R n a1).bind λx4 =>
bnd (!x4) λx5 =>
cond x5 (some (((⟨(⟨0,0,[],[],[]⟩:eZ),[],[],[],[],0⟩:aA):aA),(1:Int))) (fG (a1.cB.length<=68719476736)<|
(a7M n a1.Methods).bind λx8 =>
(a7M n a1.dN).bind λx9 =>
(show Option ((List aP)) from
a4T a1 n (0:Int) (([]:List aP):List aP)).bind <| λy4_2 =>
some (((⟨(⟨a1.eH,a1.aQA,a1.cB,x8,x9⟩:eZ),y4_2,[],[],[],0⟩:aA):aA),(0:Int)))
theorem bBZ {n:Nat} {a1:eZ} {r:aA×Int} (h0:a6Q n a1=some r):PP Tryz.prog 37 [.agg (eZ.av a1)] (λy=>y=.aU [.agg (aA.av r.1),int r.2]):=by
  unfold a6Q at h0
  refine uD (R0:=λy H=>Cv (jZ H) y (.aU [.agg (aA.av r.1),int r.2])) ?_ (λy H hc=>⟨_,rfl,.aU (N6 ((λ(a:aA)=>PV.agg (aA.dA a)) (r.1)) (qX (r.2))),hc⟩)
  refine gN (c:=_) Tryz.func37 rfl rfl ?_;intro Q hret hnorm
  refine tc aN 2 (.mk ?_)
  refine sB 1 λv2=>?_
  refine sA 2 z33 λv3=>?_
  refine tr aN 6 (.mk ?_)
  obtain ⟨x4,e4,h0⟩:=dJ h0
  refine sC vX (a8S _ e4) ?_
  refine nb aN h0 λx5 h0=>?_
  refine tr aN 1 (.mk ?_)
  cases x5
  replace h0:=cf h0
  refine tc aN 3 (.mk ?_)
  refine K9 [0,1,3,0,8,31,0,64,255,223,1023,2047,4095,8191,16383] (rl [(0,[1]),(1,[1]),(3,[1]),(4,[1]),(6,[1]),(7,[1]),(9,[1]),(11,[1]),(13,[1])] []) (rl [(10,[]),(12,[]),(14,[])] [1]) (rl [(2,false),(10,false),(12,false),(14,false)] true) [0,1,3,4,6,7,2,5,8,9,10,11,12,13,14] mixed (by kernel_rfl) ?_;intro K hK
  refine eF a8W ?_
  refine eL kC ?_
  refine eF a9W ?_
  refine eL a5G ?_
  refine eF a8D ?_
  refine eL a5G ?_
  obtain ⟨p6,h0⟩:=aQH h0
  refine aYN rfl rfl rfl rfl (d9 rfl rfl (.cons rfl .nil) aKJ (iK (a4O.pc (id:=3) (l:=a1.cB) rfl p6) (.cons (.refl _) .nil))) (by rintro _ _ ⟨v7,rfl,rfl⟩;exact ⟨rfl,trivial⟩) ?_;rintro _ _ ⟨v7,rfl,rfl⟩
  obtain ⟨x8,e8,h0⟩:=dJ h0
  refine eP (λH hH=>xQ rfl rfl (.cons rfl .nil) B6 (bK.refl _) (a9E _ e8)) ?_
  obtain ⟨x9,e9,h0⟩:=dJ h0
  refine eP (λH hH=>xQ rfl rfl (.cons rfl .nil) B6 (bK.refl _) (a9E _ e9)) ?_
  refine eF a8W ?_
  refine aVV rfl rfl rfl rfl (bQ.dM (eO (ob':=(⟨25,5,true,true,v2,[[int a1.eH,int a1.aQA,.sl 3 v7 0 a1.cB.length,aD 1 (fL 1 fI) a1.Methods,aD 1 (fL 1 fI) a1.dN]]⟩:bC)) (dZ rfl kC rfl rfl rfl rfl rfl rfl rfl rfl rfl) rfl) (λ_ h=>h) (λ_ _=>trivial)) (by rintro _ _ ⟨rfl,rfl⟩;exact trivial) ?_;rintro _ _ ⟨rfl,rfl⟩
  refine eF a9W ?_
  refine aVV rfl rfl rfl rfl (bQ.dM (eO (ob':=(⟨25,5,true,true,v2,[[int a1.eH,int a1.aQA,.sl 3 v7 0 a1.cB.length,aD 1 (fL 1 fI) x8,aD 1 (fL 1 fI) a1.dN]]⟩:bC)) (dZ rfl a5G rfl rfl rfl rfl rfl rfl rfl rfl rfl) rfl) (λ_ h=>h) (λ_ _=>trivial)) (by rintro _ _ ⟨rfl,rfl⟩;exact trivial) ?_;rintro _ _ ⟨rfl,rfl⟩
  refine eF a8D ?_
  refine aVV rfl rfl rfl rfl (bQ.dM (eO (ob':=(⟨25,5,true,true,v2,[[int a1.eH,int a1.aQA,.sl 3 v7 0 a1.cB.length,aD 1 (fL 1 fI) x8,aD 1 (fL 1 fI) x9]]⟩:bC)) (dZ rfl a5G rfl rfl rfl rfl rfl rfl rfl rfl rfl) rfl) (λ_ h=>h) (λ_ _=>trivial)) (by rintro _ _ ⟨rfl,rfl⟩;exact trivial) ?_;rintro _ _ ⟨rfl,rfl⟩
  refine N8 (hK _ ?_)
  refine tc aN 3 (.mk ?_)
  refine sY (pY (cs:=[int a1.eH,int a1.aQA,.sl 3 v7 0 a1.cB.length,aD 1 (fL 1 fI) x8,aD 1 (fL 1 fI) x9,.sc (.slice none 0 0),.sc (.slice none 0 0),.sc (.slice none 0 0),.sc (.slice none 0 0),int 0]) (ps:=[(0,_)]) rfl a5K z33 rfl (.cons rfl .nil) (by kernel_rfl)) ?_
  refine sA 4 z33 λv10=>?_
  refine sS ⟨33,10,true,true,v10,[[int a1.eH,int a1.aQA,.sl 3 v7 0 a1.cB.length,aD 1 (fL 1 fI) x8,aD 1 (fL 1 fI) x9,.sc (.slice none 0 0),.sc (.slice none 0 0),.sc (.slice none 0 0),.sc (.slice none 0 0),int 0]]⟩ aVX ?_
  refine tr aN 5 (.mk ?_)
  refine sY (oU rfl Tryz.underlying22 rfl (.sl rfl rfl)) ?_
  refine tr aN 9 (.mk ?_)
  refine jn h0 [2,3,4] [2,3] (λ(a:(List aP)) (k:Nat)=>[]) (λa k=>[(4,⟨33,10,true,true,v10,[[int a1.eH,int a1.aQA,.sl 3 v7 0 a1.cB.length,aD 1 (fL 1 fI) x8,aD 1 (fL 1 fI) x9,.sl 12 k 0 a.length,.sc (.slice none 0 0),.sc (.slice none 0 0),.sc (.slice none 0 0),int 0]]⟩),(12,⟨45,8,true,true,k,a.map aP.av⟩)]) ⟨λj11 h1=>?_,?_⟩
  refine tc aN 1 (.mk ?_)
  refine VT 4 0 5 12 45 8 (rows:=λv12=>[[int a1.eH,int a1.aQA,.sl 3 v7 0 a1.cB.length,aD 1 (fL 1 fI) x8,aD 1 (fL 1 fI) x9,.sl 12 v12 0 0,.sc (.slice none 0 0),.sc (.slice none 0 0),.sc (.slice none 0 0),int 0]]) rfl rfl rfl rfl (λ_=>rfl) ?_;intro v12
  refine lp (λn (a:Int×(List aP))=>a4T a1 n a.1 a.2) ((0:Int),(([]:List aP):List aP)) v12 h1 [2,3,4,5,30] [2,3] (λ(a:Int×(List aP)) (k:Nat)=>[(31,int a.1)]) (λa k=>[(4,⟨33,10,true,true,v10,[[int a1.eH,int a1.aQA,.sl 3 v7 0 a1.cB.length,aD 1 (fL 1 fI) x8,aD 1 (fL 1 fI) x9,.sl 12 k 0 a.2.length,.sc (.slice none 0 0),.sc (.slice none 0 0),.sc (.slice none 0 0),int 0]]⟩),(12,⟨45,8,true,true,k,a.2.map aP.av⟩)]) (λ_=>rfl) ⟨leA,?_⟩
  rintro n ⟨y0_1,y0_3⟩ w0_2 hm h1
  replace h1:a4T a1 (n+1) y0_1 y0_3=some _:=h1
  rw [a4T] at h1
  refine tc aN 2 (.mk ?_)
  refine nb aN h1 λx13 h1=>?_
  refine tr aN 2 (.mk ?_)
  cases x13
  replace h1:=cf h1
  refine tc aN 2 (.mk ?_)
  exact lf h1 w0_2 leA
  replace h1:=ct h1
  refine tc aN 3 (.mk ?_)
  refine jn h1 [2,3,4,5,30,31] [2,3] (λ(a:(List aP)) (k:Nat)=>[]) (λa k=>[(4,⟨33,10,true,true,v10,[[int a1.eH,int a1.aQA,.sl 3 v7 0 a1.cB.length,aD 1 (fL 1 fI) x8,aD 1 (fL 1 fI) x9,.sl 12 k 0 a.length,.sc (.slice none 0 0),.sc (.slice none 0 0),.sc (.slice none 0 0),int 0]]⟩),(12,⟨45,8,true,true,k,a.map aP.av⟩)]) ⟨λj14 h2=>?_,?_⟩
  refine tc aN 2 (.mk ?_)
  refine OH [0,1,3,0,0,16,0,64,0,256,1023,0,4095] (λi k=>bif Nat.beq i 12 then (Nat.beq k 5 || Nat.beq k 6 || Nat.beq k 7 || Nat.beq k 8 || Nat.beq k 9 || Nat.beq k 10) else false) (λi=>bif Nat.beq i 2 then (some 5) else bif Nat.beq i 3 then (some 6) else bif Nat.beq i 5 then (some 7) else bif Nat.beq i 7 then (some 8) else bif Nat.beq i 9 then (some 9) else bif Nat.beq i 11 then (some 10) else bif Nat.beq i 12 then (some 10) else none) mixed (by kernel_rfl) ?_;intro C K hK
  refine pV rfl (λH hH=>kV rfl rfl) ?_
  obtain ⟨x15,e15,h2⟩:=pM h2
  refine pV rfl (λH hH=>aWY rfl rfl rfl e15) ?_
  obtain ⟨p16,h2⟩:=aQH h2
  obtain ⟨x17,e17,h2⟩:=pM h2
  have lx17:x17.length=(Int.toNat x15):=by rw [<- e17];exact List.length_replicate
  refine o7 rfl rfl (λH hH=>yP (uL 5 (g:=aM.av) (z0:=((⟨[],(⟨0,0,0⟩:gJ)⟩:aM):aM)) (.one _) rfl Tryz.underlying42 a6J a6E rfl rfl rfl p16 (.cons (.nil _) (.cons (.sc _) (.cons (.sc _) (.cons (.sc _) .nil)))) e17)) ?_;generalize C+2=v18
  obtain ⟨p19,h2⟩:=aQH h2
  obtain ⟨x20,e20,h2⟩:=pM h2
  have lx20:x20.length=(Int.toNat 17):=by rw [<- e20];exact List.length_replicate
  refine o7 rfl rfl (λH hH=>yP (uL 6 (g:=fI) (z0:=(0:Int)) (.one _) rfl Tryz.underlying22 fT kY rfl rfl rfl p19 (.cons (.sc _) .nil) e20)) ?_;generalize C+3=v21
  refine pV rfl (λH hH=>kV rfl rfl) ?_
  obtain ⟨p22,h2⟩:=aQH h2
  obtain ⟨x23,e23,h2⟩:=pM h2
  have lx23:x23.length=(Int.toNat (a1.cB.length:Int)):=by rw [<- e23];exact List.length_replicate
  refine o7 rfl rfl (λH hH=>yP (uL 7 (g:=bM.av) (z0:=((⟨0,0,0,0,0,0,0,0,0,0,0⟩:bM):bM)) (.one _) rfl Tryz.underlying43 a2K a5R rfl rfl rfl p22 (.cons (.sc _) (.cons (.sc _) (.cons (.sc _) (.cons (.sc _) (.cons (.sc _) (.cons (.sc _) (.cons (.sc _) (.cons (.sc _) (.cons (.sc _) (.cons (.sc _) (.cons (.sc _) .nil))))))))))) e23)) ?_;generalize C+5=v24
  refine pV rfl (λH hH=>kV rfl rfl) ?_
  obtain ⟨p25,h2⟩:=aQH h2
  obtain ⟨x26,e26,h2⟩:=pM h2
  have lx26:x26.length=(Int.toNat (a1.cB.length:Int)):=by rw [<- e26];exact List.length_replicate
  refine o7 rfl rfl (λH hH=>yP (uL 8 (g:=fI) (z0:=(0:Int)) (.one _) rfl Tryz.underlying22 fT kY rfl rfl rfl p25 (.cons (.sc _) .nil) e26)) ?_;generalize C+7=v27
  refine pV rfl (λH hH=>kV rfl rfl) ?_
  obtain ⟨p28,h2⟩:=aQH h2
  obtain ⟨x29,e29,h2⟩:=pM h2
  have lx29:x29.length=(Int.toNat (a1.cB.length:Int)):=by rw [<- e29];exact List.length_replicate
  refine o7 rfl rfl (λH hH=>yP (uL 9 (g:=fI) (z0:=(0:Int)) (.one _) rfl Tryz.underlying22 fT kY rfl rfl rfl p28 (.cons (.sc _) .nil) e29)) ?_;generalize C+9=v30
  refine pV rfl (λH hH=>pY (cs:=[int 1,aF false,.sl 5 v18 0 (Int.toNat x15),.sl 6 v21 0 (Int.toNat 17),.sl 7 v24 0 (Int.toNat (a1.cB.length:Int)),.sl 8 v27 0 (Int.toNat (a1.cB.length:Int)),.sl 9 v30 0 (Int.toNat (a1.cB.length:Int)),.sc (.slice none 0 0)]) (ps:=[(0,_),(2,_),(3,_),(4,_),(5,_),(6,_)]) rfl bAJ z45 rfl (.cons rfl (.cons rfl (.cons rfl (.cons rfl (.cons rfl (.cons rfl .nil)))))) (by kernel_rfl)) ?_
  refine o7 rfl rfl (λH hH=>VS 10 rfl z45 rfl) ?_;generalize C+11=v31
  refine aJS rfl rfl rfl (λH hH=>eO (ob':=(⟨45,8,true,true,v31,[[int 1,aF false,.sl 5 v18 0 (Int.toNat x15),.sl 6 v21 0 (Int.toNat 17),.sl 7 v24 0 (Int.toNat (a1.cB.length:Int)),.sl 8 v27 0 (Int.toNat (a1.cB.length:Int)),.sl 9 v30 0 (Int.toNat (a1.cB.length:Int)),.sc (.slice none 0 0)]]⟩:bC)) (dZ rfl aWN rfl rfl ((hH _ rfl).trans rfl) rfl rfl rfl rfl rfl rfl) rfl) ?_
  refine KV (hK _ ?_)
  refine tc aN 5 (.mk ?_)
  refine sY (oU rfl Tryz.underlying22 rfl (.sl rfl rfl)) ?_
  refine tr aN 2 (.mk ?_)
  refine jn h2 [2,3,4,5,6,30,31] [2,3,4,5,6,7,9,12] (λ(a:(List Int)) (k:Unit)=>[]) (λa k=>[(8,⟨3,1,true,true,v27,a.map fI⟩),(10,⟨45,8,true,true,v31,[[int 1,aF false,.sl 5 v18 0 (Int.toNat x15),.sl 6 v21 0 (Int.toNat 17),.sl 7 v24 0 (Int.toNat (a1.cB.length:Int)),.sl 8 v27 0 a.length,.sl 9 v30 0 (Int.toNat (a1.cB.length:Int)),.sc (.slice none 0 0)]]⟩)]) ⟨λj32 h3=>?_,?_⟩
  refine tc aN 1 (.mk ?_)
  refine lp (λn (a:Int×(List Int))=>a4X a1 n a.1 a.2) ((0:Int),(x26:List Int)) () h3 [2,3,4,5,6,30,31,46] [2,3,4,5,6,7,9,12] (λ(a:Int×(List Int)) (k:Unit)=>[(47,int a.1)]) (λa k=>[(8,⟨3,1,true,true,v27,a.2.map fI⟩),(10,⟨45,8,true,true,v31,[[int 1,aF false,.sl 5 v18 0 (Int.toNat x15),.sl 6 v21 0 (Int.toNat 17),.sl 7 v24 0 (Int.toNat (a1.cB.length:Int)),.sl 8 v27 0 a.2.length,.sl 9 v30 0 (Int.toNat (a1.cB.length:Int)),.sc (.slice none 0 0)]]⟩)]) (λ_=>rfl) ⟨mQ ⟨⟨_,rfl,(.refl _)⟩,⟨_,rfl,(.refl _)⟩,⟨_,rfl,(.refl _)⟩,⟨_,rfl,(.refl _)⟩,⟨_,rfl,(.refl _)⟩,⟨_,rfl,(.refl _)⟩,⟨_,rfl,(.refl _)⟩,⟨_,rfl,(.refl _)⟩,⟨_,rfl,(.refl _)⟩,trivial⟩ ⟨⟨_,rfl,(.refl _)⟩,⟨_,rfl,⟨rfl,(.cons (.cons (.refl _) (.cons (.refl _) (.cons (.refl _) (.cons (.refl _) (.cons (.refl _) (.cons (nC (Eq.symm lx26)) (.cons (.refl _) (.cons (.refl _) .nil)))))))) .nil)⟩⟩,⟨_,rfl,(.refl _)⟩,⟨_,rfl,(.refl _)⟩,⟨_,rfl,(.refl _)⟩,⟨_,rfl,(.refl _)⟩,⟨_,rfl,(.refl _)⟩,⟨_,rfl,(.refl _)⟩,⟨_,rfl,(.refl _)⟩,⟨_,rfl,(.refl _)⟩,trivial⟩,?_⟩
  rintro n ⟨y1_1,y1_2⟩ _ hm h3
  replace h3:a4X a1 (n+1) y1_1 y1_2=some _:=h3
  rw [a4X] at h3
  refine tc aN 2 (.mk ?_)
  refine nb aN h3 λx33 h3=>?_
  refine tr aN 2 (.mk ?_)
  cases x33
  replace h3:=cf h3
  refine tc aN 2 (.mk ?_)
  exact lf h3 () leA
  replace h3:=ct h3
  refine tc aN 13 (.mk ?_)
  obtain ⟨x34,e34,h3⟩:=dJ h3
  refine sY (aP4 rfl Tryz.underlying22 fC rfl rfl rfl rfl rfl (Eq.symm rfl) (List.length_map _) e34) ?_
  obtain ⟨x35,e35,h3⟩:=pM h3
  have fx35:=aQC e34 e35;have lx35:=fH e35 (rfl:y1_2.length=y1_2.length)
  refine O5 rfl rfl (eO (ob':=(⟨3,1,true,true,v27,x35.map fI⟩:bC)) (dZ rfl fC rfl rfl rfl rfl rfl (cZ e34) rfl rfl rfl) (eU (iI e35))) ?_
  refine tr aN 3 (.mk ?_)
  refine ni aN h3 λx36 h3=>?_
  refine tr aN 2 (.mk ?_)
  exact bk (x36,x35) () h3 (mQ ⟨⟨_,rfl,(.refl _)⟩,⟨_,rfl,(.refl _)⟩,⟨_,rfl,(.refl _)⟩,⟨_,rfl,(.refl _)⟩,⟨_,rfl,(.refl _)⟩,⟨_,rfl,(.refl _)⟩,⟨_,rfl,(.refl _)⟩,⟨_,rfl,(.refl _)⟩,⟨_,rfl,(.refl _)⟩,trivial⟩ ⟨⟨_,rfl,(.refl _)⟩,⟨_,rfl,⟨rfl,(.cons (.cons (.refl _) (.cons (.refl _) (.cons (.refl _) (.cons (.refl _) (.cons (.refl _) (.cons (nC (Eq.symm lx35)) (.cons (.refl _) (.cons (.refl _) .nil)))))))) .nil)⟩⟩,⟨_,rfl,(.refl _)⟩,⟨_,rfl,(.refl _)⟩,⟨_,rfl,(.refl _)⟩,⟨_,rfl,(.refl _)⟩,⟨_,rfl,(.refl _)⟩,⟨_,rfl,(.refl _)⟩,⟨_,rfl,(.refl _)⟩,⟨_,rfl,(.refl _)⟩,trivial⟩)
  rintro y2_1 _ h2
  refine tc aN 4 (.mk ?_)
  refine sY (dQ (ps:=[(0,_)]) (rows:=[[int 1,aF false,.sl 5 v18 0 (Int.toNat x15),.sl 6 v21 0 (Int.toNat 17),.sl 7 v24 0 (Int.toNat (a1.cB.length:Int)),.sl 8 v27 0 y2_1.length,.sl 9 v30 0 (Int.toNat (a1.cB.length:Int)),.sc (.slice none 0 0)]]) rfl Tryz.underlying28 a4M (.cons rfl .nil) (by kernel_rfl) rfl rfl rfl) ?_
  obtain ⟨x37,e37,h2⟩:=pM h2
  obtain ⟨p38,h2⟩:=aQH h2
  refine gV rfl rfl rfl (bQ.fO 5 rfl (bQ.fO 6 rfl (bQ.fO 7 rfl (bQ.fO 8 rfl (bQ.fO 9 rfl (jU (g:=aP.av) (l:=y0_3) (m:=[(⟨1,false,x17,x20,x23,y2_1,x29,[]⟩:aP)]) .any rfl Tryz.underlying28 a4M a7B rfl rfl rfl rfl rfl rfl rfl rfl rfl rfl (Eq.symm rfl) (fD.list (ys:=[aP.av (⟨1,false,x17,x20,x23,y2_1,x29,[]⟩:aP)]) (.cons (lW (.cons (.refl _) (.cons (.refl _) (.cons (dH rfl rfl rfl rfl rfl (Eq.symm lx17)) (.cons (dH rfl rfl rfl rfl rfl (Eq.symm lx20)) (.cons (dH rfl rfl rfl rfl rfl (Eq.symm lx23)) (.cons (dH rfl rfl rfl rfl rfl (Eq.symm rfl)) (.cons (dH rfl rfl rfl rfl rfl (Eq.symm lx29)) (.cons (.nil _) .nil)))))))) (aP.bW _)) .nil)) aP.one e37 p38)))))) ?_;rintro _ _ ⟨v39,-,rfl,rfl⟩
  refine tr aN 1 (.mk ?_)
  refine sS ⟨33,10,true,true,v10,[[int a1.eH,int a1.aQA,.sl 3 v7 0 a1.cB.length,aD 1 (fL 1 fI) x8,aD 1 (fL 1 fI) x9,.sl 12 v39 0 x37.length,.sc (.slice none 0 0),.sc (.slice none 0 0),.sc (.slice none 0 0),int 0]]⟩ a4Z ?_
  refine tr aN 2 (.mk ?_)
  exact lf h2 v39 leA
  rintro y3_2 w3_1 h1
  refine tc aN 1 (.mk ?_)
  refine ni aN h1 λx40 h1=>?_
  refine tr aN 2 (.mk ?_)
  exact bk (x40,y3_2) w3_1 h1 leA
  rintro y4_2 w4_1 h0
  refine tc aN 3 (.mk ?_)
  refine sS ⟨33,10,true,true,v3,[[int a1.eH,int a1.aQA,.sl 3 v7 0 a1.cB.length,aD 1 (fL 1 fI) x8,aD 1 (fL 1 fI) x9,.sl 12 w4_1 0 y4_2.length,.sc (.slice none 0 0),.sc (.slice none 0 0),.sc (.slice none 0 0),int 0]]⟩ aVX ?_
  refine tr aN 2 (.mk ?_)
  obtain rfl:=eG h0
  refine wR hret (rC aVX (rT .nil)) ?_
  exact bK.aU (.cons (bK.agg (.cons (.refl _) (.cons (.refl _) (.cons (dH rfl rfl rfl rfl rfl (Eq.symm rfl)) (.cons (.refl _) (.cons (.refl _) (.cons (dH rfl rfl rfl rfl rfl (Eq.symm rfl)) (.cons (.nil _) (.cons (.nil _) (.cons (.nil _) (.cons (.refl _) .nil))))))))))) (.cons (.refl _) .nil))
  replace h0:=ct h0
  refine tc aN 3 (.mk ?_)
  refine sY (pY (cs:=[int 0,int 0,.sc (.slice none 0 0),.sc (.slice none 0 0),.sc (.slice none 0 0),.sc (.slice none 0 0),.sc (.slice none 0 0),.sc (.slice none 0 0),.sc (.slice none 0 0),int 0]) (ps:=[]) rfl a5K z33 rfl .nil (by kernel_rfl)) ?_
  refine sS ⟨33,10,true,true,v3,[[int 0,int 0,.sc (.slice none 0 0),.sc (.slice none 0 0),.sc (.slice none 0 0),.sc (.slice none 0 0),.sc (.slice none 0 0),.sc (.slice none 0 0),.sc (.slice none 0 0),int 0]]⟩ aVX ?_
  refine tr aN 2 (.mk ?_)
  obtain rfl:=eG h0
  refine wR hret (rC aVX (rT .nil)) ?_
  exact bK.aU (.cons (bK.agg (.cons (.refl _) (.cons (.refl _) (.cons (.nil _) (.cons (.nil _) (.cons (.nil _) (.cons (.nil _) (.cons (.nil _) (.cons (.nil _) (.cons (.nil _) (.cons (.refl _) .nil))))))))))) (.cons (.refl _) .nil))
theorem bCU (l:List aS):ItC Tryz.prog 124 [.pp [aD 9 aS.av l]] ((l.take 400).map λx=>.agg (aS.av x)):=by
  intro lp fn tmps p assign body D J s H vs hH hvs hJ hJ7 hn hY
  have ha:jI s [.sc (.func (.yield lp) #[] #[]),.pp [aD 9 aS.av l]] (#[.func (.yield lp) #[] #[]]++vs):=jI.append (xs:=[.sc (.func (.yield lp) #[] #[])]) ⟨rfl,λi x v h1 h2=>by
    cases i with
    | zero=>simp at h1 h2;subst h1 h2;exact .sc _
    | succ i=>simp at h1⟩ hvs
  refine callsIn_wide.1 (callsIn_of_wp (n:=0) (c:=_) Tryz.func124 rfl trivial ?_)
  have hs:=sr0 (fn:=Tryz.f124) hH ha rfl
  generalize ({ tmps:=_,defers:=[] }:Act)=a0 at hs ⊢
  refine wpIn_seq (a3U (Q0:=λe S'=>e=.normal/\S'.hp=H/\Q6 S'.sl [(0,.sc (.func (.yield lp) #[] #[])),(9,aD 9 aS.av (l.take 400)),(10,int (l.take 400).length),(11,int 0)]) hs rfl ?_ ?_)
  · refine tc aN 3 (.mk ?_)
    refine sY (oU rfl Tryz.underlying60 rfl (F9 _)) ?_
    refine sY (aQR rfl rfl rfl rfl) ?_
    refine sY (bCW (i:=0) (j:=(if (400:Int)<(l.length:Int) then (400:Int) else (l.length:Int)).toNat) rfl Tryz.underlying60 a4R rfl .no (.yes rfl (by split <;> omega)) (by omega) (by split <;> omega) (bDY l 400)) ?_
    refine sY (oU rfl Tryz.underlying60 rfl (F9 _)) ?_
    refine tr aN 2 (.mk ?_)
    refine a3B ?_
    exact ⟨rfl,rfl,rfl,rfl,rfl,rfl,trivial⟩
  rintro e S1 s1 a1 ⟨rfl,e2,hk1⟩ hs1 hf1
  rw [e2] at hf1
  have hlen:(l.take 400).length<=400:=by simp;omega
  generalize hL:l.take 400=L at *
  refine wpIn_block (wpIn_loop (λa w=>∃ i s2 H2,i<=L.length/\w=s2.w/\J i H2/\SR ⟨20,false,[]⟩ s2 ⟨kn [(0,.sc (.func (.yield lp) #[] #[])),(9,aD 9 aS.av L),(10,int L.length),(11,int i)],H2⟩ a/\Fr s H s2 H2)
    (λ(a:Act) _=>match (a.tmps[11]?:Option Value) with | some (Value.int _ v)=>L.length-v.toNat | _=>0) ⟨0,s1,H,Nat.zero_le _,rfl,hJ,hs1.knw _ _ e2 (RJ hk1),hf1⟩ ?_)
  rintro a w ⟨i,s2,H2,hi,rfl,hj,hs2,hf2⟩
  have hm2:(match (a.tmps[11]?:Option Value) with | some (Value.int _ v)=>L.length-v.toNat | _=>0)=L.length-i:=by
    obtain ⟨v,q1,q2⟩:=hs2.slot 11 (int i) rfl
    rw [q1,q2.dP];simp
  refine wpIn_seq (a3U (Q0:=λe S'=>e=.normal/\S'.hp=H2/\Q6 S'.sl [(0,.sc (.func (.yield lp) #[] #[])),(9,aD 9 aS.av L),(10,int L.length),(11,int i),(12,aF (decide ((i:Int)<(L.length:Int))))]) hs2 rfl ?_ ?_)
  · refine tc aN 3 (.mk ?_)
    refine a3B ?_
    exact ⟨rfl,rfl,rfl,rfl,rfl,rfl,rfl,trivial⟩
  rintro e S3 s3 a3 ⟨rfl,e3,hk3⟩ hs3 hf3
  rw [e3] at hf3
  have hs3:=hs3.knw _ _ e3 (RJ hk3)
  refine wpIn_seq (wpIn_cond_split (t:=decide ((i:Int)<(L.length:Int))) (lG (o:=.tmp 12) hs3 rfl).dP (λhc=>?_) (λhc=>?_))
  · refine wpIn_skip ?_
    have hlt:i<L.length:=by have:=of_decide_eq_true hc;omega
    obtain ⟨x,hx⟩:∃ x,L[i]?=some x:=⟨L[i],by simp [hlt]⟩
    have hix:ix L (i:Int)=some x:=by unfold ix;rw [if_neg (by omega)];simpa using hx
    refine wpIn_seq (wpIn_block (wpIn_seq (a3U (Q0:=λe S'=>e=.normal/\∃ aG,S'.hp=upd H2 777 (some ⟨36,9,true,true,aG,[aS.av x]⟩)/\Q6 S'.sl [(0,.sc (.func (.yield lp) #[] #[])),(9,aD 9 aS.av L),(10,int L.length),(11,int i),(4,.pt 777 aG 0 0)]) hs3 rfl ?_ ?_)))
    · refine tc aN 1 (.mk ?_)
      refine sY (MU rfl Tryz.underlying60 a4R rfl rfl hix) ?_
      refine tr aN 1 (.mk ?_)
      refine sA 777 z36 λaG=>?_
      refine sS ⟨36,9,true,true,aG,[aS.av x]⟩ a4R ?_
      refine tr aN 1 (.mk ?_)
      refine a3B ?_
      exact ⟨rfl,aG,pJ,rfl,rfl,rfl,rfl,rfl,trivial⟩
    rintro e S4 s4 a4 ⟨rfl,aG,e4,hk4⟩ hs4 hf4
    rw [e4] at hf4
    have hs4:=hs4.knw _ _ e4 (RJ hk4)
    refine wpIn_seq (wpIn_region ?_)
    show wpOpsIn Fence.wide 0 Tryz.prog (List.toArray _) _ [0,1,2,3] a4 s4.w
    refine go_in hs4 rfl rfl rfl rfl rfl (kV rfl rfl) ?_
    intro s5 a5 hs5 hf5
    refine go_in hs5 rfl rfl rfl rfl rfl (dV (cs:=aS.av x) (v:=.agg (aS.av x)) rfl a4R rfl (.pt (row:=0) (o:=⟨36,9,true,true,aG,[aS.av x]⟩) rfl rfl rfl) rfl) ?_
    intro s6 a6 hs6 hf6
    have h7:=hJ7 i H2 hj
    have hf26:Fr s2 H2 s6 H2:=ZS (((hf3.trans hf4).trans hf5).trans hf6) (PS h7)
    have hs6':=(⟨hs6.size,hs6.defers,hs6.slot,aEF hs6.heap (PS h7)⟩:SR ⟨20,false,[]⟩ s6 ⟨_,H2⟩ a6)
    have hfs6:=hf2.trans hf26
    have hn6:=hn.fr hH hfs6
    refine bE5 (J':=J (i+1)) hs6' rfl rfl rfl rfl rfl rfl rfl hn6 (λv hv=>hY i (.agg (aS.av x)) (by rw [List.getElem?_map,hx];rfl) s6 H2 v hj hs6'.heap hv hn6 hfs6) ?_
    intro s7 a7 H7 hj7 hs7 hf7
    refine go_in hs7 rfl rfl rfl rfl rfl (FL (b:=true) (r:=false) rfl rfl rfl) ?_
    intro s8 a8 hs8 hf8
    refine VO ?_
    refine wpIn_cond_false (lG (o:=.tmp 18) hs8 rfl).dP (wpIn_skip ?_)
    have hs8':=hs8.knw [(0,.sc (.func (.yield lp) #[] #[])),(9,aD 9 aS.av L),(10,int L.length),(11,int i)] H7 rfl (RJ ⟨rfl,rfl,rfl,rfl,trivial⟩)
    refine a3U (Q0:=λe S'=>e=.normal/\S'.hp=H7/\Q6 S'.sl [(0,.sc (.func (.yield lp) #[] #[])),(9,aD 9 aS.av L),(10,int L.length),(11,int (aI ((i:Int)+1)))]) hs8' rfl ?_ ?_
    · refine tc aN 4 (.mk ?_)
      refine a3B ?_
      exact ⟨rfl,rfl,rfl,rfl,rfl,rfl,trivial⟩
    rintro e S9 s9 a9 ⟨rfl,e9,hk9⟩ hs9 hf9
    rw [e9] at hf9
    have hs9:=hs9.knw _ _ e9 (RJ hk9)
    have ew:aI ((i:Int)+1)=((i+1:Nat):Int):=(wrap64 (by omega)).trans (by omega)
    rw [ew] at hs9
    refine ⟨⟨i+1,s9,H7,hlt,rfl,hj7,hs9,((hfs6.trans hf7).trans hf8).trans hf9⟩,?_⟩
    obtain ⟨v,q1,q2⟩:=hs9.slot 11 (int ((i+1:Nat):Int)) rfl
    rw [hm2,q1,q2.dP]
    simp
    omega
  · refine wpIn_exit ?_
    have hieq:i=L.length:=by have:=of_decide_eq_false hc;omega
    subst hieq
    refine ⟨hs3.defers,.tuple #[],TH rfl,s3,H2,.tuple #[],rfl,rfl,?_,hs3.heap,hf2.trans hf3⟩
    rw [List.length_map];exact hj
theorem bEU {l:List aS}:PP Tryz.prog 68 [aD 9 aS.av l] (λy=>y=.fn (.func 124) [] [.pp [aD 9 aS.av l]]):=by
  refine uD (R0:=λy H=>Cv (jZ H) y (.fn (.func 124) [] [.pp [aD 9 aS.av l]])) ?_ (λy H hc=>⟨_,rfl,.fn (by simp) (λx hx=>by
    simp only [List.mem_singleton] at hx;subst hx
    exact .pp λx hx=>by simp only [List.mem_singleton] at hx;subst hx;exact o8 aS.dA l),hc⟩)
  refine gN (c:=_) Tryz.func68 rfl rfl ?_;intro Q hret hnorm
  refine tc aN 2 (.mk ?_)
  refine sB 1 λv1=>?_
  refine tr aN 7 (.mk ?_)
  refine wR hret (rT .nil) ?_
  exact bK.fn .nil (.cons (Cv.pt (ob:=⟨60,1,false,true,v1,[[aD 9 aS.av l]]⟩) rfl rfl rfl rfl (.cons (.refl _) .nil)) .nil)
def a4E (dS:aA->aS->Option (aA×Int)):List aS->aA->List Int->Option (aA×(List Int))
  | [],s,e=>some (s,e)
  | o :: r,s,e=>(dS s o).bind λx=>a4E dS r x.1 (e++[x.2])
theorem bES {dS:aA->aS->Option (aA×Int)} (hS:∀ {s o r},dS s o=some r->PP Tryz.prog 8 [.agg (aA.av s),.agg (aS.av o)] (λy=>y=.aU [.agg (aA.av r.1),int r.2]))
    {s:aA} {l:List aS} {r:aA×(List Int)} (h0:a4E dS (l.take 400) s []=some r):PP Tryz.prog 38 [.agg (aA.av s),aD 9 aS.av l] (λy=>y=.aU [.agg (aA.av r.1),aD 1 fI r.2]):=by
  refine uD (R0:=λy H=>Cv (jZ H) y (.aU [.agg (aA.av r.1),aD 1 fI r.2])) ?_ (λy H hc=>⟨_,rfl,.aU (λx hx=>by
    simp only [List.mem_cons,List.not_mem_nil,or_false] at hx
    rcases hx with rfl | rfl
    · exact .agg (aA.dA r.1)
    · exact o8 vI r.2),hc⟩)
  refine bBU (c:=_) Tryz.func38 rfl rfl ?_
  intro s0 a0 hs0
  refine wpIn_seq (a3U (Q0:=λe S'=>e=.normal/\∃ v2 v4,HKe S'.hp [(2,⟨33,10,true,true,v2,[aA.av s]⟩),(4,⟨33,10,true,true,v4,[[int 0,int 0,.sc (.slice none 0 0),.sc (.slice none 0 0),.sc (.slice none 0 0),.sc (.slice none 0 0),.sc (.slice none 0 0),.sc (.slice none 0 0),.sc (.slice none 0 0),int 0]]⟩)]/\Q6 S'.sl [(1,aD 9 aS.av l),(2,.pt 2 v2 0 0),(4,.pt 4 v4 0 0)]) hs0 rfl ?_ ?_)
  · refine tc aN 1 (.mk ?_)
    refine sB 2 λv2=>?_
    refine sA 4 z33 λv4=>?_
    refine tr aN 2 (.mk ?_)
    refine a3B ?_
    exact ⟨rfl,v2,v4,⟨rfl,rfl,trivial⟩,rfl,rfl,rfl,trivial⟩
  rintro e S1 s1 a1 ⟨rfl,v2,v4,hh1,hk1⟩ hs1 hf1
  obtain ⟨hs1,hf1⟩:=hs1.kh hf1 _ _ hk1 hh1
  generalize hz:([[int 0,int 0,.sc (.slice none 0 0),.sc (.slice none 0 0),.sc (.slice none 0 0),.sc (.slice none 0 0),.sc (.slice none 0 0),.sc (.slice none 0 0),.sc (.slice none 0 0),int 0]]:List (List AV))=zr at *
  refine wpIn_seq (a3U (Q0:=λe S'=>e=.normal/\∃ v6,HKe S'.hp [(2,⟨33,10,true,true,v2,[aA.av s]⟩),(4,⟨33,10,true,true,v4,zr⟩),(6,⟨57,1,true,true,v6,[[.sc (.slice none 0 0)]]⟩)]/\Q6 S'.sl [(1,aD 9 aS.av l),(2,.pt 2 v2 0 0),(4,.pt 4 v4 0 0),(6,.pt 6 v6 0 0)]) hs1 rfl ?_ ?_)
  · refine tc aN 1 (.mk ?_)
    refine sA 6 z57 λv6=>?_
    refine tr aN 1 (.mk ?_)
    refine a3B ?_
    exact ⟨rfl,v6,⟨rfl,rfl,rfl,trivial⟩,rfl,rfl,rfl,rfl,trivial⟩
  rintro e S2 s2 a2 ⟨rfl,v6,hh2,hk2⟩ hs2 hf2
  obtain ⟨hs2,hf2⟩:=hs2.kh (hf1.trans hf2) _ _ hk2 hh2
  refine wpIn_seq (wpIn_seq (a3U (Q0:=λe S'=>e=.normal/\HKe S'.hp [(2,⟨33,10,true,true,v2,[aA.av s]⟩),(4,⟨33,10,true,true,v4,zr⟩),(6,⟨57,1,true,true,v6,[[.sc (.slice none 0 0)]]⟩)]/\Q6 S'.sl [(2,.pt 2 v2 0 0),(4,.pt 4 v4 0 0),(6,.pt 6 v6 0 0),(11,.fn (.func 124) [] [.pp [aD 9 aS.av l]])]) hs2 rfl ?_ ?_))
  · refine tc aN 2 (.mk ?_)
    refine sC sK bEU ?_
    refine tr aN 1 (.mk ?_)
    refine a3B ?_
    exact ⟨rfl,⟨rfl,rfl,rfl,trivial⟩,rfl,rfl,rfl,rfl,trivial⟩
  rintro e S3 s3 a3 ⟨rfl,hh3,hk3⟩ hs3 hf3
  obtain ⟨hs3,hf3⟩:=hs3.kh (hf2.trans hf3) _ _ hk3 hh3
  obtain ⟨s4,vA,ew,hs4,hf4⟩:=bCG hs3 6 20 37 1 (ob:=⟨57,1,true,true,v6,[[.sc (.slice none 0 0)]]⟩) rfl rfl rfl
  obtain ⟨hs4,hf4⟩:=hs4.kh (hf3.trans hf4) [(2,.pt 2 v2 0 0),(4,.pt 4 v4 0 0),(6,.pt 6 v6 0 0),(11,.fn (.func 124) [] [.pp [aD 9 aS.av l]])] [(2,⟨33,10,true,true,v2,[aA.av s]⟩),(4,⟨33,10,true,true,v4,zr⟩),(6,⟨57,1,true,true,v6,[[.sl 20 vA 0 ([]:List Int).length]]⟩),(20,⟨37,1,true,true,vA,([]:List Int).map fI⟩)] ⟨rfl,rfl,rfl,rfl,trivial⟩ ⟨rfl,rfl,rfl,rfl,trivial⟩
  rw [<- ew]
  have hlen:(l.take 400).length<=400:=by simp;omega
  have hit:=bCU l
  generalize hL:l.take 400=L at *
  refine wpIn_block (bDH (n:=⟨26,false,[]⟩) rfl hs4 rfl aUG hit (λi H=>∃ s' e' vA,e'.length=i/\a4E dS (L.drop i) s' e'=some r /\
    H=hk [(2,⟨33,10,true,true,v2,[aA.av s']⟩),(4,⟨33,10,true,true,v4,zr⟩),(6,⟨57,1,true,true,v6,[[.sl 20 vA 0 e'.length]]⟩),(20,⟨37,1,true,true,vA,e'.map fI⟩)])
    ⟨s,[],vA,rfl,h0,rfl⟩ (by rintro i H ⟨s',e',vA,_,_,rfl⟩;rfl) (by decide) ?_ ?_)
  · rintro i xv H hx ⟨s',e',vA,hi,hd,rfl⟩
    rw [List.getElem?_map] at hx
    obtain ⟨x,hx1,rfl⟩:=Option.map_eq_some_iff.1 hx
    have hiL:=(List.getElem?_eq_some_iff.1 hx1).1
    have hdr:L.drop i=x :: L.drop (i+1):=by
      rw [List.drop_eq_getElem_cons hiL,(List.getElem?_eq_some_iff.1 hx1).2]
    rw [hdr] at hd
    obtain ⟨y,hy,hd⟩:=dJ hd
    have hfit:(e'++[y.2]).length<=68719476736:=by simp;omega
    refine tr1 ?_
    refine tc aN 1 (.mk ?_)
    refine sA 7 z36 λv7=>?_
    refine sS ⟨36,9,true,true,v7,[aS.av x]⟩ a4R ?_
    refine tr aN 1 (.mk ?_)
    refine a3B ?_
    refine ⟨rfl,?_⟩
    refine Tr.yB (Q':=λe S'=>e=.normal/\∃ S'',S'.gY S''/\∃ s' e' vA,e'.length=i+1/\a4E dS (L.drop (i+1)) s' e'=some r /\
      S''.hp=hk [(2,⟨33,10,true,true,v2,[aA.av s']⟩),(4,⟨33,10,true,true,v4,zr⟩),(6,⟨57,1,true,true,v6,[[.sl 20 vA 0 e'.length]]⟩),(20,⟨37,1,true,true,vA,e'.map fI⟩)]) (tr1 ?_) (by
        rintro e S' ⟨rfl,S'',h1,h2⟩
        exact ⟨S'',h1,rfl,h2⟩)
    refine tc aN 5 (.mk ?_)
    refine sC aAZ (hS hy) ?_
    refine tr aN 3 (.mk ?_)
    refine sA 8 z33 λv8=>?_
    refine sS ⟨33,10,true,true,v8,[aA.av y.1]⟩ aVX ?_
    refine tr aN 2 (.mk ?_)
    refine K9 [0,0,0,4,14,31,63] (rl [(0,[8]),(1,[6])] []) (rl [(4,[8]),(5,[]),(6,[])] [6,8]) (rl [(4,false),(5,false),(6,false)] true) [0,1,2,3,4,5,6] mixed (by kernel_rfl) ?_;intro K hK
    refine eL aVX ?_
    refine eL a6G ?_
    refine eM ?_
    refine eP (λH hH=>bX (y:=aD 1 fI ([y.2]:List Int)) (dQ (ps:=[(0,_)]) (rows:=[[int y.2]]) rfl Tryz.underlying57 bAQ (.cons rfl .nil) (by kernel_rfl) rfl rfl rfl) rfl) ?_
    refine aYN rfl rfl rfl rfl (jU (g:=fI) (l:=e') (m:=([y.2]:List Int)) .any rfl Tryz.underlying57 bAQ bD6 rfl rfl rfl rfl rfl rfl rfl rfl rfl rfl (Eq.symm rfl) (.refl _) (λ_=>rfl) rfl hfit) (by rintro _ _ ⟨v,-,rfl,rfl⟩;exact ⟨rfl,trivial⟩) ?_;rintro _ _ ⟨vB,-,rfl,rfl⟩
    refine aVV rfl rfl rfl rfl (bQ.dM (eO (ob':=(⟨33,10,true,true,v2,[aA.av y.1]⟩:bC)) (dZ rfl aVX rfl rfl rfl rfl rfl rfl rfl rfl rfl) rfl) (λ_ h=>h) (λ_ _=>trivial)) (by rintro _ _ ⟨rfl,rfl⟩;exact trivial) ?_;rintro _ _ ⟨rfl,rfl⟩
    refine aVV rfl rfl rfl rfl (bQ.dM (eO (ob':=(⟨57,1,true,true,v6,[[.sl 20 vB 0 (e'++[y.2]).length]]⟩:bC)) (dZ rfl a6G rfl rfl rfl rfl rfl rfl rfl rfl rfl) rfl) (λ_ h=>h) (λ_ _=>trivial)) (by rintro _ _ ⟨rfl,rfl⟩;exact trivial) ?_;rintro _ _ ⟨rfl,rfl⟩
    refine N8 (hK _ ?_)
    refine tc aN 1 (.mk ?_)
    refine a3B ?_
    exact ⟨rfl,⟨kn [],hk [(2,⟨33,10,true,true,v2,[aA.av y.1]⟩),(4,⟨33,10,true,true,v4,zr⟩),(6,⟨57,1,true,true,v6,[[.sl 20 vB 0 (e'++[y.2]).length]]⟩),(20,⟨37,1,true,true,vB,(e'++[y.2]).map fI⟩)]⟩,mQ (l:=[]) trivial ⟨⟨_,rfl,.refl _⟩,⟨_,rfl,.refl _⟩,⟨_,rfl,.refl _⟩,⟨_,rfl,.refl _⟩,trivial⟩,y.1,e'++[y.2],vB,by simp [hi],hd,rfl⟩
  · rintro D s5 H5 ⟨s',e',vA,hi,hd,rfl⟩ hs5 hf5 hD hn5
    rw [List.length_map] at hi
    have hd':a4E dS [] s' e'=some r:=by rw [<- hd,List.length_map,List.drop_length]
    obtain rfl:(s',e')=r:=by simpa [a4E] using hd'
    have hs5':SR ⟨26,false,[mk D]⟩ s5 ⟨kn [(2,.pt 2 v2 0 0),(4,.pt 4 v4 0 0),(6,.pt 6 v6 0 0)],hk [(2,⟨33,10,true,true,v2,[aA.av s']⟩),(4,⟨33,10,true,true,v4,zr⟩),(6,⟨57,1,true,true,v6,[[.sl 20 vA 0 e'.length]]⟩),(20,⟨37,1,true,true,vA,e'.map fI⟩)]⟩ _:=hs5.knw _ _ rfl (RJ ⟨rfl,rfl,rfl,trivial⟩)
    subst hz
    refine a3U (Q0:=λe S'=>e=.ret/\∃ vs H2,jB Tryz.prog S' Tryz.f38.results.toList vs/\(∀ t v,H2 t=some v->S'.hp t=some v)/\Cv (jZ H2) (lT vs) (.aU [.agg (aA.av s'),aD 1 fI e'])) hs5' rfl ?_ ?_
    · refine tc aN 1 (.mk ?_)
      refine K9 [0,0,1,7] (rl [(0,[2]),(1,[6])] []) (rl [(2,[6])] [2,6]) (rl [(2,false)] true) [0,1,2,3] mixed (by kernel_rfl) ?_;intro K hK
      refine eL aVX ?_
      refine eL a6G ?_
      refine aVV rfl rfl rfl rfl (bQ.dM (eO (ob':=(⟨33,10,true,true,v4,[aA.av s']⟩:bC)) (dZ rfl aVX rfl rfl rfl rfl rfl rfl rfl rfl rfl) rfl) (λ_ h=>h) (λ_ _=>trivial)) (by rintro _ _ ⟨rfl,rfl⟩;exact ⟨rfl,trivial⟩) ?_;rintro _ _ ⟨rfl,rfl⟩
      refine eA ?_
      refine N8 (hK _ ?_)
      refine iL ⟨rfl,_,_,rC aVX (rT .nil),λ_ _ h=>h,?_⟩
      exact bK.aU (.cons (.refl _) (.cons (dH rfl rfl rfl rfl rfl (Eq.symm rfl)) .nil))
    · rintro e S6 s6 a6 ⟨rfl,vs,H2,q1,q2,q3⟩ hs6 hf6
      have hn6:=hn5.fr hs5'.heap hf6
      exact ⟨rfl,S6,s6,D,vs,H2,rfl,hs6,(hf4.trans hf5).trans hf6,Nat.le_trans (by rw [ew];exact hf3.size) hD,hn6,q1,q2,q3⟩
def a8G (n:Nat) (a1:aA) (a2:List aS):Option (aA×(List Int)):=a4E (a4Q n) (a2.take 400) a1 []
theorem bBG {n:Nat} {a1:aA} {a2:List aS} {r:aA×(List Int)} (h0:a8G n a1 a2=some r):PP Tryz.prog 38 [.agg (aA.av a1),aD 9 aS.av a2] (λy=>y=.aU [.agg (aA.av r.1),aD 1 fI r.2]):=bES (λh=>a8Q _ h) h0
def bC5 (n:Nat) (a1:eZ) (a2:List aS):WB (aA×(List Int)×Int) :=
 .al 1<|.al 2<|.cl 12 (a6Q n a1) aHJ (λ_=>bBZ) λx5=>.al 3<|.bB 16 (decide (x5.2≠0)) λx7=>.ifs [16] x7 (.ret (((⟨(⟨0,0,[],[],[]⟩:eZ),[],[],[],[],0⟩:aA):aA),([]:List Int),x5.2)) (.cl 22 (a8G n x5.1 a2) aBI (λ_=>bBG) λx8=>.ret ((x8.1:aA),x8.2,0))
def bAK (n:Nat) (a1:eZ) (a2:List aS):Option (aA×(List Int)×Int):=(bC5 n a1 a2).run
theorem bDO {n a1 a2}:PZ (bAK n a1 a2) 18 [.agg (eZ.av a1),aD 9 aS.av a2] (λr=>.aU [.agg (aA.av r.1),aD 1 fI r.2.1,int r.2.2]):=wq Tryz.func18
def bEV (n:Nat) (a1:Int) (a2:List Int):WB (Bool) :=
 .al 1<|.inl 7 OA Tryz.func125 [1] [] (λ_ (a:Bool)=>aF a) (λ_ _=>[]) (.inl 7 aDX Tryz.func173 [1] [] (λ_ (a:Int)=>int a) (λ_ _=>[]) (.ln 7 fI a2<|.dF 0 [4] [1] [] (λ_ (a:Unit)=>[]) (λ_ _=>[]) (.lp [0,1,4,7] [1] [] (λ_ (a:Int)=>[(8,int a)]) (λ_ _=>[]) n 0 (λy0_1=>.bB 9 (decide (y0_1<(a2.length:Int))) λx4=>.ifs [9] x4 (.ix 14 fI a2 y0_1 λx5=>.inl 16 oP Tryz.func126 [1] [] (λ_ (a:Bool)=>aF a) (λ_ _=>[]) (.cl 6 (UX x5 a1 288230376151711744) oG aK1 λx6=>.bB 7 (!x6) λx7=>.ret x7) (λy1_1=>.ifs [16] y1_1 (.esc (.esc (.ret y0_1))) (.bI 18 (aI (y0_1+1)) λx8=>.brk x8))) (.esc (.brk ())))) (λ_=>.ret (-1))) (λy3_1=>.bB 8 (decide (y3_1>=0)) λx9=>.ret x9)) (λy4_1=>.bB 8 (!y4_1) λx10=>.ret ((x10:Bool)))
def a1H (n:Nat) (a1:Int) (a2:List Int):Option (Bool):=(bEV n a1 a2).run
theorem a2G {n a1 a2}:PZ (a1H n a1 a2) 69 [int a1,aD 1 fI a2] aF:=wq Tryz.func69
def bC1 (F:eZ->Int->aP->Option (Bool)) (hF:∀ {a1:eZ} {a2:Int} {a3:aP},PZ (F a1 a2 a3) 70 [.agg (eZ.av a1),int a2,.agg [int a3.Now,aF a3.Closed,aD 4 aM.av a3.dD,aD 1 fI a3.dU,aD 11 bM.av a3.dI,aD 1 fI a3.dO,aD 1 fI a3.Down,aD 8 aP.av a3.eT]] aF) (n:Nat) (a1:eZ) (a2:Int) (a3:aP):WB (Bool) :=
 .al 1<|.al 2<|.ln 14 fI a1.cB<|.jn 0 [1,3,5,6] [1,2] [] (λ_ (a:Bool)=>[(55,aF a)]) (λ_ _=>[]) (.cl 19 (UX a3.Now 1 a1.aQA) oG aK1 λx6=>.bB 20 (!x6) λx7=>.ifs [20] x7 (.ret true) (.ln 24 aM.av a3.dD<|.bI 26 (aI ((a1.cB.length:Int)*2)) λx8=>.bB 27 (decide ((a3.dD.length:Int)≠x8)) λx9=>.ifs [27] x9 (.ret true) (.ln 32 fI a3.dU<|.bB 33 (decide ((a3.dU.length:Int)≠17)) λx10=>.ifs [33] x10 (.ret true) (.ln 38 bM.av a3.dI<|.bB 40 (decide ((a3.dI.length:Int)≠(a1.cB.length:Int))) λx11=>.ifs [40] x11 (.ret true) (.ln 45 fI a3.dO<|.bB 47 (decide ((a3.dO.length:Int)≠(a1.cB.length:Int))) λx12=>.ifs [47] x12 (.ret true) (.ln 52 fI a3.Down<|.bB 54 (decide ((a3.Down.length:Int)≠(a1.cB.length:Int))) λx13=>.ret x13)))))) (λy0_1=>.ifs [55] y0_1 (.ret ((false:Bool))) (.ln 58 aM.av a3.dD<|.dF 0 [1,3,5,6] [1,2] [] (λ_ (a:Unit)=>[]) (λ_ _=>[]) (.lp [1,3,5,6,57,58] [1,2] [] (λ_ (a:Int)=>[(59,int a)]) (λ_ _=>[]) n 0 (λy1_1=>.bB 60 (decide (y1_1<(a3.dD.length:Int))) λx14=>.ifs [60] x14 (.ix 62 aM.av a3.dD y1_1 λx15=>.al 3<|.dr [(0,[1]),(1,[1]),(9,[3])] [] [1,3] [] [0,1,2,3,4,5,6,7,8,9,10,11] (.ix 67 (fL 1 fI) a1.Methods a2 λx17=>.bI 70 (aI (y1_1.tdiv 2)) λx18=>.ix 71 fI x17 x18 λx19=>.cl 74 (aS4 n x19 x15) QW aYJ λx20=>.bB 75 (!x20) λx21=>.ifs [75] x21 (.esc (.esc (.ret ((false:Bool))))) (.bI 76 (aI (y1_1+1)) λx22=>.brk x22))) (.esc (.brk ())))) (λ_=>.ln 79 bM.av a3.dI<|.dF 0 [1,3,5,6] [1,2] [] (λ_ (a:Unit)=>[]) (λ_ _=>[]) (.lp [1,3,5,6,78,79] [1,2] [] (λ_ (a:Int)=>[(80,int a)]) (λ_ _=>[]) n 0 (λy3_1=>.bB 81 (decide (y3_1<(a3.dI.length:Int))) λx23=>.ifs [81] x23 (.ix 82 bM.av a3.dI y3_1 λx24=>.al 4<|.inl 85 aAF Tryz.func89 [1,2,4] [] (λ_ (a:Unit)=>aD 1 fI ([x24.Open,x24.jC,x24.iV,x24.iW,x24.iQ,x24.jA,x24.iY,x24.iU,x24.iT,x24.iZ,x24.jD]:List Int)) (λ_ _=>[]) (.al 5<|.to 25 (aD 1 fI ([x24.Open,x24.jC,x24.iV,x24.iW,x24.iQ,x24.jA,x24.iY,x24.iU,x24.iT,x24.iZ,x24.jD]:List Int))<|.ret ()) (λ_=>.cl 86 (a1H n (-288230376151711744) ([x24.Open,x24.jC,x24.iV,x24.iW,x24.iQ,x24.jA,x24.iY,x24.iU,x24.iT,x24.iZ,x24.jD]:List Int)) ZF a2G λx27=>.bB 87 (!x27) λx28=>.ifs [87] x28 (.esc (.esc (.ret ((false:Bool))))) (.bI 88 (aI (y3_1+1)) λx29=>.brk x29))) (.esc (.brk ())))) (λ_=>.jn 0 [1,3,5,6] [1,2] [] (λ_ (a:Bool)=>[(119,aF a)]) (λ_ _=>[]) (.cl 91 (a1H n (-288230376151711744) a3.dU) ZF a2G λx30=>.bB 92 (!x30) λx31=>.ifs [92] x31 (.ret true) (.cl 96 (a1H n (-1) a3.dO) ZF a2G λx32=>.bB 97 (!x32) λx33=>.ifs [97] x33 (.ret true) (.cl 102 (a1H n 0 a3.Down) ZF a2G λx34=>.bB 103 (!x34) λx35=>.ifs [103] x35 (.ret true) (.ln 108 aP.av a3.eT<|.bB 109 (decide ((a3.eT.length:Int)>1)) λx36=>.ifs [109] x36 (.ret true) (.ln 116 aP.av a3.eT<|.bB 117 (decide ((a3.eT.length:Int)=1)) λx37=>.bl (decide (a3.Closed≠x37):Bool) λx38=>.gv 118<|.ret x38))))) (λy6_1=>.ifs [119] y6_1 (.ret ((false:Bool))) (.jn 1 [] [] [] (λ_ (a:Bool)=>[(6,aF a)]) (λ_ _=>[]) (.dr [(0,[2]),(1,[2]),(4,[2]),(5,[2]),(12,[1]),(14,[2]),(15,[2])] [] [1,2] [] [0,1,2,3,4,5,6,7,8,9,10,11,12,13,14,15,16,17,18,19,20,21] (.bB 122 (!a3.Closed) λx39=>.ifs [122] x39 (.ret true) (.gI 126 aP.av gE aP.bW a3.eT 0 λx40=>.ln 129 aP.av x40.eT<|.bB 130 (decide ((x40.eT.length:Int)=0)) λx41=>.ifs [130] x41 (.gI 136 aP.av gE aP.bW a3.eT 0 λx42=>.cl 138 (F a1 a2 x42) aBK hF λx43=>.ret x43) (.ret false)))) (λy7_1=>.ret ((y7_1:Bool)))))))))
noncomputable def a5H:Nat->{ F:eZ->Int->aP->Option (Bool) // ∀ {a1:eZ} {a2:Int} {a3:aP},PZ (F a1 a2 a3) 70 [.agg (eZ.av a1),int a2,.agg [int a3.Now,aF a3.Closed,aD 4 aM.av a3.dD,aD 1 fI a3.dU,aD 11 bM.av a3.dI,aD 1 fI a3.dO,aD 1 fI a3.Down,aD 8 aP.av a3.eT]] aF }
 | 0=>⟨λ_ _ _=>none,λ_ h=>nomatch h⟩
 | n+1=>⟨λa1 a2 a3=>(bC1 (a5H n).1 (a5H n).2 n a1 a2 a3).run,wq Tryz.func70⟩
noncomputable def a9B (n:Nat) (a1:eZ) (a2:Int) (a3:aP):Option (Bool):=(a5H n).1 a1 a2 a3
theorem bD1 {n a1 a2 a3}:PZ (a9B n a1 a2 a3) 70 [.agg (eZ.av a1),int a2,.agg [int a3.Now,aF a3.Closed,aD 4 aM.av a3.dD,aD 1 fI a3.dU,aD 11 bM.av a3.dI,aD 1 fI a3.dO,aD 1 fI a3.Down,aD 8 aP.av a3.eT]] aF:=(a5H n).2
def bEH (n:Nat) (a1:aA):WB (Bool) :=
 .al 1<|.al 2<|.jn 0 [1,2,3] [1,2] [] (λ_ (a:Bool)=>[(45,aF a)]) (λ_ _=>[]) (.cl 16 (a7R n a1.bA) vX a8S λx4=>.bB 17 (!x4) λx5=>.ifs [17] x5 (.ret true) (.ln 21 aP.av a1.aW<|.bB 24 (decide ((a1.aW.length:Int)≠a1.bA.eH)) λx6=>.ifs [24] x6 (.ret true) (.ln 29 bH.av a1.bP<|.ln 32 bS.av a1.bU<|.ln 35 dB.av a1.bY<|.bl (if (a1.bY.length:Int)>(if (a1.bU.length:Int)>(a1.bP.length:Int) then (a1.bU.length:Int) else (a1.bP.length:Int)) then (a1.bY.length:Int) else (if (a1.bU.length:Int)>(a1.bP.length:Int) then (a1.bU.length:Int) else (a1.bP.length:Int)):Int) λx7=>.gv 36<|.bB 37 (decide (x7>40)) λx8=>.ifs [37] x8 (.ret true) (.to 42 (aD 1 fI ([a1.Done]:List Int))<|.cl 43 (a1H n 0 ([a1.Done]:List Int)) ZF a2G λx9=>.bB 44 (!x9) λx10=>.ret x10)))) (λy0_1=>.ifs [45] y0_1 (.ret ((false:Bool))) (.ln 48 aP.av a1.aW<|.dF 0 [1,2,3] [1,2] [] (λ_ (a:Unit)=>[]) (λ_ _=>[]) (.lp [1,2,3,47,48] [1,2] [] (λ_ (a:Int)=>[(49,int a)]) (λ_ _=>[]) n 0 (λy1_1=>.bB 50 (decide (y1_1<(a1.aW.length:Int))) λx11=>.ifs [50] x11 (.gI 52 aP.av gE aP.bW a1.aW y1_1 λx12=>.al 3<|.cl 57 (a9B n a1.bA y1_1 x12) aBK bD1 λx14=>.bB 58 (!x14) λx15=>.ifs [58] x15 (.esc (.esc (.ret ((false:Bool))))) (.bI 59 (aI (y1_1+1)) λx16=>.brk x16)) (.esc (.brk ())))) (λ_=>.ln 63 bH.av a1.bP<|.dF 0 [1,2,6] [1,2] [] (λ_ (a:Unit)=>[]) (λ_ _=>[]) (.lp [1,2,6,62,63] [1,2] [] (λ_ (a:Int)=>[(64,int a)]) (λ_ _=>[]) n 0 (λy3_1=>.bB 65 (decide (y3_1<(a1.bP.length:Int))) λx17=>.ifs [65] x17 (.ix 66 bH.av a1.bP y3_1 λx18=>.al 4<|.jn 0 [1,2,6,62,63,64] [1,2] [] (λ_ (a:Bool)=>[(103,aF a)]) (λ_ _=>[]) (.inl 75 YI Tryz.func71 [1,2,4] [] (λ_ (a:Bool)=>aF a) (λ_ _=>[]) (.jn 1 [] [1,2,4] [] (λ_ (a:Bool)=>[(7,aF a)]) (λ_ _=>[]) (.bI 11 (aI (a1.bA.eH-1)) λx20=>.cl 12 (UX x18.dG 0 x20) oG aK1 λx21=>.ifs [12] x21 (.ln 17 fI a1.bA.cB<|.bI 18 (aI ((a1.bA.cB.length:Int)-1)) λx22=>.cl 19 (UX x18.Item 0 x22) oG aK1 λx23=>.ifs [19] x23 (.cl 23 (UX x18.Loc 0 1) oG aK1 λx24=>.ret x24) (.ret false)) (.ret false)) (λy4_1=>.ret y4_1)) (λy5_1=>.bB 76 (!y5_1) λx25=>.ifs [76] x25 (.ret true) (.to 84 (aD 1 fI ([x18.aQ,x18.Value,x18.jV]:List Int))<|.cl 85 (a1H n 0 ([x18.aQ,x18.Value,x18.jV]:List Int)) ZF a2G λx26=>.bB 86 (!x26) λx27=>.ifs [86] x27 (.ret true) (.cl 93 (UX x18.Open 0 x18.aQ) oG aK1 λx28=>.bB 94 (!x28) λx29=>.ifs [94] x29 (.ret true) (.cl 101 (UX x18.fF 0 x18.aQ) oG aK1 λx30=>.bB 102 (!x30) λx31=>.ret x31))))) (λy6_1=>.ifs [103] y6_1 (.esc (.esc (.ret ((false:Bool))))) (.bI 104 (aI (y3_1+1)) λx32=>.brk x32))) (.esc (.brk ())))) (λ_=>.ln 107 bS.av a1.bU<|.dF 0 [1,2,6] [1,2] [] (λ_ (a:Unit)=>[]) (λ_ _=>[]) (.lp [1,2,6,106,107] [1,2] [] (λ_ (a:Int)=>[(108,int a)]) (λ_ _=>[]) n 0 (λy8_1=>.bB 109 (decide (y8_1<(a1.bU.length:Int))) λx33=>.ifs [109] x33 (.ix 110 bS.av a1.bU y8_1 λx34=>.al 5<|.jn 0 [1,2,6,106,107,108] [1,2] [] (λ_ (a:Bool)=>[(150,aF a)]) (λ_ _=>[]) (.inl 119 YI Tryz.func71 [1,2,5] [] (λ_ (a:Bool)=>aF a) (λ_ _=>[]) (.jn 1 [] [1,2,5] [] (λ_ (a:Bool)=>[(7,aF a)]) (λ_ _=>[]) (.bI 11 (aI (a1.bA.eH-1)) λx36=>.cl 12 (UX x34.dG 0 x36) oG aK1 λx37=>.ifs [12] x37 (.ln 17 fI a1.bA.cB<|.bI 18 (aI ((a1.bA.cB.length:Int)-1)) λx38=>.cl 19 (UX x34.Item 0 x38) oG aK1 λx39=>.ifs [19] x39 (.cl 23 (UX x34.Loc 0 1) oG aK1 λx40=>.ret x40) (.ret false)) (.ret false)) (λy9_1=>.ret y9_1)) (λy10_1=>.bB 120 (!y10_1) λx41=>.ifs [120] x41 (.ret true) (.to 126 (aD 1 fI ([x34.aQ,x34.qV]:List Int))<|.cl 127 (a1H n 0 ([x34.aQ,x34.qV]:List Int)) ZF a2G λx42=>.bB 128 (!x42) λx43=>.ifs [128] x43 (.ret true) (.cl 135 (UX x34.fF 0 x34.aQ) oG aK1 λx44=>.bB 136 (!x44) λx45=>.ifs [136] x45 (.ret true) (.to 141 (aD 1 fI ([x34.bO]:List Int))<|.cl 142 (a1H n (-288230376151711744) ([x34.bO]:List Int)) ZF a2G λx46=>.bB 143 (!x46) λx47=>.ifs [143] x47 (.ret true) (.cl 148 (UX x34.jW 1 12) oG aK1 λx48=>.bB 149 (!x48) λx49=>.ret x49)))))) (λy11_1=>.ifs [150] y11_1 (.esc (.esc (.ret ((false:Bool))))) (.bI 151 (aI (y8_1+1)) λx50=>.brk x50))) (.esc (.brk ())))) (λ_=>.ln 154 dB.av a1.bY<|.dF 0 [2] [] [] (λ_ (a:Unit)=>[]) (λ_ _=>[]) (.lp [2,6,153,154] [2] [] (λ_ (a:Int)=>[(155,int a)]) (λ_ _=>[]) n 0 (λy13_1=>.bB 156 (decide (y13_1<(a1.bY.length:Int))) λx51=>.ifs [156] x51 (.ix 157 dB.av a1.bY y13_1 λx52=>.al 6<|.jn 0 [2,6,153,154,155] [2] [] (λ_ (a:Bool)=>[(190,aF a)]) (λ_ _=>[]) (.inl 164 YI Tryz.func71 [2,6] [] (λ_ (a:Bool)=>aF a) (λ_ _=>[]) (.jn 1 [] [2,6] [] (λ_ (a:Bool)=>[(7,aF a)]) (λ_ _=>[]) (.bI 11 (aI (a1.bA.eH-1)) λx54=>.cl 12 (UX x52.aR1 0 x54) oG aK1 λx55=>.ifs [12] x55 (.ln 17 fI a1.bA.cB<|.bI 18 (aI ((a1.bA.cB.length:Int)-1)) λx56=>.cl 19 (UX x52.Item 0 x56) oG aK1 λx57=>.ifs [19] x57 (.cl 23 (UX 0 0 1) oG aK1 λx58=>.ret x58) (.ret false)) (.ret false)) (λy14_1=>.ret y14_1)) (λy15_1=>.bB 165 (!y15_1) λx59=>.ifs [165] x59 (.ret true) (.inl 172 YI Tryz.func71 [2,6] [] (λ_ (a:Bool)=>aF a) (λ_ _=>[]) (.jn 1 [] [2,6] [] (λ_ (a:Bool)=>[(7,aF a)]) (λ_ _=>[]) (.bI 11 (aI (a1.bA.eH-1)) λx60=>.cl 12 (UX x52.To 0 x60) oG aK1 λx61=>.ifs [12] x61 (.ln 17 fI a1.bA.cB<|.bI 18 (aI ((a1.bA.cB.length:Int)-1)) λx62=>.cl 19 (UX x52.Item 0 x62) oG aK1 λx63=>.ifs [19] x63 (.cl 23 (UX 0 0 1) oG aK1 λx64=>.ret x64) (.ret false)) (.ret false)) (λy16_1=>.ret y16_1)) (λy17_1=>.bB 173 (!y17_1) λx65=>.ifs [173] x65 (.ret true) (.to 180 (aD 1 fI ([x52.aQ,x52.Value]:List Int))<|.cl 181 (a1H n 0 ([x52.aQ,x52.Value]:List Int)) ZF a2G λx66=>.bB 182 (!x66) λx67=>.ifs [182] x67 (.ret true) (.to 187 (aD 1 fI ([x52.bO]:List Int))<|.cl 188 (a1H n (-288230376151711744) ([x52.bO]:List Int)) ZF a2G λx68=>.bB 189 (!x68) λx69=>.ret x69)))))) (λy18_1=>.ifs [190] y18_1 (.esc (.esc (.ret ((false:Bool))))) (.bI 191 (aI (y13_1+1)) λx70=>.brk x70))) (.esc (.brk ())))) (λ_=>.ret ((true:Bool))))))))
def bAZ (n:Nat) (a1:aA):Option (Bool):=(bEH n a1).run
theorem bE4 {n a1}:PZ (bAZ n a1) 39 [.agg (aA.av a1)] aF:=wq Tryz.func39
def bB8 (a1:aA) (a2:Int) (a3:Int):WB (Int×Bool) :=
 .al 1<|.jn 0 [1,2,3,6,7] [1] [] (λ_ (a:Bool)=>[(27,aF a)]) (λ_ _=>[]) (.bB 9 (decide (a2<0)) λx5=>.ifs [9] x5 (.ret true) (.ln 14 aP.av a1.aW<|.bB 15 (decide (a2>=(a1.aW.length:Int))) λx6=>.ifs [15] x6 (.ret true) (.gI 22 aP.av gE aP.bW a1.aW a2 λx7=>.ln 25 fI x7.dU<|.bB 26 (decide (a3>=(x7.dU.length:Int))) λx8=>.ret x8))) (λy0_1=>.ifs [27] y0_1 (.ret ((0:Int),false)) (.gI 31 aP.av gE aP.bW a1.aW a2 λx9=>.ix 35 fI x9.dU a3 λx10=>.ret ((x10:Int),true)))
def a7J (a1:aA) (a2:Int) (a3:Int):Option (Int×Bool):=(bB8 a1 a2 a3).run
theorem a94 {a1 a2 a3}:PZ (a7J a1 a2 a3) 73 [.agg (aA.av a1),int a2,int a3] (λr=>.aU [int r.1,aF r.2]):=wq Tryz.func73
end
end Go.Pv
