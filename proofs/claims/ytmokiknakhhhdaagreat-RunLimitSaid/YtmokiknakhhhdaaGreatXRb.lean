import Derived.Test.YtmokiknakhhhdaaGreatXR
set_option linter.unusedVariables false
set_option linter.unusedSimpArgs false
namespace Go.Pv
open Go.Proofs
set_option maxRecDepth 100000
set_option maxHeartbeats 4000000
noncomputable section
def BG (x7:Int):Nat->Int->cZ->(List (List Int))->Option (cZ×(List (List Int)))
  | 0,_,_,_=>none
  | n+1,y2_2,y2_3,y2_4 =>
    bnd (decide (y2_2<x7)) λx20 =>
    cond x20 (bU (((y2_3.s,y2_3.bad):RS).1.length<=1099511627776)<|
    bU (((y2_3.s,y2_3.bad):RS).2=true->((y2_3.s,y2_3.bad):RS).1=[])<|
    bnd (nV ((y2_3.s,y2_3.bad):RS) 5) λx23 =>
    bnd (oQ ((y2_3.s,y2_3.bad):RS) 5) λx24 =>
    bnd (y2_4++([x23]:List (List Int))) λx25 =>
    bU (x25.length<=68719476736)<|
    bnd (bM (y2_2+1)) λx28 =>
    BG x7 n (x28:Int) ((⟨x24.1,x24.2⟩:cZ):cZ) (x25:List (List Int))) (some ((y2_3:cZ),(y2_4:List (List Int))))
def BP (x7:Int):Nat->Int->cZ->(List (List Int))->Option (cZ×(List (List Int)))
  | 0,_,_,_=>none
  | n+1,y5_2,y5_3,y5_4 =>
    bnd (decide (y5_2<x7)) λx32 =>
    cond x32 (bU (((y5_3.s,y5_3.bad):RS).1.length<=1099511627776)<|
    bU (((y5_3.s,y5_3.bad):RS).2=true->((y5_3.s,y5_3.bad):RS).1=[])<|
    bnd (nV ((y5_3.s,y5_3.bad):RS) 5) λx35 =>
    bnd (oQ ((y5_3.s,y5_3.bad):RS) 5) λx36 =>
    bnd (y5_4++([x35]:List (List Int))) λx37 =>
    bU (x37.length<=68719476736)<|
    bnd (bM (y5_2+1)) λx40 =>
    BP x7 n (x40:Int) ((⟨x36.1,x36.2⟩:cZ):cZ) (x37:List (List Int))) (some ((y5_3:cZ),(y5_4:List (List Int))))
def B9 (n:Nat) (a1:List UInt8):Option (eU×Int) :=
(show Option ((Unit)) from
some ()).bind <| λ_ =>
bU (((a1,false):RS).1.length<=9223372036854775806)<|
bnd (dU ((a1,false):RS) 4) λx7 =>
bnd (dW ((a1,false):RS) 4) λx8 =>
bU (x8.1.length<=9223372036854775806)<|
bnd (dU x8 12) λx10 =>
bnd (dW x8 12) λx11 =>
bU (x11.1.length<=1099511627776)<|
bU (x11.2=true->x11.1=[])<|
bnd (nV x11 5) λx14 =>
bnd (oQ x11 5) λx15 =>
(show Option ((cZ×(List (List Int)))) from
(show Option (cZ×(List (List Int))) from
BG x7 n (0:Int) ((⟨x15.1,x15.2⟩:cZ):cZ) (([]:List (List Int)):List (List Int))).bind <| p2 λ(y3_2:cZ) (y3_3:List (List Int)) =>
some ((y3_2:cZ),(y3_3:List (List Int)))).bind <| p2 λ(y4_2:cZ) (y4_3:List (List Int)) =>
(show Option ((cZ×(List (List Int)))) from
(show Option (cZ×(List (List Int))) from
BP x7 n (0:Int) (y4_2:cZ) (([]:List (List Int)):List (List Int))).bind <| p2 λ(y6_2:cZ) (y6_3:List (List Int)) =>
some ((y6_2:cZ),(y6_3:List (List Int)))).bind <| p2 λ(y7_2:cZ) (y7_3:List (List Int)) =>
(show Option (Bool) from
bnd (((y7_2.s,y7_2.bad):RS).2) λx42 =>
cond x42 (some (true:Bool)) (bnd (decide ((((y7_2.s,y7_2.bad):RS).1.length:Int)>0)) λx43 =>
cond x43 (some (true:Bool)) ((CO n (⟨x7,x10,x14,y4_3,y7_3⟩:eU)).bind λx44 =>
bnd (!x44) λx45 =>
some (x45:Bool)))).bind <| λy8_1 =>
cond y8_1 (some (((⟨0,0,[],[],[]⟩:eU):eU),(3:Int))) (some (((⟨x7,x10,x14,y4_3,y7_3⟩:eU):eU),(0:Int)))
theorem aAY {n:Nat} {a1:List UInt8} {r:eU×Int} (h0:B9 n a1=some r):PP Tryz.prog 16 [str a1] (λy=>y=.aS [.agg (eU.av r.1),int r.2]):=by
  unfold B9 at h0
  refine kE (R0:=λy H=>Cv (iN H) y (.aS [.agg (eU.av r.1),int r.2])) ?_ (λy H hc=>⟨_,rfl,.aS (BH ((λ(a:eU)=>PV.agg (eU.eH a)) (r.1)) (qI (r.2))),hc⟩)
  refine dD (c:=_) Tryz.func16 rfl rfl ?_;intro Q hret hnorm
  refine tc aA 2 (.mk ?_)
  refine sA 1 z26 λv2=>?_
  refine tr aA 5 (.mk ?_)
  obtain ⟨j3,h1,h0⟩:=bJ h0
  refine bL (Out:=λy H'=>(∃ (a:Unit) (k:Nat),a=j3/\y=.pt 2 k 0 0/\H'=hk [(1,⟨26,5,true,true,v2,[[int 0,int 0,.sc (.slice none 0 0),.sc (.slice none 0 0),.sc (.slice none 0 0)]]⟩),(2,⟨131,2,true,true,k,[[str a1,aB false]]⟩)])) rfl rfl rfl (aN rfl rfl (.cons rfl .nil) VE ?_) ?_
  refine dD (c:=_) Tryz.func32 rfl rfl ?_;intro Q hret hnorm
  refine tc aA 8 (.mk ?_)
  refine sB 2 λv4=>?_
  refine tr aA 2 (.mk ?_)
  obtain rfl:=bE h1
  refine dM (hret _ _ (hk [(1,⟨26,5,true,true,v2,[[int 0,int 0,.sc (.slice none 0 0),.sc (.slice none 0 0),.sc (.slice none 0 0)]]⟩),(2,⟨131,2,true,true,v4,[[str a1,aB false]]⟩)]) (.tmp rfl .nil) (HK.le ⟨rfl,rfl,trivial⟩) ?_)
  exact ⟨(),v4,rfl,rfl,rfl⟩
  rintro y _ ⟨_,w1_1,rfl,hc,rfl⟩
  subst hc
  refine sA 3 YX λv5=>?_
  refine sS ⟨81,1,true,true,v5,[[.pt 2 w1_1 0 0]]⟩ xI ?_
  refine tr aA 2 (.mk ?_)
  refine AQ [0,1,0,7,0,31,63,0,255] (λi k=>bif Nat.beq i 0 then (Nat.beq k 3) else bif Nat.beq i 1 then (Nat.beq k 2) else bif Nat.beq i 2 then (Nat.beq k 3) else bif Nat.beq i 3 then (Nat.beq k 2) else bif Nat.beq i 4 then (Nat.beq k 3) else bif Nat.beq i 5 then (Nat.beq k 2 || Nat.beq k 34002 || Nat.beq k 34005) else bif Nat.beq i 8 then (Nat.beq k 4) else false) (λi=>bif Nat.beq i 1 then (some 2) else bif Nat.beq i 3 then (some 2) else bif Nat.beq i 5 then (some 2) else bif Nat.beq i 7 then (some 4) else bif Nat.beq i 8 then (some 4) else none) mixed (by kernel_rfl) ?_;intro C K hK
  refine iH rfl (λH hH=>eT rfl xI rfl (.pt ((hH _ rfl).trans rfl) rfl rfl) rfl) ?_
  obtain ⟨p6,h0⟩:=cO h0
  obtain ⟨x7,e7,h0⟩:=aP h0
  obtain ⟨x8,e8,h0⟩:=aP h0
  refine oN rfl rfl (λH hH=>(IZ (ob:=dI 131 w1_1 ((a1,false):RS)) (ob':=dI 131 w1_1 x8) rfl rfl (.cons rfl (.cons rfl .nil)) B5 (PC.mono (CJ (most:=4) (s:=((a1,false):RS)) (id:=2) (aD:=w1_1) ((hH _ rfl).trans rfl) p6) (R':=λy H'=>y=int x7/\H'=upd H 2 (some (dI 131 w1_1 x8))) (λy H' h=>⟨h.1.trans (congrArg int e7),h.2.trans (d9 e8)⟩)) (.sc _) ((hH _ rfl).trans rfl) rfl KB).fA (λ_ h=>h.elim) (λ_ h=>h.elim)) ?_
  refine iH rfl (λH hH=>eT rfl xI rfl (.pt ((hH _ rfl).trans rfl) rfl rfl) rfl) ?_
  obtain ⟨p9,h0⟩:=cO h0
  obtain ⟨x10,e10,h0⟩:=aP h0
  obtain ⟨x11,e11,h0⟩:=aP h0
  refine oN rfl rfl (λH hH=>(IZ (ob:=dI 131 w1_1 x8) (ob':=dI 131 w1_1 x11) rfl rfl (.cons rfl (.cons rfl .nil)) B5 (PC.mono (CJ (most:=12) (s:=x8) (id:=2) (aD:=w1_1) ((hH _ rfl).trans rfl) p9) (R':=λy H'=>y=int x10/\H'=upd H 2 (some (dI 131 w1_1 x11))) (λy H' h=>⟨h.1.trans (congrArg int e10),h.2.trans (d9 e11)⟩)) (.sc _) ((hH _ rfl).trans rfl) rfl KB).fA (λ_ h=>h.elim) (λ_ h=>h.elim)) ?_
  refine iH rfl (λH hH=>eT rfl xI rfl (.pt ((hH _ rfl).trans rfl) rfl rfl) rfl) ?_
  obtain ⟨p12,h0⟩:=cO h0
  obtain ⟨p13,h0⟩:=cO h0
  obtain ⟨x14,e14,h0⟩:=aP h0
  obtain ⟨x15,e15,h0⟩:=aP h0
  refine oN rfl rfl (λH hH=>(IZ (ob:=dI 131 w1_1 x11) (ob':=dI 131 w1_1 x15) rfl rfl (.cons rfl (.cons rfl .nil)) G7 (PC.mono (FZ (most:=5) (s:=x11) (id:=2) (aD:=w1_1) ((hH _ rfl).trans rfl) p12 p13 ((hH _ rfl).trans rfl) ((hH _ rfl).trans rfl)) (R':=λy H'=>y=ints x14/\H'=upd H 2 (some (dI 131 w1_1 x15))) (λy H' h=>⟨h.1.trans (congrArg ints e14),h.2.trans (d9 e15)⟩)) (aFO _) ((hH _ rfl).trans rfl) rfl KB).fA (λ_ h=>h.elim) (λ_ h=>h.elim)) ?_
  refine iH rfl (λH hH=>yC (cs:=[int x7,int x10,aG 1 fI x14,.sc (.slice none 0 0),.sc (.slice none 0 0)]) (ps:=[(0,_),(1,_),(2,_)]) rfl aM4 z26 rfl (.cons rfl (.cons rfl (.cons rfl .nil))) (by kernel_rfl)) ?_
  refine oN rfl rfl (λH hH=>MQ 4 rfl z26 rfl) ?_;generalize C+7=v16
  refine TI rfl rfl rfl (λH hH=>gM (ob':=(⟨26,5,true,true,v16,[[int x7,int x10,aG 1 fI x14,.sc (.slice none 0 0),.sc (.slice none 0 0)]]⟩:bA)) (dZ rfl zU rfl rfl ((hH _ rfl).trans rfl) rfl rfl rfl rfl rfl rfl) rfl) ?_
  refine zY (hK _ ?_)
  refine tc aA 8 (.mk ?_)
  obtain ⟨j17,h1,h0⟩:=bJ h0
  refine bL (Out:=λy H'=>(∃ (a:cZ×(List (List Int))) (k:Nat),a=j17/\y=.sl 6 k 0 a.2.length/\H'=hk [(1,⟨26,5,true,true,v2,[[int 0,int 0,.sc (.slice none 0 0),.sc (.slice none 0 0),.sc (.slice none 0 0)]]⟩),(2,⟨131,2,true,true,w1_1,[[str a.1.s,aB a.1.bad]]⟩),(3,⟨81,1,true,true,v5,[[.pt 2 w1_1 0 0]]⟩),(4,⟨26,5,true,true,v16,[[int x7,int x10,aG 1 fI x14,.sc (.slice none 0 0),.sc (.slice none 0 0)]]⟩),(6,⟨23,1,true,true,k,a.2.map (fL 1 fI)⟩)])) rfl rfl rfl (aN rfl rfl .nil YC ?_) ?_
  refine dD (c:=_) Tryz.func35 rfl rfl ?_;intro Q hret hnorm
  refine tc aA 15 (.mk ?_)
  refine jn h1 [2] [1,3,4] (λ(a:cZ×(List (List Int))) (k:Nat)=>[(3,.sl 6 k 0 a.2.length)]) (λa k=>[(2,⟨131,2,true,true,w1_1,[[str a.1.s,aB a.1.bad]]⟩),(6,⟨23,1,true,true,k,a.2.map (fL 1 fI)⟩)]) ⟨λj18 h2=>?_,?_⟩
  refine tc aA 1 (.mk ?_)
  refine tJ 3 6 23 1 rfl rfl ?_;intro v19
  refine lp (λn (a:Int×cZ×(List (List Int)))=>BG x7 n a.1 a.2.1 a.2.2) ((0:Int),((⟨x15.1,x15.2⟩:cZ):cZ),(([]:List (List Int)):List (List Int))) v19 h2 [1,2,5] [1,3,4] (λ(a:Int×cZ×(List (List Int))) (k:Nat)=>[(3,.sl 6 k 0 a.2.2.length),(6,int a.1)]) (λa k=>[(2,⟨131,2,true,true,w1_1,[[str a.2.1.s,aB a.2.1.bad]]⟩),(6,⟨23,1,true,true,k,a.2.2.map (fL 1 fI)⟩)]) (λ_=>rfl) ⟨aW,?_⟩
  rintro n ⟨y2_2,y2_3,y2_4⟩ w2_1 hm h2
  replace h2:BG x7 (n+1) y2_2 y2_3 y2_4=some _:=h2
  rw [BG] at h2
  refine tc aA 2 (.mk ?_)
  refine nb aA h2 λx20 h2=>?_
  refine tr aA 2 (.mk ?_)
  cases x20
  replace h2:=cf h2
  refine tc aA 2 (.mk ?_)
  exact lf h2 w2_1 aW
  replace h2:=ct h2
  refine tc aA 7 (.mk ?_)
  obtain ⟨p21,h2⟩:=cO h2
  obtain ⟨p22,h2⟩:=cO h2
  obtain ⟨x23,e23,h2⟩:=aP h2
  obtain ⟨x24,e24,h2⟩:=aP h2
  refine bL rfl rfl rfl (aN rfl rfl (.cons rfl (.cons rfl .nil)) G7 (PC.mono (FZ (most:=5) (s:=((y2_3.s,y2_3.bad):RS)) (id:=2) (aD:=w1_1) rfl p21 p22 rfl rfl) (R':=λy H'=>y=ints x23/\H'=upd _ 2 (some (dI 131 w1_1 x24))) (λy H' h=>⟨h.1.trans (congrArg ints e23),h.2.trans (d9 e24)⟩))) ?_;rintro _ _ ⟨rfl,rfl⟩
  refine sY (aH (y:=aG 1 (fL 1 fI) ([x23]:List (List Int))) (dQ (ps:=[(0,_)]) (rows:=[[aG 1 fI x23]]) rfl Tryz.underlying24 oZ (.cons rfl .nil) (by kernel_rfl) rfl rfl rfl) rfl) ?_
  obtain ⟨x25,e25,h2⟩:=aP h2
  obtain ⟨p26,h2⟩:=cO h2
  refine bL rfl rfl rfl (iB (g:=(fL 1 fI)) (l:=y2_4) (m:=([x23]:List (List Int))) .any rfl Tryz.underlying24 oZ wE rfl rfl rfl rfl rfl rfl rfl rfl rfl rfl (Eq.symm rfl) (.refl _) (λ_=>rfl) e25 p26) ?_;rintro _ _ ⟨v27,-,rfl,rfl⟩
  refine tr aA 4 (.mk ?_)
  refine ni aA h2 λx28 h2=>?_
  refine tr aA 2 (.mk ?_)
  exact bk (x28,(⟨x24.1,x24.2⟩:cZ),x25) v27 h2 aW
  rintro ⟨y3_2,y3_3⟩ w3_1 h1
  replace h1:=pG h1
  refine tc aA 5 (.mk ?_)
  obtain rfl:=bE h1
  refine dM (hret _ _ (hk [(1,⟨26,5,true,true,v2,[[int 0,int 0,.sc (.slice none 0 0),.sc (.slice none 0 0),.sc (.slice none 0 0)]]⟩),(2,⟨131,2,true,true,w1_1,[[str y3_2.s,aB y3_2.bad]]⟩),(3,⟨81,1,true,true,v5,[[.pt 2 w1_1 0 0]]⟩),(4,⟨26,5,true,true,v16,[[int x7,int x10,aG 1 fI x14,.sc (.slice none 0 0),.sc (.slice none 0 0)]]⟩),(6,⟨23,1,true,true,w3_1,y3_3.map (fL 1 fI)⟩)]) (.tmp rfl .nil) (HK.le ⟨rfl,rfl,rfl,rfl,rfl,trivial⟩) ?_)
  exact ⟨(y3_2,y3_3),w3_1,rfl,rfl,rfl⟩
  rintro y _ ⟨⟨y4_2,y4_3⟩,w4_1,rfl,hc,rfl⟩
  replace h0:=pG h0
  subst hc
  refine tr aA 1 (.mk ?_)
  refine sS ⟨26,5,true,true,v16,[[int x7,int x10,aG 1 fI x14,.sl 6 w4_1 0 y4_3.length,.sc (.slice none 0 0)]]⟩ yT ?_
  refine tr aA 4 (.mk ?_)
  obtain ⟨j29,h1,h0⟩:=bJ h0
  refine bL (Out:=λy H'=>(∃ (a:cZ×(List (List Int))) (k:Nat),a=j29/\y=.sl 8 k 0 a.2.length/\H'=hk [(1,⟨26,5,true,true,v2,[[int 0,int 0,.sc (.slice none 0 0),.sc (.slice none 0 0),.sc (.slice none 0 0)]]⟩),(2,⟨131,2,true,true,w1_1,[[str a.1.s,aB a.1.bad]]⟩),(3,⟨81,1,true,true,v5,[[.pt 2 w1_1 0 0]]⟩),(4,⟨26,5,true,true,v16,[[int x7,int x10,aG 1 fI x14,.sl 6 w4_1 0 y4_3.length,.sc (.slice none 0 0)]]⟩),(6,⟨23,1,true,true,w4_1,y4_3.map (fL 1 fI)⟩),(8,⟨23,1,true,true,k,a.2.map (fL 1 fI)⟩)])) rfl rfl rfl (aN rfl rfl .nil YC ?_) ?_
  refine dD (c:=_) Tryz.func35 rfl rfl ?_;intro Q hret hnorm
  refine tc aA 15 (.mk ?_)
  refine jn h1 [2] [1,3,4,6] (λ(a:cZ×(List (List Int))) (k:Nat)=>[(3,.sl 8 k 0 a.2.length)]) (λa k=>[(2,⟨131,2,true,true,w1_1,[[str a.1.s,aB a.1.bad]]⟩),(8,⟨23,1,true,true,k,a.2.map (fL 1 fI)⟩)]) ⟨λj30 h2=>?_,?_⟩
  refine tc aA 1 (.mk ?_)
  refine tJ 3 8 23 1 rfl rfl ?_;intro v31
  refine lp (λn (a:Int×cZ×(List (List Int)))=>BP x7 n a.1 a.2.1 a.2.2) ((0:Int),(y4_2:cZ),(([]:List (List Int)):List (List Int))) v31 h2 [1,2,5] [1,3,4,6] (λ(a:Int×cZ×(List (List Int))) (k:Nat)=>[(3,.sl 8 k 0 a.2.2.length),(6,int a.1)]) (λa k=>[(2,⟨131,2,true,true,w1_1,[[str a.2.1.s,aB a.2.1.bad]]⟩),(8,⟨23,1,true,true,k,a.2.2.map (fL 1 fI)⟩)]) (λ_=>rfl) ⟨aW,?_⟩
  rintro n ⟨y5_2,y5_3,y5_4⟩ w5_1 hm h2
  replace h2:BP x7 (n+1) y5_2 y5_3 y5_4=some _:=h2
  rw [BP] at h2
  refine tc aA 2 (.mk ?_)
  refine nb aA h2 λx32 h2=>?_
  refine tr aA 2 (.mk ?_)
  cases x32
  replace h2:=cf h2
  refine tc aA 2 (.mk ?_)
  exact lf h2 w5_1 aW
  replace h2:=ct h2
  refine tc aA 7 (.mk ?_)
  obtain ⟨p33,h2⟩:=cO h2
  obtain ⟨p34,h2⟩:=cO h2
  obtain ⟨x35,e35,h2⟩:=aP h2
  obtain ⟨x36,e36,h2⟩:=aP h2
  refine bL rfl rfl rfl (aN rfl rfl (.cons rfl (.cons rfl .nil)) G7 (PC.mono (FZ (most:=5) (s:=((y5_3.s,y5_3.bad):RS)) (id:=2) (aD:=w1_1) rfl p33 p34 rfl rfl) (R':=λy H'=>y=ints x35/\H'=upd _ 2 (some (dI 131 w1_1 x36))) (λy H' h=>⟨h.1.trans (congrArg ints e35),h.2.trans (d9 e36)⟩))) ?_;rintro _ _ ⟨rfl,rfl⟩
  refine sY (aH (y:=aG 1 (fL 1 fI) ([x35]:List (List Int))) (dQ (ps:=[(0,_)]) (rows:=[[aG 1 fI x35]]) rfl Tryz.underlying24 oZ (.cons rfl .nil) (by kernel_rfl) rfl rfl rfl) rfl) ?_
  obtain ⟨x37,e37,h2⟩:=aP h2
  obtain ⟨p38,h2⟩:=cO h2
  refine bL rfl rfl rfl (iB (g:=(fL 1 fI)) (l:=y5_4) (m:=([x35]:List (List Int))) .any rfl Tryz.underlying24 oZ wE rfl rfl rfl rfl rfl rfl rfl rfl rfl rfl (Eq.symm rfl) (.refl _) (λ_=>rfl) e37 p38) ?_;rintro _ _ ⟨v39,-,rfl,rfl⟩
  refine tr aA 4 (.mk ?_)
  refine ni aA h2 λx40 h2=>?_
  refine tr aA 2 (.mk ?_)
  exact bk (x40,(⟨x36.1,x36.2⟩:cZ),x37) v39 h2 aW
  rintro ⟨y6_2,y6_3⟩ w6_1 h1
  replace h1:=pG h1
  refine tc aA 5 (.mk ?_)
  obtain rfl:=bE h1
  refine dM (hret _ _ (hk [(1,⟨26,5,true,true,v2,[[int 0,int 0,.sc (.slice none 0 0),.sc (.slice none 0 0),.sc (.slice none 0 0)]]⟩),(2,⟨131,2,true,true,w1_1,[[str y6_2.s,aB y6_2.bad]]⟩),(3,⟨81,1,true,true,v5,[[.pt 2 w1_1 0 0]]⟩),(4,⟨26,5,true,true,v16,[[int x7,int x10,aG 1 fI x14,.sl 6 w4_1 0 y4_3.length,.sc (.slice none 0 0)]]⟩),(6,⟨23,1,true,true,w4_1,y4_3.map (fL 1 fI)⟩),(8,⟨23,1,true,true,w6_1,y6_3.map (fL 1 fI)⟩)]) (.tmp rfl .nil) (HK.le ⟨rfl,rfl,rfl,rfl,rfl,rfl,trivial⟩) ?_)
  exact ⟨(y6_2,y6_3),w6_1,rfl,rfl,rfl⟩
  rintro y _ ⟨⟨y7_2,y7_3⟩,w7_1,rfl,hc,rfl⟩
  replace h0:=pG h0
  subst hc
  refine tr aA 1 (.mk ?_)
  refine sS ⟨26,5,true,true,v16,[[int x7,int x10,aG 1 fI x14,.sl 6 w4_1 0 y4_3.length,.sl 8 w7_1 0 y7_3.length]]⟩ yT ?_
  refine tr aA 3 (.mk ?_)
  refine jn h0 [2,3,5] [1,4,6,8] (λ(a:Bool) (k:Unit)=>[(34,aB a)]) (λa k=>[]) ⟨λj41 h1=>?_,?_⟩
  refine tc aA 2 (.mk ?_)
  refine sY (lV rfl rfl (.cons rfl .nil) mM (mF (s:=((y7_2.s,y7_2.bad):RS)) (id:=2) (aD:=w1_1) rfl) (.sc _)) ?_
  refine tr aA 1 (.mk ?_)
  obtain ⟨x42,e42,h1⟩:=aP h1
  refine gX 24 (aB x42) rfl (congrArg aB e42) ?_
  refine gX 25 (aB x42) rfl (congrArg aB e42) ?_
  cases x42
  replace h1:=cf h1
  refine tr aA 1 (.mk ?_)
  refine sY (lV rfl rfl (.cons rfl .nil) W9 (PR (s:=((y7_2.s,y7_2.bad):RS)) (id:=2) (aD:=w1_1) rfl) (.sc _)) ?_
  refine nb aA h1 λx43 h1=>?_
  refine tr aA 2 (.mk ?_)
  cases x43
  replace h1:=cf h1
  refine tr aA 1 (.mk ?_)
  obtain ⟨x44,e44,h1⟩:=bJ h1
  refine sY (VF (v:=aB x44) rfl rfl (.cons rfl .nil) FE (.cons (bO.agg (.cons (.refl _) (.cons (.refl _) (.cons (.refl _) (.cons (gJ rfl rfl rfl rfl rfl (Eq.symm rfl)) (.cons (gJ rfl rfl rfl rfl rfl (Eq.symm rfl)) .nil)))))) .nil) (DT _ e44) rfl) ?_
  refine nb aA h1 λx45 h1=>?_
  refine tr aA 2 (.mk ?_)
  exact lf h1 () aW
  replace h1:=ct h1
  refine tr aA 5 (.mk ?_)
  exact lf h1 () aW
  replace h1:=ct h1
  refine tr aA 10 (.mk ?_)
  exact lf h1 () aW
  rintro y8_1 _ h0
  cases y8_1
  replace h0:=cf h0
  refine tc aA 5 (.mk ?_)
  refine sS ⟨26,5,true,true,v2,[[int x7,int x10,aG 1 fI x14,.sl 6 w4_1 0 y4_3.length,.sl 8 w7_1 0 y7_3.length]]⟩ zU ?_
  refine tr aA 2 (.mk ?_)
  obtain rfl:=bE h0
  refine wR hret (rC zU (rT .nil)) ?_
  exact bO.aS (.cons (bO.agg (.cons (.refl _) (.cons (.refl _) (.cons (.refl _) (.cons (gJ rfl rfl rfl rfl rfl (Eq.symm rfl)) (.cons (gJ rfl rfl rfl rfl rfl (Eq.symm rfl)) .nil)))))) (.cons (.refl _) .nil))
  replace h0:=ct h0
  refine tc aA 4 (.mk ?_)
  refine sS ⟨26,5,true,true,v2,[[int 0,int 0,.sc (.slice none 0 0),.sc (.slice none 0 0),.sc (.slice none 0 0)]]⟩ zU ?_
  refine tr aA 2 (.mk ?_)
  obtain rfl:=bE h0
  refine wR hret (rC zU (rT .nil)) ?_
  exact bO.aS (.cons (bO.agg (.cons (.refl _) (.cons (.refl _) (.cons (.nil _) (.cons (.nil _) (.cons (.nil _) .nil)))))) (.cons (.refl _) .nil))
def KP :Option (oW) :=
some (((⟨([]:List UInt8),([69,73,76,81,65]:List UInt8),([81,65,82]:List UInt8),([81,82]:List UInt8),([69,73,76,81,65]:List UInt8),([81,65,82]:List UInt8),([69,73,76,81]:List UInt8),([69,73,76,81]:List UInt8),([69,73,76,84,81]:List UInt8),([69,73,65]:List UInt8),([69,73,65]:List UInt8),([84,65,83]:List UInt8),([69,73,76,84,81,65]:List UInt8),([76,81,82]:List UInt8),([69]:List UInt8),([69]:List UInt8),([69]:List UInt8)⟩:oW):oW))
theorem VO  {r:oW} (h0:KP =some r):PP Tryz.prog 38 [] (λy=>y=.agg (oW.av r)):=by
  unfold KP at h0
  refine kE (R0:=λy H=>Cv (iN H) y (.agg (oW.av r))) ?_ (λy H hc=>⟨_,rfl,(λ(a:oW)=>PV.agg (oW.eH a)) r,hc⟩)
  refine dD (c:=_) Tryz.func38 rfl rfl ?_;intro Q hret hnorm
  refine tc aA 2 (.mk ?_)
  refine sA 1 Y0 λv1=>?_
  refine tr aA 3 (.mk ?_)
  refine sY (WI (cs:=[str ([]:List UInt8),str ([69,73,76,81,65]:List UInt8),str ([81,65,82]:List UInt8),str ([81,82]:List UInt8),str ([69,73,76,81,65]:List UInt8),str ([81,65,82]:List UInt8),str ([69,73,76,81]:List UInt8),str ([69,73,76,81]:List UInt8),str ([69,73,76,84,81]:List UInt8),str ([69,73,65]:List UInt8),str ([69,73,65]:List UInt8),str ([84,65,83]:List UInt8),str ([69,73,76,84,81,65]:List UInt8),str ([76,81,82]:List UInt8),str ([69]:List UInt8),str ([69]:List UInt8),str ([69]:List UInt8)]) (ps:=[(1,_),(2,_),(3,_),(4,_),(5,_),(6,_),(7,_),(8,_),(9,_),(10,_),(11,_),(12,_),(13,_),(14,_),(15,_),(16,_)]) rfl Tryz.underlying88 mJ Y0 rfl (.cons rfl (.cons rfl (.cons rfl (.cons rfl (.cons rfl (.cons rfl (.cons rfl (.cons rfl (.cons rfl (.cons rfl (.cons rfl (.cons rfl (.cons rfl (.cons rfl (.cons rfl (.cons rfl .nil)))))))))))))))) (by kernel_rfl)) ?_
  refine sS ⟨88,17,true,true,v1,[[str ([]:List UInt8),str ([69,73,76,81,65]:List UInt8),str ([81,65,82]:List UInt8),str ([81,82]:List UInt8),str ([69,73,76,81,65]:List UInt8),str ([81,65,82]:List UInt8),str ([69,73,76,81]:List UInt8),str ([69,73,76,81]:List UInt8),str ([69,73,76,84,81]:List UInt8),str ([69,73,65]:List UInt8),str ([69,73,65]:List UInt8),str ([84,65,83]:List UInt8),str ([69,73,76,84,81,65]:List UInt8),str ([76,81,82]:List UInt8),str ([69]:List UInt8),str ([69]:List UInt8),str ([69]:List UInt8)]]⟩ TU ?_
  refine tr aA 1 (.mk ?_)
  obtain rfl:=bE h0
  refine wR hret (rC TU .nil) ?_
  exact .refl _
theorem nK:PP Tryz.prog 38 [] (λy=>y=.agg [str ([]:List UInt8),str ([69,73,76,81,65]:List UInt8),str ([81,65,82]:List UInt8),str ([81,82]:List UInt8),str ([69,73,76,81,65]:List UInt8),str ([81,65,82]:List UInt8),str ([69,73,76,81]:List UInt8),str ([69,73,76,81]:List UInt8),str ([69,73,76,84,81]:List UInt8),str ([69,73,65]:List UInt8),str ([69,73,65]:List UInt8),str ([84,65,83]:List UInt8),str ([69,73,76,84,81,65]:List UInt8),str ([76,81,82]:List UInt8),str ([69]:List UInt8),str ([69]:List UInt8),str ([69]:List UInt8)]):=VO (r:=(⟨([]:List UInt8),([69,73,76,81,65]:List UInt8),([81,65,82]:List UInt8),([81,82]:List UInt8),([69,73,76,81,65]:List UInt8),([81,65,82]:List UInt8),([69,73,76,81]:List UInt8),([69,73,76,81]:List UInt8),([69,73,76,84,81]:List UInt8),([69,73,65]:List UInt8),([69,73,65]:List UInt8),([84,65,83]:List UInt8),([69,73,76,84,81,65]:List UInt8),([76,81,82]:List UInt8),([69]:List UInt8),([69]:List UInt8),([69]:List UInt8)⟩:oW)) rfl
def MV (a1:List UInt8) (a2:Int):Option (Int) :=
bnd (AU a1 a2) λx3 =>
some ((x3:Int))
theorem aI3 {a1:List UInt8} {a2:Int} {r:Int} (h0:MV a1 a2=some r):PP Tryz.prog 211 [str a1,.sc (.int .u8 a2)] (λy=>y=int r):=by
  unfold MV at h0
  refine kE (R0:=λy H=>Cv (iN H) y (int r)) ?_ (λy H hc=>⟨_,rfl,qI r,hc⟩)
  refine dD (c:=_) Tryz.func211 rfl rfl ?_;intro Q hret hnorm
  refine tc aA 8 (.mk ?_)
  obtain ⟨x3,e3,h0⟩:=aP h0
  refine sY (aH (y:=int x3) (aOF rfl Tryz.func249 rfl rfl ibx iby rfl rfl) (congrArg int e3)) ?_
  refine tr aA 2 (.mk ?_)
  obtain rfl:=bE h0
  refine wR hret (rT .nil) ?_
  exact .refl _
def uL (a1:List UInt8) (a2:Int):Option (Int) :=
(MV a1 a2).bind λx3 =>
some ((x3:Int))
theorem wC {a1:List UInt8} {a2:Int} {r:Int} (h0:uL a1 a2=some r):PP Tryz.prog 164 [str a1,.sc (.int .u8 a2)] (λy=>y=int r):=by
  unfold uL at h0
  refine kE (R0:=λy H=>Cv (iN H) y (int r)) ?_ (λy H hc=>⟨_,rfl,qI r,hc⟩)
  refine dD (c:=_) Tryz.func164 rfl rfl ?_;intro Q hret hnorm
  refine tc aA 8 (.mk ?_)
  obtain ⟨x3,e3,h0⟩:=bJ h0
  refine sC aIK (aI3 e3) ?_
  refine tr aA 2 (.mk ?_)
  obtain rfl:=bE h0
  refine wR hret (rT .nil) ?_
  exact .refl _
def tL (a1:Int) (a2:Int):Option (Int×Int) :=
bnd (decide (a2=69)) λx3 =>
cond x3 (some ((0:Int),(3:Int))) (bnd (decide (a2=73)) λx4 =>
cond x4 (some ((0:Int),(4:Int))) (bnd (decide (a2=76)) λx5 =>
cond x5 (some ((0:Int),(1:Int))) (bnd (decide (a2=84)) λx6 =>
cond x6 (some ((0:Int),((sQ [(8,1),(12,3),(11,2)] a1):Int))) (bnd (decide (a2=81)) λx7 =>
cond x7 (bnd (decide (a1=7)) λx12 =>
cond x12 (some ((0:Int),(1073741824:Int))) (some ((1:Int),(1073741824:Int)))) (bnd (decide (a2=65)) λx8 =>
cond x8 ((show Option (Bool) from
bnd (decide (a1=9)) λx10 =>
cond x10 (some (true:Bool)) (bnd (decide (a1=10)) λx11 =>
some (x11:Bool))).bind <| λy0_1 =>
cond y0_1 (some ((0:Int),(1073741824:Int))) (some ((0:Int),(1125899906842624:Int)))) (some ((0:Int),(39:Int))))))))
theorem wS {a1:Int} {a2:Int} {r:Int×Int} (h0:tL a1 a2=some r):PP Tryz.prog 71 [int a1,.sc (.int .i32 a2)] (λy=>y=.aS [int r.1,int r.2]):=by
  unfold tL at h0
  refine kE (R0:=λy H=>Cv (iN H) y (.aS [int r.1,int r.2])) ?_ (λy H hc=>⟨_,rfl,.aS (BH (qI (r.1)) (qI (r.2))),hc⟩)
  refine dD (c:=_) Tryz.func71 rfl rfl ?_;intro Q hret hnorm
  refine tc aA 13 (.mk ?_)
  refine nb aA h0 λx3 h0=>?_
  refine tr aA 2 (.mk ?_)
  cases x3
  replace h0:=cf h0
  refine tc aA 3 (.mk ?_)
  refine nb aA h0 λx4 h0=>?_
  refine tr aA 2 (.mk ?_)
  cases x4
  replace h0:=cf h0
  refine tc aA 3 (.mk ?_)
  refine nb aA h0 λx5 h0=>?_
  refine tr aA 2 (.mk ?_)
  cases x5
  replace h0:=cf h0
  refine tc aA 3 (.mk ?_)
  refine nb aA h0 λx6 h0=>?_
  refine tr aA 2 (.mk ?_)
  cases x6
  replace h0:=cf h0
  refine tc aA 3 (.mk ?_)
  refine nb aA h0 λx7 h0=>?_
  refine tr aA 2 (.mk ?_)
  cases x7
  replace h0:=cf h0
  refine tc aA 3 (.mk ?_)
  refine nb aA h0 λx8 h0=>?_
  refine tr aA 2 (.mk ?_)
  cases x8
  replace h0:=cf h0
  refine tc aA 8 (.mk ?_)
  obtain rfl:=bE h0
  refine wR hret (rT (rT .nil)) ?_
  exact .refl _
  replace h0:=ct h0
  refine tc aA 3 (.mk ?_)
  refine jn h0 [4,5] [] (λ(a:Bool) (k:Unit)=>[(30,aB a)]) (λa k=>[]) ⟨λj9 h1=>?_,?_⟩
  refine tc aA 2 (.mk ?_)
  refine nb aA h1 λx10 h1=>?_
  refine tr aA 1 (.mk ?_)
  cases x10
  replace h1:=cf h1
  refine tr aA 1 (.mk ?_)
  refine nb aA h1 λx11 h1=>?_
  refine tr aA 2 (.mk ?_)
  exact lf h1 () aW
  replace h1:=ct h1
  refine tr aA 4 (.mk ?_)
  exact lf h1 () aW
  rintro y0_1 _ h0
  cases y0_1
  replace h0:=cf h0
  refine tc aA 7 (.mk ?_)
  obtain rfl:=bE h0
  refine wR hret (rT (rT .nil)) ?_
  exact .refl _
  replace h0:=ct h0
  refine tc aA 6 (.mk ?_)
  obtain rfl:=bE h0
  refine wR hret (rT (rT .nil)) ?_
  exact .refl _
  replace h0:=ct h0
  refine tc aA 5 (.mk ?_)
  refine nb aA h0 λx12 h0=>?_
  refine tr aA 1 (.mk ?_)
  cases x12
  replace h0:=cf h0
  refine tc aA 7 (.mk ?_)
  obtain rfl:=bE h0
  refine wR hret (rT (rT .nil)) ?_
  exact .refl _
  replace h0:=ct h0
  refine tc aA 6 (.mk ?_)
  obtain rfl:=bE h0
  refine wR hret (rT (rT .nil)) ?_
  exact .refl _
  replace h0:=ct h0
  refine tc aA 2 (.mk ?_)
  refine aJI [some (15,none),none,none,none,some (16,none),some (17,some (int a1)),some (18,some (int (sQ [(8,1),(12,3),(11,2)] a1))),some (4,some (int 0)),some (5,some (int (sQ [(8,1),(12,3),(11,2)] a1)))] [(1,8,1),(2,12,3),(3,11,2)] 0 15 [.mk,.ins 8 1,.ins 12 3,.ins 11 2,.pu,.pu,.lk a1,.pu,.pu] mixed Tryz.underlying200 Tryz.underlying3 zi3 (by kernel_rfl) rfl ⟨⟨rfl,rfl,rfl,rfl⟩,⟨rfl,rfl,rfl,.head _⟩,⟨rfl,rfl,rfl,.tail _ (.head _)⟩,⟨rfl,rfl,rfl,.tail _ (.tail _ (.head _))⟩,⟨_,_,rfl,rfl,λ_=>bF rfl rfl⟩,⟨_,_,rfl,rfl,λ_=>bF rfl rfl⟩,⟨16,_,18,rfl,rfl,rfl,λ_=>rfl,λ_=>rfl⟩,⟨_,_,rfl,rfl,λ_=>dG rfl rfl⟩,⟨_,_,rfl,rfl,λ_=>dG rfl rfl⟩,trivial⟩ λ_=>?_
  obtain rfl:=bE h0
  refine wR hret (rT (rT .nil)) ?_
  exact .refl _
  replace h0:=ct h0
  refine tc aA 6 (.mk ?_)
  obtain rfl:=bE h0
  refine wR hret (rT (rT .nil)) ?_
  exact .refl _
  replace h0:=ct h0
  refine tc aA 6 (.mk ?_)
  obtain rfl:=bE h0
  refine wR hret (rT (rT .nil)) ?_
  exact .refl _
  replace h0:=ct h0
  refine tc aA 6 (.mk ?_)
  obtain rfl:=bE h0
  refine wR hret (rT (rT .nil)) ?_
  exact .refl _
def uQ (a1:List Int):Nat->Int->(List Bool)->Option ((Unit)⊕(Bool))
  | 0,_,_=>none
  | n+1,y0_1,y0_2 =>
    bnd (decide (y0_1<(a1.length:Int))) λx4 =>
    cond x4 ((ix a1 y0_1).bind λx5 =>
    (show Option (Bool) from
    bnd (decide (x5<0)) λx7 =>
    cond x7 (some (true:Bool)) (bnd (decide (x5>=40)) λx8 =>
    cond x8 (some (true:Bool)) (bU ((0:Int)<=x5/\x5<(40:Int))<|
    (ix y0_2 x5).bind λx10 =>
    some (x10:Bool)))).bind <| λy1_1 =>
    cond y1_1 (esc (some ((false:Bool)))) (bU ((0:Int)<=x5/\x5<(40:Int))<|
    (ix y0_2 x5).bind λx12 =>
    bnd (y0_2.set (Int.toNat x5) true) λx13 =>
    bnd (bM (y0_1+1)) λx14 =>
    uQ a1 n (x14:Int) (x13:List Bool))) (brk ())
def y8 (n:Nat) (a1:List Int):Option (Bool) :=
(show Option ((Unit)⊕(Bool)) from
uQ a1 n (0:Int) ((List.replicate 40 false):List Bool)).bind <| sel <| λ_ =>
bnd (decide ((a1.length:Int)>0)) λx16 =>
some ((x16:Bool))
theorem aL2 {n:Nat} {a1:List Int} {r:Bool} (h0:y8 n a1=some r):PP Tryz.prog 72 [aG 1 fI a1] (λy=>y=aB r):=by
  unfold y8 at h0
  refine kE (R0:=λy H=>Cv (iN H) y (aB r)) ?_ (λy H hc=>⟨_,rfl,qD r,hc⟩)
  refine dD (c:=_) Tryz.func72 rfl rfl ?_;intro Q hret hnorm
  refine tc aA 6 (.mk ?_)
  refine sY (WI (cs:=[aB false,aB false,aB false,aB false,aB false,aB false,aB false,aB false,aB false,aB false,aB false,aB false,aB false,aB false,aB false,aB false,aB false,aB false,aB false,aB false,aB false,aB false,aB false,aB false,aB false,aB false,aB false,aB false,aB false,aB false,aB false,aB false,aB false,aB false,aB false,aB false,aB false,aB false,aB false,aB false]) (ps:=[]) rfl Tryz.underlying201 vC z201 rfl .nil (by kernel_rfl)) ?_
  refine sA 1 z201 λv2=>?_
  refine sS ⟨201,40,true,true,v2,[[aB false,aB false,aB false,aB false,aB false,aB false,aB false,aB false,aB false,aB false,aB false,aB false,aB false,aB false,aB false,aB false,aB false,aB false,aB false,aB false,aB false,aB false,aB false,aB false,aB false,aB false,aB false,aB false,aB false,aB false,aB false,aB false,aB false,aB false,aB false,aB false,aB false,aB false,aB false,aB false]]⟩ aKG ?_
  refine tr aA 5 (.mk ?_)
  refine sY (iT rfl Tryz.underlying23 rfl (mK _)) ?_
  refine tr aA 2 (.mk ?_)
  refine iA h0 [0,2] [] (λ(a:Unit) (k:Unit)=>[]) (λa k=>[]) ⟨λj3 h1 h0=>?_,?_⟩
  refine tc aA 1 (.mk ?_)
  refine lp (λn (a:Int×(List Bool))=>uQ a1 n a.1 a.2) ((0:Int),((List.replicate 40 false):List Bool)) () h1 [0,2,3,7,8] [] (λ(a:Int×(List Bool)) (k:Unit)=>[(9,int a.1)]) (λa k=>[(1,⟨201,40,true,true,v2,[a.2.map aB]⟩)]) (λ_=>rfl) ⟨aW,?_⟩
  rintro n ⟨y0_1,y0_2⟩ _ hm h1
  replace h1:uQ a1 (n+1) y0_1 y0_2=some _:=h1
  rw [uQ] at h1
  refine tc aA 2 (.mk ?_)
  refine nb aA h1 λx4 h1=>?_
  refine tr aA 2 (.mk ?_)
  cases x4
  replace h1:=cf h1
  refine tc aA 2 (.mk ?_)
  exact jW h1 () aW
  replace h1:=ct h1
  refine tc aA 6 (.mk ?_)
  obtain ⟨x5,e5,h1⟩:=bJ h1
  refine sY (oG rfl Tryz.underlying23 bW rfl rfl e5) ?_
  refine tr aA 5 (.mk ?_)
  refine jn h1 [0,2,3,5,7,8,9] [1] (λ(a:Bool) (k:Unit)=>[(23,aB a)]) (λa k=>[]) ⟨λj6 h2=>?_,?_⟩
  refine tc aA 2 (.mk ?_)
  refine nb aA h2 λx7 h2=>?_
  refine tr aA 1 (.mk ?_)
  cases x7
  replace h2:=cf h2
  refine tr aA 1 (.mk ?_)
  refine nb aA h2 λx8 h2=>?_
  refine tr aA 2 (.mk ?_)
  cases x8
  replace h2:=cf h2
  refine tr aA 1 (.mk ?_)
  obtain ⟨p9,h2⟩:=cO h2
  obtain ⟨x10,e10,h2⟩:=bJ h2
  refine sY (LF rfl Tryz.underlying201 vC rfl rfl rfl rfl rfl p9) ?_
  refine sY (aGS (g:=aB) rfl vC rfl rfl rfl rfl e10) ?_
  refine tr aA 2 (.mk ?_)
  exact lf h2 () aW
  replace h2:=ct h2
  refine tr aA 5 (.mk ?_)
  exact lf h2 () aW
  replace h2:=ct h2
  refine tr aA 9 (.mk ?_)
  exact lf h2 () aW
  rintro y1_1 _ h1
  cases y1_1
  replace h1:=cf h1
  refine tc aA 4 (.mk ?_)
  obtain ⟨p11,h1⟩:=cO h1
  obtain ⟨x12,e12,h1⟩:=bJ h1
  refine sY (LF rfl Tryz.underlying201 vC rfl rfl rfl rfl rfl p11) ?_
  obtain ⟨x13,e13,h1⟩:=aP h1
  refine NA rfl rfl (gM (ob':=(⟨201,40,true,true,v2,[x13.map aB]⟩:bA)) (aA9 rfl vC rfl rfl rfl rfl rfl rfl e12 e13) rfl) ?_
  refine tr aA 3 (.mk ?_)
  refine ni aA h1 λx14 h1=>?_
  refine tr aA 2 (.mk ?_)
  exact bk (x14,x13) () h1 aW
  replace h1:=ct h1
  refine tc aA 5 (.mk ?_)
  obtain ⟨c15,hX,hj⟩:=gD h1;subst hj;replace h0:=hX.trans (fZ h0)
  obtain rfl:=bE h0
  refine wR hret (rT .nil) ?_
  exact .refl _
  rintro _ _ h0
  refine tc aA 3 (.mk ?_)
  refine sY (iT rfl Tryz.underlying23 rfl (mK _)) ?_
  refine nb aA h0 λx16 h0=>?_
  refine tr aA 2 (.mk ?_)
  obtain rfl:=bE h0
  refine wR hret (rT .nil) ?_
  exact .refl _
end
end Go.Pv
