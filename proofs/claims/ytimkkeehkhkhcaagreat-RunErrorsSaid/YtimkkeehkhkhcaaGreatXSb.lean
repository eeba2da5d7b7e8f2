import Derived.Test.YtimkkeehkhkhcaaGreatXS
set_option linter.unusedVariables false
set_option linter.unusedSimpArgs false
namespace Go.Pv
open Go.Proofs
set_option maxRecDepth 100000
set_option maxHeartbeats 4000000
noncomputable section
def aLO (n:Nat) (a1:dB):WB (Bool) :=
 .al 1<|.ln 9 fI a1.bC<|.al 2<|.al 3<|.jn 2 [] [] [] (λ_ (a:Bool)=>[(2,aA a)]) (λ_ _=>[]) (.cl 14 (vW a1.fT 1 4) zC xX λx5=>.ifs [14] x5 (.cl 18 (vW a1.iX 1 12) zC xX λx6=>.ifs [18] x6 (.cl 22 (vW (a1.bC.length:Int) 1 5) zC xX λx7=>.ifs [22] x7 (.inl 29 GC Tryz.func61 [1,2,3] [] (λ_ (a:Bool)=>aA a) (λ_ _=>[]) (.al 4<|.jn 0 [] [1,2,3] [] (λ_ (a:Bool)=>[(6,aA a)]) (λ_ _=>[]) (.ln 8 fI a1.bC<|.bB 10 (decide ((a1.bC.length:Int)=(a1.bC.length:Int))) λx9=>.ifs [10] x9 (.inl 14 DD Tryz.func105 [1,2,3,4] [] (λ_ (a:Bool)=>aA a) (λ_ _=>[]) (.inl 7 DO Tryz.func147 [1,2,3,4] [] (λ_ (a:Int)=>int a) (λ_ _=>[]) (.ln 7 fI a1.bC<|.jS 0 [4] [1,2,3,4] [] (λ_ (a:Unit)=>[]) (λ_ _=>[]) (.lp [0,1,4,7] [1,2,3,4] [] (λ_ (a:Int)=>[(8,int a)]) (λ_ _=>[]) n 0 (λy0_1=>.bB 9 (decide (y0_1<(a1.bC.length:Int))) λx10=>.ifs [9] x10 (.ix 14 fI a1.bC y0_1 λx11=>.inl 16 IV Tryz.func106 [1,2,3,4] [] (λ_ (a:Bool)=>aA a) (λ_ _=>[]) (.cl 6 (GM x11) UT ME λx12=>.bB 7 (!x12) λx13=>.ret x13) (λy1_1=>.ifs [16] y1_1 (.esc (.esc (.ret y0_1))) (.bI 18 (bL (y0_1+1)) λx14=>.brk x14))) (.esc (.brk ())))) (λ_=>.ret (-1))) (λy3_1=>.bB 8 (decide (y3_1>=0)) λx15=>.ret x15)) (λy4_1=>.bB 15 (!y4_1) λx16=>.ret x16)) (.ret false)) (λy5_1=>.ret y5_1)) (λy6_1=>.ifs [29] y6_1 (.inl 37 US Tryz.func64 [1,2,3] [] (λ_ (a:Bool)=>aA a) (λ_ _=>[]) (.al 5<|.jn 0 [] [1,2,3] [] (λ_ (a:Bool)=>[(6,aA a)]) (λ_ _=>[]) (.ln 8 (fL 1 fI) a1.Methods<|.bB 10 (decide ((a1.Methods.length:Int)=a1.fT)) λx18=>.ifs [10] x18 (.inl 14 U3 Tryz.func107 [1,2,3,5] [] (λ_ (a:Bool)=>aA a) (λ_ _=>[]) (.inl 7 VG Tryz.func148 [1,2,3,5] [] (λ_ (a:Int)=>int a) (λ_ _=>[]) (.ln 7 (fL 1 fI) a1.Methods<|.jS 0 [4] [1,2,3,5] [] (λ_ (a:Unit)=>[]) (λ_ _=>[]) (.lp [0,1,4,7] [1,2,3,5] [] (λ_ (a:Int)=>[(8,int a)]) (λ_ _=>[]) n 0 (λy7_1=>.bB 9 (decide (y7_1<(a1.Methods.length:Int))) λx19=>.ifs [9] x19 (.ix 14 (fL 1 fI) a1.Methods y7_1 λx20=>.inl 16 OM Tryz.func108 [1,2,3,5] [] (λ_ (a:Bool)=>aA a) (λ_ _=>[]) (.inl 6 XK Tryz.func60 [1,2,3,5] [] (λ_ (a:Bool)=>aA a) (λ_ _=>[]) (.inl 6 GC Tryz.func61 [1,2,3,5] [] (λ_ (a:Bool)=>aA a) (λ_ _=>[]) (.al 6<|.jn 0 [] [1,2,3,5] [] (λ_ (a:Bool)=>[(6,aA a)]) (λ_ _=>[]) (.ln 8 fI x20<|.bB 10 (decide ((x20.length:Int)=(a1.bC.length:Int))) λx22=>.ifs [10] x22 (.inl 14 DD Tryz.func105 [1,2,3,5,6] [] (λ_ (a:Bool)=>aA a) (λ_ _=>[]) (.inl 7 DO Tryz.func147 [1,2,3,5,6] [] (λ_ (a:Int)=>int a) (λ_ _=>[]) (.ln 7 fI x20<|.jS 0 [4] [1,2,3,5,6] [] (λ_ (a:Unit)=>[]) (λ_ _=>[]) (.lp [0,1,4,7] [1,2,3,5,6] [] (λ_ (a:Int)=>[(8,int a)]) (λ_ _=>[]) n 0 (λy8_1=>.bB 9 (decide (y8_1<(x20.length:Int))) λx23=>.ifs [9] x23 (.ix 14 fI x20 y8_1 λx24=>.inl 16 IV Tryz.func106 [1,2,3,5,6] [] (λ_ (a:Bool)=>aA a) (λ_ _=>[]) (.cl 6 (NM x24) aDJ aIW λx25=>.bB 7 (!x25) λx26=>.ret x26) (λy9_1=>.ifs [16] y9_1 (.esc (.esc (.ret y8_1))) (.bI 18 (bL (y8_1+1)) λx27=>.brk x27))) (.esc (.brk ())))) (λ_=>.ret (-1))) (λy11_1=>.bB 8 (decide (y11_1>=0)) λx28=>.ret x28)) (λy12_1=>.bB 15 (!y12_1) λx29=>.ret x29)) (.ret false)) (λy13_1=>.ret y13_1)) (λy14_1=>.ret y14_1)) (λy15_1=>.bB 7 (!y15_1) λx30=>.ret x30)) (λy16_1=>.ifs [16] y16_1 (.esc (.esc (.ret y7_1))) (.bI 18 (bL (y7_1+1)) λx31=>.brk x31))) (.esc (.brk ())))) (λ_=>.ret (-1))) (λy18_1=>.bB 8 (decide (y18_1>=0)) λx32=>.ret x32)) (λy19_1=>.bB 15 (!y19_1) λx33=>.ret x33)) (.ret false)) (λy20_1=>.ret y20_1)) (λy21_1=>.ifs [37] y21_1 (.inl 45 US Tryz.func64 [1,2,3] [] (λ_ (a:Bool)=>aA a) (λ_ _=>[]) (.al 7<|.jn 0 [] [1,2,3] [] (λ_ (a:Bool)=>[(6,aA a)]) (λ_ _=>[]) (.ln 8 (fL 1 fI) a1.iF<|.bB 10 (decide ((a1.iF.length:Int)=a1.fT)) λx35=>.ifs [10] x35 (.inl 14 U3 Tryz.func107 [1,2,3,7] [] (λ_ (a:Bool)=>aA a) (λ_ _=>[]) (.inl 7 VG Tryz.func148 [1,2,3,7] [] (λ_ (a:Int)=>int a) (λ_ _=>[]) (.ln 7 (fL 1 fI) a1.iF<|.jS 0 [4] [1,2,3,7] [] (λ_ (a:Unit)=>[]) (λ_ _=>[]) (.lp [0,1,4,7] [1,2,3,7] [] (λ_ (a:Int)=>[(8,int a)]) (λ_ _=>[]) n 0 (λy22_1=>.bB 9 (decide (y22_1<(a1.iF.length:Int))) λx36=>.ifs [9] x36 (.ix 14 (fL 1 fI) a1.iF y22_1 λx37=>.inl 16 OM Tryz.func108 [1,2,3,7] [] (λ_ (a:Bool)=>aA a) (λ_ _=>[]) (.inl 6 aB2 Tryz.func63 [1,2,3,7] [] (λ_ (a:Bool)=>aA a) (λ_ _=>[]) (.inl 8 GC Tryz.func61 [1,2,3,7] [] (λ_ (a:Bool)=>aA a) (λ_ _=>[]) (.al 8<|.jn 0 [] [1,2,3,7] [] (λ_ (a:Bool)=>[(6,aA a)]) (λ_ _=>[]) (.ln 8 fI x37<|.bB 10 (decide ((x37.length:Int)=(a1.bC.length:Int))) λx39=>.ifs [10] x39 (.inl 14 DD Tryz.func105 [1,2,3,7,8] [] (λ_ (a:Bool)=>aA a) (λ_ _=>[]) (.inl 7 DO Tryz.func147 [1,2,3,7,8] [] (λ_ (a:Int)=>int a) (λ_ _=>[]) (.ln 7 fI x37<|.jS 0 [4] [1,2,3,7,8] [] (λ_ (a:Unit)=>[]) (λ_ _=>[]) (.lp [0,1,4,7] [1,2,3,7,8] [] (λ_ (a:Int)=>[(8,int a)]) (λ_ _=>[]) n 0 (λy23_1=>.bB 9 (decide (y23_1<(x37.length:Int))) λx40=>.ifs [9] x40 (.ix 14 fI x37 y23_1 λx41=>.inl 16 IV Tryz.func106 [1,2,3,7,8] [] (λ_ (a:Bool)=>aA a) (λ_ _=>[]) (.cl 6 (GM x41) UT ME λx42=>.bB 7 (!x42) λx43=>.ret x43) (λy24_1=>.ifs [16] y24_1 (.esc (.esc (.ret y23_1))) (.bI 18 (bL (y23_1+1)) λx44=>.brk x44))) (.esc (.brk ())))) (λ_=>.ret (-1))) (λy26_1=>.bB 8 (decide (y26_1>=0)) λx45=>.ret x45)) (λy27_1=>.bB 15 (!y27_1) λx46=>.ret x46)) (.ret false)) (λy28_1=>.ret y28_1)) (λy29_1=>.ret y29_1)) (λy30_1=>.bB 7 (!y30_1) λx47=>.ret x47)) (λy31_1=>.ifs [16] y31_1 (.esc (.esc (.ret y22_1))) (.bI 18 (bL (y22_1+1)) λx48=>.brk x48))) (.esc (.brk ())))) (λ_=>.ret (-1))) (λy33_1=>.bB 8 (decide (y33_1>=0)) λx49=>.ret x49)) (λy34_1=>.bB 15 (!y34_1) λx50=>.ret x50)) (.ret false)) (λy35_1=>.ret y35_1)) (λy36_1=>.ret y36_1)) (.ret false))) (.ret false))) (.ret false)) (.ret false)) (.ret false)) (λy37_1=>.ret ((y37_1:Bool)))
def zT (n:Nat) (a1:dB):Option (Bool):=(aLO n a1).run
theorem DL {n a1}:PZ (zT n a1) 34 [.agg (dB.av a1)] aA:=wq Tryz.func34
def yB (x7:Int):Nat->Int->aI->(List (List Int))->Option (aI×(List (List Int)))
  | 0,_,_,_=>none
  | n+1,y2_2,y2_3,y2_4 =>
    bnd (decide (y2_2<x7)) λx20 =>
    cond x20 (cZ (((y2_3.s,y2_3.bad):RS).1.length<=1099511627776)<|
    cZ (((y2_3.s,y2_3.bad):RS).2=true->((y2_3.s,y2_3.bad):RS).1=[])<|
    bnd (pN ((y2_3.s,y2_3.bad):RS) 5) λx23 =>
    bnd (qD ((y2_3.s,y2_3.bad):RS) 5) λx24 =>
    bnd (y2_4++([x23]:List (List Int))) λx25 =>
    cZ (x25.length<=68719476736)<|
    bnd (bL (y2_2+1)) λx28 =>
    yB x7 n (x28:Int) ((⟨x24.1,x24.2⟩:aI):aI) (x25:List (List Int))) (some ((y2_3:aI),(y2_4:List (List Int))))
def xP (x7:Int):Nat->Int->aI->(List (List Int))->Option (aI×(List (List Int)))
  | 0,_,_,_=>none
  | n+1,y5_2,y5_3,y5_4 =>
    bnd (decide (y5_2<x7)) λx32 =>
    cond x32 (cZ (((y5_3.s,y5_3.bad):RS).1.length<=1099511627776)<|
    cZ (((y5_3.s,y5_3.bad):RS).2=true->((y5_3.s,y5_3.bad):RS).1=[])<|
    bnd (pN ((y5_3.s,y5_3.bad):RS) 5) λx35 =>
    bnd (qD ((y5_3.s,y5_3.bad):RS) 5) λx36 =>
    bnd (y5_4++([x35]:List (List Int))) λx37 =>
    cZ (x37.length<=68719476736)<|
    bnd (bL (y5_2+1)) λx40 =>
    xP x7 n (x40:Int) ((⟨x36.1,x36.2⟩:aI):aI) (x37:List (List Int))) (some ((y5_3:aI),(y5_4:List (List Int))))
def sI (n:Nat) (a1:List UInt8):Option (dB×Int) :=
(show Option ((Unit)) from
some ()).bind <| λ_ =>
cZ (((a1,false):RS).1.length<=9223372036854775806)<|
bnd (iA ((a1,false):RS) 4) λx7 =>
bnd (gK ((a1,false):RS) 4) λx8 =>
cZ (x8.1.length<=9223372036854775806)<|
bnd (iA x8 12) λx10 =>
bnd (gK x8 12) λx11 =>
cZ (x11.1.length<=1099511627776)<|
cZ (x11.2=true->x11.1=[])<|
bnd (pN x11 5) λx14 =>
bnd (qD x11 5) λx15 =>
(show Option ((aI×(List (List Int)))) from
(show Option (aI×(List (List Int))) from
yB x7 n (0:Int) ((⟨x15.1,x15.2⟩:aI):aI) (([]:List (List Int)):List (List Int))).bind <| p2 λ(y3_2:aI) (y3_3:List (List Int)) =>
some ((y3_2:aI),(y3_3:List (List Int)))).bind <| p2 λ(y4_2:aI) (y4_3:List (List Int)) =>
(show Option ((aI×(List (List Int)))) from
(show Option (aI×(List (List Int))) from
xP x7 n (0:Int) (y4_2:aI) (([]:List (List Int)):List (List Int))).bind <| p2 λ(y6_2:aI) (y6_3:List (List Int)) =>
some ((y6_2:aI),(y6_3:List (List Int)))).bind <| p2 λ(y7_2:aI) (y7_3:List (List Int)) =>
(show Option (Bool) from
bnd (((y7_2.s,y7_2.bad):RS).2) λx42 =>
cond x42 (some (true:Bool)) (bnd (decide ((((y7_2.s,y7_2.bad):RS).1.length:Int)>0)) λx43 =>
cond x43 (some (true:Bool)) ((zT n (⟨x7,x10,x14,y4_3,y7_3⟩:dB)).bind λx44 =>
bnd (!x44) λx45 =>
some (x45:Bool)))).bind <| λy8_1 =>
cond y8_1 (some (((⟨0,0,[],[],[]⟩:dB):dB),(3:Int))) (some (((⟨x7,x10,x14,y4_3,y7_3⟩:dB):dB),(0:Int)))
theorem T8 {n:Nat} {a1:List UInt8} {r:dB×Int} (h0:sI n a1=some r):PP Tryz.prog 18 [str a1] (λy=>y=.aM [.agg (dB.av r.1),int r.2]):=by
  unfold sI at h0
  refine sG (R0:=λy H=>Cv (mI H) y (.aM [.agg (dB.av r.1),int r.2])) ?_ (λy H hc=>⟨_,rfl,.aM (SE ((λ(a:dB)=>PV.agg (dB.fZ a)) (r.1)) (xC (r.2))),hc⟩)
  refine fC (c:=_) Tryz.func18 rfl rfl ?_;intro Q hret hnorm
  refine tc aB 2 (.mk ?_)
  refine sA 1 z26 λv2=>?_
  refine tr aB 5 (.mk ?_)
  obtain ⟨j3,h1,h0⟩:=dD h0
  refine bO (Out:=λy H'=>(∃ (a:Unit) (k:Nat),a=j3/\y=.pt 2 k 0 0/\H'=hk [(1,⟨26,5,true,true,v2,[[int 0,int 0,.sc (.slice none 0 0),.sc (.slice none 0 0),.sc (.slice none 0 0)]]⟩),(2,⟨125,2,true,true,k,[[str a1,aA false]]⟩)])) rfl rfl rfl (aQ rfl rfl (.cons rfl .nil) IB ?_) ?_
  refine fC (c:=_) Tryz.func28 rfl rfl ?_;intro Q hret hnorm
  refine tc aB 8 (.mk ?_)
  refine sB 2 λv4=>?_
  refine tr aB 2 (.mk ?_)
  obtain rfl:=eH h1
  refine fF (hret _ _ (hk [(1,⟨26,5,true,true,v2,[[int 0,int 0,.sc (.slice none 0 0),.sc (.slice none 0 0),.sc (.slice none 0 0)]]⟩),(2,⟨125,2,true,true,v4,[[str a1,aA false]]⟩)]) (.tmp rfl .nil) (HK.le ⟨rfl,rfl,trivial⟩) ?_)
  exact ⟨(),v4,rfl,rfl,rfl⟩
  rintro y _ ⟨_,w1_1,rfl,hc,rfl⟩
  subst hc
  refine sA 3 z75 λv5=>?_
  refine sS ⟨75,1,true,true,v5,[[.pt 2 w1_1 0 0]]⟩ uK ?_
  refine tr aB 2 (.mk ?_)
  refine AM [0,1,0,7,0,31,63,0,255] (λi k=>bif Nat.beq i 0 then (Nat.beq k 3) else bif Nat.beq i 1 then (Nat.beq k 2) else bif Nat.beq i 2 then (Nat.beq k 3) else bif Nat.beq i 3 then (Nat.beq k 2) else bif Nat.beq i 4 then (Nat.beq k 3) else bif Nat.beq i 5 then (Nat.beq k 2 || Nat.beq k 30002 || Nat.beq k 30005) else bif Nat.beq i 8 then (Nat.beq k 4) else false) (λi=>bif Nat.beq i 1 then (some 2) else bif Nat.beq i 3 then (some 2) else bif Nat.beq i 5 then (some 2) else bif Nat.beq i 7 then (some 4) else bif Nat.beq i 8 then (some 4) else none) mixed (by kernel_rfl) ?_;intro C K hK
  refine jO rfl (λH hH=>fG rfl uK rfl (.pt ((hH _ rfl).trans rfl) rfl rfl) rfl) ?_
  obtain ⟨p6,h0⟩:=dH h0
  obtain ⟨x7,e7,h0⟩:=bJ h0
  obtain ⟨x8,e8,h0⟩:=bJ h0
  refine rU rfl rfl (λH hH=>(JN (ob:=cK 125 w1_1 ((a1,false):RS)) (ob':=cK 125 w1_1 x8) rfl rfl (.cons rfl (.cons rfl .nil)) l7 (PC.mono (mE (most:=4) (s:=((a1,false):RS)) (id:=2) (aD:=w1_1) ((hH _ rfl).trans rfl) p6) (R':=λy H'=>y=int x7/\H'=upd H 2 (some (cK 125 w1_1 x8))) (λy H' h=>⟨h.1.trans (congrArg int e7),h.2.trans (dN e8)⟩)) (.sc _) ((hH _ rfl).trans rfl) rfl FV).d9 (λ_ h=>h.elim) (λ_ h=>h.elim)) ?_
  refine jO rfl (λH hH=>fG rfl uK rfl (.pt ((hH _ rfl).trans rfl) rfl rfl) rfl) ?_
  obtain ⟨p9,h0⟩:=dH h0
  obtain ⟨x10,e10,h0⟩:=bJ h0
  obtain ⟨x11,e11,h0⟩:=bJ h0
  refine rU rfl rfl (λH hH=>(JN (ob:=cK 125 w1_1 x8) (ob':=cK 125 w1_1 x11) rfl rfl (.cons rfl (.cons rfl .nil)) l7 (PC.mono (mE (most:=12) (s:=x8) (id:=2) (aD:=w1_1) ((hH _ rfl).trans rfl) p9) (R':=λy H'=>y=int x10/\H'=upd H 2 (some (cK 125 w1_1 x11))) (λy H' h=>⟨h.1.trans (congrArg int e10),h.2.trans (dN e11)⟩)) (.sc _) ((hH _ rfl).trans rfl) rfl FV).d9 (λ_ h=>h.elim) (λ_ h=>h.elim)) ?_
  refine jO rfl (λH hH=>fG rfl uK rfl (.pt ((hH _ rfl).trans rfl) rfl rfl) rfl) ?_
  obtain ⟨p12,h0⟩:=dH h0
  obtain ⟨p13,h0⟩:=dH h0
  obtain ⟨x14,e14,h0⟩:=bJ h0
  obtain ⟨x15,e15,h0⟩:=bJ h0
  refine rU rfl rfl (λH hH=>(JN (ob:=cK 125 w1_1 x11) (ob':=cK 125 w1_1 x15) rfl rfl (.cons rfl (.cons rfl .nil)) zN (PC.mono (zF (most:=5) (s:=x11) (id:=2) (aD:=w1_1) ((hH _ rfl).trans rfl) p12 p13 ((hH _ rfl).trans rfl) ((hH _ rfl).trans rfl)) (R':=λy H'=>y=ints x14/\H'=upd H 2 (some (cK 125 w1_1 x15))) (λy H' h=>⟨h.1.trans (congrArg ints e14),h.2.trans (dN e15)⟩)) (aE4 _) ((hH _ rfl).trans rfl) rfl FV).d9 (λ_ h=>h.elim) (λ_ h=>h.elim)) ?_
  refine jO rfl (λH hH=>F9 (cs:=[int x7,int x10,aG 1 fI x14,.sc (.slice none 0 0),.sc (.slice none 0 0)]) (ps:=[(0,_),(1,_),(2,_)]) rfl ZR z26 rfl (.cons rfl (.cons rfl (.cons rfl .nil))) (by kernel_rfl)) ?_
  refine rU rfl rfl (λH hH=>MZ 4 rfl z26 rfl) ?_;generalize C+7=v16
  refine WJ rfl rfl rfl (λH hH=>fH (ob':=(⟨26,5,true,true,v16,[[int x7,int x10,aG 1 fI x14,.sc (.slice none 0 0),.sc (.slice none 0 0)]]⟩:aW)) (dZ rfl xY rfl rfl ((hH _ rfl).trans rfl) rfl rfl rfl rfl rfl rfl) rfl) ?_
  refine CP (hK _ ?_)
  refine tc aB 8 (.mk ?_)
  obtain ⟨j17,h1,h0⟩:=dD h0
  refine bO (Out:=λy H'=>(∃ (a:aI×(List (List Int))) (k:Nat),a=j17/\y=.sl 6 k 0 a.2.length/\H'=hk [(1,⟨26,5,true,true,v2,[[int 0,int 0,.sc (.slice none 0 0),.sc (.slice none 0 0),.sc (.slice none 0 0)]]⟩),(2,⟨125,2,true,true,w1_1,[[str a.1.s,aA a.1.bad]]⟩),(3,⟨75,1,true,true,v5,[[.pt 2 w1_1 0 0]]⟩),(4,⟨26,5,true,true,v16,[[int x7,int x10,aG 1 fI x14,.sc (.slice none 0 0),.sc (.slice none 0 0)]]⟩),(6,⟨23,1,true,true,k,a.2.map (fL 1 fI)⟩)])) rfl rfl rfl (aQ rfl rfl .nil MO ?_) ?_
  refine fC (c:=_) Tryz.func31 rfl rfl ?_;intro Q hret hnorm
  refine tc aB 15 (.mk ?_)
  refine jn h1 [2] [1,3,4] (λ(a:aI×(List (List Int))) (k:Nat)=>[(3,.sl 6 k 0 a.2.length)]) (λa k=>[(2,⟨125,2,true,true,w1_1,[[str a.1.s,aA a.1.bad]]⟩),(6,⟨23,1,true,true,k,a.2.map (fL 1 fI)⟩)]) ⟨λj18 h2=>?_,?_⟩
  refine tc aB 1 (.mk ?_)
  refine sH 3 6 23 1 rfl rfl ?_;intro v19
  refine lp (λn (a:Int×aI×(List (List Int)))=>yB x7 n a.1 a.2.1 a.2.2) ((0:Int),((⟨x15.1,x15.2⟩:aI):aI),(([]:List (List Int)):List (List Int))) v19 h2 [1,2,5] [1,3,4] (λ(a:Int×aI×(List (List Int))) (k:Nat)=>[(3,.sl 6 k 0 a.2.2.length),(6,int a.1)]) (λa k=>[(2,⟨125,2,true,true,w1_1,[[str a.2.1.s,aA a.2.1.bad]]⟩),(6,⟨23,1,true,true,k,a.2.2.map (fL 1 fI)⟩)]) (λ_=>rfl) ⟨dW,?_⟩
  rintro n ⟨y2_2,y2_3,y2_4⟩ w2_1 hm h2
  replace h2:yB x7 (n+1) y2_2 y2_3 y2_4=some _:=h2
  rw [yB] at h2
  refine tc aB 2 (.mk ?_)
  refine nb aB h2 λx20 h2=>?_
  refine tr aB 2 (.mk ?_)
  cases x20
  replace h2:=cf h2
  refine tc aB 2 (.mk ?_)
  exact lf h2 w2_1 dW
  replace h2:=ct h2
  refine tc aB 7 (.mk ?_)
  obtain ⟨p21,h2⟩:=dH h2
  obtain ⟨p22,h2⟩:=dH h2
  obtain ⟨x23,e23,h2⟩:=bJ h2
  obtain ⟨x24,e24,h2⟩:=bJ h2
  refine bO rfl rfl rfl (aQ rfl rfl (.cons rfl (.cons rfl .nil)) zN (PC.mono (zF (most:=5) (s:=((y2_3.s,y2_3.bad):RS)) (id:=2) (aD:=w1_1) rfl p21 p22 rfl rfl) (R':=λy H'=>y=ints x23/\H'=upd _ 2 (some (cK 125 w1_1 x24))) (λy H' h=>⟨h.1.trans (congrArg ints e23),h.2.trans (dN e24)⟩))) ?_;rintro _ _ ⟨rfl,rfl⟩
  refine sY (aN (y:=aG 1 (fL 1 fI) ([x23]:List (List Int))) (dY (ps:=[(0,_)]) (rows:=[[aG 1 fI x23]]) rfl Tryz.underlying24 pP (.cons rfl .nil) (by kernel_rfl) rfl rfl rfl) rfl) ?_
  obtain ⟨x25,e25,h2⟩:=bJ h2
  obtain ⟨p26,h2⟩:=dH h2
  refine bO rfl rfl rfl (iP (g:=(fL 1 fI)) (l:=y2_4) (m:=([x23]:List (List Int))) .any rfl Tryz.underlying24 pP uO rfl rfl rfl rfl rfl rfl rfl rfl rfl rfl (Eq.symm rfl) (.refl _) (λ_=>rfl) e25 p26) ?_;rintro _ _ ⟨v27,-,rfl,rfl⟩
  refine tr aB 4 (.mk ?_)
  refine ni aB h2 λx28 h2=>?_
  refine tr aB 2 (.mk ?_)
  exact bk (x28,(⟨x24.1,x24.2⟩:aI),x25) v27 h2 dW
  rintro ⟨y3_2,y3_3⟩ w3_1 h1
  replace h1:=oU h1
  refine tc aB 5 (.mk ?_)
  obtain rfl:=eH h1
  refine fF (hret _ _ (hk [(1,⟨26,5,true,true,v2,[[int 0,int 0,.sc (.slice none 0 0),.sc (.slice none 0 0),.sc (.slice none 0 0)]]⟩),(2,⟨125,2,true,true,w1_1,[[str y3_2.s,aA y3_2.bad]]⟩),(3,⟨75,1,true,true,v5,[[.pt 2 w1_1 0 0]]⟩),(4,⟨26,5,true,true,v16,[[int x7,int x10,aG 1 fI x14,.sc (.slice none 0 0),.sc (.slice none 0 0)]]⟩),(6,⟨23,1,true,true,w3_1,y3_3.map (fL 1 fI)⟩)]) (.tmp rfl .nil) (HK.le ⟨rfl,rfl,rfl,rfl,rfl,trivial⟩) ?_)
  exact ⟨(y3_2,y3_3),w3_1,rfl,rfl,rfl⟩
  rintro y _ ⟨⟨y4_2,y4_3⟩,w4_1,rfl,hc,rfl⟩
  replace h0:=oU h0
  subst hc
  refine tr aB 1 (.mk ?_)
  refine sS ⟨26,5,true,true,v16,[[int x7,int x10,aG 1 fI x14,.sl 6 w4_1 0 y4_3.length,.sc (.slice none 0 0)]]⟩ T7 ?_
  refine tr aB 4 (.mk ?_)
  obtain ⟨j29,h1,h0⟩:=dD h0
  refine bO (Out:=λy H'=>(∃ (a:aI×(List (List Int))) (k:Nat),a=j29/\y=.sl 8 k 0 a.2.length/\H'=hk [(1,⟨26,5,true,true,v2,[[int 0,int 0,.sc (.slice none 0 0),.sc (.slice none 0 0),.sc (.slice none 0 0)]]⟩),(2,⟨125,2,true,true,w1_1,[[str a.1.s,aA a.1.bad]]⟩),(3,⟨75,1,true,true,v5,[[.pt 2 w1_1 0 0]]⟩),(4,⟨26,5,true,true,v16,[[int x7,int x10,aG 1 fI x14,.sl 6 w4_1 0 y4_3.length,.sc (.slice none 0 0)]]⟩),(6,⟨23,1,true,true,w4_1,y4_3.map (fL 1 fI)⟩),(8,⟨23,1,true,true,k,a.2.map (fL 1 fI)⟩)])) rfl rfl rfl (aQ rfl rfl .nil MO ?_) ?_
  refine fC (c:=_) Tryz.func31 rfl rfl ?_;intro Q hret hnorm
  refine tc aB 15 (.mk ?_)
  refine jn h1 [2] [1,3,4,6] (λ(a:aI×(List (List Int))) (k:Nat)=>[(3,.sl 8 k 0 a.2.length)]) (λa k=>[(2,⟨125,2,true,true,w1_1,[[str a.1.s,aA a.1.bad]]⟩),(8,⟨23,1,true,true,k,a.2.map (fL 1 fI)⟩)]) ⟨λj30 h2=>?_,?_⟩
  refine tc aB 1 (.mk ?_)
  refine sH 3 8 23 1 rfl rfl ?_;intro v31
  refine lp (λn (a:Int×aI×(List (List Int)))=>xP x7 n a.1 a.2.1 a.2.2) ((0:Int),(y4_2:aI),(([]:List (List Int)):List (List Int))) v31 h2 [1,2,5] [1,3,4,6] (λ(a:Int×aI×(List (List Int))) (k:Nat)=>[(3,.sl 8 k 0 a.2.2.length),(6,int a.1)]) (λa k=>[(2,⟨125,2,true,true,w1_1,[[str a.2.1.s,aA a.2.1.bad]]⟩),(8,⟨23,1,true,true,k,a.2.2.map (fL 1 fI)⟩)]) (λ_=>rfl) ⟨dW,?_⟩
  rintro n ⟨y5_2,y5_3,y5_4⟩ w5_1 hm h2
  replace h2:xP x7 (n+1) y5_2 y5_3 y5_4=some _:=h2
  rw [xP] at h2
  refine tc aB 2 (.mk ?_)
  refine nb aB h2 λx32 h2=>?_
  refine tr aB 2 (.mk ?_)
  cases x32
  replace h2:=cf h2
  refine tc aB 2 (.mk ?_)
  exact lf h2 w5_1 dW
  replace h2:=ct h2
  refine tc aB 7 (.mk ?_)
  obtain ⟨p33,h2⟩:=dH h2
  obtain ⟨p34,h2⟩:=dH h2
  obtain ⟨x35,e35,h2⟩:=bJ h2
  obtain ⟨x36,e36,h2⟩:=bJ h2
  refine bO rfl rfl rfl (aQ rfl rfl (.cons rfl (.cons rfl .nil)) zN (PC.mono (zF (most:=5) (s:=((y5_3.s,y5_3.bad):RS)) (id:=2) (aD:=w1_1) rfl p33 p34 rfl rfl) (R':=λy H'=>y=ints x35/\H'=upd _ 2 (some (cK 125 w1_1 x36))) (λy H' h=>⟨h.1.trans (congrArg ints e35),h.2.trans (dN e36)⟩))) ?_;rintro _ _ ⟨rfl,rfl⟩
  refine sY (aN (y:=aG 1 (fL 1 fI) ([x35]:List (List Int))) (dY (ps:=[(0,_)]) (rows:=[[aG 1 fI x35]]) rfl Tryz.underlying24 pP (.cons rfl .nil) (by kernel_rfl) rfl rfl rfl) rfl) ?_
  obtain ⟨x37,e37,h2⟩:=bJ h2
  obtain ⟨p38,h2⟩:=dH h2
  refine bO rfl rfl rfl (iP (g:=(fL 1 fI)) (l:=y5_4) (m:=([x35]:List (List Int))) .any rfl Tryz.underlying24 pP uO rfl rfl rfl rfl rfl rfl rfl rfl rfl rfl (Eq.symm rfl) (.refl _) (λ_=>rfl) e37 p38) ?_;rintro _ _ ⟨v39,-,rfl,rfl⟩
  refine tr aB 4 (.mk ?_)
  refine ni aB h2 λx40 h2=>?_
  refine tr aB 2 (.mk ?_)
  exact bk (x40,(⟨x36.1,x36.2⟩:aI),x37) v39 h2 dW
  rintro ⟨y6_2,y6_3⟩ w6_1 h1
  replace h1:=oU h1
  refine tc aB 5 (.mk ?_)
  obtain rfl:=eH h1
  refine fF (hret _ _ (hk [(1,⟨26,5,true,true,v2,[[int 0,int 0,.sc (.slice none 0 0),.sc (.slice none 0 0),.sc (.slice none 0 0)]]⟩),(2,⟨125,2,true,true,w1_1,[[str y6_2.s,aA y6_2.bad]]⟩),(3,⟨75,1,true,true,v5,[[.pt 2 w1_1 0 0]]⟩),(4,⟨26,5,true,true,v16,[[int x7,int x10,aG 1 fI x14,.sl 6 w4_1 0 y4_3.length,.sc (.slice none 0 0)]]⟩),(6,⟨23,1,true,true,w4_1,y4_3.map (fL 1 fI)⟩),(8,⟨23,1,true,true,w6_1,y6_3.map (fL 1 fI)⟩)]) (.tmp rfl .nil) (HK.le ⟨rfl,rfl,rfl,rfl,rfl,rfl,trivial⟩) ?_)
  exact ⟨(y6_2,y6_3),w6_1,rfl,rfl,rfl⟩
  rintro y _ ⟨⟨y7_2,y7_3⟩,w7_1,rfl,hc,rfl⟩
  replace h0:=oU h0
  subst hc
  refine tr aB 1 (.mk ?_)
  refine sS ⟨26,5,true,true,v16,[[int x7,int x10,aG 1 fI x14,.sl 6 w4_1 0 y4_3.length,.sl 8 w7_1 0 y7_3.length]]⟩ T7 ?_
  refine tr aB 3 (.mk ?_)
  refine jn h0 [2,3,5] [1,4,6,8] (λ(a:Bool) (k:Unit)=>[(34,aA a)]) (λa k=>[]) ⟨λj41 h1=>?_,?_⟩
  refine tc aB 2 (.mk ?_)
  refine sY (kL rfl rfl (.cons rfl .nil) lD (lH (s:=((y7_2.s,y7_2.bad):RS)) (id:=2) (aD:=w1_1) rfl) (.sc _)) ?_
  refine tr aB 1 (.mk ?_)
  obtain ⟨x42,e42,h1⟩:=bJ h1
  refine iN 24 (aA x42) rfl (congrArg aA e42) ?_
  refine iN 25 (aA x42) rfl (congrArg aA e42) ?_
  cases x42
  replace h1:=cf h1
  refine tr aB 1 (.mk ?_)
  refine sY (kL rfl rfl (.cons rfl .nil) GK (J8 (s:=((y7_2.s,y7_2.bad):RS)) (id:=2) (aD:=w1_1) rfl) (.sc _)) ?_
  refine nb aB h1 λx43 h1=>?_
  refine tr aB 2 (.mk ?_)
  cases x43
  replace h1:=cf h1
  refine tr aB 1 (.mk ?_)
  obtain ⟨x44,e44,h1⟩:=dD h1
  refine sY (RD (v:=aA x44) rfl rfl (.cons rfl .nil) AP (.cons (cO.agg (.cons (.refl _) (.cons (.refl _) (.cons (.refl _) (.cons (gB rfl rfl rfl rfl rfl (Eq.symm rfl)) (.cons (gB rfl rfl rfl rfl rfl (Eq.symm rfl)) .nil)))))) .nil) (DL _ e44) rfl) ?_
  refine nb aB h1 λx45 h1=>?_
  refine tr aB 2 (.mk ?_)
  exact lf h1 () dW
  replace h1:=ct h1
  refine tr aB 5 (.mk ?_)
  exact lf h1 () dW
  replace h1:=ct h1
  refine tr aB 10 (.mk ?_)
  exact lf h1 () dW
  rintro y8_1 _ h0
  cases y8_1
  replace h0:=cf h0
  refine tc aB 5 (.mk ?_)
  refine sS ⟨26,5,true,true,v2,[[int x7,int x10,aG 1 fI x14,.sl 6 w4_1 0 y4_3.length,.sl 8 w7_1 0 y7_3.length]]⟩ xY ?_
  refine tr aB 2 (.mk ?_)
  obtain rfl:=eH h0
  refine wR hret (rC xY (rT .nil)) ?_
  exact cO.aM (.cons (cO.agg (.cons (.refl _) (.cons (.refl _) (.cons (.refl _) (.cons (gB rfl rfl rfl rfl rfl (Eq.symm rfl)) (.cons (gB rfl rfl rfl rfl rfl (Eq.symm rfl)) .nil)))))) (.cons (.refl _) .nil))
  replace h0:=ct h0
  refine tc aB 4 (.mk ?_)
  refine sS ⟨26,5,true,true,v2,[[int 0,int 0,.sc (.slice none 0 0),.sc (.slice none 0 0),.sc (.slice none 0 0)]]⟩ xY ?_
  refine tr aB 2 (.mk ?_)
  obtain rfl:=eH h0
  refine wR hret (rC xY (rT .nil)) ?_
  exact cO.aM (.cons (cO.agg (.cons (.refl _) (.cons (.refl _) (.cons (.nil _) (.cons (.nil _) (.cons (.nil _) .nil)))))) (.cons (.refl _) .nil))
def ZH :WB (pG) :=
 .al 1<|.gv 1<|.ret (((⟨([]:List UInt8),([69,73,76,81,65]:List UInt8),([81,65,82]:List UInt8),([81,82]:List UInt8),([69,73,76,81,65]:List UInt8),([81,65,82]:List UInt8),([69,73,76,81]:List UInt8),([69,73,76,81]:List UInt8),([69,73,76,84,81]:List UInt8),([69,73,65]:List UInt8),([69,73,65]:List UInt8),([84,65,83]:List UInt8),([69,73,76,84,81,65]:List UInt8),([76,81,82]:List UInt8),([69]:List UInt8),([69]:List UInt8),([69]:List UInt8)⟩:pG):pG))
def SV :Option (pG):=(ZH ).run
theorem OH:PZ (SV ) 35 [] (λr=>.agg (pG.av r)):=by
 refine wm Tryz.func35 ?_
 intro v1
 refine .mk _ (aF (LU (cs:=[str ([]:List UInt8),str ([69,73,76,81,65]:List UInt8),str ([81,65,82]:List UInt8),str ([81,82]:List UInt8),str ([69,73,76,81,65]:List UInt8),str ([81,65,82]:List UInt8),str ([69,73,76,81]:List UInt8),str ([69,73,76,81]:List UInt8),str ([69,73,76,84,81]:List UInt8),str ([69,73,65]:List UInt8),str ([69,73,65]:List UInt8),str ([84,65,83]:List UInt8),str ([69,73,76,84,81,65]:List UInt8),str ([76,81,82]:List UInt8),str ([69]:List UInt8),str ([69]:List UInt8),str ([69]:List UInt8)]) (ps:=[(1,_),(2,_),(3,_),(4,_),(5,_),(6,_),(7,_),(8,_),(9,_),(10,_),(11,_),(12,_),(13,_),(14,_),(15,_),(16,_)]) rfl Tryz.underlying82 lQ z82 rfl (.cons rfl (.cons rfl (.cons rfl (.cons rfl (.cons rfl (.cons rfl (.cons rfl (.cons rfl (.cons rfl (.cons rfl (.cons rfl (.cons rfl (.cons rfl (.cons rfl (.cons rfl (.cons rfl .nil)))))))))))))))) (by kernel_rfl))) ?_
 exact .mk
theorem mQ:PP Tryz.prog 35 [] (λy=>y=.agg [str ([]:List UInt8),str ([69,73,76,81,65]:List UInt8),str ([81,65,82]:List UInt8),str ([81,82]:List UInt8),str ([69,73,76,81,65]:List UInt8),str ([81,65,82]:List UInt8),str ([69,73,76,81]:List UInt8),str ([69,73,76,81]:List UInt8),str ([69,73,76,84,81]:List UInt8),str ([69,73,65]:List UInt8),str ([69,73,65]:List UInt8),str ([84,65,83]:List UInt8),str ([69,73,76,84,81,65]:List UInt8),str ([76,81,82]:List UInt8),str ([69]:List UInt8),str ([69]:List UInt8),str ([69]:List UInt8)]):=OH (r:=(⟨([]:List UInt8),([69,73,76,81,65]:List UInt8),([81,65,82]:List UInt8),([81,82]:List UInt8),([69,73,76,81,65]:List UInt8),([81,65,82]:List UInt8),([69,73,76,81]:List UInt8),([69,73,76,81]:List UInt8),([69,73,76,84,81]:List UInt8),([69,73,65]:List UInt8),([69,73,65]:List UInt8),([84,65,83]:List UInt8),([69,73,76,84,81,65]:List UInt8),([76,81,82]:List UInt8),([69]:List UInt8),([69]:List UInt8),([69]:List UInt8)⟩:pG)) rfl
def aES (a1:List UInt8) (a2:Int):WB (Int) :=
 .bl (y9 a1 a2:Int) λx3=>.gv 7<|.ret ((x3:Int))
def Q4 (a1:List UInt8) (a2:Int):Option (Int):=(aES a1 a2).run
theorem aD8 {a1 a2}:PZ (Q4 a1 a2) 179 [str a1,.sc (.int .u8 a2)] int:=by
 refine wm Tryz.func179 ?_
 refine .mk λx3 e3=>?_
 refine .mk _ (aF (aN (y:=int x3) (aJW rfl Tryz.func219 rfl rfl ibx iby rfl rfl) (congrArg int e3))) ?_
 exact .mk
def WG (a1:List UInt8) (a2:Int):WB (Int) :=
 .cl 7 (Q4 a1 a2) ZV aD8 λx3=>.ret ((x3:Int))
def tO (a1:List UInt8) (a2:Int):Option (Int):=(WG a1 a2).run
theorem uP {a1 a2}:PZ (tO a1 a2) 149 [str a1,.sc (.int .u8 a2)] int:=by
 refine wm Tryz.func149 ?_
 refine .mk λx3 e3=>?_
 exact .mk
def aJX (a1:Int) (a2:Int):WB (Int×Int) :=
 .bB 8 (decide (a2=69)) λx3=>.ifs [8] x3 (.ret ((0:Int),3)) (.bB 10 (decide (a2=73)) λx4=>.ifs [10] x4 (.ret ((0:Int),4)) (.bB 12 (decide (a2=76)) λx5=>.ifs [12] x5 (.ret ((0:Int),1)) (.bB 14 (decide (a2=84)) λx6=>.az [14] x6 (.bB 20 (decide (a2=81)) λx7=>.ifs [20] x7 (.bB 22 (decide (a1=7)) λx8=>.az [22] x8 (.ret ((1:Int),1073741824))) (.bB 24 (decide (a2=65)) λx9=>.ifs [24] x9 (.jn 1 [4,5] [] [] (λ_ (a:Bool)=>[(30,aA a)]) (λ_ _=>[]) (.bB 26 (decide (a1=9)) λx10=>.ifs [26] x10 (.ret true) (.bB 29 (decide (a1=10)) λx11=>.ret x11)) (λy0_1=>.az [30] y0_1 (.ret ((0:Int),1125899906842624)))) (.ret ((0:Int),39)))))))
def tK (a1:Int) (a2:Int):Option (Int×Int):=(aJX a1 a2).run
theorem uR {a1 a2}:PZ (tK a1 a2) 66 [int a1,.sc (.int .i32 a2)] (λr=>.aM [int r.1,int r.2]):=wq Tryz.func66
end
end Go.Pv
