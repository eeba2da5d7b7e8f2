import Derived.Test.YtmokiknakhhhdaaGreatXRk
set_option linter.unusedVariables false
set_option linter.unusedSimpArgs false
namespace Go.Pv
open Go.Proofs
set_option maxRecDepth 100000
set_option maxHeartbeats 4000000
noncomputable section
def vI (a1:List aF) (y0_2:Int) (x11:(List UInt8)):Nat->(List UInt8)->Int->Option ((List UInt8))
  | 0,_,_=>none
  | n+1,y1_1,y1_2 =>
    bnd (decide (y1_2<(x11.length:Int))) λx17 =>
    cond x17 ((show Option ((List UInt8)) from
    (ix x11 y1_2).bind λx19 =>
    bnd (decide ((x19.toNat:Int)=115)) λx20 =>
    cond x20 ((ix a1 y0_2).bind λx27 =>
    (vQ n x27.bT).bind λx28 =>
    bU (y1_1.length+x28.length<=9223372036854775807)<|
    bnd (y1_1++x28) λx30 =>
    some (x30:List UInt8)) ((ix a1 y0_2).bind λx21 =>
    (ix x11 y1_2).bind λx22 =>
    (CB x21 (x22.toNat:Int)).bind λx23 =>
    (rY x23).bind λx24 =>
    bU (y1_1.length+x24.length<=9223372036854775807)<|
    bnd (y1_1++x24) λx26 =>
    some (x26:List UInt8))).bind <| λy2_1 =>
    bnd (bM (y1_2+1)) λx31 =>
    vI a1 y0_2 x11 n (y2_1:List UInt8) (x31:Int)) (some (y1_1:List UInt8))
def vG (a1:List aF):Nat->(List UInt8)->Int->Option (((List UInt8))⊕((List UInt8)))
  | 0,_,_=>none
  | n+1,y0_1,y0_2 =>
    bnd (decide (y0_2<(a1.length:Int))) λx5 =>
    cond x5 ((show Option (((List UInt8))⊕(((List UInt8))⊕((List UInt8)))) from
    (ix a1 y0_2).bind λx7 =>
    (fO n x7).bind λx8 =>
    bnd (!x8) λx9 =>
    cond x9 (esc (esc (some ((([]:List UInt8):List UInt8))))) ((ix a1 y0_2).bind λx10 =>
    (lC x10.Kind).bind λx11 =>
    (ix a1 y0_2).bind λx12 =>
    (rY x12.Kind).bind λx13 =>
    bU (y0_1.length+x13.length<=9223372036854775807)<|
    bnd (y0_1++x13) λx15 =>
    (show Option ((List UInt8)) from
    vI a1 y0_2 x11 n (x15:List UInt8) (0:Int)).bind <| λy3_1 =>
    brk (y3_1:List UInt8))).bind <| sel <| λy4_1 =>
    bnd (bM (y0_2+1)) λx34 =>
    vG a1 n (y4_1:List UInt8) (x34:Int)) (brk (y0_1:List UInt8))
def rJ (n:Nat) (a1:List aF):Option ((List UInt8)) :=
bnd (decide ((a1.length:Int)>400)) λx2 =>
cond x2 (some ((([]:List UInt8):List UInt8))) ((rY (a1.length:Int)).bind λx3 =>
(show Option (((List UInt8))⊕((List UInt8))) from
vG a1 n (x3:List UInt8) (0:Int)).bind <| sel <| λy5_1 =>
some ((y5_1:List UInt8)))
theorem XP {n:Nat} {a1:List aF} {r:(List UInt8)} (h0:rJ n a1=some r):PP Tryz.prog 9 [aG 9 aF.av a1] (λy=>y=str r):=by
  unfold rJ at h0
  refine kE (R0:=λy H=>Cv (iN H) y (str r)) ?_ (λy H hc=>⟨_,rfl,yI r,hc⟩)
  refine dD (c:=_) Tryz.func9 rfl rfl ?_;intro Q hret hnorm
  refine tc aA 8 (.mk ?_)
  refine sY (iT rfl Tryz.underlying27 rfl (mK _)) ?_
  refine nb aA h0 λx2 h0=>?_
  refine tr aA 1 (.mk ?_)
  cases x2
  replace h0:=cf h0
  refine tc aA 5 (.mk ?_)
  refine sY (iT rfl Tryz.underlying27 rfl (mK _)) ?_
  obtain ⟨x3,e3,h0⟩:=bJ h0
  refine sC xB (wD e3) ?_
  refine tr aA 7 (.mk ?_)
  refine iA h0 [2] [] (λ(a:(List UInt8)) (k:Unit)=>[(3,str a)]) (λa k=>[]) ⟨λj4 h1 h0=>?_,?_⟩
  refine tc aA 1 (.mk ?_)
  refine lp (λn (a:(List UInt8)×Int)=>vG a1 n a.1 a.2) ((x3:List UInt8),(0:Int)) () h1 [0,2] [] (λ(a:(List UInt8)×Int) (k:Unit)=>[(3,str a.1),(4,int a.2)]) (λa k=>[]) (λ_=>rfl) ⟨aW,?_⟩
  rintro n ⟨y0_1,y0_2⟩ _ hm h1
  replace h1:vG a1 (n+1) y0_1 y0_2=some _:=h1
  rw [vG] at h1
  refine tc aA 5 (.mk ?_)
  refine sY (iT rfl Tryz.underlying27 rfl (mK _)) ?_
  refine nb aA h1 λx5 h1=>?_
  refine tr aA 1 (.mk ?_)
  cases x5
  replace h1:=cf h1
  refine tc aA 2 (.mk ?_)
  exact jW h1 () aW
  replace h1:=ct h1
  refine tc aA 3 (.mk ?_)
  refine iA h1 [0,2,4] [] (λ(a:(List UInt8)) (k:Unit)=>[(3,str a)]) (λa k=>[]) ⟨λj6 h2 h1=>?_,?_⟩
  refine tc aA 6 (.mk ?_)
  obtain ⟨x7,e7,h2⟩:=bJ h2
  refine sY (oG rfl Tryz.underlying27 fD rfl rfl e7) ?_
  refine tr aA 1 (.mk ?_)
  obtain ⟨x8,e8,h2⟩:=bJ h2
  refine sC aG5 (aGF e8) ?_
  refine nb aA h2 λx9 h2=>?_
  refine tr aA 1 (.mk ?_)
  cases x9
  replace h2:=cf h2
  refine tc aA 6 (.mk ?_)
  obtain ⟨x10,e10,h2⟩:=bJ h2
  refine sY (oG rfl Tryz.underlying27 fD rfl rfl e10) ?_
  refine tr aA 2 (.mk ?_)
  obtain ⟨x11,e11,h2⟩:=bJ h2
  refine sC Y3 (XT e11) ?_
  refine tr aA 7 (.mk ?_)
  obtain ⟨x12,e12,h2⟩:=bJ h2
  refine sY (oG rfl Tryz.underlying27 fD rfl rfl e12) ?_
  refine tr aA 2 (.mk ?_)
  obtain ⟨x13,e13,h2⟩:=bJ h2
  refine sC xB (wD e13) ?_
  obtain ⟨p14,h2⟩:=cO h2
  obtain ⟨x15,e15,h2⟩:=aP h2
  refine sY (aH (y:=str x15) (rZ rfl rfl rfl p14) (congrArg str e15)) ?_
  refine tr aA 6 (.mk ?_)
  refine jn h2 [0,2,4] [] (λ(a:(List UInt8)) (k:Unit)=>[(3,str a)]) (λa k=>[]) ⟨λj16 h3=>?_,?_⟩
  refine tc aA 1 (.mk ?_)
  refine lp (λn (a:(List UInt8)×Int)=>vI a1 y0_2 x11 n a.1 a.2) ((x15:List UInt8),(0:Int)) () h3 [0,2,4,5] [] (λ(a:(List UInt8)×Int) (k:Unit)=>[(3,str a.1),(6,int a.2)]) (λa k=>[]) (λ_=>rfl) ⟨aW,?_⟩
  rintro n ⟨y1_1,y1_2⟩ _ hm h3
  replace h3:vI a1 y0_2 x11 (n+1) y1_1 y1_2=some _:=h3
  rw [vI] at h3
  refine tc aA 5 (.mk ?_)
  refine sY (qB rfl Tryz.underlying9 rfl) ?_
  refine nb aA h3 λx17 h3=>?_
  refine tr aA 1 (.mk ?_)
  cases x17
  replace h3:=cf h3
  refine tc aA 2 (.mk ?_)
  exact lf h3 () aW
  replace h3:=ct h3
  refine tc aA 3 (.mk ?_)
  refine jn h3 [0,2,4,5,6] [] (λ(a:(List UInt8)) (k:Unit)=>[(3,str a)]) (λa k=>[]) ⟨λj18 h4=>?_,?_⟩
  refine tc aA 5 (.mk ?_)
  obtain ⟨x19,e19,h4⟩:=bJ h4
  refine sY (zI rfl Tryz.underlying9 rfl rfl (mY e19).1 (mY e19).2) ?_
  refine nb aA h4 λx20 h4=>?_
  refine tr aA 1 (.mk ?_)
  cases x20
  replace h4:=cf h4
  refine tc aA 1 (.mk ?_)
  refine nH [0,0,0,6,14,0,0,96,254,510,1023,2047] (λi=>[]) (λi=>[]) (λi=>true) [0,1,2,3,4,5,6,7,8,9,10,11] mixed (by kernel_rfl) ?_;intro K hK
  iterate 3 refine eM ?_
  obtain ⟨x21,e21,h4⟩:=bJ h4
  refine eP (λH hH=>oG rfl Tryz.underlying27 fD rfl rfl e21) ?_
  refine eP (λH hH=>eT rfl fD rfl (.pp _) rfl) ?_
  iterate 2 refine eM ?_
  obtain ⟨x22,e22,h4⟩:=bJ h4
  refine eP (λH hH=>zI rfl Tryz.underlying9 rfl rfl (mY e22).1 (mY e22).2) ?_
  obtain ⟨x23,e23,h4⟩:=bJ h4
  refine eP (λH hH=>gH rfl rfl (.cons rfl (.cons rfl .nil)) aNZ (bO.refl _) (aJ4 e23)) ?_
  obtain ⟨x24,e24,h4⟩:=bJ h4
  refine eP (λH hH=>gH rfl rfl (.cons rfl .nil) xB (bO.refl _) (wD e24)) ?_
  obtain ⟨p25,h4⟩:=cO h4
  obtain ⟨x26,e26,h4⟩:=aP h4
  refine eP (λH hH=>aH (y:=str x26) (rZ rfl rfl rfl p25) (congrArg str e26)) ?_
  refine eA ?_
  refine jI (hK _ ?_)
  refine tc aA 1 (.mk ?_)
  exact lf h4 () aW
  replace h4:=ct h4
  refine tc aA 5 (.mk ?_)
  obtain ⟨x27,e27,h4⟩:=bJ h4
  refine sY (oG rfl Tryz.underlying27 fD rfl rfl e27) ?_
  refine tr aA 2 (.mk ?_)
  obtain ⟨x28,e28,h4⟩:=bJ h4
  refine sC GM (F8 e28) ?_
  obtain ⟨p29,h4⟩:=cO h4
  obtain ⟨x30,e30,h4⟩:=aP h4
  refine sY (aH (y:=str x30) (rZ rfl rfl rfl p29) (congrArg str e30)) ?_
  refine tr aA 3 (.mk ?_)
  exact lf h4 () aW
  rintro y2_1 _ h3
  refine tc aA 2 (.mk ?_)
  refine ni aA h3 λx31 h3=>?_
  refine tr aA 2 (.mk ?_)
  exact bk (y2_1,x31) () h3 aW
  rintro y3_1 _ h2
  refine tc aA 1 (.mk ?_)
  exact jW h2 () aW
  replace h2:=ct h2
  refine tc aA 5 (.mk ?_)
  obtain ⟨c32,hX,hj⟩:=gD h2;subst hj;replace h1:=hX.trans (fZ h1)
  obtain ⟨c33,hX,hj⟩:=gD h1;subst hj;replace h0:=hX.trans (fZ h0)
  obtain rfl:=bE h0
  refine wR hret (rT .nil) ?_
  exact .refl _
  rintro y4_1 _ h1
  refine tc aA 2 (.mk ?_)
  refine ni aA h1 λx34 h1=>?_
  refine tr aA 2 (.mk ?_)
  exact bk (y4_1,x34) () h1 aW
  rintro y5_1 _ h0
  refine tc aA 5 (.mk ?_)
  obtain rfl:=bE h0
  refine wR hret (rT .nil) ?_
  exact .refl _
  replace h0:=ct h0
  refine tc aA 5 (.mk ?_)
  obtain rfl:=bE h0
  refine wR hret (rT .nil) ?_
  exact .refl _
def RO (a1:Int) (a2:Int):WB (Int) :=
 .as (a2≠0) inferInstance<|.bl (a1.tmod a2:Int) λx4=>.gv 8<|.bB 10 (decide (x4<0)) λx5=>.jn 0 [4] [] [] (λ_ (a:Int)=>[(5,int a)]) (λ_ _=>[]) (.ifs [10] x5 (.bI 13 (bM (x4+a2)) λx6=>.ret x6) (.ret x4)) (λy0_1=>.ret ((y0_1:Int)))
def A7 (a1:Int) (a2:Int):Option (Int):=(RO a1 a2).run
theorem ZE {a1 a2}:PZ (A7 a1 a2) 5 [int a1,int a2] int:=wq Tryz.func5
def aCM (n:Nat) (a1:Int):WB (eU) :=
 .al 1<|.cl 13 (A7 a1 1073741824) SE ZE λx3=>.bI 15 (x3.tmod 2) λx4=>.bI 16 (bM (2+x4)) λx5=>.bI 18 (bM (x3.tdiv 2)) λx6=>.bI 19 (x6.tmod 3) λx7=>.bI 20 (bM (2+x7)) λx8=>.bI 23 (bM (x3.tdiv 6)) λx9=>.bI 24 (x9.tmod 4) λx10=>.bI 25 (bM (1+x10)) λx11=>.al 2<|.jn 1 [2,3,4,5,6] [1] [4] (λ_ (a:(List Int))=>[]) (λu2 a=>[.kp 2 [[int x5,int x11,.sl 4 (u2 4) 0 a.length,.sc (.slice none 0 0),.sc (.slice none 0 0)]],.nw 4 3 1 (a.map fI)]) (.nc 2 0 2 4 3 1<|.lp [2,3,4,5,6] [1] [4] (λ_ (a:Int×(List Int))=>[(7,int a.1)]) (λu3 a=>[.kp 2 [[int x5,int x11,.sl 4 (u3 4) 0 a.2.length,.sc (.slice none 0 0),.sc (.slice none 0 0)]],.nw 4 3 1 (a.2.map fI)]) n ((0:Int),(([]:List Int):List Int)) (pw λy0_1 y0_3=>.bB 29 (decide (y0_1<x8)) λx14=>.ifs [29] x14 (.bI 35 (bM (x3.tdiv 24)) λx15=>.bI 36 (x15.tmod 7) λx16=>.bI 38 (bM (x16+y0_1)) λx17=>.to 39 (aG 1 fI ([x17]:List Int))<|.bl (y0_3++([x17]:List Int):List Int) λx18=>.as (x18.length<=68719476736) inferInstance<|.ge 40 0<|.bI 31 (bM (y0_1+1)) λx21=>.brk ((x21:Int),x18)) (.esc (.ret y0_3)))) (λy1_2=>.jn 1 [2,6] [1,4] [11,12] (λ_ (a:(List (List Int))×(List (List Int)))=>[]) (λu20 a=>[.kp 2 [[int x5,int x11,.sl 4 (u20 4) 0 y1_2.length,.sl 11 (u20 11) 0 a.1.length,.sl 12 (u20 12) 0 a.2.length]],.nw 11 23 1 (a.1.map (fL 1 fI)),.nw 12 23 1 (a.2.map (fL 1 fI))]) (.nc 2 0 3 11 23 1<|.nc 2 0 4 12 23 1<|.lp [2,3,4,5,6] [1,4] [11,12] (λ_ (a:Int×(List (List Int))×(List (List Int)))=>[(8,int a.1)]) (λu25 a=>[.kp 2 [[int x5,int x11,.sl 4 (u25 4) 0 y1_2.length,.sl 11 (u25 11) 0 a.2.1.length,.sl 12 (u25 12) 0 a.2.2.length]],.nw 11 23 1 (a.2.1.map (fL 1 fI)),.nw 12 23 1 (a.2.2.map (fL 1 fI))]) n ((0:Int),(([]:List (List Int)):List (List Int)),(([]:List (List Int)):List (List Int))) (pw λy2_1 q0=>(pw λy2_4 y2_5=>.bB 44 (decide (y2_1<x5)) λx24=>.ifs [44] x24 (.jn 1 [2,3,4,5,6,8] [1,4] [11,12] (λ_ (a:(List (List Int))×(List (List Int)))=>[]) (λu28 a=>[.kp 2 [[int x5,int x11,.sl 4 (u28 4) 0 y1_2.length,.sl 11 (u28 11) 0 a.1.length,.sl 12 (u28 12) 0 a.2.length]],.nw 11 23 1 (a.1.map (fL 1 fI)),.nw 12 23 1 (a.2.map (fL 1 fI))]) (.jn 3 [2,3,4,5,6,8] [1,2,4,11,12] [7,8] (λu30 (a:(List Int)×(List Int))=>[(9,.sl 7 (u30 7) 0 a.1.length),(10,.sl 8 (u30 8) 0 a.2.length)]) (λ_ a=>[.nw 7 3 1 (a.1.map fI),.nw 8 3 1 (a.2.map fI)]) (.no 9 7 3 1<|.no 10 8 3 1<|.lp [2,3,4,5,6,8] [1,2,4,11,12] [7,8] (λu31 (a:Int×(List Int)×(List Int))=>[(9,.sl 7 (u31 7) 0 a.2.1.length),(10,.sl 8 (u31 8) 0 a.2.2.length),(11,int a.1)]) (λ_ a=>[.nw 7 3 1 (a.2.1.map fI),.nw 8 3 1 (a.2.2.map fI)]) n ((0:Int),(([]:List Int):List Int),(([]:List Int):List Int)) (pw λy3_3 q0=>(pw λy3_4 y3_5=>.bB 49 (decide (y3_3<x8)) λx27=>.ifs [49] x27 (.bI 54 (bM (x3.tdiv 168)) λx28=>.bI 56 (bM (x28+y3_3)) λx29=>.bI 59 (bM (x3.tdiv 672)) λx30=>.bI 60 (x30.tmod 4) λx31=>.bI 61 (bM (y2_1*x31)) λx32=>.bI 62 (bM (x29+x32)) λx33=>.bI 63 (x33.tmod 4) λx34=>.bI 64 (bM (1+x34)) λx35=>.to 65 (aG 1 fI ([x35]:List Int))<|.bl (y3_4++([x35]:List Int):List Int) λx36=>.as (x36.length<=68719476736) inferInstance<|.ge 66 0<|.bI 69 (bM (x3.tdiv 2688)) λx39=>.bI 71 (bM (7*y3_3)) λx40=>.bI 72 (bM (x39+x40)) λx41=>.bI 74 (bM (x41+y2_1)) λx42=>.bI 75 (x42.tmod 40) λx43=>.to 76 (aG 1 fI ([x43]:List Int))<|.bl (y3_5++([x43]:List Int):List Int) λx44=>.as (x44.length<=68719476736) inferInstance<|.ge 77 0<|.bI 51 (bM (y3_3+1)) λx47=>.brk ((x47:Int),x36,x44)) (.esc (.ret ((y3_4:List Int),y3_5)))) q0)) (pw λy4_3 y4_4=>.dr [(0,[2]),(1,[2]),(5,[2]),(6,[2]),(10,[2]),(12,[2])] [(11,[]),(13,[])] [2] [4,9,11,13] [0,1,2,3,5,6,7,8,4,10,9,11,12,13] (.gv 81<|.gv 86<|.bl (y2_4++[y4_3]:List (List Int)) λx48=>.as (x48.length<=68719476736) inferInstance<|.ge 82 0<|.bl (y2_5++[y4_4]:List (List Int)) λx51=>.as (x51.length<=68719476736) inferInstance<|.ge 87 0<|.ret ((x48:List (List Int)),(x51:List (List Int)))))) (pw λy5_3 y5_4=>.bI 46 (bM (y2_1+1)) λx54=>.brk ((x54:Int),(y5_3:List (List Int)),(y5_4:List (List Int))))) (.esc (.ret ((y2_4:List (List Int)),(y2_5:List (List Int)))))) q0)) (pw λy6_3 y6_4=>.ret (((⟨x5,x11,y1_2,y6_3,y6_4⟩:eU):eU))))
def WE (n:Nat) (a1:Int):Option (eU):=(aCM n a1).run
theorem aJ0 {n a1}:PZ (WE n a1) 11 [int a1] (λr=>.agg (eU.av r)):=by
 refine wm Tryz.func11 ?_
 intro v2
 refine .mk λx3 e3=>?_
 refine .mk λx4=>?_
 refine .mk λx5=>?_
 refine .mk λx6=>?_
 refine .mk λx7=>?_
 refine .mk λx8=>?_
 refine .mk λx9=>?_
 refine .mk λx10=>?_
 refine .mk λx11=>?_
 intro v12
 refine .mk ?_ ?_
 intro v13
 refine .mk ?_
 rintro ⟨y0_1,y0_3⟩ _
 refine .mk λx14=>?_
 refine .mk ?_ ?_
 refine .mk λx15=>?_
 refine .mk λx16=>?_
 refine .mk λx17=>?_
 refine .mk (aT (aH (y:=aG 1 fI ([x17]:List Int)) (dQ (ps:=[(0,_)]) (rows:=[[int x17]]) rfl Tryz.underlying23 kN (.cons rfl .nil) (by kernel_rfl) rfl rfl rfl) rfl)) ?_
 refine .mk λx18 e18=>?_
 refine .mk λp19=>?_
 refine .mk _ ⟨λ_=>iB (g:=fI) (l:=y0_3) (m:=([x17]:List Int)) .any rfl Tryz.underlying23 kN pZ rfl rfl rfl rfl rfl rfl rfl rfl rfl rfl (Eq.symm rfl) (.refl _) (λ_=>rfl) e18 p19,λ_ _ _=>trivial⟩ ?_
 rintro _ _ ⟨v20,-,rfl,rfl⟩
 refine .mk λx21=>?_
 exact .mk
 exact .mk
 intro _ _
 refine .mk ?_ ?_
 intro v22
 intro v23
 refine .mk ?_
 rintro ⟨y2_1,y2_4,y2_5⟩ _
 refine .mk λx24=>?_
 refine .mk ?_ ?_
 refine .mk ?_ ?_
 refine .mk ?_ ?_
 intro v25
 intro v26
 refine .mk ?_
 rintro ⟨y3_3,y3_4,y3_5⟩ _
 refine .mk λx27=>?_
 refine .mk ?_ ?_
 refine .mk λx28=>?_
 refine .mk λx29=>?_
 refine .mk λx30=>?_
 refine .mk λx31=>?_
 refine .mk λx32=>?_
 refine .mk λx33=>?_
 refine .mk λx34=>?_
 refine .mk λx35=>?_
 refine .mk (aT (aH (y:=aG 1 fI ([x35]:List Int)) (dQ (ps:=[(0,_)]) (rows:=[[int x35]]) rfl Tryz.underlying23 kN (.cons rfl .nil) (by kernel_rfl) rfl rfl rfl) rfl)) ?_
 refine .mk λx36 e36=>?_
 refine .mk λp37=>?_
 refine .mk _ ⟨λ_=>iB (g:=fI) (l:=y3_4) (m:=([x35]:List Int)) .any rfl Tryz.underlying23 kN pZ rfl rfl rfl rfl rfl rfl rfl rfl rfl rfl (Eq.symm rfl) (.refl _) (λ_=>rfl) e36 p37,λ_ _ _=>trivial⟩ ?_
 rintro _ _ ⟨v38,-,rfl,rfl⟩
 refine .mk λx39=>?_
 refine .mk λx40=>?_
 refine .mk λx41=>?_
 refine .mk λx42=>?_
 refine .mk λx43=>?_
 refine .mk (aT (aH (y:=aG 1 fI ([x43]:List Int)) (dQ (ps:=[(0,_)]) (rows:=[[int x43]]) rfl Tryz.underlying23 kN (.cons rfl .nil) (by kernel_rfl) rfl rfl rfl) rfl)) ?_
 refine .mk λx44 e44=>?_
 refine .mk λp45=>?_
 refine .mk _ ⟨λ_=>iB (g:=fI) (l:=y3_5) (m:=([x43]:List Int)) .any rfl Tryz.underlying23 kN pZ rfl rfl rfl rfl rfl rfl rfl rfl rfl rfl (Eq.symm rfl) (.refl _) (λ_=>rfl) e44 p45,λ_ _ _=>trivial⟩ ?_
 rintro _ _ ⟨v46,-,rfl,rfl⟩
 refine .mk λx47=>?_
 exact .mk
 exact .mk
 rintro ⟨y4_3,y4_4⟩ u30
 refine .mk ?_
 refine .mk _ (λH hH _=>dQ (ps:=[(0,_)]) (rows:=[[.sl 7 (u30 7) 0 y4_3.length]]) rfl Tryz.underlying24 oZ (.cons rfl .nil) (by kernel_rfl) rfl rfl rfl) ?_
 refine .mk _ (λH hH _=>dQ (ps:=[(0,_)]) (rows:=[[.sl 8 (u30 8) 0 y4_4.length]]) rfl Tryz.underlying24 oZ (.cons rfl .nil) (by kernel_rfl) rfl rfl rfl) ?_
 refine .mk λx48 e48=>?_
 refine .mk λp49=>?_
 refine .mk _ ⟨λ_=>bZ.o9 7 rfl (iB (g:=(fL 1 fI)) (l:=y2_4) (m:=[y4_3]) .any rfl Tryz.underlying24 oZ wE rfl rfl rfl rfl rfl rfl rfl rfl rfl rfl (Eq.symm rfl) (fV.list (.cons (.cons (gJ rfl rfl rfl rfl rfl (Eq.symm rfl)) .nil) .nil)) (λ_=>rfl) e48 p49),by rintro _ _ ⟨v50,-,rfl,rfl⟩;exact ⟨rfl,trivial⟩⟩ ?_
 rintro _ _ ⟨v50,-,rfl,rfl⟩
 refine .mk λx51 e51=>?_
 refine .mk λp52=>?_
 refine .mk _ ⟨λ_=>bZ.o9 8 rfl (iB (g:=(fL 1 fI)) (l:=y2_5) (m:=[y4_4]) .any rfl Tryz.underlying24 oZ wE rfl rfl rfl rfl rfl rfl rfl rfl rfl rfl (Eq.symm rfl) (fV.list (.cons (.cons (gJ rfl rfl rfl rfl rfl (Eq.symm rfl)) .nil) .nil)) (λ_=>rfl) e51 p52),by rintro _ _ ⟨v53,-,rfl,rfl⟩;exact ⟨rfl,trivial⟩⟩ ?_
 rintro _ _ ⟨v53,-,rfl,rfl⟩
 exact .mk
 intro _ _
 refine .mk λx54=>?_
 exact .mk
 exact .mk
 intro _ _
 exact .mk (bO.agg (.cons (.refl _) (.cons (.refl _) (.cons (gJ rfl rfl rfl rfl rfl (Eq.symm rfl)) (.cons (gJ rfl rfl rfl rfl rfl (Eq.symm rfl)) (.cons (gJ rfl rfl rfl rfl rfl (Eq.symm rfl)) .nil))))))
def aGK (n:Nat) :WB (Bool) :=
 .cl 11 (WE n 0) aL7 aJ0 λx1=>.al 1<|.gv 15<|.cl 16 (yR n x1 [(⟨1,0,0,0,0,5,50,0,[]⟩:aF)]) G9 J5 λx3=>.al 2<|.cl 22 (vX n x1) QW Y5 λx5=>.cl 23 (rJ n []) O1 (λ_=>XP) λx6=>.cl 24 (xO n x5 x6) JO J9 λx7=>.cl 29 (xO n ([]:List UInt8) ([]:List UInt8)) JO J9 λx8=>.jn 0 [] [] [] (λ_ (a:Bool)=>[(0,aB a)]) (λ_ _=>[]) (.bB 34 (decide (x3.2.2=0)) λx9=>.ifs [34] x9 (.ln 37 fI x3.2.1<|.bB 38 (decide ((x3.2.1.length:Int)=1)) λx10=>.ifs [38] x10 (.ix 42 fI x3.2.1 0 λx11=>.bB 44 (decide (x11=0)) λx12=>.ifs [44] x12 (.bB 49 (decide (x3.1.Done=1)) λx13=>.ifs [49] x13 (.bB 53 (decide (x7.2.2=0)) λx14=>.ifs [53] x14 (.ln 57 fI x7.2.1<|.bB 58 (decide ((x7.2.1.length:Int)=0)) λx15=>.ifs [58] x15 (.gv 62<|.bB 63 (decide ((x7.1.length:Int)>50)) λx16=>.ifs [63] x16 (.bB 67 (decide (x8.2.2=3)) λx17=>.ret x17) (.ret false)) (.ret false)) (.ret false)) (.ret false)) (.ret false)) (.ret false)) (.ret false)) (λy0_1=>.ret ((y0_1:Bool)))
def GI (n:Nat) :Option (Bool):=(aGK n ).run
theorem aN3 {n}:PZ (GI n ) 10 [] aB:=by
 refine wm Tryz.func10 ?_
 refine .mk λx1 e1=>?_
 intro v2
 refine .mk _ (aT (dQ (ps:=[(0,_)]) (rows:=[[int 1,int 0,int 0,int 0,int 0,int 5,int 50,int 0,.sc (.slice none 0 0)]]) rfl Tryz.underlying27 iC (.cons rfl .nil) (by kernel_rfl) rfl rfl rfl)) ?_
 refine .mk (λx3 e3=>?_) rfl (by rintro _ rfl;exact (.cons (.refl _) (.cons (fV.list (.cons (.cons (.refl _) (.cons (.refl _) (.cons (.refl _) (.cons (.refl _) (.cons (.refl _) (.cons (.refl _) (.cons (.refl _) (.cons (.refl _) (.cons (.nil _) .nil))))))))) .nil)) .nil)))
 intro v4
 refine .mk λx5 e5=>?_
 refine .mk (λx6 e6=>?_) rfl (by rintro _ rfl;exact (.cons (.nil _) .nil))
 refine .mk λx7 e7=>?_
 refine .mk λx8 e8=>?_
 refine .mk ?_ ?_
 refine .mk λx9=>?_
 refine .mk ?_ ?_
 refine .mk ?_
 refine .mk λx10=>?_
 refine .mk ?_ ?_
 refine .mk λx11 e11=>?_
 refine .mk λx12=>?_
 refine .mk ?_ ?_
 refine .mk λx13=>?_
 refine .mk ?_ ?_
 refine .mk λx14=>?_
 refine .mk ?_ ?_
 refine .mk ?_
 refine .mk λx15=>?_
 refine .mk ?_ ?_
 refine .mk _ (aT (qB rfl Tryz.underlying9 rfl)) ?_
 refine .mk λx16=>?_
 refine .mk ?_ ?_
 refine .mk λx17=>?_
 exact .mk
 exact .mk
 exact .mk
 exact .mk
 exact .mk
 exact .mk
 exact .mk
 exact .mk
 intro _ _
 exact .mk
def QK (n:Nat) (a1:Int):WB (Bool) :=
 .cl 14 (A7 a1 900) SE ZE λx2=>.to 15 (aG 1 fI ([1]:List Int))<|.to 16 (aG 1 fI ([2]:List Int))<|.to 17 (aG 1 (fL 1 fI) ([([2]:List Int)]:List (List Int)))<|.to 18 (aG 1 fI ([0]:List Int))<|.to 19 (aG 1 (fL 1 fI) ([([0]:List Int)]:List (List Int)))<|.al 1<|.as ((0:Int)<=x2/\x2<=1048576) inferInstance<|.bl (List.replicate (Int.toNat x2) ((⟨0,0,0,0,0,0,0,0,[]⟩:aF):aF):List aF) λx5=>.ge 22 0<|.jn 1 [2,3,4] [1] [] (λu2 (a:(List aF))=>[(5,.sl 2 (u2 2) 0 a.length)]) (λ_ a=>[.kp 2 (a.map aF.av)]) (.lp [2,3,4,24] [1] [] (λu3 (a:Int×(List aF))=>[(5,.sl 2 (u3 2) 0 a.2.length),(25,int a.1)]) (λ_ a=>[.kp 2 (a.2.map aF.av)]) n ((0:Int),x5) (pw λy0_1 y0_2=>.bB 26 (decide (y0_1<((Int.toNat x2):Int))) λx7=>.ifs [26] x7 (.bo (ix y0_2 y0_1) λx8=>.gv 32<|.cv 31 (.agg [int 10,int 0,int 0,int 0,int 0,int 0,int y0_1,int 0,aG 1 fI []])<|.bl (y0_2.set (Int.toNat y0_1) ((⟨10,0,0,0,0,0,y0_1,0,[]⟩:aF):aF):List aF) λx9=>.ge 1007005 0<|.bI 33 (bM (y0_1+1)) λx10=>.brk ((x10:Int),x9)) (.esc (.ret y0_2)))) (λy1_1=>.o9 2<|.cl 37 (yR n (⟨1,1,([1]:List Int),([([2]:List Int)]:List (List Int)),([([0]:List Int)]:List (List Int))⟩:eU) y1_1) G9 J5 λx11=>.al 3<|.jn 0 [2,3,4,5,7] [1,2,3] [] (λ_ (a:Bool)=>[(62,aB a)]) (λ_ _=>[]) (.bB 42 (decide (x11.2.2≠0)) λx13=>.ifs [42] x13 (.ret true) (.ln 45 fI x11.2.1<|.bl (if 400<x2 then 400 else x2:Int) λx14=>.gv 47<|.bB 48 (decide ((x11.2.1.length:Int)≠x14)) λx15=>.ifs [48] x15 (.ret true) (.ln 54 fI x11.2.1<|.bB 55 (decide (x11.1.Done≠(x11.2.1.length:Int))) λx16=>.ifs [55] x16 (.ret true) (.ln 60 bC.av x11.1.dX<|.bB 61 (decide ((x11.1.dX.length:Int)≠1)) λx17=>.ret x17)))) (λy2_1=>.az [62] y2_1 (.cl 65 (vX n (⟨1,1,([1]:List Int),([([2]:List Int)]:List (List Int)),([([0]:List Int)]:List (List Int))⟩:eU)) QW Y5 λx18=>.cl 67 (rJ n y1_1) O1 (λ_=>XP) λx19=>.cl 68 (xO n x18 x19) JO J9 λx20=>.jn 0 [2,3,7,12] [3] [] (λ_ (a:Bool)=>[(84,aB a)]) (λ_ _=>[]) (.ln 74 bC.av x11.1.dX<|.bB 75 (decide ((x11.1.dX.length:Int)=0)) λx21=>.ifs [75] x21 (.ret true) (.oC 79 bC.av gE bC.gU x11.1.dX 0 λx22=>.ln 82 fI x22.gW<|.bB 83 (decide ((x22.gW.length:Int)=0)) λx23=>.ret x23)) (λy3_1=>.az [84] y3_1 (.jn 1 [] [] [] (λ_ (a:Bool)=>[(2,aB a)]) (λ_ _=>[]) (.oC 87 bC.av gE bC.gU x11.1.dX 0 λx24=>.ix 90 fI x24.gW 0 λx25=>.bl (if 400<x2 then 400 else x2:Int) λx26=>.gv 93<|.bI 94 (bM (x26-1)) λx27=>.bB 95 (decide (x25=x27)) λx28=>.ifs [95] x28 (.bB 98 (decide (x20.2.2=0)) λx29=>.bB 100 (decide (x2<=400)) λx30=>.bl (decide (x29=x30):Bool) λx31=>.gv 101<|.ifs [101] x31 (.cl 104 (GI n) aLJ aN3 λx32=>.ret x32) (.ret false)) (.ret false)) (λy4_1=>.ret ((y4_1:Bool))))))))
def K6 (n:Nat) (a1:Int):Option (Bool):=(QK n a1).run
theorem aOG {n a1}:PZ (K6 n a1) 3 [int a1] aB:=by
 refine wm Tryz.func3 ?_
 refine .mk λx2 e2=>?_
 refine .mk (aT (aH (y:=aG 1 fI ([1]:List Int)) (dQ (ps:=[(0,_)]) (rows:=[[int 1]]) rfl Tryz.underlying23 kN (.cons rfl .nil) (by kernel_rfl) rfl rfl rfl) rfl)) ?_
 refine .mk (aT (aH (y:=aG 1 fI ([2]:List Int)) (dQ (ps:=[(0,_)]) (rows:=[[int 2]]) rfl Tryz.underlying23 kN (.cons rfl .nil) (by kernel_rfl) rfl rfl rfl) rfl)) ?_
 refine .mk (aT (aH (y:=aG 1 (fL 1 fI) ([([2]:List Int)]:List (List Int))) (dQ (ps:=[(0,_)]) (rows:=[[aG 1 fI ([2]:List Int)]]) rfl Tryz.underlying24 oZ (.cons rfl .nil) (by kernel_rfl) rfl rfl rfl) rfl)) ?_
 refine .mk (aT (aH (y:=aG 1 fI ([0]:List Int)) (dQ (ps:=[(0,_)]) (rows:=[[int 0]]) rfl Tryz.underlying23 kN (.cons rfl .nil) (by kernel_rfl) rfl rfl rfl) rfl)) ?_
 refine .mk (aT (aH (y:=aG 1 (fL 1 fI) ([([0]:List Int)]:List (List Int))) (dQ (ps:=[(0,_)]) (rows:=[[aG 1 fI ([0]:List Int)]]) rfl Tryz.underlying24 oZ (.cons rfl .nil) (by kernel_rfl) rfl rfl rfl) rfl)) ?_
 intro v3
 refine .mk λp4=>?_
 refine .mk λx5 e5=>?_
 have lx5:x5.length=(Int.toNat x2):=by rw [<- e5];exact List.length_replicate
 refine .mk _ ⟨λ_=>wI 2 (g:=aF.av) (z0:=((⟨0,0,0,0,0,0,0,0,[]⟩:aF):aF)) .any rfl Tryz.underlying27 iC mZ rfl rfl rfl p4 (.cons (.sc _) (.cons (.sc _) (.cons (.sc _) (.cons (.sc _) (.cons (.sc _) (.cons (.sc _) (.cons (.sc _) (.cons (.sc _) (.cons (.nil _) .nil))))))))) e5,λ_ _ _=>trivial⟩ ?_
 rintro _ _ ⟨v6,-,rfl,rfl⟩
 refine .mk ?_ ?_
 refine .mk ?_ ⟨⟨⟨_,rfl,(sF (Eq.symm lx5))⟩,⟨_,rfl,(.refl _)⟩,⟨_,rfl,(.refl _)⟩,⟨_,rfl,(.refl _)⟩,⟨_,rfl,(.refl _)⟩,⟨_,rfl,(.refl _)⟩,trivial⟩,⟨⟨_,rfl,(.refl _)⟩,⟨_,rfl,(.refl _)⟩,trivial⟩⟩
 rintro ⟨y0_1,y0_2⟩ _
 refine .mk λx7=>?_
 refine .mk ?_ ?_
 refine .mk λx8 e8=>?_
 refine .mk _ (aT (lY rfl Tryz.underlying27 fD rfl rfl rfl rfl rfl (Eq.symm rfl) (List.length_map _) e8)) ?_
 refine .mk ?_
 refine .mk λx9 e9=>?_
 have fx9:=oU e8 e9;have lx9:=nX e9 (rfl:y0_2.length=y0_2.length)
 refine .mk _ ⟨λ_=>bZ.fA (gM (ob':=(⟨29,9,true,true,_,x9.map aF.av⟩:bA)) (dZ rfl fD rfl rfl rfl rfl rfl (kK e8) rfl rfl rfl) (qO (sH e9))) (λ_ h=>h) (λ_ _=>trivial),λ_ _ _=>trivial⟩ ?_
 rintro _ _ ⟨rfl,rfl⟩
 refine .mk λx10=>?_
 exact .mk ⟨⟨⟨_,rfl,(sF (Eq.symm lx9))⟩,⟨_,rfl,(.refl _)⟩,⟨_,rfl,(.refl _)⟩,⟨_,rfl,(.refl _)⟩,⟨_,rfl,(.refl _)⟩,⟨_,rfl,(.refl _)⟩,trivial⟩,⟨⟨_,rfl,(.refl _)⟩,⟨_,rfl,(.refl _)⟩,trivial⟩⟩
 exact .mk
 intro _ _
 refine .mk (λx11 e11=>?_) rfl (by rintro _ rfl;exact (.cons (.refl _) (.cons (gJ rfl rfl rfl rfl rfl (Eq.symm rfl)) .nil)))
 intro v12
 refine .mk ?_ ?_
 refine .mk λx13=>?_
 refine .mk .mk ?_
 refine .mk ?_
 refine .mk λx14 e14=>?_
 refine .mk _ (aT (wT rfl rfl rfl e14)) ?_
 refine .mk λx15=>?_
 refine .mk .mk ?_
 refine .mk ?_
 refine .mk λx16=>?_
 refine .mk .mk ?_
 refine .mk ?_
 refine .mk λx17=>?_
 exact .mk
 intro _ _
 refine .mk ?_
 refine .mk λx18 e18=>?_
 refine .mk (λx19 e19=>?_) rfl (by rintro _ rfl;exact (.cons (gJ rfl rfl rfl rfl rfl (Eq.symm rfl)) .nil))
 refine .mk λx20 e20=>?_
 refine .mk ?_ ?_
 refine .mk ?_
 refine .mk λx21=>?_
 refine .mk .mk ?_
 refine .mk λx22 e22=>?_
 refine .mk ?_
 refine .mk λx23=>?_
 exact .mk
 intro _ _
 refine .mk ?_
 refine .mk ?_ ?_
 refine .mk λx24 e24=>?_
 refine .mk λx25 e25=>?_
 refine .mk λx26 e26=>?_
 refine .mk _ (aT (wT rfl rfl rfl e26)) ?_
 refine .mk λx27=>?_
 refine .mk λx28=>?_
 refine .mk ?_ ?_
 refine .mk λx29=>?_
 refine .mk λx30=>?_
 refine .mk λx31 e31=>?_
 refine .mk _ (aT (aH (y:=aB x31) (JB rfl Tryz.underlying4 rfl rfl) (congrArg aB e31))) ?_
 refine .mk ?_ ?_
 refine .mk λx32 e32=>?_
 exact .mk
 exact .mk
 exact .mk
 intro _ _
 exact .mk
end
end Go.Pv
