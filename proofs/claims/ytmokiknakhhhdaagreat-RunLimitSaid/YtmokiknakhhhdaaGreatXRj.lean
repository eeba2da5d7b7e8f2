import Derived.Test.YtmokiknakhhhdaaGreatXRi
set_option linter.unusedVariables false
set_option linter.unusedSimpArgs false
namespace Go.Pv
open Go.Proofs
set_option maxRecDepth 100000
set_option maxHeartbeats 4000000
noncomputable section
def M5 (n:Nat) (a1:List UInt8) (a2:List UInt8):WB ((List UInt8)×(List Int)×Int) :=
 .cl 12 (B9 n a1) aD3 (λ_=>aAY) λx3=>.al 1<|.bB 16 (decide (x3.2≠0)) λx5=>.ifs [16] x5 (.ret ((([]:List UInt8):List UInt8),([]:List Int),x3.2)) (.cl 20 (wQ n a2) aCT (λ_=>aNT) λx6=>.bB 24 (decide (x6.2≠0)) λx7=>.ifs [24] x7 (.ret ((([]:List UInt8):List UInt8),([]:List Int),x6.2)) (.cl 29 (yR n x3.1 x6.1) G9 J5 λx8=>.al 2<|.cl 34 (BO n x8.1) aK2 aNP λx10=>.ret ((x10:List UInt8),x8.2.1,x8.2.2)))
def xO (n:Nat) (a1:List UInt8) (a2:List UInt8):Option ((List UInt8)×(List Int)×Int):=(M5 n a1 a2).run
theorem J9 {n a1 a2}:PZ (xO n a1 a2) 7 [str a1,str a2] (λr=>.aS [str r.1,aG 1 fI r.2.1,int r.2.2]):=wq Tryz.func7
def aD1 (n:Nat) (a1:List Int) (a2:Int) (a3:Int) (a4:Int):WB (Bool) :=
 .ln 11 fI a1<|.bB 13 (decide ((a1.length:Int)≠a2)) λx5=>.az [13] x5 (.jn 2 [8] [] [] (λ_ (a:Unit)=>[]) (λ_ _=>[]) (.lp [0,1,2,3,8] [] [] (λ_ (a:Int)=>[(9,int a)]) (λ_ _=>[]) n 0 (λy0_1=>.bB 16 (decide (y0_1<a2)) λx6=>.ifs [16] x6 (.jn 2 [0,1,2,3,8,9] [] [] (λ_ (a:Bool)=>[(32,aB a)]) (λ_ _=>[]) (.ix 21 fI a1 y0_1 λx7=>.bB 24 (decide (x7<a3)) λx8=>.ifs [24] x8 (.ret true) (.ix 28 fI a1 y0_1 λx9=>.bB 31 (decide (x9>a4)) λx10=>.ret x10)) (λy1_1=>.az [32] y1_1 (.bI 18 (bM (y0_1+1)) λx11=>.brk x11))) (.esc (.ret ())))) (λ_=>.ret ((true:Bool))))
def GA (n:Nat) (a1:List Int) (a2:Int) (a3:Int) (a4:Int):Option (Bool):=(aD1 n a1 a2 a3 a4).run
theorem NW {n a1 a2 a3 a4}:PZ (GA n a1 a2 a3 a4) 48 [aG 1 fI a1,int a2,int a3,int a4] aB:=wq Tryz.func48
def aA2 (n:Nat) (a1:eU):WB (Bool) :=
 .al 1<|.ln 7 fI a1.dH<|.jn 0 [1,2,3] [1] [] (λ_ (a:Bool)=>[(56,aB a)]) (λ_ _=>[]) (.bB 10 (decide (a1.iD<1)) λx3=>.ifs [10] x3 (.ret true) (.bB 14 (decide (a1.iD>4)) λx4=>.ifs [14] x4 (.ret true) (.bB 19 (decide (a1.kV<1)) λx5=>.ifs [19] x5 (.ret true) (.bB 24 (decide (a1.kV>12)) λx6=>.ifs [24] x6 (.ret true) (.bB 28 (decide ((a1.dH.length:Int)<1)) λx7=>.ifs [28] x7 (.ret true) (.bB 32 (decide ((a1.dH.length:Int)>5)) λx8=>.ifs [32] x8 (.ret true) (.cl 38 (GA n a1.dH (a1.dH.length:Int) 0 1073741824) NR NW λx9=>.bB 39 (!x9) λx10=>.ifs [39] x10 (.ret true) (.ln 44 (fL 1 fI) a1.Methods<|.bB 47 (decide ((a1.Methods.length:Int)≠a1.iD)) λx11=>.ifs [47] x11 (.ret true) (.ln 52 (fL 1 fI) a1.jO<|.bB 55 (decide ((a1.jO.length:Int)≠a1.iD)) λx12=>.ret x12))))))))) (λy0_1=>.az [56] y0_1 (.jn 2 [2] [] [] (λ_ (a:Unit)=>[]) (λ_ _=>[]) (.lp [1,2,3] [1] [] (λ_ (a:Int)=>[(4,int a)]) (λ_ _=>[]) n 0 (λy1_1=>.bB 60 (decide (y1_1<a1.iD)) λx13=>.ifs [60] x13 (.jn 2 [1,2,3,4] [1] [] (λ_ (a:Bool)=>[(80,aB a)]) (λ_ _=>[]) (.ix 66 (fL 1 fI) a1.Methods y1_1 λx14=>.cl 69 (GA n x14 (a1.dH.length:Int) 1 4) NR NW λx15=>.bB 70 (!x15) λx16=>.ifs [70] x16 (.ret true) (.ix 75 (fL 1 fI) a1.jO y1_1 λx17=>.cl 78 (GA n x17 (a1.dH.length:Int) 0 1073741824) NR NW λx18=>.bB 79 (!x18) λx19=>.ret x19)) (λy2_1=>.az [80] y2_1 (.bI 62 (bM (y1_1+1)) λx20=>.brk x20))) (.esc (.ret ())))) (λ_=>.ret ((true:Bool)))))
def XW (n:Nat) (a1:eU):Option (Bool):=(aA2 n a1).run
theorem aA8 {n a1}:PZ (XW n a1) 19 [.agg (eU.av a1)] aB:=wq Tryz.func19
def uW (a1:List Int):Nat->(List UInt8)->Int->Option ((List UInt8))
  | 0,_,_=>none
  | n+1,y0_1,y0_2 =>
    bnd (decide (y0_2<(a1.length:Int))) λx4 =>
    cond x4 ((ix a1 y0_2).bind λx5 =>
    (rY x5).bind λx6 =>
    bU (y0_1.length+x6.length<=9223372036854775807)<|
    bnd (y0_1++x6) λx8 =>
    bnd (bM (y0_2+1)) λx9 =>
    uW a1 n (x8:List UInt8) (x9:Int)) (some (y0_1:List UInt8))
def vQ (n:Nat) (a1:List Int):Option ((List UInt8)) :=
(rY (a1.length:Int)).bind λx2 =>
(show Option ((List UInt8)) from
uW a1 n (x2:List UInt8) (0:Int)).bind <| λy1_1 =>
some ((y1_1:List UInt8))
theorem F8 {n:Nat} {a1:List Int} {r:(List UInt8)} (h0:vQ n a1=some r):PP Tryz.prog 21 [aG 1 fI a1] (λy=>y=str r):=by
  unfold vQ at h0
  refine kE (R0:=λy H=>Cv (iN H) y (str r)) ?_ (λy H hc=>⟨_,rfl,yI r,hc⟩)
  refine dD (c:=_) Tryz.func21 rfl rfl ?_;intro Q hret hnorm
  refine tc aA 7 (.mk ?_)
  refine sY (iT rfl Tryz.underlying23 rfl (mK _)) ?_
  obtain ⟨x2,e2,h0⟩:=bJ h0
  refine sC xB (wD e2) ?_
  refine tr aA 7 (.mk ?_)
  refine jn h0 [2] [] (λ(a:(List UInt8)) (k:Unit)=>[(3,str a)]) (λa k=>[]) ⟨λj3 h1=>?_,?_⟩
  refine tc aA 1 (.mk ?_)
  refine lp (λn (a:(List UInt8)×Int)=>uW a1 n a.1 a.2) ((x2:List UInt8),(0:Int)) () h1 [0,2] [] (λ(a:(List UInt8)×Int) (k:Unit)=>[(3,str a.1),(4,int a.2)]) (λa k=>[]) (λ_=>rfl) ⟨aW,?_⟩
  rintro n ⟨y0_1,y0_2⟩ _ hm h1
  replace h1:uW a1 (n+1) y0_1 y0_2=some _:=h1
  rw [uW] at h1
  refine tc aA 5 (.mk ?_)
  refine sY (iT rfl Tryz.underlying23 rfl (mK _)) ?_
  refine nb aA h1 λx4 h1=>?_
  refine tr aA 1 (.mk ?_)
  cases x4
  replace h1:=cf h1
  refine tc aA 2 (.mk ?_)
  exact lf h1 () aW
  replace h1:=ct h1
  refine tc aA 8 (.mk ?_)
  obtain ⟨x5,e5,h1⟩:=bJ h1
  refine sY (oG rfl Tryz.underlying23 bW rfl rfl e5) ?_
  refine tr aA 1 (.mk ?_)
  obtain ⟨x6,e6,h1⟩:=bJ h1
  refine sC xB (wD e6) ?_
  obtain ⟨p7,h1⟩:=cO h1
  obtain ⟨x8,e8,h1⟩:=aP h1
  refine sY (aH (y:=str x8) (rZ rfl rfl rfl p7) (congrArg str e8)) ?_
  refine tr aA 5 (.mk ?_)
  refine ni aA h1 λx9 h1=>?_
  refine tr aA 2 (.mk ?_)
  exact bk (x8,x9) () h1 aW
  rintro y1_1 _ h0
  refine tc aA 5 (.mk ?_)
  obtain rfl:=bE h0
  refine wR hret (rT .nil) ?_
  exact .refl _
def ZM (n:Nat) (a1:eU):WB ((List UInt8)) :=
 .al 1<|.cl 7 (XW n a1) aOK aA8 λx3=>.bB 8 (!x3) λx4=>.az [8] x4 (.dr [(0,[1]),(1,[1]),(3,[1]),(4,[1]),(7,[1]),(8,[1])] [] [1] [] [0,1,2,3,4,5,6,7,8,9,10,11] (.cl 11 (rY a1.iD) xB (λ_=>wD) λx5=>.cl 14 (rY a1.kV) xB (λ_=>wD) λx6=>.as (x5.length+x6.length<=9223372036854775807) inferInstance<|.bl (x5++x6:List UInt8) λx8=>.gv 15<|.cl 18 (vQ n a1.dH) GM (λ_=>F8) λx9=>.as (x8.length+x9.length<=9223372036854775807) inferInstance<|.bl (x8++x9:List UInt8) λx11=>.gv 19<|.jn 1 [1,2] [1] [] (λ_ (a:(List UInt8))=>[(3,str a)]) (λ_ _=>[]) (.lp [1,2] [1] [] (λ_ (a:(List UInt8)×Int)=>[(3,str a.1),(4,int a.2)]) (λ_ _=>[]) n ((x11:List UInt8),0) (pw λy0_1 y0_2=>.bB 23 (decide (y0_2<a1.iD)) λx12=>.ifs [23] x12 (.ix 30 (fL 1 fI) a1.Methods y0_2 λx13=>.cl 32 (vQ n x13) GM (λ_=>F8) λx14=>.as (y0_1.length+x14.length<=9223372036854775807) inferInstance<|.bl (y0_1++x14:List UInt8) λx16=>.gv 33<|.bI 25 (bM (y0_2+1)) λx17=>.brk ((x16:List UInt8),x17)) (.esc (.ret y0_1)))) (λy1_1=>.jn 1 [2] [] [] (λ_ (a:(List UInt8))=>[(3,str a)]) (λ_ _=>[]) (.lp [1,2] [1] [] (λ_ (a:(List UInt8)×Int)=>[(3,str a.1),(5,int a.2)]) (λ_ _=>[]) n ((y1_1:List UInt8),0) (pw λy2_1 y2_2=>.bB 37 (decide (y2_2<a1.iD)) λx18=>.ifs [37] x18 (.ix 44 (fL 1 fI) a1.jO y2_2 λx19=>.cl 46 (vQ n x19) GM (λ_=>F8) λx20=>.as (y2_1.length+x20.length<=9223372036854775807) inferInstance<|.bl (y2_1++x20:List UInt8) λx22=>.gv 47<|.bI 39 (bM (y2_2+1)) λx23=>.brk ((x22:List UInt8),x23)) (.esc (.ret y2_1)))) (λy3_1=>.ret ((y3_1:List UInt8))))))
def vX (n:Nat) (a1:eU):Option ((List UInt8)):=(ZM n a1).run
theorem Y5 {n a1}:PZ (vX n a1) 8 [.agg (eU.av a1)] str:=by
 refine wm Tryz.func8 ?_
 intro v2
 refine .mk λx3 e3=>?_
 refine .mk λx4=>?_
 refine .mk ?_
 refine .mk ?_
 refine .mk λx5 e5=>?_
 refine .mk λx6 e6=>?_
 refine .mk λp7=>?_
 refine .mk λx8 e8=>?_
 refine .mk _ (λH hH _=>aH (y:=str x8) (rZ rfl rfl rfl p7) (congrArg str e8)) ?_
 refine .mk λx9 e9=>?_
 refine .mk λp10=>?_
 refine .mk λx11 e11=>?_
 refine .mk _ (λH hH _=>aH (y:=str x11) (rZ rfl rfl rfl p10) (congrArg str e11)) ?_
 refine .mk ?_ ?_
 refine .mk ?_
 intro _ _
 refine .mk λx12=>?_
 refine .mk ?_ ?_
 refine .mk λx13 e13=>?_
 refine .mk λx14 e14=>?_
 refine .mk λp15=>?_
 refine .mk λx16 e16=>?_
 refine .mk _ (aT (aH (y:=str x16) (rZ rfl rfl rfl p15) (congrArg str e16))) ?_
 refine .mk λx17=>?_
 exact .mk
 exact .mk
 intro _ _
 refine .mk ?_ ?_
 refine .mk ?_
 intro _ _
 refine .mk λx18=>?_
 refine .mk ?_ ?_
 refine .mk λx19 e19=>?_
 refine .mk λx20 e20=>?_
 refine .mk λp21=>?_
 refine .mk λx22 e22=>?_
 refine .mk _ (aT (aH (y:=str x22) (rZ rfl rfl rfl p21) (congrArg str e22))) ?_
 refine .mk λx23=>?_
 exact .mk
 exact .mk
 intro _ _
 exact .mk
def lC (a1:Int):Option ((List UInt8)) :=
bnd (decide (a1=1)) λx2 =>
(show Option (Bool) from
cond x2 (some (true:Bool)) (bnd (decide (a1=4)) λx4 =>
some (x4:Bool))).bind <| λy0_1 =>
cond y0_1 (some ((([101,105,108,113,97]:List UInt8):List UInt8))) (bnd (decide (a1=2)) λx5 =>
(show Option (Bool) from
cond x5 (some (true:Bool)) (bnd (decide (a1=5)) λx7 =>
some (x7:Bool))).bind <| λy1_1 =>
cond y1_1 (some ((([113,97,114]:List UInt8):List UInt8))) (bnd (decide (a1=3)) λx8 =>
cond x8 (some ((([113,114]:List UInt8):List UInt8))) (bnd (decide (a1=6)) λx9 =>
(show Option (Bool) from
cond x9 (some (true:Bool)) (bnd (decide (a1=7)) λx11 =>
some (x11:Bool))).bind <| λy2_1 =>
cond y2_1 (some ((([101,105,108,113]:List UInt8):List UInt8))) (bnd (decide (a1=8)) λx12 =>
cond x12 (some ((([101,105,108,116,113]:List UInt8):List UInt8))) (bnd (decide (a1=9)) λx13 =>
(show Option (Bool) from
cond x13 (some (true:Bool)) (bnd (decide (a1=10)) λx15 =>
some (x15:Bool))).bind <| λy3_1 =>
cond y3_1 (some ((([101,105,97]:List UInt8):List UInt8))) (bnd (decide (a1=11)) λx16 =>
cond x16 (some ((([116,97,115]:List UInt8):List UInt8))) (bnd (decide (a1=12)) λx17 =>
cond x17 (some ((([101,105,108,116,113,97]:List UInt8):List UInt8))) (bnd (decide (a1=13)) λx18 =>
cond x18 (some ((([108,113,114]:List UInt8):List UInt8))) (bnd (decide (a1=14)) λx19 =>
(show Option (Bool) from
cond x19 (some (true:Bool)) (bnd (decide (a1=15)) λx21 =>
cond x21 (some (true:Bool)) (bnd (decide (a1=16)) λx22 =>
some (x22:Bool)))).bind <| λy4_1 =>
cond y4_1 (some ((([101]:List UInt8):List UInt8))) (some ((([]:List UInt8):List UInt8))))))))))))
theorem XT {a1:Int} {r:(List UInt8)} (h0:lC a1=some r):PP Tryz.prog 23 [int a1] (λy=>y=str r):=by
  unfold lC at h0
  refine kE (R0:=λy H=>Cv (iN H) y (str r)) ?_ (λy H hc=>⟨_,rfl,yI r,hc⟩)
  refine dD (c:=_) Tryz.func23 rfl rfl ?_;intro Q hret hnorm
  refine tc aA 13 (.mk ?_)
  refine nb aA h0 λx2 h0=>?_
  refine tr aA 2 (.mk ?_)
  refine jn h0 [2,3] [] (λ(a:Bool) (k:Unit)=>[(4,aB a)]) (λa k=>[]) ⟨λj3 h1=>?_,?_⟩
  cases x2
  replace h1:=cf h1
  refine tc aA 2 (.mk ?_)
  refine nb aA h1 λx4 h1=>?_
  refine tr aA 2 (.mk ?_)
  exact lf h1 () aW
  replace h1:=ct h1
  refine tc aA 2 (.mk ?_)
  exact lf h1 () aW
  rintro y0_1 _ h0
  cases y0_1
  replace h0:=cf h0
  refine tc aA 4 (.mk ?_)
  refine nb aA h0 λx5 h0=>?_
  refine tr aA 2 (.mk ?_)
  refine jn h0 [2,3] [] (λ(a:Bool) (k:Unit)=>[(7,aB a)]) (λa k=>[]) ⟨λj6 h1=>?_,?_⟩
  cases x5
  replace h1:=cf h1
  refine tc aA 2 (.mk ?_)
  refine nb aA h1 λx7 h1=>?_
  refine tr aA 2 (.mk ?_)
  exact lf h1 () aW
  replace h1:=ct h1
  refine tc aA 2 (.mk ?_)
  exact lf h1 () aW
  rintro y1_1 _ h0
  cases y1_1
  replace h0:=cf h0
  refine tc aA 3 (.mk ?_)
  refine nb aA h0 λx8 h0=>?_
  refine tr aA 2 (.mk ?_)
  cases x8
  replace h0:=cf h0
  refine tc aA 4 (.mk ?_)
  refine nb aA h0 λx9 h0=>?_
  refine tr aA 2 (.mk ?_)
  refine jn h0 [2,3] [] (λ(a:Bool) (k:Unit)=>[(12,aB a)]) (λa k=>[]) ⟨λj10 h1=>?_,?_⟩
  cases x9
  replace h1:=cf h1
  refine tc aA 2 (.mk ?_)
  refine nb aA h1 λx11 h1=>?_
  refine tr aA 2 (.mk ?_)
  exact lf h1 () aW
  replace h1:=ct h1
  refine tc aA 2 (.mk ?_)
  exact lf h1 () aW
  rintro y2_1 _ h0
  cases y2_1
  replace h0:=cf h0
  refine tc aA 3 (.mk ?_)
  refine nb aA h0 λx12 h0=>?_
  refine tr aA 2 (.mk ?_)
  cases x12
  replace h0:=cf h0
  refine tc aA 4 (.mk ?_)
  refine nb aA h0 λx13 h0=>?_
  refine tr aA 2 (.mk ?_)
  refine jn h0 [2,3] [] (λ(a:Bool) (k:Unit)=>[(17,aB a)]) (λa k=>[]) ⟨λj14 h1=>?_,?_⟩
  cases x13
  replace h1:=cf h1
  refine tc aA 2 (.mk ?_)
  refine nb aA h1 λx15 h1=>?_
  refine tr aA 2 (.mk ?_)
  exact lf h1 () aW
  replace h1:=ct h1
  refine tc aA 2 (.mk ?_)
  exact lf h1 () aW
  rintro y3_1 _ h0
  cases y3_1
  replace h0:=cf h0
  refine tc aA 3 (.mk ?_)
  refine nb aA h0 λx16 h0=>?_
  refine tr aA 2 (.mk ?_)
  cases x16
  replace h0:=cf h0
  refine tc aA 3 (.mk ?_)
  refine nb aA h0 λx17 h0=>?_
  refine tr aA 2 (.mk ?_)
  cases x17
  replace h0:=cf h0
  refine tc aA 3 (.mk ?_)
  refine nb aA h0 λx18 h0=>?_
  refine tr aA 2 (.mk ?_)
  cases x18
  replace h0:=cf h0
  refine tc aA 4 (.mk ?_)
  refine nb aA h0 λx19 h0=>?_
  refine tr aA 2 (.mk ?_)
  refine jn h0 [2] [] (λ(a:Bool) (k:Unit)=>[(26,aB a)]) (λa k=>[]) ⟨λj20 h1=>?_,?_⟩
  cases x19
  replace h1:=cf h1
  refine tc aA 3 (.mk ?_)
  refine nb aA h1 λx21 h1=>?_
  refine tr aA 2 (.mk ?_)
  cases x21
  replace h1:=cf h1
  refine tc aA 2 (.mk ?_)
  refine nb aA h1 λx22 h1=>?_
  refine tr aA 2 (.mk ?_)
  exact lf h1 () aW
  replace h1:=ct h1
  refine tc aA 2 (.mk ?_)
  exact lf h1 () aW
  replace h1:=ct h1
  refine tc aA 2 (.mk ?_)
  exact lf h1 () aW
  rintro y4_1 _ h0
  cases y4_1
  replace h0:=cf h0
  refine tc aA 7 (.mk ?_)
  obtain rfl:=bE h0
  refine wR hret (rT .nil) ?_
  exact .refl _
  replace h0:=ct h0
  refine tc aA 5 (.mk ?_)
  obtain rfl:=bE h0
  refine wR hret (rT .nil) ?_
  exact .refl _
  replace h0:=ct h0
  refine tc aA 5 (.mk ?_)
  obtain rfl:=bE h0
  refine wR hret (rT .nil) ?_
  exact .refl _
  replace h0:=ct h0
  refine tc aA 5 (.mk ?_)
  obtain rfl:=bE h0
  refine wR hret (rT .nil) ?_
  exact .refl _
  replace h0:=ct h0
  refine tc aA 5 (.mk ?_)
  obtain rfl:=bE h0
  refine wR hret (rT .nil) ?_
  exact .refl _
  replace h0:=ct h0
  refine tc aA 5 (.mk ?_)
  obtain rfl:=bE h0
  refine wR hret (rT .nil) ?_
  exact .refl _
  replace h0:=ct h0
  refine tc aA 5 (.mk ?_)
  obtain rfl:=bE h0
  refine wR hret (rT .nil) ?_
  exact .refl _
  replace h0:=ct h0
  refine tc aA 5 (.mk ?_)
  obtain rfl:=bE h0
  refine wR hret (rT .nil) ?_
  exact .refl _
  replace h0:=ct h0
  refine tc aA 5 (.mk ?_)
  obtain rfl:=bE h0
  refine wR hret (rT .nil) ?_
  exact .refl _
  replace h0:=ct h0
  refine tc aA 5 (.mk ?_)
  obtain rfl:=bE h0
  refine wR hret (rT .nil) ?_
  exact .refl _
  replace h0:=ct h0
  refine tc aA 5 (.mk ?_)
  obtain rfl:=bE h0
  refine wR hret (rT .nil) ?_
  exact .refl _
def pJ (a1:aF):Option (Bool) :=
bnd (decide (a1.Kind=8)) λx3 =>
cond x3 ((show Option (Bool) from
bnd (decide (a1.To>=0)) λx13 =>
cond x13 (bnd (decide (a1.To<2)) λx14 =>
cond x14 (bnd (decide (a1.To≠a1.Loc)) λx15 =>
some (x15:Bool)) (some (false:Bool))) (some (false:Bool))).bind <| λy1_1 =>
some ((y1_1:Bool))) (bnd (decide (a1.Kind=12)) λx4 =>
cond x4 ((show Option (Bool) from
bnd (decide (a1.To>=0)) λx9 =>
cond x9 (bnd (decide (a1.To<4)) λx10 =>
cond x10 (bnd (decide (a1.To≠a1.E)) λx11 =>
some (x11:Bool)) (some (false:Bool))) (some (false:Bool))).bind <| λy0_1 =>
some ((y0_1:Bool))) ((show Option (Bool) from
bnd (decide (a1.To>=0)) λx6 =>
cond x6 (bnd (decide (a1.To<=2)) λx7 =>
some (x7:Bool)) (some (false:Bool))).bind <| λy2_1 =>
some ((y2_1:Bool))))
theorem aN6 {a1:aF} {r:Bool} (h0:pJ a1=some r):PP Tryz.prog 89 [.agg (aF.av a1)] (λy=>y=aB r):=by
  unfold pJ at h0
  refine kE (R0:=λy H=>Cv (iN H) y (aB r)) ?_ (λy H hc=>⟨_,rfl,qD r,hc⟩)
  refine dD (c:=_) Tryz.func89 rfl rfl ?_;intro Q hret hnorm
  refine tc aA 2 (.mk ?_)
  refine sB 1 λv2=>?_
  refine tr aA 11 (.mk ?_)
  refine nb aA h0 λx3 h0=>?_
  refine tr aA 2 (.mk ?_)
  cases x3
  replace h0:=cf h0
  refine tc aA 3 (.mk ?_)
  refine nb aA h0 λx4 h0=>?_
  refine tr aA 2 (.mk ?_)
  cases x4
  replace h0:=cf h0
  refine tc aA 4 (.mk ?_)
  refine jn h0 [] [] (λ(a:Bool) (k:Unit)=>[(2,aB a)]) (λa k=>[]) ⟨λj5 h1=>?_,?_⟩
  refine tc aA 3 (.mk ?_)
  refine nb aA h1 λx6 h1=>?_
  refine tr aA 1 (.mk ?_)
  cases x6
  replace h1:=cf h1
  refine tr aA 6 (.mk ?_)
  exact lf h1 () aW
  replace h1:=ct h1
  refine tr aA 2 (.mk ?_)
  refine nb aA h1 λx7 h1=>?_
  refine tr aA 3 (.mk ?_)
  exact lf h1 () aW
  rintro y2_1 _ h0
  obtain rfl:=bE h0
  refine wR hret (rT .nil) ?_
  exact .refl _
  replace h0:=ct h0
  refine tc aA 2 (.mk ?_)
  refine jn h0 [1] [1] (λ(a:Bool) (k:Unit)=>[(2,aB a)]) (λa k=>[]) ⟨λj8 h1=>?_,?_⟩
  refine tc aA 3 (.mk ?_)
  refine nb aA h1 λx9 h1=>?_
  refine tr aA 1 (.mk ?_)
  cases x9
  replace h1:=cf h1
  refine tr aA 13 (.mk ?_)
  exact lf h1 () aW
  replace h1:=ct h1
  refine tr aA 2 (.mk ?_)
  refine nb aA h1 λx10 h1=>?_
  refine tr aA 2 (.mk ?_)
  cases x10
  replace h1:=cf h1
  refine tr aA 8 (.mk ?_)
  exact lf h1 () aW
  replace h1:=ct h1
  refine tr aA 4 (.mk ?_)
  refine nb aA h1 λx11 h1=>?_
  refine tr aA 3 (.mk ?_)
  exact lf h1 () aW
  rintro y0_1 _ h0
  obtain rfl:=bE h0
  refine wR hret (rT .nil) ?_
  exact .refl _
  replace h0:=ct h0
  refine tc aA 2 (.mk ?_)
  refine jn h0 [1] [1] (λ(a:Bool) (k:Unit)=>[(2,aB a)]) (λa k=>[]) ⟨λj12 h1=>?_,?_⟩
  refine tc aA 3 (.mk ?_)
  refine nb aA h1 λx13 h1=>?_
  refine tr aA 1 (.mk ?_)
  cases x13
  replace h1:=cf h1
  refine tr aA 13 (.mk ?_)
  exact lf h1 () aW
  replace h1:=ct h1
  refine tr aA 2 (.mk ?_)
  refine nb aA h1 λx14 h1=>?_
  refine tr aA 2 (.mk ?_)
  cases x14
  replace h1:=cf h1
  refine tr aA 8 (.mk ?_)
  exact lf h1 () aW
  replace h1:=ct h1
  refine tr aA 4 (.mk ?_)
  refine nb aA h1 λx15 h1=>?_
  refine tr aA 3 (.mk ?_)
  exact lf h1 () aW
  rintro y1_1 _ h0
  obtain rfl:=bE h0
  refine wR hret (rT .nil) ?_
  exact .refl _
def vV (a1:List Int) (y0_1:Int):Nat->Int->Option ((Unit)⊕((Unit)⊕((Unit)⊕(Bool))))
  | 0,_=>none
  | n+1,y2_1 =>
    bnd (decide (y2_1<y0_1)) λx11 =>
    cond x11 ((ix a1 y2_1).bind λx12 =>
    (ix a1 y0_1).bind λx13 =>
    bnd (decide (x12=x13)) λx14 =>
    cond x14 (esc (esc (esc (some ((false:Bool)))))) (bnd (bM (y2_1+1)) λx15 =>
    vV a1 y0_1 n (x15:Int))) (brk ())
def vE (a1:List Int):Nat->Int->Option ((Unit)⊕(Bool))
  | 0,_=>none
  | n+1,y0_1 =>
    bnd (decide (y0_1<(a1.length:Int))) λx3 =>
    cond x3 ((show Option ((Unit)⊕((Unit)⊕(Bool))) from
    (show Option (Bool) from
    (ix a1 y0_1).bind λx6 =>
    bnd (decide (x6<0)) λx7 =>
    cond x7 (some (true:Bool)) ((ix a1 y0_1).bind λx8 =>
    bnd (decide (x8>=40)) λx9 =>
    some (x9:Bool))).bind <| λy1_1 =>
    cond y1_1 (esc (esc (some ((false:Bool))))) ((show Option ((Unit)⊕((Unit)⊕((Unit)⊕(Bool)))) from
    vV a1 y0_1 n (0:Int)).bind <| sel <| λ_ =>
    brk ())).bind <| sel <| λ_ =>
    bnd (bM (y0_1+1)) λx21 =>
    vE a1 n (x21:Int)) (brk ())
def vK (n:Nat) (a1:List Int):Option (Bool) :=
(show Option ((Unit)⊕(Bool)) from
vE a1 n (0:Int)).bind <| sel <| λ_ =>
(show Option (Bool) from
bnd (decide ((a1.length:Int)>=1)) λx23 =>
cond x23 (bnd (decide ((a1.length:Int)<=40)) λx24 =>
some (x24:Bool)) (some (false:Bool))).bind <| λy6_1 =>
some ((y6_1:Bool))
theorem aCZ {n:Nat} {a1:List Int} {r:Bool} (h0:vK n a1=some r):PP Tryz.prog 90 [aG 1 fI a1] (λy=>y=aB r):=by
  unfold vK at h0
  refine kE (R0:=λy H=>Cv (iN H) y (aB r)) ?_ (λy H hc=>⟨_,rfl,qD r,hc⟩)
  refine dD (c:=_) Tryz.func90 rfl rfl ?_;intro Q hret hnorm
  refine tc aA 9 (.mk ?_)
  refine iA h0 [0,2] [] (λ(a:Unit) (k:Unit)=>[]) (λa k=>[]) ⟨λj2 h1 h0=>?_,?_⟩
  refine tc aA 1 (.mk ?_)
  refine lp (λn (a:Int)=>vE a1 n a) (0:Int) () h1 [0,2] [] (λ(a:Int) (k:Unit)=>[(3,int a)]) (λa k=>[]) (λ_=>rfl) ⟨aW,?_⟩
  rintro n y0_1 _ hm h1
  replace h1:vE a1 (n+1) y0_1=some _:=h1
  rw [vE] at h1
  refine tc aA 5 (.mk ?_)
  refine sY (iT rfl Tryz.underlying23 rfl (mK _)) ?_
  refine nb aA h1 λx3 h1=>?_
  refine tr aA 1 (.mk ?_)
  cases x3
  replace h1:=cf h1
  refine tc aA 2 (.mk ?_)
  exact jW h1 () aW
  replace h1:=ct h1
  refine tc aA 3 (.mk ?_)
  refine iA h1 [0,2,3] [] (λ(a:Unit) (k:Unit)=>[]) (λa k=>[]) ⟨λj4 h2 h1=>?_,?_⟩
  refine tc aA 3 (.mk ?_)
  refine jn h2 [0,2,3] [] (λ(a:Bool) (k:Unit)=>[(22,aB a)]) (λa k=>[]) ⟨λj5 h3=>?_,?_⟩
  refine tc aA 3 (.mk ?_)
  obtain ⟨x6,e6,h3⟩:=bJ h3
  refine sY (oG rfl Tryz.underlying23 bW rfl rfl e6) ?_
  refine tr aA 1 (.mk ?_)
  refine nb aA h3 λx7 h3=>?_
  refine tr aA 1 (.mk ?_)
  cases x7
  replace h3:=cf h3
  refine tr aA 2 (.mk ?_)
  obtain ⟨x8,e8,h3⟩:=bJ h3
  refine sY (oG rfl Tryz.underlying23 bW rfl rfl e8) ?_
  refine tr aA 1 (.mk ?_)
  refine nb aA h3 λx9 h3=>?_
  refine tr aA 2 (.mk ?_)
  exact lf h3 () aW
  replace h3:=ct h3
  refine tr aA 7 (.mk ?_)
  exact lf h3 () aW
  rintro y1_1 _ h2
  cases y1_1
  replace h2:=cf h2
  refine tc aA 6 (.mk ?_)
  refine iA h2 [0,2,3] [] (λ(a:Unit) (k:Unit)=>[]) (λa k=>[]) ⟨λj10 h3 h2=>?_,?_⟩
  refine tc aA 1 (.mk ?_)
  refine lp (λn (a:Int)=>vV a1 y0_1 n a) (0:Int) () h3 [0,2,3] [] (λ(a:Int) (k:Unit)=>[(4,int a)]) (λa k=>[]) (λ_=>rfl) ⟨aW,?_⟩
  rintro n y2_1 _ hm h3
  replace h3:vV a1 y0_1 (n+1) y2_1=some _:=h3
  rw [vV] at h3
  refine tc aA 5 (.mk ?_)
  refine nb aA h3 λx11 h3=>?_
  refine tr aA 1 (.mk ?_)
  cases x11
  replace h3:=cf h3
  refine tc aA 2 (.mk ?_)
  exact jW h3 () aW
  replace h3:=ct h3
  refine tc aA 5 (.mk ?_)
  refine nH [0,0,3,7,0,0,48,112,255] (λi=>[]) (λi=>[]) (λi=>true) [0,1,2,3,4,5,6,7,8] mixed (by kernel_rfl) ?_;intro K hK
  iterate 2 refine eM ?_
  obtain ⟨x12,e12,h3⟩:=bJ h3
  refine eP (λH hH=>oG rfl Tryz.underlying23 bW rfl rfl e12) ?_
  refine eP (λH hH=>eT rfl bW rfl (.pp _) rfl) ?_
  iterate 2 refine eM ?_
  obtain ⟨x13,e13,h3⟩:=bJ h3
  refine eP (λH hH=>oG rfl Tryz.underlying23 bW rfl rfl e13) ?_
  refine eP (λH hH=>eT rfl bW rfl (.pp _) rfl) ?_
  obtain ⟨x14,e14,h3⟩:=aP h3
  refine eP (λH hH=>aH (y:=aB x14) (aI rfl rfl rfl) (congrArg aB e14)) ?_
  refine jI (hK _ ?_)
  cases x14
  replace h3:=cf h3
  refine tc aA 5 (.mk ?_)
  refine ni aA h3 λx15 h3=>?_
  refine tr aA 2 (.mk ?_)
  exact bk x15 () h3 aW
  replace h3:=ct h3
  refine tc aA 5 (.mk ?_)
  obtain ⟨c16,hX,hj⟩:=gD h3;subst hj;replace h2:=hX.trans (fZ h2)
  obtain ⟨c17,hX,hj⟩:=gD h2;subst hj;replace h1:=hX.trans (fZ h1)
  obtain ⟨c18,hX,hj⟩:=gD h1;subst hj;replace h0:=hX.trans (fZ h0)
  obtain rfl:=bE h0
  refine wR hret (rT .nil) ?_
  exact .refl _
  rintro _ _ h2
  refine tc aA 1 (.mk ?_)
  exact jW h2 () aW
  replace h2:=ct h2
  refine tc aA 5 (.mk ?_)
  obtain ⟨c19,hX,hj⟩:=gD h2;subst hj;replace h1:=hX.trans (fZ h1)
  obtain ⟨c20,hX,hj⟩:=gD h1;subst hj;replace h0:=hX.trans (fZ h0)
  obtain rfl:=bE h0
  refine wR hret (rT .nil) ?_
  exact .refl _
  rintro _ _ h1
  refine tc aA 2 (.mk ?_)
  refine ni aA h1 λx21 h1=>?_
  refine tr aA 2 (.mk ?_)
  exact bk x21 () h1 aW
  rintro _ _ h0
  refine tc aA 1 (.mk ?_)
  refine jn h0 [] [] (λ(a:Bool) (k:Unit)=>[(2,aB a)]) (λa k=>[]) ⟨λj22 h1=>?_,?_⟩
  refine tc aA 2 (.mk ?_)
  refine sY (iT rfl Tryz.underlying23 rfl (mK _)) ?_
  refine nb aA h1 λx23 h1=>?_
  refine tr aA 1 (.mk ?_)
  cases x23
  replace h1:=cf h1
  refine tr aA 6 (.mk ?_)
  exact lf h1 () aW
  replace h1:=ct h1
  refine tr aA 1 (.mk ?_)
  refine sY (iT rfl Tryz.underlying23 rfl (mK _)) ?_
  refine nb aA h1 λx24 h1=>?_
  refine tr aA 3 (.mk ?_)
  exact lf h1 () aW
  rintro y6_1 _ h0
  obtain rfl:=bE h0
  refine wR hret (rT .nil) ?_
  exact .refl _
end
end Go.Pv
