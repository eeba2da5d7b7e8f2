import Derived.Test.YtimkkeehkhkhcaaGreatXSb
set_option linter.unusedVariables false
set_option linter.unusedSimpArgs false
namespace Go.Pv
open Go.Proofs
set_option maxRecDepth 100000
set_option maxHeartbeats 4000000
noncomputable section
def kW (a1:aP):Option (Bool) :=
(show Option (Bool) from
bnd (decide (a1.Kind<1)) λx4 =>
cond x4 (some (true:Bool)) (bnd (decide (a1.Kind>16)) λx5 =>
some (x5:Bool))).bind <| λy0_1 =>
cZ (y0_1=false)<|
SV.bind λx6 =>
(ix ([x6.a0,x6.a1,x6.a2,x6.a3,x6.a4,x6.a5,x6.a6,x6.a7,x6.a8,x6.a9,x6.nQ,x6.oK,x6.a12,x6.rZ,x6.J5,x6.KR,x6.a16]:List (List UInt8)) a1.Kind).bind λx7 =>
(show Option ((Bool)) from
(show Option ((Int)) from
(tO x7 69).bind λx11 =>
some (x11:Int)).bind <| λy2_1 =>
bnd (decide (y2_1>=0)) λx12 =>
some (x12:Bool)).bind <| λy4_1 =>
(show Option (Int×Int) from
cond y4_1 ((tK a1.Kind 69).bind λx14 =>
some ((x14.1:Int),(x14.2:Int))) (some ((0:Int),(0:Int)))).bind <| p2 λ(y5_1:Int) (y5_2:Int) =>
(show Option ((Unit)) from
some ()).bind <| λ_ =>
(show Option (Bool) from
bnd (decide (a1.E<y5_1)) λx17 =>
cond x17 (some (true:Bool)) (bnd (decide (a1.E>y5_2)) λx18 =>
some (x18:Bool))).bind <| λy8_1 =>
cZ (y8_1=false)<|
(show Option ((Bool)) from
(show Option ((Int)) from
(tO x7 73).bind λx21 =>
some (x21:Int)).bind <| λy2_1 =>
bnd (decide (y2_1>=0)) λx22 =>
some (x22:Bool)).bind <| λy4_1_1 =>
(show Option (Int×Int) from
cond y4_1_1 ((tK a1.Kind 73).bind λx24 =>
some ((x24.1:Int),(x24.2:Int))) (some ((0:Int),(0:Int)))).bind <| p2 λ(y5_1_1:Int) (y5_2_1:Int) =>
(show Option ((Unit)) from
some ()).bind <| λ_ =>
(show Option (Bool) from
bnd (decide (a1.Item<y5_1_1)) λx27 =>
cond x27 (some (true:Bool)) (bnd (decide (a1.Item>y5_2_1)) λx28 =>
some (x28:Bool))).bind <| λy8_1_1 =>
cZ (y8_1_1=false)<|
(show Option ((Bool)) from
(show Option ((Int)) from
(tO x7 76).bind λx31 =>
some (x31:Int)).bind <| λy2_1 =>
bnd (decide (y2_1>=0)) λx32 =>
some (x32:Bool)).bind <| λy4_1_2 =>
(show Option (Int×Int) from
cond y4_1_2 ((tK a1.Kind 76).bind λx34 =>
some ((x34.1:Int),(x34.2:Int))) (some ((0:Int),(0:Int)))).bind <| p2 λ(y5_1_2:Int) (y5_2_2:Int) =>
(show Option ((Unit)) from
some ()).bind <| λ_ =>
(show Option (Bool) from
bnd (decide (a1.Loc<y5_1_2)) λx37 =>
cond x37 (some (true:Bool)) (bnd (decide (a1.Loc>y5_2_2)) λx38 =>
some (x38:Bool))).bind <| λy8_1_2 =>
cZ (y8_1_2=false)<|
(show Option ((Bool)) from
(show Option ((Int)) from
(tO x7 84).bind λx41 =>
some (x41:Int)).bind <| λy2_1 =>
bnd (decide (y2_1>=0)) λx42 =>
some (x42:Bool)).bind <| λy4_1_3 =>
(show Option (Int×Int) from
cond y4_1_3 ((tK a1.Kind 84).bind λx44 =>
some ((x44.1:Int),(x44.2:Int))) (some ((0:Int),(0:Int)))).bind <| p2 λ(y5_1_3:Int) (y5_2_3:Int) =>
(show Option ((Unit)) from
some ()).bind <| λ_ =>
(show Option (Bool) from
bnd (decide (a1.To<y5_1_3)) λx47 =>
cond x47 (some (true:Bool)) (bnd (decide (a1.To>y5_2_3)) λx48 =>
some (x48:Bool))).bind <| λy8_1_3 =>
cZ (y8_1_3=false)<|
(show Option ((Bool)) from
(show Option ((Int)) from
(tO x7 81).bind λx51 =>
some (x51:Int)).bind <| λy2_1 =>
bnd (decide (y2_1>=0)) λx52 =>
some (x52:Bool)).bind <| λy4_1_4 =>
(show Option (Int×Int) from
cond y4_1_4 ((tK a1.Kind 81).bind λx54 =>
some ((x54.1:Int),(x54.2:Int))) (some ((0:Int),(0:Int)))).bind <| p2 λ(y5_1_4:Int) (y5_2_4:Int) =>
(show Option ((Unit)) from
some ()).bind <| λ_ =>
(show Option (Bool) from
bnd (decide (a1.dJ<y5_1_4)) λx57 =>
cond x57 (some (true:Bool)) (bnd (decide (a1.dJ>y5_2_4)) λx58 =>
some (x58:Bool))).bind <| λy8_1_4 =>
cZ (y8_1_4=false)<|
(show Option ((Bool)) from
(show Option ((Int)) from
(tO x7 65).bind λx61 =>
some (x61:Int)).bind <| λy2_1 =>
bnd (decide (y2_1>=0)) λx62 =>
some (x62:Bool)).bind <| λy4_1_5 =>
(show Option (Int×Int) from
cond y4_1_5 ((tK a1.Kind 65).bind λx64 =>
some ((x64.1:Int),(x64.2:Int))) (some ((0:Int),(0:Int)))).bind <| p2 λ(y5_1_5:Int) (y5_2_5:Int) =>
(show Option ((Unit)) from
some ()).bind <| λ_ =>
(show Option (Bool) from
bnd (decide (a1.fM<y5_1_5)) λx67 =>
cond x67 (some (true:Bool)) (bnd (decide (a1.fM>y5_2_5)) λx68 =>
some (x68:Bool))).bind <| λy8_1_5 =>
cZ (y8_1_5=false)<|
(show Option ((Bool)) from
(show Option ((Int)) from
(tO x7 82).bind λx71 =>
some (x71:Int)).bind <| λy2_1 =>
bnd (decide (y2_1>=0)) λx72 =>
some (x72:Bool)).bind <| λy4_1_6 =>
(show Option (Int×Int) from
cond y4_1_6 ((tK a1.Kind 82).bind λx74 =>
some ((x74.1:Int),(x74.2:Int))) (some ((0:Int),(0:Int)))).bind <| p2 λ(y5_1_6:Int) (y5_2_6:Int) =>
(show Option ((Unit)) from
some ()).bind <| λ_ =>
(show Option (Bool) from
bnd (decide (a1.Ref<y5_1_6)) λx77 =>
cond x77 (some (true:Bool)) (bnd (decide (a1.Ref>y5_2_6)) λx78 =>
some (x78:Bool))).bind <| λy8_1_6 =>
cZ (y8_1_6=false)<|
bnd (decide (a1.Kind=11)) λx79 =>
cZ (x79=false)<|
(show Option (Bool) from
bnd (decide ((a1.gU.length:Int)=0)) λx81 =>
cond x81 (bnd (decide (a1.Kind=8)) λx82 =>
cond x82 (bnd (decide (a1.To=a1.Loc)) λx86 =>
bnd (!x86) λx87 =>
cond x87 (bnd (decide (a1.Kind=12)) λx88 =>
cond x88 (bnd (decide (a1.To=a1.E)) λx89 =>
bnd (!x89) λx90 =>
some (x90:Bool)) (some (true:Bool))) (some (false:Bool))) (bnd (decide (a1.Kind=12)) λx83 =>
cond x83 (bnd (decide (a1.To=a1.E)) λx84 =>
bnd (!x84) λx85 =>
some (x85:Bool)) (some (true:Bool)))) (some (false:Bool))).bind <| λy9_1 =>
some ((y9_1:Bool))
theorem lK {a1:aP} {r:Bool} (h0:kW a1=some r):PP Tryz.prog 38 [.agg (aP.av a1)] (λy=>y=aA r):=by
  unfold kW at h0
  refine sG (R0:=λy H=>Cv (mI H) y (aA r)) ?_ (λy H hc=>⟨_,rfl,yE r,hc⟩)
  refine fC (c:=_) Tryz.func38 rfl rfl ?_;intro Q hret hnorm
  refine tc aB 2 (.mk ?_)
  refine sB 1 λv2=>?_
  refine tr aB 4 (.mk ?_)
  refine jn h0 [1,2] [1] (λ(a:Bool) (k:Unit)=>[(16,aA a)]) (λa k=>[]) ⟨λj3 h1=>?_,?_⟩
  refine tc aB 3 (.mk ?_)
  refine nb aB h1 λx4 h1=>?_
  refine tr aB 1 (.mk ?_)
  cases x4
  replace h1:=cf h1
  refine tr aB 2 (.mk ?_)
  refine nb aB h1 λx5 h1=>?_
  refine tr aB 2 (.mk ?_)
  exact lf h1 () dW
  replace h1:=ct h1
  refine tr aB 5 (.mk ?_)
  exact lf h1 () dW
  rintro y0_1 _ h0
  replace h0:=dH h0
  obtain ⟨rfl,h0⟩:=h0
  refine tc aB 3 (.mk ?_)
  refine C8 [0,0,2,7,15] (rl [(1,[1]),(2,[1])] []) (λi=>[1]) (λi=>true) [0,1,2,3,4] mixed (by kernel_rfl) ?_;intro K hK
  obtain ⟨x6,e6,h0⟩:=dD h0
  refine eP (λH hH=>iO rfl rfl .nil mD (cO.refl _) (OH _ e6)) ?_
  refine eF l9 ?_
  refine eL bX ?_
  obtain ⟨x7,e7,h0⟩:=dD h0
  refine eP (λH hH=>BQ (g:=fS) (l:=([x6.a0,x6.a1,x6.a2,x6.a3,x6.a4,x6.a5,x6.a6,x6.a7,x6.a8,x6.a9,x6.nQ,x6.oK,x6.a12,x6.rZ,x6.J5,x6.KR,x6.a16]:List (List UInt8))) (v:=x7) (w:=str x7) rfl Tryz.underlying82 lQ rfl rfl rfl e7 (λ_=>rfl) hw1) ?_
  refine eA ?_
  refine AZ (hK _ ?_)
  refine tc aB 1 (.mk ?_)
  refine aJC rfl rfl rfl rfl rfl rfl rfl rfl ?_
  refine aCK rfl rfl rfl rfl Tryz.underlying9 rfl λb8=>⟨rfl,?_⟩
  refine tc aB 20 (.mk ?_)
  obtain ⟨j9,h1,h0⟩:=dD h0
  refine bO (Out:=λy H'=>(∃ (a:Bool) (k:Unit),a=j9/\y=aA a/\H'=hk [(1,⟨30,9,true,true,v2,[[int a1.Kind,int a1.E,int a1.Item,int a1.Loc,int a1.To,int a1.dJ,int a1.fM,int a1.Ref,aG 1 fI a1.gU]]⟩)])) rfl rfl rfl (aQ rfl rfl (.cons rfl (.cons rfl .nil)) uJ ?_) ?_
  refine fC (c:=_) Tryz.func65 rfl rfl ?_;intro Q hret hnorm
  refine tc aB 8 (.mk ?_)
  obtain ⟨j10,h2,h1⟩:=dD h1
  refine bO (Out:=λy H'=>(∃ (a:Int) (k:Unit),a=j10/\y=int a/\H'=hk [(1,⟨30,9,true,true,v2,[[int a1.Kind,int a1.E,int a1.Item,int a1.Loc,int a1.To,int a1.dJ,int a1.fM,int a1.Ref,aG 1 fI a1.gU]]⟩)])) rfl rfl rfl (aQ rfl rfl (.cons rfl (.cons rfl .nil)) uN ?_) ?_
  refine fC (c:=_) Tryz.func109 rfl rfl ?_;intro Q hret hnorm
  refine tc aB 8 (.mk ?_)
  refine sY (aN (y:=aA true) (tN rfl rfl rfl) (congrArg aA (by decide))) ?_
  refine tr aB 2 (.mk ?_)
  refine sY (aN (y:=aA true) (oC rfl rfl rfl) (congrArg aA (by decide))) ?_
  refine tr aB 8 (.mk ?_)
  refine sY (jX (r:=69) rfl Tryz.underlying21 Tryz.underlying5 rfl (by decide)) ?_
  obtain ⟨x11,e11,h2⟩:=dD h2
  refine sC uQ (uP _ e11) ?_
  refine tr aB 2 (.mk ?_)
  obtain rfl:=eH h2
  refine fF (hret _ _ (hk [(1,⟨30,9,true,true,v2,[[int a1.Kind,int a1.E,int a1.Item,int a1.Loc,int a1.To,int a1.dJ,int a1.fM,int a1.Ref,aG 1 fI a1.gU]]⟩)]) (.tmp rfl .nil) (HK.le ⟨rfl,trivial⟩) ?_)
  exact ⟨x11,(),rfl,rfl,rfl⟩
  rintro y _ ⟨y2_1,_,rfl,hc,rfl⟩
  subst hc
  refine nb aB h1 λx12 h1=>?_
  refine tr aB 2 (.mk ?_)
  obtain rfl:=eH h1
  refine fF (hret _ _ (hk [(1,⟨30,9,true,true,v2,[[int a1.Kind,int a1.E,int a1.Item,int a1.Loc,int a1.To,int a1.dJ,int a1.fM,int a1.Ref,aG 1 fI a1.gU]]⟩)]) (.tmp rfl .nil) (HK.le ⟨rfl,trivial⟩) ?_)
  exact ⟨x12,(),rfl,rfl,rfl⟩
  rintro y _ ⟨y4_1,_,rfl,hc,rfl⟩
  subst hc
  refine tr aB 1 (.mk ?_)
  refine jn h0 [1,2,3,5,21,22,23] [1] (λ(a:Int×Int) (k:Unit)=>[(6,int a.1),(7,int a.2)]) (λa k=>[]) ⟨λj13 h1=>?_,?_⟩
  cases y4_1
  replace h1:=cf h1
  refine tc aB 2 (.mk ?_)
  exact lf h1 () dW
  replace h1:=ct h1
  refine tc aB 5 (.mk ?_)
  obtain ⟨x14,e14,h1⟩:=dD h1
  refine sC uM (uR _ e14) ?_
  refine tr aB 6 (.mk ?_)
  exact lf h1 () dW
  rintro ⟨y5_1,y5_2⟩ _ h0
  replace h0:=oU h0
  refine tc aB 3 (.mk ?_)
  obtain ⟨j15,h1,h0⟩:=dD h0
  refine bO (Out:=λy H'=>(∃ (a:Unit) (k:Unit),a=j15/\y=.pt 1 v2 0 1/\H'=hk [(1,⟨30,9,true,true,v2,[[int a1.Kind,int a1.E,int a1.Item,int a1.Loc,int a1.To,int a1.dJ,int a1.fM,int a1.Ref,aG 1 fI a1.gU]]⟩)])) rfl rfl rfl (aQ rfl rfl (.cons rfl (.cons rfl .nil)) gG ?_) ?_
  refine fC (c:=_) Tryz.func37 rfl rfl ?_;intro Q hret hnorm
  refine tc aB 12 (.mk ?_)
  refine sY (aN (y:=aA true) (aS rfl rfl rfl) (congrArg aA (by decide))) ?_
  refine tr aB 10 (.mk ?_)
  obtain rfl:=eH h1
  refine fF (hret _ _ (hk [(1,⟨30,9,true,true,v2,[[int a1.Kind,int a1.E,int a1.Item,int a1.Loc,int a1.To,int a1.dJ,int a1.fM,int a1.Ref,aG 1 fI a1.gU]]⟩)]) (.tmp rfl .nil) (HK.le ⟨rfl,trivial⟩) ?_)
  exact ⟨(),(),rfl,rfl,rfl⟩
  rintro y _ ⟨_,_,rfl,hc,rfl⟩
  subst hc
  refine tr aB 5 (.mk ?_)
  refine jn h0 [1,2,3,21,22,23] [1] (λ(a:Bool) (k:Unit)=>[(46,aA a)]) (λa k=>[]) ⟨λj16 h1=>?_,?_⟩
  refine tc aB 3 (.mk ?_)
  refine nb aB h1 λx17 h1=>?_
  refine tr aB 1 (.mk ?_)
  cases x17
  replace h1:=cf h1
  refine tr aB 2 (.mk ?_)
  refine nb aB h1 λx18 h1=>?_
  refine tr aB 2 (.mk ?_)
  exact lf h1 () dW
  replace h1:=ct h1
  refine tr aB 5 (.mk ?_)
  exact lf h1 () dW
  rintro y8_1 _ h0
  replace h0:=dH h0
  obtain ⟨rfl,h0⟩:=h0
  refine tc aB 23 (.mk ?_)
  obtain ⟨j19,h1,h0⟩:=dD h0
  refine bO (Out:=λy H'=>(∃ (a:Bool) (k:Unit),a=j19/\y=aA a/\H'=hk [(1,⟨30,9,true,true,v2,[[int a1.Kind,int a1.E,int a1.Item,int a1.Loc,int a1.To,int a1.dJ,int a1.fM,int a1.Ref,aG 1 fI a1.gU]]⟩)])) rfl rfl rfl (aQ rfl rfl (.cons rfl (.cons rfl .nil)) uJ ?_) ?_
  refine fC (c:=_) Tryz.func65 rfl rfl ?_;intro Q hret hnorm
  refine tc aB 8 (.mk ?_)
  obtain ⟨j20,h2,h1⟩:=dD h1
  refine bO (Out:=λy H'=>(∃ (a:Int) (k:Unit),a=j20/\y=int a/\H'=hk [(1,⟨30,9,true,true,v2,[[int a1.Kind,int a1.E,int a1.Item,int a1.Loc,int a1.To,int a1.dJ,int a1.fM,int a1.Ref,aG 1 fI a1.gU]]⟩)])) rfl rfl rfl (aQ rfl rfl (.cons rfl (.cons rfl .nil)) uN ?_) ?_
  refine fC (c:=_) Tryz.func109 rfl rfl ?_;intro Q hret hnorm
  refine tc aB 8 (.mk ?_)
  refine sY (aN (y:=aA true) (tN rfl rfl rfl) (congrArg aA (by decide))) ?_
  refine tr aB 2 (.mk ?_)
  refine sY (aN (y:=aA true) (oC rfl rfl rfl) (congrArg aA (by decide))) ?_
  refine tr aB 8 (.mk ?_)
  refine sY (jX (r:=73) rfl Tryz.underlying21 Tryz.underlying5 rfl (by decide)) ?_
  obtain ⟨x21,e21,h2⟩:=dD h2
  refine sC uQ (uP _ e21) ?_
  refine tr aB 2 (.mk ?_)
  obtain rfl:=eH h2
  refine fF (hret _ _ (hk [(1,⟨30,9,true,true,v2,[[int a1.Kind,int a1.E,int a1.Item,int a1.Loc,int a1.To,int a1.dJ,int a1.fM,int a1.Ref,aG 1 fI a1.gU]]⟩)]) (.tmp rfl .nil) (HK.le ⟨rfl,trivial⟩) ?_)
  exact ⟨x21,(),rfl,rfl,rfl⟩
  rintro y _ ⟨y2_1,_,rfl,hc,rfl⟩
  subst hc
  refine nb aB h1 λx22 h1=>?_
  refine tr aB 2 (.mk ?_)
  obtain rfl:=eH h1
  refine fF (hret _ _ (hk [(1,⟨30,9,true,true,v2,[[int a1.Kind,int a1.E,int a1.Item,int a1.Loc,int a1.To,int a1.dJ,int a1.fM,int a1.Ref,aG 1 fI a1.gU]]⟩)]) (.tmp rfl .nil) (HK.le ⟨rfl,trivial⟩) ?_)
  exact ⟨x22,(),rfl,rfl,rfl⟩
  rintro y _ ⟨y4_1_1,_,rfl,hc,rfl⟩
  subst hc
  refine tr aB 1 (.mk ?_)
  refine jn h0 [1,2,3,5,21,22,23] [1] (λ(a:Int×Int) (k:Unit)=>[(6,int a.1),(7,int a.2)]) (λa k=>[]) ⟨λj23 h1=>?_,?_⟩
  cases y4_1_1
  replace h1:=cf h1
  refine tc aB 2 (.mk ?_)
  exact lf h1 () dW
  replace h1:=ct h1
  refine tc aB 5 (.mk ?_)
  obtain ⟨x24,e24,h1⟩:=dD h1
  refine sC uM (uR _ e24) ?_
  refine tr aB 6 (.mk ?_)
  exact lf h1 () dW
  rintro ⟨y5_1_1,y5_2_1⟩ _ h0
  replace h0:=oU h0
  refine tc aB 3 (.mk ?_)
  obtain ⟨j25,h1,h0⟩:=dD h0
  refine bO (Out:=λy H'=>(∃ (a:Unit) (k:Unit),a=j25/\y=.pt 1 v2 0 2/\H'=hk [(1,⟨30,9,true,true,v2,[[int a1.Kind,int a1.E,int a1.Item,int a1.Loc,int a1.To,int a1.dJ,int a1.fM,int a1.Ref,aG 1 fI a1.gU]]⟩)])) rfl rfl rfl (aQ rfl rfl (.cons rfl (.cons rfl .nil)) gG ?_) ?_
  refine fC (c:=_) Tryz.func37 rfl rfl ?_;intro Q hret hnorm
  refine tc aB 12 (.mk ?_)
  refine sY (aN (y:=aA false) (aS rfl rfl rfl) (congrArg aA (by decide))) ?_
  refine tr aB 5 (.mk ?_)
  refine sY (aN (y:=aA true) (aS rfl rfl rfl) (congrArg aA (by decide))) ?_
  refine tr aB 10 (.mk ?_)
  obtain rfl:=eH h1
  refine fF (hret _ _ (hk [(1,⟨30,9,true,true,v2,[[int a1.Kind,int a1.E,int a1.Item,int a1.Loc,int a1.To,int a1.dJ,int a1.fM,int a1.Ref,aG 1 fI a1.gU]]⟩)]) (.tmp rfl .nil) (HK.le ⟨rfl,trivial⟩) ?_)
  exact ⟨(),(),rfl,rfl,rfl⟩
  rintro y _ ⟨_,_,rfl,hc,rfl⟩
  subst hc
  refine tr aB 5 (.mk ?_)
  refine jn h0 [1,2,3,21,22,23] [1] (λ(a:Bool) (k:Unit)=>[(46,aA a)]) (λa k=>[]) ⟨λj26 h1=>?_,?_⟩
  refine tc aB 3 (.mk ?_)
  refine nb aB h1 λx27 h1=>?_
  refine tr aB 1 (.mk ?_)
  cases x27
  replace h1:=cf h1
  refine tr aB 2 (.mk ?_)
  refine nb aB h1 λx28 h1=>?_
  refine tr aB 2 (.mk ?_)
  exact lf h1 () dW
  replace h1:=ct h1
  refine tr aB 5 (.mk ?_)
  exact lf h1 () dW
  rintro y8_1_1 _ h0
  replace h0:=dH h0
  obtain ⟨rfl,h0⟩:=h0
  refine tc aB 23 (.mk ?_)
  obtain ⟨j29,h1,h0⟩:=dD h0
  refine bO (Out:=λy H'=>(∃ (a:Bool) (k:Unit),a=j29/\y=aA a/\H'=hk [(1,⟨30,9,true,true,v2,[[int a1.Kind,int a1.E,int a1.Item,int a1.Loc,int a1.To,int a1.dJ,int a1.fM,int a1.Ref,aG 1 fI a1.gU]]⟩)])) rfl rfl rfl (aQ rfl rfl (.cons rfl (.cons rfl .nil)) uJ ?_) ?_
  refine fC (c:=_) Tryz.func65 rfl rfl ?_;intro Q hret hnorm
  refine tc aB 8 (.mk ?_)
  obtain ⟨j30,h2,h1⟩:=dD h1
  refine bO (Out:=λy H'=>(∃ (a:Int) (k:Unit),a=j30/\y=int a/\H'=hk [(1,⟨30,9,true,true,v2,[[int a1.Kind,int a1.E,int a1.Item,int a1.Loc,int a1.To,int a1.dJ,int a1.fM,int a1.Ref,aG 1 fI a1.gU]]⟩)])) rfl rfl rfl (aQ rfl rfl (.cons rfl (.cons rfl .nil)) uN ?_) ?_
  refine fC (c:=_) Tryz.func109 rfl rfl ?_;intro Q hret hnorm
  refine tc aB 8 (.mk ?_)
  refine sY (aN (y:=aA true) (tN rfl rfl rfl) (congrArg aA (by decide))) ?_
  refine tr aB 2 (.mk ?_)
  refine sY (aN (y:=aA true) (oC rfl rfl rfl) (congrArg aA (by decide))) ?_
  refine tr aB 8 (.mk ?_)
  refine sY (jX (r:=76) rfl Tryz.underlying21 Tryz.underlying5 rfl (by decide)) ?_
  obtain ⟨x31,e31,h2⟩:=dD h2
  refine sC uQ (uP _ e31) ?_
  refine tr aB 2 (.mk ?_)
  obtain rfl:=eH h2
  refine fF (hret _ _ (hk [(1,⟨30,9,true,true,v2,[[int a1.Kind,int a1.E,int a1.Item,int a1.Loc,int a1.To,int a1.dJ,int a1.fM,int a1.Ref,aG 1 fI a1.gU]]⟩)]) (.tmp rfl .nil) (HK.le ⟨rfl,trivial⟩) ?_)
  exact ⟨x31,(),rfl,rfl,rfl⟩
  rintro y _ ⟨y2_1,_,rfl,hc,rfl⟩
  subst hc
  refine nb aB h1 λx32 h1=>?_
  refine tr aB 2 (.mk ?_)
  obtain rfl:=eH h1
  refine fF (hret _ _ (hk [(1,⟨30,9,true,true,v2,[[int a1.Kind,int a1.E,int a1.Item,int a1.Loc,int a1.To,int a1.dJ,int a1.fM,int a1.Ref,aG 1 fI a1.gU]]⟩)]) (.tmp rfl .nil) (HK.le ⟨rfl,trivial⟩) ?_)
  exact ⟨x32,(),rfl,rfl,rfl⟩
  rintro y _ ⟨y4_1_2,_,rfl,hc,rfl⟩
  subst hc
  refine tr aB 1 (.mk ?_)
  refine jn h0 [1,2,3,5,21,22,23] [1] (λ(a:Int×Int) (k:Unit)=>[(6,int a.1),(7,int a.2)]) (λa k=>[]) ⟨λj33 h1=>?_,?_⟩
  cases y4_1_2
  replace h1:=cf h1
  refine tc aB 2 (.mk ?_)
  exact lf h1 () dW
  replace h1:=ct h1
  refine tc aB 5 (.mk ?_)
  obtain ⟨x34,e34,h1⟩:=dD h1
  refine sC uM (uR _ e34) ?_
  refine tr aB 6 (.mk ?_)
  exact lf h1 () dW
  rintro ⟨y5_1_2,y5_2_2⟩ _ h0
  replace h0:=oU h0
  refine tc aB 3 (.mk ?_)
  obtain ⟨j35,h1,h0⟩:=dD h0
  refine bO (Out:=λy H'=>(∃ (a:Unit) (k:Unit),a=j35/\y=.pt 1 v2 0 3/\H'=hk [(1,⟨30,9,true,true,v2,[[int a1.Kind,int a1.E,int a1.Item,int a1.Loc,int a1.To,int a1.dJ,int a1.fM,int a1.Ref,aG 1 fI a1.gU]]⟩)])) rfl rfl rfl (aQ rfl rfl (.cons rfl (.cons rfl .nil)) gG ?_) ?_
  refine fC (c:=_) Tryz.func37 rfl rfl ?_;intro Q hret hnorm
  refine tc aB 12 (.mk ?_)
  refine sY (aN (y:=aA false) (aS rfl rfl rfl) (congrArg aA (by decide))) ?_
  refine tr aB 5 (.mk ?_)
  refine sY (aN (y:=aA false) (aS rfl rfl rfl) (congrArg aA (by decide))) ?_
  refine tr aB 5 (.mk ?_)
  refine sY (aN (y:=aA true) (aS rfl rfl rfl) (congrArg aA (by decide))) ?_
  refine tr aB 10 (.mk ?_)
  obtain rfl:=eH h1
  refine fF (hret _ _ (hk [(1,⟨30,9,true,true,v2,[[int a1.Kind,int a1.E,int a1.Item,int a1.Loc,int a1.To,int a1.dJ,int a1.fM,int a1.Ref,aG 1 fI a1.gU]]⟩)]) (.tmp rfl .nil) (HK.le ⟨rfl,trivial⟩) ?_)
  exact ⟨(),(),rfl,rfl,rfl⟩
  rintro y _ ⟨_,_,rfl,hc,rfl⟩
  subst hc
  refine tr aB 5 (.mk ?_)
  refine jn h0 [1,2,3,21,22,23] [1] (λ(a:Bool) (k:Unit)=>[(46,aA a)]) (λa k=>[]) ⟨λj36 h1=>?_,?_⟩
  refine tc aB 3 (.mk ?_)
  refine nb aB h1 λx37 h1=>?_
  refine tr aB 1 (.mk ?_)
  cases x37
  replace h1:=cf h1
  refine tr aB 2 (.mk ?_)
  refine nb aB h1 λx38 h1=>?_
  refine tr aB 2 (.mk ?_)
  exact lf h1 () dW
  replace h1:=ct h1
  refine tr aB 5 (.mk ?_)
  exact lf h1 () dW
  rintro y8_1_2 _ h0
  replace h0:=dH h0
  obtain ⟨rfl,h0⟩:=h0
  refine tc aB 23 (.mk ?_)
  obtain ⟨j39,h1,h0⟩:=dD h0
  refine bO (Out:=λy H'=>(∃ (a:Bool) (k:Unit),a=j39/\y=aA a/\H'=hk [(1,⟨30,9,true,true,v2,[[int a1.Kind,int a1.E,int a1.Item,int a1.Loc,int a1.To,int a1.dJ,int a1.fM,int a1.Ref,aG 1 fI a1.gU]]⟩)])) rfl rfl rfl (aQ rfl rfl (.cons rfl (.cons rfl .nil)) uJ ?_) ?_
  refine fC (c:=_) Tryz.func65 rfl rfl ?_;intro Q hret hnorm
  refine tc aB 8 (.mk ?_)
  obtain ⟨j40,h2,h1⟩:=dD h1
  refine bO (Out:=λy H'=>(∃ (a:Int) (k:Unit),a=j40/\y=int a/\H'=hk [(1,⟨30,9,true,true,v2,[[int a1.Kind,int a1.E,int a1.Item,int a1.Loc,int a1.To,int a1.dJ,int a1.fM,int a1.Ref,aG 1 fI a1.gU]]⟩)])) rfl rfl rfl (aQ rfl rfl (.cons rfl (.cons rfl .nil)) uN ?_) ?_
  refine fC (c:=_) Tryz.func109 rfl rfl ?_;intro Q hret hnorm
  refine tc aB 8 (.mk ?_)
  refine sY (aN (y:=aA true) (tN rfl rfl rfl) (congrArg aA (by decide))) ?_
  refine tr aB 2 (.mk ?_)
  refine sY (aN (y:=aA true) (oC rfl rfl rfl) (congrArg aA (by decide))) ?_
  refine tr aB 8 (.mk ?_)
  refine sY (jX (r:=84) rfl Tryz.underlying21 Tryz.underlying5 rfl (by decide)) ?_
  obtain ⟨x41,e41,h2⟩:=dD h2
  refine sC uQ (uP _ e41) ?_
  refine tr aB 2 (.mk ?_)
  obtain rfl:=eH h2
  refine fF (hret _ _ (hk [(1,⟨30,9,true,true,v2,[[int a1.Kind,int a1.E,int a1.Item,int a1.Loc,int a1.To,int a1.dJ,int a1.fM,int a1.Ref,aG 1 fI a1.gU]]⟩)]) (.tmp rfl .nil) (HK.le ⟨rfl,trivial⟩) ?_)
  exact ⟨x41,(),rfl,rfl,rfl⟩
  rintro y _ ⟨y2_1,_,rfl,hc,rfl⟩
  subst hc
  refine nb aB h1 λx42 h1=>?_
  refine tr aB 2 (.mk ?_)
  obtain rfl:=eH h1
  refine fF (hret _ _ (hk [(1,⟨30,9,true,true,v2,[[int a1.Kind,int a1.E,int a1.Item,int a1.Loc,int a1.To,int a1.dJ,int a1.fM,int a1.Ref,aG 1 fI a1.gU]]⟩)]) (.tmp rfl .nil) (HK.le ⟨rfl,trivial⟩) ?_)
  exact ⟨x42,(),rfl,rfl,rfl⟩
  rintro y _ ⟨y4_1_3,_,rfl,hc,rfl⟩
  subst hc
  refine tr aB 1 (.mk ?_)
  refine jn h0 [1,2,3,5,21,22,23] [1] (λ(a:Int×Int) (k:Unit)=>[(6,int a.1),(7,int a.2)]) (λa k=>[]) ⟨λj43 h1=>?_,?_⟩
  cases y4_1_3
  replace h1:=cf h1
  refine tc aB 2 (.mk ?_)
  exact lf h1 () dW
  replace h1:=ct h1
  refine tc aB 5 (.mk ?_)
  obtain ⟨x44,e44,h1⟩:=dD h1
  refine sC uM (uR _ e44) ?_
  refine tr aB 6 (.mk ?_)
  exact lf h1 () dW
  rintro ⟨y5_1_3,y5_2_3⟩ _ h0
  replace h0:=oU h0
  refine tc aB 3 (.mk ?_)
  obtain ⟨j45,h1,h0⟩:=dD h0
  refine bO (Out:=λy H'=>(∃ (a:Unit) (k:Unit),a=j45/\y=.pt 1 v2 0 4/\H'=hk [(1,⟨30,9,true,true,v2,[[int a1.Kind,int a1.E,int a1.Item,int a1.Loc,int a1.To,int a1.dJ,int a1.fM,int a1.Ref,aG 1 fI a1.gU]]⟩)])) rfl rfl rfl (aQ rfl rfl (.cons rfl (.cons rfl .nil)) gG ?_) ?_
  refine fC (c:=_) Tryz.func37 rfl rfl ?_;intro Q hret hnorm
  refine tc aB 12 (.mk ?_)
  refine sY (aN (y:=aA false) (aS rfl rfl rfl) (congrArg aA (by decide))) ?_
  refine tr aB 5 (.mk ?_)
  refine sY (aN (y:=aA false) (aS rfl rfl rfl) (congrArg aA (by decide))) ?_
  refine tr aB 5 (.mk ?_)
  refine sY (aN (y:=aA false) (aS rfl rfl rfl) (congrArg aA (by decide))) ?_
  refine tr aB 5 (.mk ?_)
  refine sY (aN (y:=aA true) (aS rfl rfl rfl) (congrArg aA (by decide))) ?_
  refine tr aB 10 (.mk ?_)
  obtain rfl:=eH h1
  refine fF (hret _ _ (hk [(1,⟨30,9,true,true,v2,[[int a1.Kind,int a1.E,int a1.Item,int a1.Loc,int a1.To,int a1.dJ,int a1.fM,int a1.Ref,aG 1 fI a1.gU]]⟩)]) (.tmp rfl .nil) (HK.le ⟨rfl,trivial⟩) ?_)
  exact ⟨(),(),rfl,rfl,rfl⟩
  rintro y _ ⟨_,_,rfl,hc,rfl⟩
  subst hc
  refine tr aB 5 (.mk ?_)
  refine jn h0 [1,2,3,21,22,23] [1] (λ(a:Bool) (k:Unit)=>[(46,aA a)]) (λa k=>[]) ⟨λj46 h1=>?_,?_⟩
  refine tc aB 3 (.mk ?_)
  refine nb aB h1 λx47 h1=>?_
  refine tr aB 1 (.mk ?_)
  cases x47
  replace h1:=cf h1
  refine tr aB 2 (.mk ?_)
  refine nb aB h1 λx48 h1=>?_
  refine tr aB 2 (.mk ?_)
  exact lf h1 () dW
  replace h1:=ct h1
  refine tr aB 5 (.mk ?_)
  exact lf h1 () dW
  rintro y8_1_3 _ h0
  replace h0:=dH h0
  obtain ⟨rfl,h0⟩:=h0
  refine tc aB 23 (.mk ?_)
  obtain ⟨j49,h1,h0⟩:=dD h0
  refine bO (Out:=λy H'=>(∃ (a:Bool) (k:Unit),a=j49/\y=aA a/\H'=hk [(1,⟨30,9,true,true,v2,[[int a1.Kind,int a1.E,int a1.Item,int a1.Loc,int a1.To,int a1.dJ,int a1.fM,int a1.Ref,aG 1 fI a1.gU]]⟩)])) rfl rfl rfl (aQ rfl rfl (.cons rfl (.cons rfl .nil)) uJ ?_) ?_
  refine fC (c:=_) Tryz.func65 rfl rfl ?_;intro Q hret hnorm
  refine tc aB 8 (.mk ?_)
  obtain ⟨j50,h2,h1⟩:=dD h1
  refine bO (Out:=λy H'=>(∃ (a:Int) (k:Unit),a=j50/\y=int a/\H'=hk [(1,⟨30,9,true,true,v2,[[int a1.Kind,int a1.E,int a1.Item,int a1.Loc,int a1.To,int a1.dJ,int a1.fM,int a1.Ref,aG 1 fI a1.gU]]⟩)])) rfl rfl rfl (aQ rfl rfl (.cons rfl (.cons rfl .nil)) uN ?_) ?_
  refine fC (c:=_) Tryz.func109 rfl rfl ?_;intro Q hret hnorm
  refine tc aB 8 (.mk ?_)
  refine sY (aN (y:=aA true) (tN rfl rfl rfl) (congrArg aA (by decide))) ?_
  refine tr aB 2 (.mk ?_)
  refine sY (aN (y:=aA true) (oC rfl rfl rfl) (congrArg aA (by decide))) ?_
  refine tr aB 8 (.mk ?_)
  refine sY (jX (r:=81) rfl Tryz.underlying21 Tryz.underlying5 rfl (by decide)) ?_
  obtain ⟨x51,e51,h2⟩:=dD h2
  refine sC uQ (uP _ e51) ?_
  refine tr aB 2 (.mk ?_)
  obtain rfl:=eH h2
  refine fF (hret _ _ (hk [(1,⟨30,9,true,true,v2,[[int a1.Kind,int a1.E,int a1.Item,int a1.Loc,int a1.To,int a1.dJ,int a1.fM,int a1.Ref,aG 1 fI a1.gU]]⟩)]) (.tmp rfl .nil) (HK.le ⟨rfl,trivial⟩) ?_)
  exact ⟨x51,(),rfl,rfl,rfl⟩
  rintro y _ ⟨y2_1,_,rfl,hc,rfl⟩
  subst hc
  refine nb aB h1 λx52 h1=>?_
  refine tr aB 2 (.mk ?_)
  obtain rfl:=eH h1
  refine fF (hret _ _ (hk [(1,⟨30,9,true,true,v2,[[int a1.Kind,int a1.E,int a1.Item,int a1.Loc,int a1.To,int a1.dJ,int a1.fM,int a1.Ref,aG 1 fI a1.gU]]⟩)]) (.tmp rfl .nil) (HK.le ⟨rfl,trivial⟩) ?_)
  exact ⟨x52,(),rfl,rfl,rfl⟩
  rintro y _ ⟨y4_1_4,_,rfl,hc,rfl⟩
  subst hc
  refine tr aB 1 (.mk ?_)
  refine jn h0 [1,2,3,5,21,22,23] [1] (λ(a:Int×Int) (k:Unit)=>[(6,int a.1),(7,int a.2)]) (λa k=>[]) ⟨λj53 h1=>?_,?_⟩
  cases y4_1_4
  replace h1:=cf h1
  refine tc aB 2 (.mk ?_)
  exact lf h1 () dW
  replace h1:=ct h1
  refine tc aB 5 (.mk ?_)
  obtain ⟨x54,e54,h1⟩:=dD h1
  refine sC uM (uR _ e54) ?_
  refine tr aB 6 (.mk ?_)
  exact lf h1 () dW
  rintro ⟨y5_1_4,y5_2_4⟩ _ h0
  replace h0:=oU h0
  refine tc aB 3 (.mk ?_)
  obtain ⟨j55,h1,h0⟩:=dD h0
  refine bO (Out:=λy H'=>(∃ (a:Unit) (k:Unit),a=j55/\y=.pt 1 v2 0 5/\H'=hk [(1,⟨30,9,true,true,v2,[[int a1.Kind,int a1.E,int a1.Item,int a1.Loc,int a1.To,int a1.dJ,int a1.fM,int a1.Ref,aG 1 fI a1.gU]]⟩)])) rfl rfl rfl (aQ rfl rfl (.cons rfl (.cons rfl .nil)) gG ?_) ?_
  refine fC (c:=_) Tryz.func37 rfl rfl ?_;intro Q hret hnorm
  refine tc aB 12 (.mk ?_)
  refine sY (aN (y:=aA false) (aS rfl rfl rfl) (congrArg aA (by decide))) ?_
  refine tr aB 5 (.mk ?_)
  refine sY (aN (y:=aA false) (aS rfl rfl rfl) (congrArg aA (by decide))) ?_
  refine tr aB 5 (.mk ?_)
  refine sY (aN (y:=aA false) (aS rfl rfl rfl) (congrArg aA (by decide))) ?_
  refine tr aB 5 (.mk ?_)
  refine sY (aN (y:=aA false) (aS rfl rfl rfl) (congrArg aA (by decide))) ?_
  refine tr aB 5 (.mk ?_)
  refine sY (aN (y:=aA true) (aS rfl rfl rfl) (congrArg aA (by decide))) ?_
  refine tr aB 10 (.mk ?_)
  obtain rfl:=eH h1
  refine fF (hret _ _ (hk [(1,⟨30,9,true,true,v2,[[int a1.Kind,int a1.E,int a1.Item,int a1.Loc,int a1.To,int a1.dJ,int a1.fM,int a1.Ref,aG 1 fI a1.gU]]⟩)]) (.tmp rfl .nil) (HK.le ⟨rfl,trivial⟩) ?_)
  exact ⟨(),(),rfl,rfl,rfl⟩
  rintro y _ ⟨_,_,rfl,hc,rfl⟩
  subst hc
  refine tr aB 5 (.mk ?_)
  refine jn h0 [1,2,3,21,22,23] [1] (λ(a:Bool) (k:Unit)=>[(46,aA a)]) (λa k=>[]) ⟨λj56 h1=>?_,?_⟩
  refine tc aB 3 (.mk ?_)
  refine nb aB h1 λx57 h1=>?_
  refine tr aB 1 (.mk ?_)
  cases x57
  replace h1:=cf h1
  refine tr aB 2 (.mk ?_)
  refine nb aB h1 λx58 h1=>?_
  refine tr aB 2 (.mk ?_)
  exact lf h1 () dW
  replace h1:=ct h1
  refine tr aB 5 (.mk ?_)
  exact lf h1 () dW
  rintro y8_1_4 _ h0
  replace h0:=dH h0
  obtain ⟨rfl,h0⟩:=h0
  refine tc aB 23 (.mk ?_)
  obtain ⟨j59,h1,h0⟩:=dD h0
  refine bO (Out:=λy H'=>(∃ (a:Bool) (k:Unit),a=j59/\y=aA a/\H'=hk [(1,⟨30,9,true,true,v2,[[int a1.Kind,int a1.E,int a1.Item,int a1.Loc,int a1.To,int a1.dJ,int a1.fM,int a1.Ref,aG 1 fI a1.gU]]⟩)])) rfl rfl rfl (aQ rfl rfl (.cons rfl (.cons rfl .nil)) uJ ?_) ?_
  refine fC (c:=_) Tryz.func65 rfl rfl ?_;intro Q hret hnorm
  refine tc aB 8 (.mk ?_)
  obtain ⟨j60,h2,h1⟩:=dD h1
  refine bO (Out:=λy H'=>(∃ (a:Int) (k:Unit),a=j60/\y=int a/\H'=hk [(1,⟨30,9,true,true,v2,[[int a1.Kind,int a1.E,int a1.Item,int a1.Loc,int a1.To,int a1.dJ,int a1.fM,int a1.Ref,aG 1 fI a1.gU]]⟩)])) rfl rfl rfl (aQ rfl rfl (.cons rfl (.cons rfl .nil)) uN ?_) ?_
  refine fC (c:=_) Tryz.func109 rfl rfl ?_;intro Q hret hnorm
  refine tc aB 8 (.mk ?_)
  refine sY (aN (y:=aA true) (tN rfl rfl rfl) (congrArg aA (by decide))) ?_
  refine tr aB 2 (.mk ?_)
  refine sY (aN (y:=aA true) (oC rfl rfl rfl) (congrArg aA (by decide))) ?_
  refine tr aB 8 (.mk ?_)
  refine sY (jX (r:=65) rfl Tryz.underlying21 Tryz.underlying5 rfl (by decide)) ?_
  obtain ⟨x61,e61,h2⟩:=dD h2
  refine sC uQ (uP _ e61) ?_
  refine tr aB 2 (.mk ?_)
  obtain rfl:=eH h2
  refine fF (hret _ _ (hk [(1,⟨30,9,true,true,v2,[[int a1.Kind,int a1.E,int a1.Item,int a1.Loc,int a1.To,int a1.dJ,int a1.fM,int a1.Ref,aG 1 fI a1.gU]]⟩)]) (.tmp rfl .nil) (HK.le ⟨rfl,trivial⟩) ?_)
  exact ⟨x61,(),rfl,rfl,rfl⟩
  rintro y _ ⟨y2_1,_,rfl,hc,rfl⟩
  subst hc
  refine nb aB h1 λx62 h1=>?_
  refine tr aB 2 (.mk ?_)
  obtain rfl:=eH h1
  refine fF (hret _ _ (hk [(1,⟨30,9,true,true,v2,[[int a1.Kind,int a1.E,int a1.Item,int a1.Loc,int a1.To,int a1.dJ,int a1.fM,int a1.Ref,aG 1 fI a1.gU]]⟩)]) (.tmp rfl .nil) (HK.le ⟨rfl,trivial⟩) ?_)
  exact ⟨x62,(),rfl,rfl,rfl⟩
  rintro y _ ⟨y4_1_5,_,rfl,hc,rfl⟩
  subst hc
  refine tr aB 1 (.mk ?_)
  refine jn h0 [1,2,3,5,21,22,23] [1] (λ(a:Int×Int) (k:Unit)=>[(6,int a.1),(7,int a.2)]) (λa k=>[]) ⟨λj63 h1=>?_,?_⟩
  cases y4_1_5
  replace h1:=cf h1
  refine tc aB 2 (.mk ?_)
  exact lf h1 () dW
  replace h1:=ct h1
  refine tc aB 5 (.mk ?_)
  obtain ⟨x64,e64,h1⟩:=dD h1
  refine sC uM (uR _ e64) ?_
  refine tr aB 6 (.mk ?_)
  exact lf h1 () dW
  rintro ⟨y5_1_5,y5_2_5⟩ _ h0
  replace h0:=oU h0
  refine tc aB 3 (.mk ?_)
  obtain ⟨j65,h1,h0⟩:=dD h0
  refine bO (Out:=λy H'=>(∃ (a:Unit) (k:Unit),a=j65/\y=.pt 1 v2 0 6/\H'=hk [(1,⟨30,9,true,true,v2,[[int a1.Kind,int a1.E,int a1.Item,int a1.Loc,int a1.To,int a1.dJ,int a1.fM,int a1.Ref,aG 1 fI a1.gU]]⟩)])) rfl rfl rfl (aQ rfl rfl (.cons rfl (.cons rfl .nil)) gG ?_) ?_
  refine fC (c:=_) Tryz.func37 rfl rfl ?_;intro Q hret hnorm
  refine tc aB 12 (.mk ?_)
  refine sY (aN (y:=aA false) (aS rfl rfl rfl) (congrArg aA (by decide))) ?_
  refine tr aB 5 (.mk ?_)
  refine sY (aN (y:=aA false) (aS rfl rfl rfl) (congrArg aA (by decide))) ?_
  refine tr aB 5 (.mk ?_)
  refine sY (aN (y:=aA false) (aS rfl rfl rfl) (congrArg aA (by decide))) ?_
  refine tr aB 5 (.mk ?_)
  refine sY (aN (y:=aA false) (aS rfl rfl rfl) (congrArg aA (by decide))) ?_
  refine tr aB 5 (.mk ?_)
  refine sY (aN (y:=aA false) (aS rfl rfl rfl) (congrArg aA (by decide))) ?_
  refine tr aB 5 (.mk ?_)
  refine sY (aN (y:=aA true) (aS rfl rfl rfl) (congrArg aA (by decide))) ?_
  refine tr aB 10 (.mk ?_)
  obtain rfl:=eH h1
  refine fF (hret _ _ (hk [(1,⟨30,9,true,true,v2,[[int a1.Kind,int a1.E,int a1.Item,int a1.Loc,int a1.To,int a1.dJ,int a1.fM,int a1.Ref,aG 1 fI a1.gU]]⟩)]) (.tmp rfl .nil) (HK.le ⟨rfl,trivial⟩) ?_)
  exact ⟨(),(),rfl,rfl,rfl⟩
  rintro y _ ⟨_,_,rfl,hc,rfl⟩
  subst hc
  refine tr aB 5 (.mk ?_)
  refine jn h0 [1,2,3,21,22,23] [1] (λ(a:Bool) (k:Unit)=>[(46,aA a)]) (λa k=>[]) ⟨λj66 h1=>?_,?_⟩
  refine tc aB 3 (.mk ?_)
  refine nb aB h1 λx67 h1=>?_
  refine tr aB 1 (.mk ?_)
  cases x67
  replace h1:=cf h1
  refine tr aB 2 (.mk ?_)
  refine nb aB h1 λx68 h1=>?_
  refine tr aB 2 (.mk ?_)
  exact lf h1 () dW
  replace h1:=ct h1
  refine tr aB 5 (.mk ?_)
  exact lf h1 () dW
  rintro y8_1_5 _ h0
  replace h0:=dH h0
  obtain ⟨rfl,h0⟩:=h0
  refine tc aB 23 (.mk ?_)
  obtain ⟨j69,h1,h0⟩:=dD h0
  refine bO (Out:=λy H'=>(∃ (a:Bool) (k:Unit),a=j69/\y=aA a/\H'=hk [(1,⟨30,9,true,true,v2,[[int a1.Kind,int a1.E,int a1.Item,int a1.Loc,int a1.To,int a1.dJ,int a1.fM,int a1.Ref,aG 1 fI a1.gU]]⟩)])) rfl rfl rfl (aQ rfl rfl (.cons rfl (.cons rfl .nil)) uJ ?_) ?_
  refine fC (c:=_) Tryz.func65 rfl rfl ?_;intro Q hret hnorm
  refine tc aB 8 (.mk ?_)
  obtain ⟨j70,h2,h1⟩:=dD h1
  refine bO (Out:=λy H'=>(∃ (a:Int) (k:Unit),a=j70/\y=int a/\H'=hk [(1,⟨30,9,true,true,v2,[[int a1.Kind,int a1.E,int a1.Item,int a1.Loc,int a1.To,int a1.dJ,int a1.fM,int a1.Ref,aG 1 fI a1.gU]]⟩)])) rfl rfl rfl (aQ rfl rfl (.cons rfl (.cons rfl .nil)) uN ?_) ?_
  refine fC (c:=_) Tryz.func109 rfl rfl ?_;intro Q hret hnorm
  refine tc aB 8 (.mk ?_)
  refine sY (aN (y:=aA true) (tN rfl rfl rfl) (congrArg aA (by decide))) ?_
  refine tr aB 2 (.mk ?_)
  refine sY (aN (y:=aA true) (oC rfl rfl rfl) (congrArg aA (by decide))) ?_
  refine tr aB 8 (.mk ?_)
  refine sY (jX (r:=82) rfl Tryz.underlying21 Tryz.underlying5 rfl (by decide)) ?_
  obtain ⟨x71,e71,h2⟩:=dD h2
  refine sC uQ (uP _ e71) ?_
  refine tr aB 2 (.mk ?_)
  obtain rfl:=eH h2
  refine fF (hret _ _ (hk [(1,⟨30,9,true,true,v2,[[int a1.Kind,int a1.E,int a1.Item,int a1.Loc,int a1.To,int a1.dJ,int a1.fM,int a1.Ref,aG 1 fI a1.gU]]⟩)]) (.tmp rfl .nil) (HK.le ⟨rfl,trivial⟩) ?_)
  exact ⟨x71,(),rfl,rfl,rfl⟩
  rintro y _ ⟨y2_1,_,rfl,hc,rfl⟩
  subst hc
  refine nb aB h1 λx72 h1=>?_
  refine tr aB 2 (.mk ?_)
  obtain rfl:=eH h1
  refine fF (hret _ _ (hk [(1,⟨30,9,true,true,v2,[[int a1.Kind,int a1.E,int a1.Item,int a1.Loc,int a1.To,int a1.dJ,int a1.fM,int a1.Ref,aG 1 fI a1.gU]]⟩)]) (.tmp rfl .nil) (HK.le ⟨rfl,trivial⟩) ?_)
  exact ⟨x72,(),rfl,rfl,rfl⟩
  rintro y _ ⟨y4_1_6,_,rfl,hc,rfl⟩
  subst hc
  refine tr aB 1 (.mk ?_)
  refine jn h0 [1,2,3,5,21,22,23] [1] (λ(a:Int×Int) (k:Unit)=>[(6,int a.1),(7,int a.2)]) (λa k=>[]) ⟨λj73 h1=>?_,?_⟩
  cases y4_1_6
  replace h1:=cf h1
  refine tc aB 2 (.mk ?_)
  exact lf h1 () dW
  replace h1:=ct h1
  refine tc aB 5 (.mk ?_)
  obtain ⟨x74,e74,h1⟩:=dD h1
  refine sC uM (uR _ e74) ?_
  refine tr aB 6 (.mk ?_)
  exact lf h1 () dW
  rintro ⟨y5_1_6,y5_2_6⟩ _ h0
  replace h0:=oU h0
  refine tc aB 3 (.mk ?_)
  obtain ⟨j75,h1,h0⟩:=dD h0
  refine bO (Out:=λy H'=>(∃ (a:Unit) (k:Unit),a=j75/\y=.pt 1 v2 0 7/\H'=hk [(1,⟨30,9,true,true,v2,[[int a1.Kind,int a1.E,int a1.Item,int a1.Loc,int a1.To,int a1.dJ,int a1.fM,int a1.Ref,aG 1 fI a1.gU]]⟩)])) rfl rfl rfl (aQ rfl rfl (.cons rfl (.cons rfl .nil)) gG ?_) ?_
  refine fC (c:=_) Tryz.func37 rfl rfl ?_;intro Q hret hnorm
  refine tc aB 12 (.mk ?_)
  refine sY (aN (y:=aA false) (aS rfl rfl rfl) (congrArg aA (by decide))) ?_
  refine tr aB 5 (.mk ?_)
  refine sY (aN (y:=aA false) (aS rfl rfl rfl) (congrArg aA (by decide))) ?_
  refine tr aB 5 (.mk ?_)
  refine sY (aN (y:=aA false) (aS rfl rfl rfl) (congrArg aA (by decide))) ?_
  refine tr aB 5 (.mk ?_)
  refine sY (aN (y:=aA false) (aS rfl rfl rfl) (congrArg aA (by decide))) ?_
  refine tr aB 5 (.mk ?_)
  refine sY (aN (y:=aA false) (aS rfl rfl rfl) (congrArg aA (by decide))) ?_
  refine tr aB 5 (.mk ?_)
  refine sY (aN (y:=aA false) (aS rfl rfl rfl) (congrArg aA (by decide))) ?_
  refine tr aB 12 (.mk ?_)
  obtain rfl:=eH h1
  refine fF (hret _ _ (hk [(1,⟨30,9,true,true,v2,[[int a1.Kind,int a1.E,int a1.Item,int a1.Loc,int a1.To,int a1.dJ,int a1.fM,int a1.Ref,aG 1 fI a1.gU]]⟩)]) (.tmp rfl .nil) (HK.le ⟨rfl,trivial⟩) ?_)
  exact ⟨(),(),rfl,rfl,rfl⟩
  rintro y _ ⟨_,_,rfl,hc,rfl⟩
  subst hc
  refine tr aB 5 (.mk ?_)
  refine jn h0 [1,2,3,21,22,23] [1] (λ(a:Bool) (k:Unit)=>[(46,aA a)]) (λa k=>[]) ⟨λj76 h1=>?_,?_⟩
  refine tc aB 3 (.mk ?_)
  refine nb aB h1 λx77 h1=>?_
  refine tr aB 1 (.mk ?_)
  cases x77
  replace h1:=cf h1
  refine tr aB 2 (.mk ?_)
  refine nb aB h1 λx78 h1=>?_
  refine tr aB 2 (.mk ?_)
  exact lf h1 () dW
  replace h1:=ct h1
  refine tr aB 5 (.mk ?_)
  exact lf h1 () dW
  rintro y8_1_6 _ h0
  replace h0:=dH h0
  obtain ⟨rfl,h0⟩:=h0
  refine tc aB 12 (.mk ?_)
  refine nb aB h0 λx79 h0=>?_
  refine tr aB 1 (.mk ?_)
  replace h0:=dH h0
  obtain ⟨rfl,h0⟩:=h0
  refine tc aB 3 (.mk ?_)
  refine jn h0 [] [] (λ(a:Bool) (k:Unit)=>[(2,aA a)]) (λa k=>[]) ⟨λj80 h1=>?_,?_⟩
  refine tc aB 3 (.mk ?_)
  refine sY (mY rfl Tryz.underlying23 rfl (wB _)) ?_
  refine nb aB h1 λx81 h1=>?_
  refine tr aB 1 (.mk ?_)
  cases x81
  replace h1:=cf h1
  refine tr aB 27 (.mk ?_)
  exact lf h1 () dW
  replace h1:=ct h1
  refine tr aB 2 (.mk ?_)
  refine nb aB h1 λx82 h1=>?_
  refine tr aB 1 (.mk ?_)
  cases x82
  replace h1:=cf h1
  refine tr aB 11 (.mk ?_)
  refine nb aB h1 λx83 h1=>?_
  refine tr aB 1 (.mk ?_)
  cases x83
  replace h1:=cf h1
  refine tr aB 10 (.mk ?_)
  exact lf h1 () dW
  replace h1:=ct h1
  refine tr aB 4 (.mk ?_)
  refine nb aB h1 λx84 h1=>?_
  refine tr aB 1 (.mk ?_)
  refine nb aB h1 λx85 h1=>?_
  refine tr aB 3 (.mk ?_)
  exact lf h1 () dW
  replace h1:=ct h1
  refine tr aB 4 (.mk ?_)
  refine nb aB h1 λx86 h1=>?_
  refine tr aB 1 (.mk ?_)
  refine nb aB h1 λx87 h1=>?_
  refine tr aB 2 (.mk ?_)
  cases x87
  replace h1:=cf h1
  refine tr aB 14 (.mk ?_)
  exact lf h1 () dW
  replace h1:=ct h1
  refine tr aB 2 (.mk ?_)
  refine nb aB h1 λx88 h1=>?_
  refine tr aB 1 (.mk ?_)
  cases x88
  replace h1:=cf h1
  refine tr aB 10 (.mk ?_)
  exact lf h1 () dW
  replace h1:=ct h1
  refine tr aB 4 (.mk ?_)
  refine nb aB h1 λx89 h1=>?_
  refine tr aB 1 (.mk ?_)
  refine nb aB h1 λx90 h1=>?_
  refine tr aB 3 (.mk ?_)
  exact lf h1 () dW
  rintro y9_1 _ h0
  obtain rfl:=eH h0
  refine wR hret (rT .nil) ?_
  exact .refl _
end
end Go.Pv
