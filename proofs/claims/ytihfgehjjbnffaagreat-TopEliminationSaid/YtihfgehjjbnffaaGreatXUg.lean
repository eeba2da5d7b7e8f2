import Derived.Test.YtihfgehjjbnffaaGreatXUf
set_option linter.unusedVariables false
set_option linter.unusedSimpArgs false
namespace Go.Pv
open Go.Proofs
set_option maxRecDepth 100000
set_option maxHeartbeats 4000000
noncomputable section
def qB (n:Nat) (a1:bQ):Option (Bool) :=
(show Option (Bool) from
bnd (decide (a1.Kind<1)) λx4 =>
cond x4 (some (true:Bool)) (bnd (decide (a1.Kind>16)) λx5 =>
some (x5:Bool))).bind <| λy0_1 =>
cond y0_1 (some ((false:Bool))) (J7.bind λx6 =>
(ix ([x6.a0,x6.a1,x6.a2,x6.a3,x6.a4,x6.a5,x6.a6,x6.a7,x6.a8,x6.a9,x6.pQ,x6.oL,x6.a12,x6.yF,x6.KF,x6.FU,x6.a16]:List (List UInt8)) a1.Kind).bind λx7 =>
(show Option ((Bool)) from
(show Option ((Int)) from
(sM x7 69).bind λx11 =>
some (x11:Int)).bind <| λy2_1 =>
bnd (decide (y2_1>=0)) λx12 =>
some (x12:Bool)).bind <| λy4_1 =>
(show Option (Int×Int) from
cond y4_1 ((qX a1.Kind 69).bind λx14 =>
some ((x14.1:Int),(x14.2:Int))) (some ((0:Int),(0:Int)))).bind <| p2 λ(y5_1:Int) (y5_2:Int) =>
(show Option ((Unit)) from
some ()).bind <| λ_ =>
(show Option (Bool) from
bnd (decide (a1.E<y5_1)) λx17 =>
cond x17 (some (true:Bool)) (bnd (decide (a1.E>y5_2)) λx18 =>
some (x18:Bool))).bind <| λy8_1 =>
cond y8_1 (some ((false:Bool))) ((show Option ((Bool)) from
(show Option ((Int)) from
(sM x7 73).bind λx21 =>
some (x21:Int)).bind <| λy2_1 =>
bnd (decide (y2_1>=0)) λx22 =>
some (x22:Bool)).bind <| λy4_1_1 =>
(show Option (Int×Int) from
cond y4_1_1 ((qX a1.Kind 73).bind λx24 =>
some ((x24.1:Int),(x24.2:Int))) (some ((0:Int),(0:Int)))).bind <| p2 λ(y5_1_1:Int) (y5_2_1:Int) =>
(show Option ((Unit)) from
some ()).bind <| λ_ =>
(show Option (Bool) from
bnd (decide (a1.Item<y5_1_1)) λx27 =>
cond x27 (some (true:Bool)) (bnd (decide (a1.Item>y5_2_1)) λx28 =>
some (x28:Bool))).bind <| λy8_1_1 =>
cond y8_1_1 (some ((false:Bool))) ((show Option ((Bool)) from
(show Option ((Int)) from
(sM x7 76).bind λx31 =>
some (x31:Int)).bind <| λy2_1 =>
bnd (decide (y2_1>=0)) λx32 =>
some (x32:Bool)).bind <| λy4_1_2 =>
(show Option (Int×Int) from
cond y4_1_2 ((qX a1.Kind 76).bind λx34 =>
some ((x34.1:Int),(x34.2:Int))) (some ((0:Int),(0:Int)))).bind <| p2 λ(y5_1_2:Int) (y5_2_2:Int) =>
(show Option ((Unit)) from
some ()).bind <| λ_ =>
(show Option (Bool) from
bnd (decide (a1.Loc<y5_1_2)) λx37 =>
cond x37 (some (true:Bool)) (bnd (decide (a1.Loc>y5_2_2)) λx38 =>
some (x38:Bool))).bind <| λy8_1_2 =>
cond y8_1_2 (some ((false:Bool))) ((show Option ((Bool)) from
(show Option ((Int)) from
(sM x7 84).bind λx41 =>
some (x41:Int)).bind <| λy2_1 =>
bnd (decide (y2_1>=0)) λx42 =>
some (x42:Bool)).bind <| λy4_1_3 =>
(show Option (Int×Int) from
cond y4_1_3 ((qX a1.Kind 84).bind λx44 =>
some ((x44.1:Int),(x44.2:Int))) (some ((0:Int),(0:Int)))).bind <| p2 λ(y5_1_3:Int) (y5_2_3:Int) =>
(show Option ((Unit)) from
some ()).bind <| λ_ =>
(show Option (Bool) from
bnd (decide (a1.To<y5_1_3)) λx47 =>
cond x47 (some (true:Bool)) (bnd (decide (a1.To>y5_2_3)) λx48 =>
some (x48:Bool))).bind <| λy8_1_3 =>
cond y8_1_3 (some ((false:Bool))) ((show Option ((Bool)) from
(show Option ((Int)) from
(sM x7 81).bind λx51 =>
some (x51:Int)).bind <| λy2_1 =>
bnd (decide (y2_1>=0)) λx52 =>
some (x52:Bool)).bind <| λy4_1_4 =>
(show Option (Int×Int) from
cond y4_1_4 ((qX a1.Kind 81).bind λx54 =>
some ((x54.1:Int),(x54.2:Int))) (some ((0:Int),(0:Int)))).bind <| p2 λ(y5_1_4:Int) (y5_2_4:Int) =>
(show Option ((Unit)) from
some ()).bind <| λ_ =>
(show Option (Bool) from
bnd (decide (a1.aS<y5_1_4)) λx57 =>
cond x57 (some (true:Bool)) (bnd (decide (a1.aS>y5_2_4)) λx58 =>
some (x58:Bool))).bind <| λy8_1_4 =>
cond y8_1_4 (some ((false:Bool))) ((show Option ((Bool)) from
(show Option ((Int)) from
(sM x7 65).bind λx61 =>
some (x61:Int)).bind <| λy2_1 =>
bnd (decide (y2_1>=0)) λx62 =>
some (x62:Bool)).bind <| λy4_1_5 =>
(show Option (Int×Int) from
cond y4_1_5 ((qX a1.Kind 65).bind λx64 =>
some ((x64.1:Int),(x64.2:Int))) (some ((0:Int),(0:Int)))).bind <| p2 λ(y5_1_5:Int) (y5_2_5:Int) =>
(show Option ((Unit)) from
some ()).bind <| λ_ =>
(show Option (Bool) from
bnd (decide (a1.bO<y5_1_5)) λx67 =>
cond x67 (some (true:Bool)) (bnd (decide (a1.bO>y5_2_5)) λx68 =>
some (x68:Bool))).bind <| λy8_1_5 =>
cond y8_1_5 (some ((false:Bool))) ((show Option ((Bool)) from
(show Option ((Int)) from
(sM x7 82).bind λx71 =>
some (x71:Int)).bind <| λy2_1 =>
bnd (decide (y2_1>=0)) λx72 =>
some (x72:Bool)).bind <| λy4_1_6 =>
(show Option (Int×Int) from
cond y4_1_6 ((qX a1.Kind 82).bind λx74 =>
some ((x74.1:Int),(x74.2:Int))) (some ((0:Int),(0:Int)))).bind <| p2 λ(y5_1_6:Int) (y5_2_6:Int) =>
(show Option ((Unit)) from
some ()).bind <| λ_ =>
(show Option (Bool) from
bnd (decide (a1.Ref<y5_1_6)) λx77 =>
cond x77 (some (true:Bool)) (bnd (decide (a1.Ref>y5_2_6)) λx78 =>
some (x78:Bool))).bind <| λy8_1_6 =>
cond y8_1_6 (some ((false:Bool))) (bnd (decide (a1.Kind=11)) λx79 =>
cond x79 ((I6 n a1.dQ).bind λx91 =>
some ((x91:Bool))) ((show Option (Bool) from
bnd (decide ((a1.dQ.length:Int)=0)) λx81 =>
cond x81 (bnd (decide (a1.Kind=8)) λx82 =>
cond x82 (bnd (decide (a1.To=a1.Loc)) λx86 =>
bnd (!x86) λx87 =>
cond x87 (bnd (decide (a1.Kind=12)) λx88 =>
cond x88 (bnd (decide (a1.To=a1.E)) λx89 =>
bnd (!x89) λx90 =>
some (x90:Bool)) (some (true:Bool))) (some (false:Bool))) (bnd (decide (a1.Kind=12)) λx83 =>
cond x83 (bnd (decide (a1.To=a1.E)) λx84 =>
bnd (!x84) λx85 =>
some (x85:Bool)) (some (true:Bool)))) (some (false:Bool))).bind <| λy9_1 =>
some ((y9_1:Bool)))))))))))
theorem wD {n:Nat} {a1:bQ} {r:Bool} (h0:qB n a1=some r):PP Tryz.prog 16 [.agg (bQ.av a1)] (λy=>y=aI r):=by
  unfold qB at h0
  refine rF (R0:=λy H=>Cv (l6 H) y (aI r)) ?_ (λy H hc=>⟨_,rfl,HV r,hc⟩)
  refine iI (c:=_) Tryz.func16 rfl rfl ?_;intro Q hret hnorm
  refine tc aG 2 (.mk ?_)
  refine sB 1 λv2=>?_
  refine tr aG 4 (.mk ?_)
  refine jn h0 [1,2] [1] (λ(a:Bool) (k:Unit)=>[(16,aI a)]) (λa k=>[]) ⟨λj3 h1=>?_,?_⟩
  refine tc aG 3 (.mk ?_)
  refine nb aG h1 λx4 h1=>?_
  refine tr aG 1 (.mk ?_)
  cases x4
  replace h1:=cf h1
  refine tr aG 2 (.mk ?_)
  refine nb aG h1 λx5 h1=>?_
  refine tr aG 2 (.mk ?_)
  exact lf h1 () dY
  replace h1:=ct h1
  refine tr aG 5 (.mk ?_)
  exact lf h1 () dY
  rintro y0_1 _ h0
  cases y0_1
  replace h0:=cf h0
  refine tc aG 3 (.mk ?_)
  refine wZ [0,0,2,7,15] (rl [(1,[1]),(2,[1])] []) (λi=>[1]) (λi=>true) [0,1,2,3,4] mixed (by kernel_rfl) ?_;intro K hK
  obtain ⟨x6,e6,h0⟩:=dJ h0
  refine eP (λH hH=>uN rfl rfl .nil aWZ (bT.refl _) (aI7 _ e6)) ?_
  refine eF aJW ?_
  refine eL dP ?_
  obtain ⟨x7,e7,h0⟩:=dJ h0
  refine eP (λH hH=>xD (g:=fS) (l:=([x6.a0,x6.a1,x6.a2,x6.a3,x6.a4,x6.a5,x6.a6,x6.a7,x6.a8,x6.a9,x6.pQ,x6.oL,x6.a12,x6.yF,x6.KF,x6.FU,x6.a16]:List (List UInt8))) (v:=x7) (w:=str x7) rfl Tryz.underlying106 aA7 rfl rfl rfl e7 (λ_=>rfl) hw1) ?_
  refine eA ?_
  refine wU (hK _ ?_)
  refine tc aG 1 (.mk ?_)
  refine aUU rfl rfl rfl rfl rfl rfl rfl rfl ?_
  refine aWT rfl rfl rfl rfl Tryz.underlying9 rfl λb8=>⟨rfl,?_⟩
  refine tc aG 20 (.mk ?_)
  obtain ⟨j9,h1,h0⟩:=dJ h0
  refine iP (Out:=λy H'=>(∃ (a:Bool) (k:Unit),a=j9/\y=aI a/\H'=hk [(1,⟨36,9,true,true,v2,[[int a1.Kind,int a1.E,int a1.Item,int a1.Loc,int a1.To,int a1.aS,int a1.bO,int a1.Ref,aH 1 fI a1.dQ]]⟩)])) rfl rfl rfl (eO rfl rfl (.cons rfl (.cons rfl .nil)) AN ?_) ?_
  refine iI (c:=_) Tryz.func41 rfl rfl ?_;intro Q hret hnorm
  refine tc aG 8 (.mk ?_)
  obtain ⟨j10,h2,h1⟩:=dJ h1
  refine iP (Out:=λy H'=>(∃ (a:Int) (k:Unit),a=j10/\y=int a/\H'=hk [(1,⟨36,9,true,true,v2,[[int a1.Kind,int a1.E,int a1.Item,int a1.Loc,int a1.To,int a1.aS,int a1.bO,int a1.Ref,aH 1 fI a1.dQ]]⟩)])) rfl rfl rfl (eO rfl rfl (.cons rfl (.cons rfl .nil)) y7 ?_) ?_
  refine iI (c:=_) Tryz.func85 rfl rfl ?_;intro Q hret hnorm
  refine tc aG 8 (.mk ?_)
  refine sY (dK (y:=aI true) (xL rfl rfl rfl) (congrArg aI (by decide))) ?_
  refine tr aG 2 (.mk ?_)
  refine sY (dK (y:=aI true) (vS rfl rfl rfl) (congrArg aI (by decide))) ?_
  refine tr aG 8 (.mk ?_)
  refine sY (xY (r:=69) rfl Tryz.underlying21 Tryz.underlying5 rfl (by decide)) ?_
  obtain ⟨x11,e11,h2⟩:=dJ h2
  refine sC yO (y8 _ e11) ?_
  refine tr aG 2 (.mk ?_)
  obtain rfl:=eU h2
  refine iX (hret _ _ (hk [(1,⟨36,9,true,true,v2,[[int a1.Kind,int a1.E,int a1.Item,int a1.Loc,int a1.To,int a1.aS,int a1.bO,int a1.Ref,aH 1 fI a1.dQ]]⟩)]) (.tmp rfl .nil) (HK.le ⟨rfl,trivial⟩) ?_)
  exact ⟨x11,(),rfl,rfl,rfl⟩
  rintro y _ ⟨y2_1,_,rfl,hc,rfl⟩
  subst hc
  refine nb aG h1 λx12 h1=>?_
  refine tr aG 2 (.mk ?_)
  obtain rfl:=eU h1
  refine iX (hret _ _ (hk [(1,⟨36,9,true,true,v2,[[int a1.Kind,int a1.E,int a1.Item,int a1.Loc,int a1.To,int a1.aS,int a1.bO,int a1.Ref,aH 1 fI a1.dQ]]⟩)]) (.tmp rfl .nil) (HK.le ⟨rfl,trivial⟩) ?_)
  exact ⟨x12,(),rfl,rfl,rfl⟩
  rintro y _ ⟨y4_1,_,rfl,hc,rfl⟩
  subst hc
  refine tr aG 1 (.mk ?_)
  refine jn h0 [1,2,3,5,21,22,23] [1] (λ(a:Int×Int) (k:Unit)=>[(6,int a.1),(7,int a.2)]) (λa k=>[]) ⟨λj13 h1=>?_,?_⟩
  cases y4_1
  replace h1:=cf h1
  refine tc aG 2 (.mk ?_)
  exact lf h1 () dY
  replace h1:=ct h1
  refine tc aG 5 (.mk ?_)
  obtain ⟨x14,e14,h1⟩:=dJ h1
  refine sC yZ (AQ e14) ?_
  refine tr aG 6 (.mk ?_)
  exact lf h1 () dY
  rintro ⟨y5_1,y5_2⟩ _ h0
  replace h0:=vP h0
  refine tc aG 3 (.mk ?_)
  obtain ⟨j15,h1,h0⟩:=dJ h0
  refine iP (Out:=λy H'=>(∃ (a:Unit) (k:Unit),a=j15/\y=.pt 1 v2 0 1/\H'=hk [(1,⟨36,9,true,true,v2,[[int a1.Kind,int a1.E,int a1.Item,int a1.Loc,int a1.To,int a1.aS,int a1.bO,int a1.Ref,aH 1 fI a1.dQ]]⟩)])) rfl rfl rfl (eO rfl rfl (.cons rfl (.cons rfl .nil)) yX ?_) ?_
  refine iI (c:=_) Tryz.func43 rfl rfl ?_;intro Q hret hnorm
  refine tc aG 12 (.mk ?_)
  refine sY (dK (y:=aI true) (jO rfl rfl rfl) (congrArg aI (by decide))) ?_
  refine tr aG 10 (.mk ?_)
  obtain rfl:=eU h1
  refine iX (hret _ _ (hk [(1,⟨36,9,true,true,v2,[[int a1.Kind,int a1.E,int a1.Item,int a1.Loc,int a1.To,int a1.aS,int a1.bO,int a1.Ref,aH 1 fI a1.dQ]]⟩)]) (.tmp rfl .nil) (HK.le ⟨rfl,trivial⟩) ?_)
  exact ⟨(),(),rfl,rfl,rfl⟩
  rintro y _ ⟨_,_,rfl,hc,rfl⟩
  subst hc
  refine tr aG 5 (.mk ?_)
  refine jn h0 [1,2,3,21,22,23] [1] (λ(a:Bool) (k:Unit)=>[(46,aI a)]) (λa k=>[]) ⟨λj16 h1=>?_,?_⟩
  refine tc aG 3 (.mk ?_)
  refine nb aG h1 λx17 h1=>?_
  refine tr aG 1 (.mk ?_)
  cases x17
  replace h1:=cf h1
  refine tr aG 2 (.mk ?_)
  refine nb aG h1 λx18 h1=>?_
  refine tr aG 2 (.mk ?_)
  exact lf h1 () dY
  replace h1:=ct h1
  refine tr aG 5 (.mk ?_)
  exact lf h1 () dY
  rintro y8_1 _ h0
  cases y8_1
  replace h0:=cf h0
  refine tc aG 23 (.mk ?_)
  obtain ⟨j19,h1,h0⟩:=dJ h0
  refine iP (Out:=λy H'=>(∃ (a:Bool) (k:Unit),a=j19/\y=aI a/\H'=hk [(1,⟨36,9,true,true,v2,[[int a1.Kind,int a1.E,int a1.Item,int a1.Loc,int a1.To,int a1.aS,int a1.bO,int a1.Ref,aH 1 fI a1.dQ]]⟩)])) rfl rfl rfl (eO rfl rfl (.cons rfl (.cons rfl .nil)) AN ?_) ?_
  refine iI (c:=_) Tryz.func41 rfl rfl ?_;intro Q hret hnorm
  refine tc aG 8 (.mk ?_)
  obtain ⟨j20,h2,h1⟩:=dJ h1
  refine iP (Out:=λy H'=>(∃ (a:Int) (k:Unit),a=j20/\y=int a/\H'=hk [(1,⟨36,9,true,true,v2,[[int a1.Kind,int a1.E,int a1.Item,int a1.Loc,int a1.To,int a1.aS,int a1.bO,int a1.Ref,aH 1 fI a1.dQ]]⟩)])) rfl rfl rfl (eO rfl rfl (.cons rfl (.cons rfl .nil)) y7 ?_) ?_
  refine iI (c:=_) Tryz.func85 rfl rfl ?_;intro Q hret hnorm
  refine tc aG 8 (.mk ?_)
  refine sY (dK (y:=aI true) (xL rfl rfl rfl) (congrArg aI (by decide))) ?_
  refine tr aG 2 (.mk ?_)
  refine sY (dK (y:=aI true) (vS rfl rfl rfl) (congrArg aI (by decide))) ?_
  refine tr aG 8 (.mk ?_)
  refine sY (xY (r:=73) rfl Tryz.underlying21 Tryz.underlying5 rfl (by decide)) ?_
  obtain ⟨x21,e21,h2⟩:=dJ h2
  refine sC yO (y8 _ e21) ?_
  refine tr aG 2 (.mk ?_)
  obtain rfl:=eU h2
  refine iX (hret _ _ (hk [(1,⟨36,9,true,true,v2,[[int a1.Kind,int a1.E,int a1.Item,int a1.Loc,int a1.To,int a1.aS,int a1.bO,int a1.Ref,aH 1 fI a1.dQ]]⟩)]) (.tmp rfl .nil) (HK.le ⟨rfl,trivial⟩) ?_)
  exact ⟨x21,(),rfl,rfl,rfl⟩
  rintro y _ ⟨y2_1,_,rfl,hc,rfl⟩
  subst hc
  refine nb aG h1 λx22 h1=>?_
  refine tr aG 2 (.mk ?_)
  obtain rfl:=eU h1
  refine iX (hret _ _ (hk [(1,⟨36,9,true,true,v2,[[int a1.Kind,int a1.E,int a1.Item,int a1.Loc,int a1.To,int a1.aS,int a1.bO,int a1.Ref,aH 1 fI a1.dQ]]⟩)]) (.tmp rfl .nil) (HK.le ⟨rfl,trivial⟩) ?_)
  exact ⟨x22,(),rfl,rfl,rfl⟩
  rintro y _ ⟨y4_1_1,_,rfl,hc,rfl⟩
  subst hc
  refine tr aG 1 (.mk ?_)
  refine jn h0 [1,2,3,5,21,22,23] [1] (λ(a:Int×Int) (k:Unit)=>[(6,int a.1),(7,int a.2)]) (λa k=>[]) ⟨λj23 h1=>?_,?_⟩
  cases y4_1_1
  replace h1:=cf h1
  refine tc aG 2 (.mk ?_)
  exact lf h1 () dY
  replace h1:=ct h1
  refine tc aG 5 (.mk ?_)
  obtain ⟨x24,e24,h1⟩:=dJ h1
  refine sC yZ (AQ e24) ?_
  refine tr aG 6 (.mk ?_)
  exact lf h1 () dY
  rintro ⟨y5_1_1,y5_2_1⟩ _ h0
  replace h0:=vP h0
  refine tc aG 3 (.mk ?_)
  obtain ⟨j25,h1,h0⟩:=dJ h0
  refine iP (Out:=λy H'=>(∃ (a:Unit) (k:Unit),a=j25/\y=.pt 1 v2 0 2/\H'=hk [(1,⟨36,9,true,true,v2,[[int a1.Kind,int a1.E,int a1.Item,int a1.Loc,int a1.To,int a1.aS,int a1.bO,int a1.Ref,aH 1 fI a1.dQ]]⟩)])) rfl rfl rfl (eO rfl rfl (.cons rfl (.cons rfl .nil)) yX ?_) ?_
  refine iI (c:=_) Tryz.func43 rfl rfl ?_;intro Q hret hnorm
  refine tc aG 12 (.mk ?_)
  refine sY (dK (y:=aI false) (jO rfl rfl rfl) (congrArg aI (by decide))) ?_
  refine tr aG 5 (.mk ?_)
  refine sY (dK (y:=aI true) (jO rfl rfl rfl) (congrArg aI (by decide))) ?_
  refine tr aG 10 (.mk ?_)
  obtain rfl:=eU h1
  refine iX (hret _ _ (hk [(1,⟨36,9,true,true,v2,[[int a1.Kind,int a1.E,int a1.Item,int a1.Loc,int a1.To,int a1.aS,int a1.bO,int a1.Ref,aH 1 fI a1.dQ]]⟩)]) (.tmp rfl .nil) (HK.le ⟨rfl,trivial⟩) ?_)
  exact ⟨(),(),rfl,rfl,rfl⟩
  rintro y _ ⟨_,_,rfl,hc,rfl⟩
  subst hc
  refine tr aG 5 (.mk ?_)
  refine jn h0 [1,2,3,21,22,23] [1] (λ(a:Bool) (k:Unit)=>[(46,aI a)]) (λa k=>[]) ⟨λj26 h1=>?_,?_⟩
  refine tc aG 3 (.mk ?_)
  refine nb aG h1 λx27 h1=>?_
  refine tr aG 1 (.mk ?_)
  cases x27
  replace h1:=cf h1
  refine tr aG 2 (.mk ?_)
  refine nb aG h1 λx28 h1=>?_
  refine tr aG 2 (.mk ?_)
  exact lf h1 () dY
  replace h1:=ct h1
  refine tr aG 5 (.mk ?_)
  exact lf h1 () dY
  rintro y8_1_1 _ h0
  cases y8_1_1
  replace h0:=cf h0
  refine tc aG 23 (.mk ?_)
  obtain ⟨j29,h1,h0⟩:=dJ h0
  refine iP (Out:=λy H'=>(∃ (a:Bool) (k:Unit),a=j29/\y=aI a/\H'=hk [(1,⟨36,9,true,true,v2,[[int a1.Kind,int a1.E,int a1.Item,int a1.Loc,int a1.To,int a1.aS,int a1.bO,int a1.Ref,aH 1 fI a1.dQ]]⟩)])) rfl rfl rfl (eO rfl rfl (.cons rfl (.cons rfl .nil)) AN ?_) ?_
  refine iI (c:=_) Tryz.func41 rfl rfl ?_;intro Q hret hnorm
  refine tc aG 8 (.mk ?_)
  obtain ⟨j30,h2,h1⟩:=dJ h1
  refine iP (Out:=λy H'=>(∃ (a:Int) (k:Unit),a=j30/\y=int a/\H'=hk [(1,⟨36,9,true,true,v2,[[int a1.Kind,int a1.E,int a1.Item,int a1.Loc,int a1.To,int a1.aS,int a1.bO,int a1.Ref,aH 1 fI a1.dQ]]⟩)])) rfl rfl rfl (eO rfl rfl (.cons rfl (.cons rfl .nil)) y7 ?_) ?_
  refine iI (c:=_) Tryz.func85 rfl rfl ?_;intro Q hret hnorm
  refine tc aG 8 (.mk ?_)
  refine sY (dK (y:=aI true) (xL rfl rfl rfl) (congrArg aI (by decide))) ?_
  refine tr aG 2 (.mk ?_)
  refine sY (dK (y:=aI true) (vS rfl rfl rfl) (congrArg aI (by decide))) ?_
  refine tr aG 8 (.mk ?_)
  refine sY (xY (r:=76) rfl Tryz.underlying21 Tryz.underlying5 rfl (by decide)) ?_
  obtain ⟨x31,e31,h2⟩:=dJ h2
  refine sC yO (y8 _ e31) ?_
  refine tr aG 2 (.mk ?_)
  obtain rfl:=eU h2
  refine iX (hret _ _ (hk [(1,⟨36,9,true,true,v2,[[int a1.Kind,int a1.E,int a1.Item,int a1.Loc,int a1.To,int a1.aS,int a1.bO,int a1.Ref,aH 1 fI a1.dQ]]⟩)]) (.tmp rfl .nil) (HK.le ⟨rfl,trivial⟩) ?_)
  exact ⟨x31,(),rfl,rfl,rfl⟩
  rintro y _ ⟨y2_1,_,rfl,hc,rfl⟩
  subst hc
  refine nb aG h1 λx32 h1=>?_
  refine tr aG 2 (.mk ?_)
  obtain rfl:=eU h1
  refine iX (hret _ _ (hk [(1,⟨36,9,true,true,v2,[[int a1.Kind,int a1.E,int a1.Item,int a1.Loc,int a1.To,int a1.aS,int a1.bO,int a1.Ref,aH 1 fI a1.dQ]]⟩)]) (.tmp rfl .nil) (HK.le ⟨rfl,trivial⟩) ?_)
  exact ⟨x32,(),rfl,rfl,rfl⟩
  rintro y _ ⟨y4_1_2,_,rfl,hc,rfl⟩
  subst hc
  refine tr aG 1 (.mk ?_)
  refine jn h0 [1,2,3,5,21,22,23] [1] (λ(a:Int×Int) (k:Unit)=>[(6,int a.1),(7,int a.2)]) (λa k=>[]) ⟨λj33 h1=>?_,?_⟩
  cases y4_1_2
  replace h1:=cf h1
  refine tc aG 2 (.mk ?_)
  exact lf h1 () dY
  replace h1:=ct h1
  refine tc aG 5 (.mk ?_)
  obtain ⟨x34,e34,h1⟩:=dJ h1
  refine sC yZ (AQ e34) ?_
  refine tr aG 6 (.mk ?_)
  exact lf h1 () dY
  rintro ⟨y5_1_2,y5_2_2⟩ _ h0
  replace h0:=vP h0
  refine tc aG 3 (.mk ?_)
  obtain ⟨j35,h1,h0⟩:=dJ h0
  refine iP (Out:=λy H'=>(∃ (a:Unit) (k:Unit),a=j35/\y=.pt 1 v2 0 3/\H'=hk [(1,⟨36,9,true,true,v2,[[int a1.Kind,int a1.E,int a1.Item,int a1.Loc,int a1.To,int a1.aS,int a1.bO,int a1.Ref,aH 1 fI a1.dQ]]⟩)])) rfl rfl rfl (eO rfl rfl (.cons rfl (.cons rfl .nil)) yX ?_) ?_
  refine iI (c:=_) Tryz.func43 rfl rfl ?_;intro Q hret hnorm
  refine tc aG 12 (.mk ?_)
  refine sY (dK (y:=aI false) (jO rfl rfl rfl) (congrArg aI (by decide))) ?_
  refine tr aG 5 (.mk ?_)
  refine sY (dK (y:=aI false) (jO rfl rfl rfl) (congrArg aI (by decide))) ?_
  refine tr aG 5 (.mk ?_)
  refine sY (dK (y:=aI true) (jO rfl rfl rfl) (congrArg aI (by decide))) ?_
  refine tr aG 10 (.mk ?_)
  obtain rfl:=eU h1
  refine iX (hret _ _ (hk [(1,⟨36,9,true,true,v2,[[int a1.Kind,int a1.E,int a1.Item,int a1.Loc,int a1.To,int a1.aS,int a1.bO,int a1.Ref,aH 1 fI a1.dQ]]⟩)]) (.tmp rfl .nil) (HK.le ⟨rfl,trivial⟩) ?_)
  exact ⟨(),(),rfl,rfl,rfl⟩
  rintro y _ ⟨_,_,rfl,hc,rfl⟩
  subst hc
  refine tr aG 5 (.mk ?_)
  refine jn h0 [1,2,3,21,22,23] [1] (λ(a:Bool) (k:Unit)=>[(46,aI a)]) (λa k=>[]) ⟨λj36 h1=>?_,?_⟩
  refine tc aG 3 (.mk ?_)
  refine nb aG h1 λx37 h1=>?_
  refine tr aG 1 (.mk ?_)
  cases x37
  replace h1:=cf h1
  refine tr aG 2 (.mk ?_)
  refine nb aG h1 λx38 h1=>?_
  refine tr aG 2 (.mk ?_)
  exact lf h1 () dY
  replace h1:=ct h1
  refine tr aG 5 (.mk ?_)
  exact lf h1 () dY
  rintro y8_1_2 _ h0
  cases y8_1_2
  replace h0:=cf h0
  refine tc aG 23 (.mk ?_)
  obtain ⟨j39,h1,h0⟩:=dJ h0
  refine iP (Out:=λy H'=>(∃ (a:Bool) (k:Unit),a=j39/\y=aI a/\H'=hk [(1,⟨36,9,true,true,v2,[[int a1.Kind,int a1.E,int a1.Item,int a1.Loc,int a1.To,int a1.aS,int a1.bO,int a1.Ref,aH 1 fI a1.dQ]]⟩)])) rfl rfl rfl (eO rfl rfl (.cons rfl (.cons rfl .nil)) AN ?_) ?_
  refine iI (c:=_) Tryz.func41 rfl rfl ?_;intro Q hret hnorm
  refine tc aG 8 (.mk ?_)
  obtain ⟨j40,h2,h1⟩:=dJ h1
  refine iP (Out:=λy H'=>(∃ (a:Int) (k:Unit),a=j40/\y=int a/\H'=hk [(1,⟨36,9,true,true,v2,[[int a1.Kind,int a1.E,int a1.Item,int a1.Loc,int a1.To,int a1.aS,int a1.bO,int a1.Ref,aH 1 fI a1.dQ]]⟩)])) rfl rfl rfl (eO rfl rfl (.cons rfl (.cons rfl .nil)) y7 ?_) ?_
  refine iI (c:=_) Tryz.func85 rfl rfl ?_;intro Q hret hnorm
  refine tc aG 8 (.mk ?_)
  refine sY (dK (y:=aI true) (xL rfl rfl rfl) (congrArg aI (by decide))) ?_
  refine tr aG 2 (.mk ?_)
  refine sY (dK (y:=aI true) (vS rfl rfl rfl) (congrArg aI (by decide))) ?_
  refine tr aG 8 (.mk ?_)
  refine sY (xY (r:=84) rfl Tryz.underlying21 Tryz.underlying5 rfl (by decide)) ?_
  obtain ⟨x41,e41,h2⟩:=dJ h2
  refine sC yO (y8 _ e41) ?_
  refine tr aG 2 (.mk ?_)
  obtain rfl:=eU h2
  refine iX (hret _ _ (hk [(1,⟨36,9,true,true,v2,[[int a1.Kind,int a1.E,int a1.Item,int a1.Loc,int a1.To,int a1.aS,int a1.bO,int a1.Ref,aH 1 fI a1.dQ]]⟩)]) (.tmp rfl .nil) (HK.le ⟨rfl,trivial⟩) ?_)
  exact ⟨x41,(),rfl,rfl,rfl⟩
  rintro y _ ⟨y2_1,_,rfl,hc,rfl⟩
  subst hc
  refine nb aG h1 λx42 h1=>?_
  refine tr aG 2 (.mk ?_)
  obtain rfl:=eU h1
  refine iX (hret _ _ (hk [(1,⟨36,9,true,true,v2,[[int a1.Kind,int a1.E,int a1.Item,int a1.Loc,int a1.To,int a1.aS,int a1.bO,int a1.Ref,aH 1 fI a1.dQ]]⟩)]) (.tmp rfl .nil) (HK.le ⟨rfl,trivial⟩) ?_)
  exact ⟨x42,(),rfl,rfl,rfl⟩
  rintro y _ ⟨y4_1_3,_,rfl,hc,rfl⟩
  subst hc
  refine tr aG 1 (.mk ?_)
  refine jn h0 [1,2,3,5,21,22,23] [1] (λ(a:Int×Int) (k:Unit)=>[(6,int a.1),(7,int a.2)]) (λa k=>[]) ⟨λj43 h1=>?_,?_⟩
  cases y4_1_3
  replace h1:=cf h1
  refine tc aG 2 (.mk ?_)
  exact lf h1 () dY
  replace h1:=ct h1
  refine tc aG 5 (.mk ?_)
  obtain ⟨x44,e44,h1⟩:=dJ h1
  refine sC yZ (AQ e44) ?_
  refine tr aG 6 (.mk ?_)
  exact lf h1 () dY
  rintro ⟨y5_1_3,y5_2_3⟩ _ h0
  replace h0:=vP h0
  refine tc aG 3 (.mk ?_)
  obtain ⟨j45,h1,h0⟩:=dJ h0
  refine iP (Out:=λy H'=>(∃ (a:Unit) (k:Unit),a=j45/\y=.pt 1 v2 0 4/\H'=hk [(1,⟨36,9,true,true,v2,[[int a1.Kind,int a1.E,int a1.Item,int a1.Loc,int a1.To,int a1.aS,int a1.bO,int a1.Ref,aH 1 fI a1.dQ]]⟩)])) rfl rfl rfl (eO rfl rfl (.cons rfl (.cons rfl .nil)) yX ?_) ?_
  refine iI (c:=_) Tryz.func43 rfl rfl ?_;intro Q hret hnorm
  refine tc aG 12 (.mk ?_)
  refine sY (dK (y:=aI false) (jO rfl rfl rfl) (congrArg aI (by decide))) ?_
  refine tr aG 5 (.mk ?_)
  refine sY (dK (y:=aI false) (jO rfl rfl rfl) (congrArg aI (by decide))) ?_
  refine tr aG 5 (.mk ?_)
  refine sY (dK (y:=aI false) (jO rfl rfl rfl) (congrArg aI (by decide))) ?_
  refine tr aG 5 (.mk ?_)
  refine sY (dK (y:=aI true) (jO rfl rfl rfl) (congrArg aI (by decide))) ?_
  refine tr aG 10 (.mk ?_)
  obtain rfl:=eU h1
  refine iX (hret _ _ (hk [(1,⟨36,9,true,true,v2,[[int a1.Kind,int a1.E,int a1.Item,int a1.Loc,int a1.To,int a1.aS,int a1.bO,int a1.Ref,aH 1 fI a1.dQ]]⟩)]) (.tmp rfl .nil) (HK.le ⟨rfl,trivial⟩) ?_)
  exact ⟨(),(),rfl,rfl,rfl⟩
  rintro y _ ⟨_,_,rfl,hc,rfl⟩
  subst hc
  refine tr aG 5 (.mk ?_)
  refine jn h0 [1,2,3,21,22,23] [1] (λ(a:Bool) (k:Unit)=>[(46,aI a)]) (λa k=>[]) ⟨λj46 h1=>?_,?_⟩
  refine tc aG 3 (.mk ?_)
  refine nb aG h1 λx47 h1=>?_
  refine tr aG 1 (.mk ?_)
  cases x47
  replace h1:=cf h1
  refine tr aG 2 (.mk ?_)
  refine nb aG h1 λx48 h1=>?_
  refine tr aG 2 (.mk ?_)
  exact lf h1 () dY
  replace h1:=ct h1
  refine tr aG 5 (.mk ?_)
  exact lf h1 () dY
  rintro y8_1_3 _ h0
  cases y8_1_3
  replace h0:=cf h0
  refine tc aG 23 (.mk ?_)
  obtain ⟨j49,h1,h0⟩:=dJ h0
  refine iP (Out:=λy H'=>(∃ (a:Bool) (k:Unit),a=j49/\y=aI a/\H'=hk [(1,⟨36,9,true,true,v2,[[int a1.Kind,int a1.E,int a1.Item,int a1.Loc,int a1.To,int a1.aS,int a1.bO,int a1.Ref,aH 1 fI a1.dQ]]⟩)])) rfl rfl rfl (eO rfl rfl (.cons rfl (.cons rfl .nil)) AN ?_) ?_
  refine iI (c:=_) Tryz.func41 rfl rfl ?_;intro Q hret hnorm
  refine tc aG 8 (.mk ?_)
  obtain ⟨j50,h2,h1⟩:=dJ h1
  refine iP (Out:=λy H'=>(∃ (a:Int) (k:Unit),a=j50/\y=int a/\H'=hk [(1,⟨36,9,true,true,v2,[[int a1.Kind,int a1.E,int a1.Item,int a1.Loc,int a1.To,int a1.aS,int a1.bO,int a1.Ref,aH 1 fI a1.dQ]]⟩)])) rfl rfl rfl (eO rfl rfl (.cons rfl (.cons rfl .nil)) y7 ?_) ?_
  refine iI (c:=_) Tryz.func85 rfl rfl ?_;intro Q hret hnorm
  refine tc aG 8 (.mk ?_)
  refine sY (dK (y:=aI true) (xL rfl rfl rfl) (congrArg aI (by decide))) ?_
  refine tr aG 2 (.mk ?_)
  refine sY (dK (y:=aI true) (vS rfl rfl rfl) (congrArg aI (by decide))) ?_
  refine tr aG 8 (.mk ?_)
  refine sY (xY (r:=81) rfl Tryz.underlying21 Tryz.underlying5 rfl (by decide)) ?_
  obtain ⟨x51,e51,h2⟩:=dJ h2
  refine sC yO (y8 _ e51) ?_
  refine tr aG 2 (.mk ?_)
  obtain rfl:=eU h2
  refine iX (hret _ _ (hk [(1,⟨36,9,true,true,v2,[[int a1.Kind,int a1.E,int a1.Item,int a1.Loc,int a1.To,int a1.aS,int a1.bO,int a1.Ref,aH 1 fI a1.dQ]]⟩)]) (.tmp rfl .nil) (HK.le ⟨rfl,trivial⟩) ?_)
  exact ⟨x51,(),rfl,rfl,rfl⟩
  rintro y _ ⟨y2_1,_,rfl,hc,rfl⟩
  subst hc
  refine nb aG h1 λx52 h1=>?_
  refine tr aG 2 (.mk ?_)
  obtain rfl:=eU h1
  refine iX (hret _ _ (hk [(1,⟨36,9,true,true,v2,[[int a1.Kind,int a1.E,int a1.Item,int a1.Loc,int a1.To,int a1.aS,int a1.bO,int a1.Ref,aH 1 fI a1.dQ]]⟩)]) (.tmp rfl .nil) (HK.le ⟨rfl,trivial⟩) ?_)
  exact ⟨x52,(),rfl,rfl,rfl⟩
  rintro y _ ⟨y4_1_4,_,rfl,hc,rfl⟩
  subst hc
  refine tr aG 1 (.mk ?_)
  refine jn h0 [1,2,3,5,21,22,23] [1] (λ(a:Int×Int) (k:Unit)=>[(6,int a.1),(7,int a.2)]) (λa k=>[]) ⟨λj53 h1=>?_,?_⟩
  cases y4_1_4
  replace h1:=cf h1
  refine tc aG 2 (.mk ?_)
  exact lf h1 () dY
  replace h1:=ct h1
  refine tc aG 5 (.mk ?_)
  obtain ⟨x54,e54,h1⟩:=dJ h1
  refine sC yZ (AQ e54) ?_
  refine tr aG 6 (.mk ?_)
  exact lf h1 () dY
  rintro ⟨y5_1_4,y5_2_4⟩ _ h0
  replace h0:=vP h0
  refine tc aG 3 (.mk ?_)
  obtain ⟨j55,h1,h0⟩:=dJ h0
  refine iP (Out:=λy H'=>(∃ (a:Unit) (k:Unit),a=j55/\y=.pt 1 v2 0 5/\H'=hk [(1,⟨36,9,true,true,v2,[[int a1.Kind,int a1.E,int a1.Item,int a1.Loc,int a1.To,int a1.aS,int a1.bO,int a1.Ref,aH 1 fI a1.dQ]]⟩)])) rfl rfl rfl (eO rfl rfl (.cons rfl (.cons rfl .nil)) yX ?_) ?_
  refine iI (c:=_) Tryz.func43 rfl rfl ?_;intro Q hret hnorm
  refine tc aG 12 (.mk ?_)
  refine sY (dK (y:=aI false) (jO rfl rfl rfl) (congrArg aI (by decide))) ?_
  refine tr aG 5 (.mk ?_)
  refine sY (dK (y:=aI false) (jO rfl rfl rfl) (congrArg aI (by decide))) ?_
  refine tr aG 5 (.mk ?_)
  refine sY (dK (y:=aI false) (jO rfl rfl rfl) (congrArg aI (by decide))) ?_
  refine tr aG 5 (.mk ?_)
  refine sY (dK (y:=aI false) (jO rfl rfl rfl) (congrArg aI (by decide))) ?_
  refine tr aG 5 (.mk ?_)
  refine sY (dK (y:=aI true) (jO rfl rfl rfl) (congrArg aI (by decide))) ?_
  refine tr aG 10 (.mk ?_)
  obtain rfl:=eU h1
  refine iX (hret _ _ (hk [(1,⟨36,9,true,true,v2,[[int a1.Kind,int a1.E,int a1.Item,int a1.Loc,int a1.To,int a1.aS,int a1.bO,int a1.Ref,aH 1 fI a1.dQ]]⟩)]) (.tmp rfl .nil) (HK.le ⟨rfl,trivial⟩) ?_)
  exact ⟨(),(),rfl,rfl,rfl⟩
  rintro y _ ⟨_,_,rfl,hc,rfl⟩
  subst hc
  refine tr aG 5 (.mk ?_)
  refine jn h0 [1,2,3,21,22,23] [1] (λ(a:Bool) (k:Unit)=>[(46,aI a)]) (λa k=>[]) ⟨λj56 h1=>?_,?_⟩
  refine tc aG 3 (.mk ?_)
  refine nb aG h1 λx57 h1=>?_
  refine tr aG 1 (.mk ?_)
  cases x57
  replace h1:=cf h1
  refine tr aG 2 (.mk ?_)
  refine nb aG h1 λx58 h1=>?_
  refine tr aG 2 (.mk ?_)
  exact lf h1 () dY
  replace h1:=ct h1
  refine tr aG 5 (.mk ?_)
  exact lf h1 () dY
  rintro y8_1_4 _ h0
  cases y8_1_4
  replace h0:=cf h0
  refine tc aG 23 (.mk ?_)
  obtain ⟨j59,h1,h0⟩:=dJ h0
  refine iP (Out:=λy H'=>(∃ (a:Bool) (k:Unit),a=j59/\y=aI a/\H'=hk [(1,⟨36,9,true,true,v2,[[int a1.Kind,int a1.E,int a1.Item,int a1.Loc,int a1.To,int a1.aS,int a1.bO,int a1.Ref,aH 1 fI a1.dQ]]⟩)])) rfl rfl rfl (eO rfl rfl (.cons rfl (.cons rfl .nil)) AN ?_) ?_
  refine iI (c:=_) Tryz.func41 rfl rfl ?_;intro Q hret hnorm
  refine tc aG 8 (.mk ?_)
  obtain ⟨j60,h2,h1⟩:=dJ h1
  refine iP (Out:=λy H'=>(∃ (a:Int) (k:Unit),a=j60/\y=int a/\H'=hk [(1,⟨36,9,true,true,v2,[[int a1.Kind,int a1.E,int a1.Item,int a1.Loc,int a1.To,int a1.aS,int a1.bO,int a1.Ref,aH 1 fI a1.dQ]]⟩)])) rfl rfl rfl (eO rfl rfl (.cons rfl (.cons rfl .nil)) y7 ?_) ?_
  refine iI (c:=_) Tryz.func85 rfl rfl ?_;intro Q hret hnorm
  refine tc aG 8 (.mk ?_)
  refine sY (dK (y:=aI true) (xL rfl rfl rfl) (congrArg aI (by decide))) ?_
  refine tr aG 2 (.mk ?_)
  refine sY (dK (y:=aI true) (vS rfl rfl rfl) (congrArg aI (by decide))) ?_
  refine tr aG 8 (.mk ?_)
  refine sY (xY (r:=65) rfl Tryz.underlying21 Tryz.underlying5 rfl (by decide)) ?_
  obtain ⟨x61,e61,h2⟩:=dJ h2
  refine sC yO (y8 _ e61) ?_
  refine tr aG 2 (.mk ?_)
  obtain rfl:=eU h2
  refine iX (hret _ _ (hk [(1,⟨36,9,true,true,v2,[[int a1.Kind,int a1.E,int a1.Item,int a1.Loc,int a1.To,int a1.aS,int a1.bO,int a1.Ref,aH 1 fI a1.dQ]]⟩)]) (.tmp rfl .nil) (HK.le ⟨rfl,trivial⟩) ?_)
  exact ⟨x61,(),rfl,rfl,rfl⟩
  rintro y _ ⟨y2_1,_,rfl,hc,rfl⟩
  subst hc
  refine nb aG h1 λx62 h1=>?_
  refine tr aG 2 (.mk ?_)
  obtain rfl:=eU h1
  refine iX (hret _ _ (hk [(1,⟨36,9,true,true,v2,[[int a1.Kind,int a1.E,int a1.Item,int a1.Loc,int a1.To,int a1.aS,int a1.bO,int a1.Ref,aH 1 fI a1.dQ]]⟩)]) (.tmp rfl .nil) (HK.le ⟨rfl,trivial⟩) ?_)
  exact ⟨x62,(),rfl,rfl,rfl⟩
  rintro y _ ⟨y4_1_5,_,rfl,hc,rfl⟩
  subst hc
  refine tr aG 1 (.mk ?_)
  refine jn h0 [1,2,3,5,21,22,23] [1] (λ(a:Int×Int) (k:Unit)=>[(6,int a.1),(7,int a.2)]) (λa k=>[]) ⟨λj63 h1=>?_,?_⟩
  cases y4_1_5
  replace h1:=cf h1
  refine tc aG 2 (.mk ?_)
  exact lf h1 () dY
  replace h1:=ct h1
  refine tc aG 5 (.mk ?_)
  obtain ⟨x64,e64,h1⟩:=dJ h1
  refine sC yZ (AQ e64) ?_
  refine tr aG 6 (.mk ?_)
  exact lf h1 () dY
  rintro ⟨y5_1_5,y5_2_5⟩ _ h0
  replace h0:=vP h0
  refine tc aG 3 (.mk ?_)
  obtain ⟨j65,h1,h0⟩:=dJ h0
  refine iP (Out:=λy H'=>(∃ (a:Unit) (k:Unit),a=j65/\y=.pt 1 v2 0 6/\H'=hk [(1,⟨36,9,true,true,v2,[[int a1.Kind,int a1.E,int a1.Item,int a1.Loc,int a1.To,int a1.aS,int a1.bO,int a1.Ref,aH 1 fI a1.dQ]]⟩)])) rfl rfl rfl (eO rfl rfl (.cons rfl (.cons rfl .nil)) yX ?_) ?_
  refine iI (c:=_) Tryz.func43 rfl rfl ?_;intro Q hret hnorm
  refine tc aG 12 (.mk ?_)
  refine sY (dK (y:=aI false) (jO rfl rfl rfl) (congrArg aI (by decide))) ?_
  refine tr aG 5 (.mk ?_)
  refine sY (dK (y:=aI false) (jO rfl rfl rfl) (congrArg aI (by decide))) ?_
  refine tr aG 5 (.mk ?_)
  refine sY (dK (y:=aI false) (jO rfl rfl rfl) (congrArg aI (by decide))) ?_
  refine tr aG 5 (.mk ?_)
  refine sY (dK (y:=aI false) (jO rfl rfl rfl) (congrArg aI (by decide))) ?_
  refine tr aG 5 (.mk ?_)
  refine sY (dK (y:=aI false) (jO rfl rfl rfl) (congrArg aI (by decide))) ?_
  refine tr aG 5 (.mk ?_)
  refine sY (dK (y:=aI true) (jO rfl rfl rfl) (congrArg aI (by decide))) ?_
  refine tr aG 10 (.mk ?_)
  obtain rfl:=eU h1
  refine iX (hret _ _ (hk [(1,⟨36,9,true,true,v2,[[int a1.Kind,int a1.E,int a1.Item,int a1.Loc,int a1.To,int a1.aS,int a1.bO,int a1.Ref,aH 1 fI a1.dQ]]⟩)]) (.tmp rfl .nil) (HK.le ⟨rfl,trivial⟩) ?_)
  exact ⟨(),(),rfl,rfl,rfl⟩
  rintro y _ ⟨_,_,rfl,hc,rfl⟩
  subst hc
  refine tr aG 5 (.mk ?_)
  refine jn h0 [1,2,3,21,22,23] [1] (λ(a:Bool) (k:Unit)=>[(46,aI a)]) (λa k=>[]) ⟨λj66 h1=>?_,?_⟩
  refine tc aG 3 (.mk ?_)
  refine nb aG h1 λx67 h1=>?_
  refine tr aG 1 (.mk ?_)
  cases x67
  replace h1:=cf h1
  refine tr aG 2 (.mk ?_)
  refine nb aG h1 λx68 h1=>?_
  refine tr aG 2 (.mk ?_)
  exact lf h1 () dY
  replace h1:=ct h1
  refine tr aG 5 (.mk ?_)
  exact lf h1 () dY
  rintro y8_1_5 _ h0
  cases y8_1_5
  replace h0:=cf h0
  refine tc aG 23 (.mk ?_)
  obtain ⟨j69,h1,h0⟩:=dJ h0
  refine iP (Out:=λy H'=>(∃ (a:Bool) (k:Unit),a=j69/\y=aI a/\H'=hk [(1,⟨36,9,true,true,v2,[[int a1.Kind,int a1.E,int a1.Item,int a1.Loc,int a1.To,int a1.aS,int a1.bO,int a1.Ref,aH 1 fI a1.dQ]]⟩)])) rfl rfl rfl (eO rfl rfl (.cons rfl (.cons rfl .nil)) AN ?_) ?_
  refine iI (c:=_) Tryz.func41 rfl rfl ?_;intro Q hret hnorm
  refine tc aG 8 (.mk ?_)
  obtain ⟨j70,h2,h1⟩:=dJ h1
  refine iP (Out:=λy H'=>(∃ (a:Int) (k:Unit),a=j70/\y=int a/\H'=hk [(1,⟨36,9,true,true,v2,[[int a1.Kind,int a1.E,int a1.Item,int a1.Loc,int a1.To,int a1.aS,int a1.bO,int a1.Ref,aH 1 fI a1.dQ]]⟩)])) rfl rfl rfl (eO rfl rfl (.cons rfl (.cons rfl .nil)) y7 ?_) ?_
  refine iI (c:=_) Tryz.func85 rfl rfl ?_;intro Q hret hnorm
  refine tc aG 8 (.mk ?_)
  refine sY (dK (y:=aI true) (xL rfl rfl rfl) (congrArg aI (by decide))) ?_
  refine tr aG 2 (.mk ?_)
  refine sY (dK (y:=aI true) (vS rfl rfl rfl) (congrArg aI (by decide))) ?_
  refine tr aG 8 (.mk ?_)
  refine sY (xY (r:=82) rfl Tryz.underlying21 Tryz.underlying5 rfl (by decide)) ?_
  obtain ⟨x71,e71,h2⟩:=dJ h2
  refine sC yO (y8 _ e71) ?_
  refine tr aG 2 (.mk ?_)
  obtain rfl:=eU h2
  refine iX (hret _ _ (hk [(1,⟨36,9,true,true,v2,[[int a1.Kind,int a1.E,int a1.Item,int a1.Loc,int a1.To,int a1.aS,int a1.bO,int a1.Ref,aH 1 fI a1.dQ]]⟩)]) (.tmp rfl .nil) (HK.le ⟨rfl,trivial⟩) ?_)
  exact ⟨x71,(),rfl,rfl,rfl⟩
  rintro y _ ⟨y2_1,_,rfl,hc,rfl⟩
  subst hc
  refine nb aG h1 λx72 h1=>?_
  refine tr aG 2 (.mk ?_)
  obtain rfl:=eU h1
  refine iX (hret _ _ (hk [(1,⟨36,9,true,true,v2,[[int a1.Kind,int a1.E,int a1.Item,int a1.Loc,int a1.To,int a1.aS,int a1.bO,int a1.Ref,aH 1 fI a1.dQ]]⟩)]) (.tmp rfl .nil) (HK.le ⟨rfl,trivial⟩) ?_)
  exact ⟨x72,(),rfl,rfl,rfl⟩
  rintro y _ ⟨y4_1_6,_,rfl,hc,rfl⟩
  subst hc
  refine tr aG 1 (.mk ?_)
  refine jn h0 [1,2,3,5,21,22,23] [1] (λ(a:Int×Int) (k:Unit)=>[(6,int a.1),(7,int a.2)]) (λa k=>[]) ⟨λj73 h1=>?_,?_⟩
  cases y4_1_6
  replace h1:=cf h1
  refine tc aG 2 (.mk ?_)
  exact lf h1 () dY
  replace h1:=ct h1
  refine tc aG 5 (.mk ?_)
  obtain ⟨x74,e74,h1⟩:=dJ h1
  refine sC yZ (AQ e74) ?_
  refine tr aG 6 (.mk ?_)
  exact lf h1 () dY
  rintro ⟨y5_1_6,y5_2_6⟩ _ h0
  replace h0:=vP h0
  refine tc aG 3 (.mk ?_)
  obtain ⟨j75,h1,h0⟩:=dJ h0
  refine iP (Out:=λy H'=>(∃ (a:Unit) (k:Unit),a=j75/\y=.pt 1 v2 0 7/\H'=hk [(1,⟨36,9,true,true,v2,[[int a1.Kind,int a1.E,int a1.Item,int a1.Loc,int a1.To,int a1.aS,int a1.bO,int a1.Ref,aH 1 fI a1.dQ]]⟩)])) rfl rfl rfl (eO rfl rfl (.cons rfl (.cons rfl .nil)) yX ?_) ?_
  refine iI (c:=_) Tryz.func43 rfl rfl ?_;intro Q hret hnorm
  refine tc aG 12 (.mk ?_)
  refine sY (dK (y:=aI false) (jO rfl rfl rfl) (congrArg aI (by decide))) ?_
  refine tr aG 5 (.mk ?_)
  refine sY (dK (y:=aI false) (jO rfl rfl rfl) (congrArg aI (by decide))) ?_
  refine tr aG 5 (.mk ?_)
  refine sY (dK (y:=aI false) (jO rfl rfl rfl) (congrArg aI (by decide))) ?_
  refine tr aG 5 (.mk ?_)
  refine sY (dK (y:=aI false) (jO rfl rfl rfl) (congrArg aI (by decide))) ?_
  refine tr aG 5 (.mk ?_)
  refine sY (dK (y:=aI false) (jO rfl rfl rfl) (congrArg aI (by decide))) ?_
  refine tr aG 5 (.mk ?_)
  refine sY (dK (y:=aI false) (jO rfl rfl rfl) (congrArg aI (by decide))) ?_
  refine tr aG 12 (.mk ?_)
  obtain rfl:=eU h1
  refine iX (hret _ _ (hk [(1,⟨36,9,true,true,v2,[[int a1.Kind,int a1.E,int a1.Item,int a1.Loc,int a1.To,int a1.aS,int a1.bO,int a1.Ref,aH 1 fI a1.dQ]]⟩)]) (.tmp rfl .nil) (HK.le ⟨rfl,trivial⟩) ?_)
  exact ⟨(),(),rfl,rfl,rfl⟩
  rintro y _ ⟨_,_,rfl,hc,rfl⟩
  subst hc
  refine tr aG 5 (.mk ?_)
  refine jn h0 [1,2,3,21,22,23] [1] (λ(a:Bool) (k:Unit)=>[(46,aI a)]) (λa k=>[]) ⟨λj76 h1=>?_,?_⟩
  refine tc aG 3 (.mk ?_)
  refine nb aG h1 λx77 h1=>?_
  refine tr aG 1 (.mk ?_)
  cases x77
  replace h1:=cf h1
  refine tr aG 2 (.mk ?_)
  refine nb aG h1 λx78 h1=>?_
  refine tr aG 2 (.mk ?_)
  exact lf h1 () dY
  replace h1:=ct h1
  refine tr aG 5 (.mk ?_)
  exact lf h1 () dY
  rintro y8_1_6 _ h0
  cases y8_1_6
  replace h0:=cf h0
  refine tc aG 12 (.mk ?_)
  refine nb aG h0 λx79 h0=>?_
  refine tr aG 1 (.mk ?_)
  cases x79
  replace h0:=cf h0
  refine tc aG 3 (.mk ?_)
  refine jn h0 [] [] (λ(a:Bool) (k:Unit)=>[(2,aI a)]) (λa k=>[]) ⟨λj80 h1=>?_,?_⟩
  refine tc aG 3 (.mk ?_)
  refine sY (mP rfl Tryz.underlying22 rfl (uY _)) ?_
  refine nb aG h1 λx81 h1=>?_
  refine tr aG 1 (.mk ?_)
  cases x81
  replace h1:=cf h1
  refine tr aG 27 (.mk ?_)
  exact lf h1 () dY
  replace h1:=ct h1
  refine tr aG 2 (.mk ?_)
  refine nb aG h1 λx82 h1=>?_
  refine tr aG 1 (.mk ?_)
  cases x82
  replace h1:=cf h1
  refine tr aG 11 (.mk ?_)
  refine nb aG h1 λx83 h1=>?_
  refine tr aG 1 (.mk ?_)
  cases x83
  replace h1:=cf h1
  refine tr aG 10 (.mk ?_)
  exact lf h1 () dY
  replace h1:=ct h1
  refine tr aG 4 (.mk ?_)
  refine nb aG h1 λx84 h1=>?_
  refine tr aG 1 (.mk ?_)
  refine nb aG h1 λx85 h1=>?_
  refine tr aG 3 (.mk ?_)
  exact lf h1 () dY
  replace h1:=ct h1
  refine tr aG 4 (.mk ?_)
  refine nb aG h1 λx86 h1=>?_
  refine tr aG 1 (.mk ?_)
  refine nb aG h1 λx87 h1=>?_
  refine tr aG 2 (.mk ?_)
  cases x87
  replace h1:=cf h1
  refine tr aG 14 (.mk ?_)
  exact lf h1 () dY
  replace h1:=ct h1
  refine tr aG 2 (.mk ?_)
  refine nb aG h1 λx88 h1=>?_
  refine tr aG 1 (.mk ?_)
  cases x88
  replace h1:=cf h1
  refine tr aG 10 (.mk ?_)
  exact lf h1 () dY
  replace h1:=ct h1
  refine tr aG 4 (.mk ?_)
  refine nb aG h1 λx89 h1=>?_
  refine tr aG 1 (.mk ?_)
  refine nb aG h1 λx90 h1=>?_
  refine tr aG 3 (.mk ?_)
  exact lf h1 () dY
  rintro y9_1 _ h0
  obtain rfl:=eU h0
  refine wR hret (rT .nil) ?_
  exact .refl _
  replace h0:=ct h0
  refine tc aG 5 (.mk ?_)
  obtain ⟨x91,e91,h0⟩:=dJ h0
  refine sC aSL (aPG _ e91) ?_
  refine tr aG 2 (.mk ?_)
  obtain rfl:=eU h0
  refine wR hret (rT .nil) ?_
  exact .refl _
  replace h0:=ct h0
  refine tc aG 5 (.mk ?_)
  obtain rfl:=eU h0
  refine wR hret (rT .nil) ?_
  exact .refl _
  replace h0:=ct h0
  refine tc aG 5 (.mk ?_)
  obtain rfl:=eU h0
  refine wR hret (rT .nil) ?_
  exact .refl _
  replace h0:=ct h0
  refine tc aG 5 (.mk ?_)
  obtain rfl:=eU h0
  refine wR hret (rT .nil) ?_
  exact .refl _
  replace h0:=ct h0
  refine tc aG 5 (.mk ?_)
  obtain rfl:=eU h0
  refine wR hret (rT .nil) ?_
  exact .refl _
  replace h0:=ct h0
  refine tc aG 5 (.mk ?_)
  obtain rfl:=eU h0
  refine wR hret (rT .nil) ?_
  exact .refl _
  replace h0:=ct h0
  refine tc aG 5 (.mk ?_)
  obtain rfl:=eU h0
  refine wR hret (rT .nil) ?_
  exact .refl _
  replace h0:=ct h0
  refine tc aG 5 (.mk ?_)
  obtain rfl:=eU h0
  refine wR hret (rT .nil) ?_
  exact .refl _
  replace h0:=ct h0
  refine tc aG 5 (.mk ?_)
  obtain rfl:=eU h0
  refine wR hret (rT .nil) ?_
  exact .refl _
def aGN (a1:aA) (a2:Int):WB (Bool) :=
 .al 1<|.jn 0 [] [] [] (λ_ (a:Bool)=>[(4,aI a)]) (λ_ _=>[]) (.bB 6 (decide (a2>=0)) λx4=>.ifs [6] x4 (.ln 11 aP.av a1.aW<|.bB 12 (decide (a2<(a1.aW.length:Int))) λx5=>.ifs [12] x5 (.ln 19 (fL 1 fI) a1.bF.Methods<|.bB 20 (decide (a2<(a1.bF.Methods.length:Int))) λx6=>.ret x6) (.ret false)) (.ret false)) (λy0_1=>.ret ((y0_1:Bool)))
def BP (a1:aA) (a2:Int):Option (Bool):=(aGN a1 a2).run
theorem UA {a1 a2}:PZ (BP a1 a2) 20 [.agg (aA.av a1),int a2] aI:=wq Tryz.func20
def aNM (n:Nat) (a1:aT):WB (aT×tV) :=
 .al 1<|.al 2<|.al 3<|.al 4<|.cl 11 (rM a1 a1.bJ) zX AB λx6=>.inl 14 QY Tryz.func94 [1,2,3,4] [5] (λu4 (a:Unit)=>.fn (.func 95) [] [.pt 1 (u4 1) 0 0,.pt 5 (u4 5) 0 0,.pt 4 (u4 4) 0 0]) (λ_ _=>[.nw 5 3 1 [[int 0]]]) (.al 5<|.ret ()) (λ_=>.inl 16 QY Tryz.func94 [1,2,3,4,5] [6] (λu5 (a:Unit)=>.fn (.func 95) [] [.pt 1 (u5 1) 0 0,.pt 6 (u5 6) 0 0,.pt 4 (u5 4) 0 0]) (λ_ _=>[.nw 6 3 1 [[int 1]]]) (.al 6<|.ret ()) (λ_=>.inl 18 QY Tryz.func94 [1,2,3,4,5,6] [7] (λu6 (a:Unit)=>.fn (.func 95) [] [.pt 1 (u6 1) 0 0,.pt 7 (u6 7) 0 0,.pt 4 (u6 4) 0 0]) (λ_ _=>[.nw 7 3 1 [[int 2]]]) (.al 7<|.ret ()) (λ_=>.gv 19<|.jn 0 [1,2,3,4] [2,3] [] (λ_ (a:aT×Int×Int×Int×Int×Int×Int×Int×Int×Int)=>[]) (λ_ a=>[.kp 1 [[aH 3 aM.av a.1.bJ,int a.1.bR.a0,int a.1.bR.a1,int a.1.bR.a2]],.kp 4 [[int a.2.1,int a.2.2.1,int a.2.2.2.1,int a.2.2.2.2.1,int a.2.2.2.2.2.1,int a.2.2.2.2.2.2.1,int a.2.2.2.2.2.2.2.1,int a.2.2.2.2.2.2.2.2.1,int a.2.2.2.2.2.2.2.2.2]]]) (.un 24 (.kB 21 true<|.gv 22<|.inl 24 WG Tryz.func95 [2,3,5,6,7] [] (λ_ (a:aT×Int×Int×Int)=>.bD []) (λ_ a=>[.kp 1 [[aH 3 aM.av a.1.bJ,int a.1.bR.a0,int a.1.bR.a1,int a.1.bR.a2]],.kp 4 [[int a.2.1,int a.2.2.1,int a.2.2.2,int 0,int 0,int 0,int 0,int 0,int 0]]]) (.dr [(0,[1]),(1,[1]),(2,[5]),(3,[1]),(4,[1]),(5,[1])] [(13,[])] [1,5] [11,13] [0,1,2,3,4,5,6,7,8,9,10,11,12,13,14] (.gv 11<|.cl 13 (uW n x6.bJ x6.bR.a0) CL FJ λx10=>.al 8<|.bB 18 (decide (x10.2.2=0)) λx12=>.ifs [18] x12 (.dr [(0,[5]),(2,[8]),(3,[1]),(5,[4])] [(4,[5,8]),(6,[])] [1,4,5,8] [4,6] [0,1,2,3,4,5,6] (.gv 23<|.ret (((⟨x10.1,x6.bR⟩:aT):aT),(x10.2.1.aS:Int),(x10.2.1.Value:Int),(x10.2.1.bE:Int)))) (.ret ((x6:aT),0,0,0)))) (pw λy4_1 q0=>(pw λy4_2 q1=>(pw λy4_3 y4_4=>.kI 25 1<|.kB 21 true<|.gv 22<|.inl 24 WG Tryz.func95 [2,3,5,6,7] [] (λ_ (a:aT×Int×Int×Int)=>.bD []) (λ_ a=>[.kp 1 [[aH 3 aM.av a.1.bJ,int a.1.bR.a0,int a.1.bR.a1,int a.1.bR.a2]],.kp 4 [[int y4_2,int y4_3,int y4_4,int a.2.1,int a.2.2.1,int a.2.2.2,int 0,int 0,int 0]]]) (.dr [(0,[1]),(1,[1]),(2,[6]),(3,[1]),(4,[1]),(5,[1])] [(13,[])] [1,6] [11,13] [0,1,2,3,4,5,6,7,8,9,10,11,12,13,14] (.gv 11<|.cl 13 (uW n y4_1.bJ y4_1.bR.a1) CL FJ λx13=>.al 8<|.bB 18 (decide (x13.2.2=0)) λx15=>.ifs [18] x15 (.dr [(0,[6]),(2,[8]),(3,[1]),(5,[4])] [(4,[6,8]),(6,[])] [1,4,6,8] [4,6] [0,1,2,3,4,5,6] (.gv 23<|.ret (((⟨x13.1,y4_1.bR⟩:aT):aT),(x13.2.1.aS:Int),(x13.2.1.Value:Int),(x13.2.1.bE:Int)))) (.ret ((y4_1:aT),0,0,0)))) (pw λy4_1_1 q0=>(pw λy4_2_1 q1=>(pw λy4_3_1 y4_4_1=>.kI 25 2<|.kB 21 true<|.gv 22<|.inl 24 WG Tryz.func95 [2,3,5,6,7] [] (λ_ (a:aT×Int×Int×Int)=>.bD []) (λ_ a=>[.kp 1 [[aH 3 aM.av a.1.bJ,int a.1.bR.a0,int a.1.bR.a1,int a.1.bR.a2]],.kp 4 [[int y4_2,int y4_3,int y4_4,int y4_2_1,int y4_3_1,int y4_4_1,int a.2.1,int a.2.2.1,int a.2.2.2]]]) (.dr [(0,[1]),(1,[1]),(2,[7]),(3,[1]),(4,[1]),(5,[1])] [(13,[])] [1,7] [11,13] [0,1,2,3,4,5,6,7,8,9,10,11,12,13,14] (.gv 11<|.cl 13 (uW n y4_1_1.bJ y4_1_1.bR.a2) CL FJ λx16=>.al 8<|.bB 18 (decide (x16.2.2=0)) λx18=>.ifs [18] x18 (.dr [(0,[7]),(2,[8]),(3,[1]),(5,[4])] [(4,[7,8]),(6,[])] [1,4,7,8] [4,6] [0,1,2,3,4,5,6] (.gv 23<|.ret (((⟨x16.1,y4_1_1.bR⟩:aT):aT),(x16.2.1.aS:Int),(x16.2.1.Value:Int),(x16.2.1.bE:Int)))) (.ret ((y4_1_1:aT),0,0,0)))) (pw λy4_1_2 q0=>(pw λy4_2_2 q1=>(pw λy4_3_2 y4_4_2=>.kI 25 3<|.kB 21 false<|.ret ((y4_1_2:aT),y4_2,y4_3,y4_4,(y4_2_1:Int),(y4_3_1:Int),(y4_4_1:Int),(y4_2_2:Int),(y4_3_2:Int),(y4_4_2:Int))) q1) q0)) q1) q0)) q1) q0))) (pw λy5_1 q0=>(pw λy5_2 q1=>(pw λy5_3 q2=>(pw λy5_4 q3=>(pw λy5_5 q4=>(pw λy5_6 q5=>(pw λy5_7 q6=>(pw λy5_8 q7=>(pw λy5_9 y5_10=>.gv 26<|.dr [(0,[1]),(1,[4])] [(2,[4]),(3,[])] [1,4] [2,3] [0,1,2,3] (.ret (((⟨y5_1.bJ,(⟨0,0,0⟩:jE)⟩:aT):aT),((⟨(⟨y5_2,y5_3,y5_4⟩:aM),(⟨y5_5,y5_6,y5_7⟩:aM),(⟨y5_8,y5_9,y5_10⟩:aM)⟩:tV):tV)))) q7) q6) q5) q4) q3) q2) q1) q0))))
def aA2 (n:Nat) (a1:aT):Option (aT×tV):=(aNM n a1).run
theorem aVG {n a1}:PZ (aA2 n a1) 49 [.agg (aT.av a1)] (λr=>.bD [.agg (aT.av r.1),.agg (tV.av r.2)]):=by
 refine wm Tryz.func49 ?_
 intro v2
 intro v3
 intro v4
 intro v5
 refine .mk λx6 e6=>?_
 refine .mk ?_ ?_
 intro v7
 exact .mk
 intro _ u4
 refine .mk trivial ?_
 refine .mk ?_ ?_
 intro v8
 exact .mk
 intro _ u5
 refine .mk trivial ?_
 refine .mk ?_ ?_
 intro v9
 exact .mk
 intro _ u6
 refine .mk trivial ?_
 refine .mk _ (bK (wF (cs:=[.fn (.func 95) [] [.pt 1 v2 0 0,.pt 5 (u4 5) 0 0,.pt 4 v5 0 0],.fn (.func 95) [] [.pt 1 v2 0 0,.pt 6 (u5 6) 0 0,.pt 4 v5 0 0],.fn (.func 95) [] [.pt 1 v2 0 0,.pt 7 (u6 7) 0 0,.pt 4 v5 0 0]]) (ps:=[(0,_),(1,_),(2,_)]) rfl Tryz.underlying174 vX aKF rfl (.cons rfl (.cons rfl (.cons rfl .nil))) (by kernel_rfl))) ?_
 refine .mk ?_ ?_
 refine .mk ?_
 refine .mk _ (bK (wK rfl Tryz.underlying174 vX rfl rfl (by decide) rfl)) ?_
 refine .mk ?_ ?_
 refine .mk ?_
 refine .mk _ (λH hH _=>dK (y:=.pt 1 v2 0 1) (qF rfl Tryz.underlying58 dP rfl rfl ((hH _ (by decide)).trans rfl) rfl rfl (by decide)) rfl) ?_
 refine .mk λx10 e10=>?_
 intro v11
 refine .mk λx12=>?_
 refine .mk ?_ ?_
 refine .mk ?_
 refine .mk _ (λH hH _=>dK (y:=.pt 4 v5 0 0) (qF rfl Tryz.underlying125 kD rfl rfl ((hH _ (by decide)).trans rfl) rfl rfl (by decide)) rfl) ?_
 exact .mk rfl ⟨(by first | rfl),rfl,rfl,rfl,rfl,rfl,rfl,trivial⟩
 exact .mk
 intro _ _
 refine .mk trivial ?_
 refine .mk ?_
 refine .mk ?_
 refine .mk _ (bK (wK rfl Tryz.underlying174 vX rfl rfl (by decide) rfl)) ?_
 refine .mk ?_ ?_
 refine .mk ?_
 refine .mk _ (λH hH _=>dK (y:=.pt 1 v2 0 2) (qF rfl Tryz.underlying58 dP rfl rfl ((hH _ (by decide)).trans rfl) rfl rfl (by decide)) rfl) ?_
 refine .mk λx13 e13=>?_
 intro v14
 refine .mk λx15=>?_
 refine .mk ?_ ?_
 refine .mk ?_
 refine .mk _ (λH hH _=>dK (y:=.pt 4 v5 0 3) (qF rfl Tryz.underlying125 kD rfl rfl ((hH _ (by decide)).trans rfl) rfl rfl (by decide)) rfl) ?_
 exact .mk rfl ⟨(by first | rfl),rfl,rfl,rfl,rfl,rfl,rfl,trivial⟩
 exact .mk
 intro _ _
 refine .mk trivial ?_
 refine .mk ?_
 refine .mk ?_
 refine .mk _ (bK (wK rfl Tryz.underlying174 vX rfl rfl (by decide) rfl)) ?_
 refine .mk ?_ ?_
 refine .mk ?_
 refine .mk _ (λH hH _=>dK (y:=.pt 1 v2 0 3) (qF rfl Tryz.underlying58 dP rfl rfl ((hH _ (by decide)).trans rfl) rfl rfl (by decide)) rfl) ?_
 refine .mk λx16 e16=>?_
 intro v17
 refine .mk λx18=>?_
 refine .mk ?_ ?_
 refine .mk ?_
 refine .mk _ (λH hH _=>dK (y:=.pt 4 v5 0 6) (qF rfl Tryz.underlying125 kD rfl rfl ((hH _ (by decide)).trans rfl) rfl rfl (by decide)) rfl) ?_
 exact .mk rfl ⟨(by first | rfl),rfl,rfl,rfl,rfl,rfl,rfl,trivial⟩
 exact .mk
 intro _ _
 refine .mk trivial ?_
 refine .mk ?_
 refine .mk ?_
 exact .mk
 intro _ _
 refine .mk _ (bK (wF (cs:=[int 0,int 0,int 0]) (ps:=[]) rfl Tryz.underlying58 dP z58 rfl .nil (by kernel_rfl))) ?_
 refine .mk ?_
 exact .mk
def aOG (a1:dV) (a2:Int) (a3:Int):WB (Bool) :=
 .al 1<|.jn 0 [] [] [] (λ_ (a:Bool)=>[(6,aI a)]) (λ_ _=>[]) (.wt 9 <|.ifs [9] a1.qW (.bB 13 (decide (a1.fG=a2)) λx5=>.ifs [13] x5 (.bB 19 (decide (a1.qT=a3)) λx6=>.ret x6) (.ret false)) (.ret false)) (λy0_1=>.ret ((y0_1:Bool)))
def UB (a1:dV) (a2:Int) (a3:Int):Option (Bool):=(aOG a1 a2 a3).run
theorem aEP {a1 a2 a3}:PZ (UB a1 a2 a3) 46 [.agg (dV.av a1),int a2,int a3] aI:=wq Tryz.func46
def aK6 (a1:Int):WB (Bool) :=
 .jn 1 [] [] [] (λ_ (a:Bool)=>[(2,aI a)]) (λ_ _=>[]) (.bB 4 (decide (a1<0)) λx2=>.ifs [4] x2 (.ret true) (.bB 7 (decide (a1>288230376151711744)) λx3=>.ret x3)) (λy0_1=>.ret ((y0_1:Bool)))
def RH (a1:Int):Option (Bool):=(aK6 a1).run
theorem aAU {a1}:PZ (RH a1) 153 [int a1] aI:=wq Tryz.func153
def aWN (a1:Int):WB (Bool) :=
 .bB 4 (decide (a1≠0)) λx2=>.ret ((x2:Bool))
def aAM (a1:Int):Option (Bool):=(aWN a1).run
theorem aXZ {a1}:PZ (aAM a1) 154 [int a1] aI:=wq Tryz.func154
def aOI (a1:Int):WB (Int) :=
 .ret ((a1:Int))
def TR (a1:Int):Option (Int):=(aOI a1).run
theorem aFF {a1}:PZ (TR a1) 158 [int a1] int:=wq Tryz.func158
end
end Go.Pv
