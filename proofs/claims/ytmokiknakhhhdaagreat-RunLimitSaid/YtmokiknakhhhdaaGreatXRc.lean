import Derived.Test.YtmokiknakhhhdaaGreatXRb
set_option linter.unusedVariables false
set_option linter.unusedSimpArgs false
namespace Go.Pv
open Go.Proofs
set_option maxRecDepth 100000
set_option maxHeartbeats 4000000
noncomputable section
def dL (n:Nat) (a1:aF):Option (Bool) :=
(show Option (Bool) from
bnd (decide (a1.Kind<1)) λx4 =>
cond x4 (some (true:Bool)) (bnd (decide (a1.Kind>16)) λx5 =>
some (x5:Bool))).bind <| λy0_1 =>
cond y0_1 (some ((false:Bool))) (KP.bind λx6 =>
(ix ([x6.a0,x6.a1,x6.a2,x6.a3,x6.a4,x6.a5,x6.a6,x6.a7,x6.a8,x6.a9,x6.tK,x6.tN,x6.a12,x6.tH,x6.K9,x6.KZ,x6.a16]:List (List UInt8)) a1.Kind).bind λx7 =>
(show Option ((Bool)) from
(show Option ((Int)) from
(uL x7 69).bind λx11 =>
some (x11:Int)).bind <| λy2_1 =>
bnd (decide (y2_1>=0)) λx12 =>
some (x12:Bool)).bind <| λy4_1 =>
(show Option (Int×Int) from
cond y4_1 ((tL a1.Kind 69).bind λx14 =>
some ((x14.1:Int),(x14.2:Int))) (some ((0:Int),(0:Int)))).bind <| p2 λ(y5_1:Int) (y5_2:Int) =>
(show Option ((Unit)) from
some ()).bind <| λ_ =>
(show Option (Bool) from
bnd (decide (a1.E<y5_1)) λx17 =>
cond x17 (some (true:Bool)) (bnd (decide (a1.E>y5_2)) λx18 =>
some (x18:Bool))).bind <| λy8_1 =>
cond y8_1 (some ((false:Bool))) ((show Option ((Bool)) from
(show Option ((Int)) from
(uL x7 73).bind λx21 =>
some (x21:Int)).bind <| λy2_1 =>
bnd (decide (y2_1>=0)) λx22 =>
some (x22:Bool)).bind <| λy4_1_1 =>
(show Option (Int×Int) from
cond y4_1_1 ((tL a1.Kind 73).bind λx24 =>
some ((x24.1:Int),(x24.2:Int))) (some ((0:Int),(0:Int)))).bind <| p2 λ(y5_1_1:Int) (y5_2_1:Int) =>
(show Option ((Unit)) from
some ()).bind <| λ_ =>
(show Option (Bool) from
bnd (decide (a1.Item<y5_1_1)) λx27 =>
cond x27 (some (true:Bool)) (bnd (decide (a1.Item>y5_2_1)) λx28 =>
some (x28:Bool))).bind <| λy8_1_1 =>
cond y8_1_1 (some ((false:Bool))) ((show Option ((Bool)) from
(show Option ((Int)) from
(uL x7 76).bind λx31 =>
some (x31:Int)).bind <| λy2_1 =>
bnd (decide (y2_1>=0)) λx32 =>
some (x32:Bool)).bind <| λy4_1_2 =>
(show Option (Int×Int) from
cond y4_1_2 ((tL a1.Kind 76).bind λx34 =>
some ((x34.1:Int),(x34.2:Int))) (some ((0:Int),(0:Int)))).bind <| p2 λ(y5_1_2:Int) (y5_2_2:Int) =>
(show Option ((Unit)) from
some ()).bind <| λ_ =>
(show Option (Bool) from
bnd (decide (a1.Loc<y5_1_2)) λx37 =>
cond x37 (some (true:Bool)) (bnd (decide (a1.Loc>y5_2_2)) λx38 =>
some (x38:Bool))).bind <| λy8_1_2 =>
cond y8_1_2 (some ((false:Bool))) ((show Option ((Bool)) from
(show Option ((Int)) from
(uL x7 84).bind λx41 =>
some (x41:Int)).bind <| λy2_1 =>
bnd (decide (y2_1>=0)) λx42 =>
some (x42:Bool)).bind <| λy4_1_3 =>
(show Option (Int×Int) from
cond y4_1_3 ((tL a1.Kind 84).bind λx44 =>
some ((x44.1:Int),(x44.2:Int))) (some ((0:Int),(0:Int)))).bind <| p2 λ(y5_1_3:Int) (y5_2_3:Int) =>
(show Option ((Unit)) from
some ()).bind <| λ_ =>
(show Option (Bool) from
bnd (decide (a1.To<y5_1_3)) λx47 =>
cond x47 (some (true:Bool)) (bnd (decide (a1.To>y5_2_3)) λx48 =>
some (x48:Bool))).bind <| λy8_1_3 =>
cond y8_1_3 (some ((false:Bool))) ((show Option ((Bool)) from
(show Option ((Int)) from
(uL x7 81).bind λx51 =>
some (x51:Int)).bind <| λy2_1 =>
bnd (decide (y2_1>=0)) λx52 =>
some (x52:Bool)).bind <| λy4_1_4 =>
(show Option (Int×Int) from
cond y4_1_4 ((tL a1.Kind 81).bind λx54 =>
some ((x54.1:Int),(x54.2:Int))) (some ((0:Int),(0:Int)))).bind <| p2 λ(y5_1_4:Int) (y5_2_4:Int) =>
(show Option ((Unit)) from
some ()).bind <| λ_ =>
(show Option (Bool) from
bnd (decide (a1.aM<y5_1_4)) λx57 =>
cond x57 (some (true:Bool)) (bnd (decide (a1.aM>y5_2_4)) λx58 =>
some (x58:Bool))).bind <| λy8_1_4 =>
cond y8_1_4 (some ((false:Bool))) ((show Option ((Bool)) from
(show Option ((Int)) from
(uL x7 65).bind λx61 =>
some (x61:Int)).bind <| λy2_1 =>
bnd (decide (y2_1>=0)) λx62 =>
some (x62:Bool)).bind <| λy4_1_5 =>
(show Option (Int×Int) from
cond y4_1_5 ((tL a1.Kind 65).bind λx64 =>
some ((x64.1:Int),(x64.2:Int))) (some ((0:Int),(0:Int)))).bind <| p2 λ(y5_1_5:Int) (y5_2_5:Int) =>
(show Option ((Unit)) from
some ()).bind <| λ_ =>
(show Option (Bool) from
bnd (decide (a1.aQ<y5_1_5)) λx67 =>
cond x67 (some (true:Bool)) (bnd (decide (a1.aQ>y5_2_5)) λx68 =>
some (x68:Bool))).bind <| λy8_1_5 =>
cond y8_1_5 (some ((false:Bool))) ((show Option ((Bool)) from
(show Option ((Int)) from
(uL x7 82).bind λx71 =>
some (x71:Int)).bind <| λy2_1 =>
bnd (decide (y2_1>=0)) λx72 =>
some (x72:Bool)).bind <| λy4_1_6 =>
(show Option (Int×Int) from
cond y4_1_6 ((tL a1.Kind 82).bind λx74 =>
some ((x74.1:Int),(x74.2:Int))) (some ((0:Int),(0:Int)))).bind <| p2 λ(y5_1_6:Int) (y5_2_6:Int) =>
(show Option ((Unit)) from
some ()).bind <| λ_ =>
(show Option (Bool) from
bnd (decide (a1.Ref<y5_1_6)) λx77 =>
cond x77 (some (true:Bool)) (bnd (decide (a1.Ref>y5_2_6)) λx78 =>
some (x78:Bool))).bind <| λy8_1_6 =>
cond y8_1_6 (some ((false:Bool))) (bnd (decide (a1.Kind=11)) λx79 =>
cond x79 ((y8 n a1.bT).bind λx91 =>
some ((x91:Bool))) ((show Option (Bool) from
bnd (decide ((a1.bT.length:Int)=0)) λx81 =>
cond x81 (bnd (decide (a1.Kind=8)) λx82 =>
cond x82 (bnd (decide (a1.To=a1.Loc)) λx86 =>
bnd (!x86) λx87 =>
cond x87 (bnd (decide (a1.Kind=12)) λx88 =>
cond x88 (bnd (decide (a1.To=a1.E)) λx89 =>
bnd (!x89) λx90 =>
some (x90:Bool)) (some (true:Bool))) (some (false:Bool))) (bnd (decide (a1.Kind=12)) λx83 =>
cond x83 (bnd (decide (a1.To=a1.E)) λx84 =>
bnd (!x84) λx85 =>
some (x85:Bool)) (some (true:Bool)))) (some (false:Bool))).bind <| λy9_1 =>
some ((y9_1:Bool)))))))))))
theorem lS {n:Nat} {a1:aF} {r:Bool} (h0:dL n a1=some r):PP Tryz.prog 41 [.agg (aF.av a1)] (λy=>y=aB r):=by
  unfold dL at h0
  refine kE (R0:=λy H=>Cv (iN H) y (aB r)) ?_ (λy H hc=>⟨_,rfl,qD r,hc⟩)
  refine dD (c:=_) Tryz.func41 rfl rfl ?_;intro Q hret hnorm
  refine tc aA 2 (.mk ?_)
  refine sB 1 λv2=>?_
  refine tr aA 4 (.mk ?_)
  refine jn h0 [1,2] [1] (λ(a:Bool) (k:Unit)=>[(16,aB a)]) (λa k=>[]) ⟨λj3 h1=>?_,?_⟩
  refine tc aA 3 (.mk ?_)
  refine nb aA h1 λx4 h1=>?_
  refine tr aA 1 (.mk ?_)
  cases x4
  replace h1:=cf h1
  refine tr aA 2 (.mk ?_)
  refine nb aA h1 λx5 h1=>?_
  refine tr aA 2 (.mk ?_)
  exact lf h1 () aW
  replace h1:=ct h1
  refine tr aA 5 (.mk ?_)
  exact lf h1 () aW
  rintro y0_1 _ h0
  cases y0_1
  replace h0:=cf h0
  refine tc aA 3 (.mk ?_)
  refine nH [0,0,2,7,15] (rl [(1,[1]),(2,[1])] []) (λi=>[1]) (λi=>true) [0,1,2,3,4] mixed (by kernel_rfl) ?_;intro K hK
  obtain ⟨x6,e6,h0⟩:=bJ h0
  refine eP (λH hH=>gH rfl rfl .nil mP (bO.refl _) (VO e6)) ?_
  refine eF lW ?_
  refine eL bW ?_
  obtain ⟨x7,e7,h0⟩:=bJ h0
  refine eP (λH hH=>IT (g:=fS) (l:=([x6.a0,x6.a1,x6.a2,x6.a3,x6.a4,x6.a5,x6.a6,x6.a7,x6.a8,x6.a9,x6.tK,x6.tN,x6.a12,x6.tH,x6.K9,x6.KZ,x6.a16]:List (List UInt8))) (v:=x7) (w:=str x7) rfl Tryz.underlying88 mJ rfl rfl rfl e7 (λ_=>rfl) hw1) ?_
  refine eA ?_
  refine jI (hK _ ?_)
  refine tc aA 1 (.mk ?_)
  refine aFV rfl rfl rfl rfl rfl rfl rfl rfl ?_
  refine aLR rfl rfl rfl rfl Tryz.underlying9 rfl λb8=>⟨rfl,?_⟩
  refine tc aA 20 (.mk ?_)
  obtain ⟨j9,h1,h0⟩:=bJ h0
  refine bL (Out:=λy H'=>(∃ (a:Bool) (k:Unit),a=j9/\y=aB a/\H'=hk [(1,⟨29,9,true,true,v2,[[int a1.Kind,int a1.E,int a1.Item,int a1.Loc,int a1.To,int a1.aM,int a1.aQ,int a1.Ref,aG 1 fI a1.bT]]⟩)])) rfl rfl rfl (aN rfl rfl (.cons rfl (.cons rfl .nil)) wU ?_) ?_
  refine dD (c:=_) Tryz.func70 rfl rfl ?_;intro Q hret hnorm
  refine tc aA 8 (.mk ?_)
  obtain ⟨j10,h2,h1⟩:=bJ h1
  refine bL (Out:=λy H'=>(∃ (a:Int) (k:Unit),a=j10/\y=int a/\H'=hk [(1,⟨29,9,true,true,v2,[[int a1.Kind,int a1.E,int a1.Item,int a1.Loc,int a1.To,int a1.aM,int a1.aQ,int a1.Ref,aG 1 fI a1.bT]]⟩)])) rfl rfl rfl (aN rfl rfl (.cons rfl (.cons rfl .nil)) wN ?_) ?_
  refine dD (c:=_) Tryz.func117 rfl rfl ?_;intro Q hret hnorm
  refine tc aA 8 (.mk ?_)
  refine sY (aH (y:=aB true) (qP rfl rfl rfl) (congrArg aB (by decide))) ?_
  refine tr aA 2 (.mk ?_)
  refine sY (aH (y:=aB true) (mU rfl rfl rfl) (congrArg aB (by decide))) ?_
  refine tr aA 8 (.mk ?_)
  refine sY (jS (r:=69) rfl Tryz.underlying21 Tryz.underlying5 rfl (by decide)) ?_
  obtain ⟨x11,e11,h2⟩:=bJ h2
  refine sC wO (wC e11) ?_
  refine tr aA 2 (.mk ?_)
  obtain rfl:=bE h2
  refine dM (hret _ _ (hk [(1,⟨29,9,true,true,v2,[[int a1.Kind,int a1.E,int a1.Item,int a1.Loc,int a1.To,int a1.aM,int a1.aQ,int a1.Ref,aG 1 fI a1.bT]]⟩)]) (.tmp rfl .nil) (HK.le ⟨rfl,trivial⟩) ?_)
  exact ⟨x11,(),rfl,rfl,rfl⟩
  rintro y _ ⟨y2_1,_,rfl,hc,rfl⟩
  subst hc
  refine nb aA h1 λx12 h1=>?_
  refine tr aA 2 (.mk ?_)
  obtain rfl:=bE h1
  refine dM (hret _ _ (hk [(1,⟨29,9,true,true,v2,[[int a1.Kind,int a1.E,int a1.Item,int a1.Loc,int a1.To,int a1.aM,int a1.aQ,int a1.Ref,aG 1 fI a1.bT]]⟩)]) (.tmp rfl .nil) (HK.le ⟨rfl,trivial⟩) ?_)
  exact ⟨x12,(),rfl,rfl,rfl⟩
  rintro y _ ⟨y4_1,_,rfl,hc,rfl⟩
  subst hc
  refine tr aA 1 (.mk ?_)
  refine jn h0 [1,2,3,5,21,22,23] [1] (λ(a:Int×Int) (k:Unit)=>[(6,int a.1),(7,int a.2)]) (λa k=>[]) ⟨λj13 h1=>?_,?_⟩
  cases y4_1
  replace h1:=cf h1
  refine tc aA 2 (.mk ?_)
  exact lf h1 () aW
  replace h1:=ct h1
  refine tc aA 5 (.mk ?_)
  obtain ⟨x14,e14,h1⟩:=bJ h1
  refine sC xP (wS e14) ?_
  refine tr aA 6 (.mk ?_)
  exact lf h1 () aW
  rintro ⟨y5_1,y5_2⟩ _ h0
  replace h0:=pG h0
  refine tc aA 3 (.mk ?_)
  obtain ⟨j15,h1,h0⟩:=bJ h0
  refine bL (Out:=λy H'=>(∃ (a:Unit) (k:Unit),a=j15/\y=.pt 1 v2 0 1/\H'=hk [(1,⟨29,9,true,true,v2,[[int a1.Kind,int a1.E,int a1.Item,int a1.Loc,int a1.To,int a1.aM,int a1.aQ,int a1.Ref,aG 1 fI a1.bT]]⟩)])) rfl rfl rfl (aN rfl rfl (.cons rfl (.cons rfl .nil)) eG ?_) ?_
  refine dD (c:=_) Tryz.func40 rfl rfl ?_;intro Q hret hnorm
  refine tc aA 12 (.mk ?_)
  refine sY (aH (y:=aB true) (aI rfl rfl rfl) (congrArg aB (by decide))) ?_
  refine tr aA 10 (.mk ?_)
  obtain rfl:=bE h1
  refine dM (hret _ _ (hk [(1,⟨29,9,true,true,v2,[[int a1.Kind,int a1.E,int a1.Item,int a1.Loc,int a1.To,int a1.aM,int a1.aQ,int a1.Ref,aG 1 fI a1.bT]]⟩)]) (.tmp rfl .nil) (HK.le ⟨rfl,trivial⟩) ?_)
  exact ⟨(),(),rfl,rfl,rfl⟩
  rintro y _ ⟨_,_,rfl,hc,rfl⟩
  subst hc
  refine tr aA 5 (.mk ?_)
  refine jn h0 [1,2,3,21,22,23] [1] (λ(a:Bool) (k:Unit)=>[(46,aB a)]) (λa k=>[]) ⟨λj16 h1=>?_,?_⟩
  refine tc aA 3 (.mk ?_)
  refine nb aA h1 λx17 h1=>?_
  refine tr aA 1 (.mk ?_)
  cases x17
  replace h1:=cf h1
  refine tr aA 2 (.mk ?_)
  refine nb aA h1 λx18 h1=>?_
  refine tr aA 2 (.mk ?_)
  exact lf h1 () aW
  replace h1:=ct h1
  refine tr aA 5 (.mk ?_)
  exact lf h1 () aW
  rintro y8_1 _ h0
  cases y8_1
  replace h0:=cf h0
  refine tc aA 23 (.mk ?_)
  obtain ⟨j19,h1,h0⟩:=bJ h0
  refine bL (Out:=λy H'=>(∃ (a:Bool) (k:Unit),a=j19/\y=aB a/\H'=hk [(1,⟨29,9,true,true,v2,[[int a1.Kind,int a1.E,int a1.Item,int a1.Loc,int a1.To,int a1.aM,int a1.aQ,int a1.Ref,aG 1 fI a1.bT]]⟩)])) rfl rfl rfl (aN rfl rfl (.cons rfl (.cons rfl .nil)) wU ?_) ?_
  refine dD (c:=_) Tryz.func70 rfl rfl ?_;intro Q hret hnorm
  refine tc aA 8 (.mk ?_)
  obtain ⟨j20,h2,h1⟩:=bJ h1
  refine bL (Out:=λy H'=>(∃ (a:Int) (k:Unit),a=j20/\y=int a/\H'=hk [(1,⟨29,9,true,true,v2,[[int a1.Kind,int a1.E,int a1.Item,int a1.Loc,int a1.To,int a1.aM,int a1.aQ,int a1.Ref,aG 1 fI a1.bT]]⟩)])) rfl rfl rfl (aN rfl rfl (.cons rfl (.cons rfl .nil)) wN ?_) ?_
  refine dD (c:=_) Tryz.func117 rfl rfl ?_;intro Q hret hnorm
  refine tc aA 8 (.mk ?_)
  refine sY (aH (y:=aB true) (qP rfl rfl rfl) (congrArg aB (by decide))) ?_
  refine tr aA 2 (.mk ?_)
  refine sY (aH (y:=aB true) (mU rfl rfl rfl) (congrArg aB (by decide))) ?_
  refine tr aA 8 (.mk ?_)
  refine sY (jS (r:=73) rfl Tryz.underlying21 Tryz.underlying5 rfl (by decide)) ?_
  obtain ⟨x21,e21,h2⟩:=bJ h2
  refine sC wO (wC e21) ?_
  refine tr aA 2 (.mk ?_)
  obtain rfl:=bE h2
  refine dM (hret _ _ (hk [(1,⟨29,9,true,true,v2,[[int a1.Kind,int a1.E,int a1.Item,int a1.Loc,int a1.To,int a1.aM,int a1.aQ,int a1.Ref,aG 1 fI a1.bT]]⟩)]) (.tmp rfl .nil) (HK.le ⟨rfl,trivial⟩) ?_)
  exact ⟨x21,(),rfl,rfl,rfl⟩
  rintro y _ ⟨y2_1,_,rfl,hc,rfl⟩
  subst hc
  refine nb aA h1 λx22 h1=>?_
  refine tr aA 2 (.mk ?_)
  obtain rfl:=bE h1
  refine dM (hret _ _ (hk [(1,⟨29,9,true,true,v2,[[int a1.Kind,int a1.E,int a1.Item,int a1.Loc,int a1.To,int a1.aM,int a1.aQ,int a1.Ref,aG 1 fI a1.bT]]⟩)]) (.tmp rfl .nil) (HK.le ⟨rfl,trivial⟩) ?_)
  exact ⟨x22,(),rfl,rfl,rfl⟩
  rintro y _ ⟨y4_1_1,_,rfl,hc,rfl⟩
  subst hc
  refine tr aA 1 (.mk ?_)
  refine jn h0 [1,2,3,5,21,22,23] [1] (λ(a:Int×Int) (k:Unit)=>[(6,int a.1),(7,int a.2)]) (λa k=>[]) ⟨λj23 h1=>?_,?_⟩
  cases y4_1_1
  replace h1:=cf h1
  refine tc aA 2 (.mk ?_)
  exact lf h1 () aW
  replace h1:=ct h1
  refine tc aA 5 (.mk ?_)
  obtain ⟨x24,e24,h1⟩:=bJ h1
  refine sC xP (wS e24) ?_
  refine tr aA 6 (.mk ?_)
  exact lf h1 () aW
  rintro ⟨y5_1_1,y5_2_1⟩ _ h0
  replace h0:=pG h0
  refine tc aA 3 (.mk ?_)
  obtain ⟨j25,h1,h0⟩:=bJ h0
  refine bL (Out:=λy H'=>(∃ (a:Unit) (k:Unit),a=j25/\y=.pt 1 v2 0 2/\H'=hk [(1,⟨29,9,true,true,v2,[[int a1.Kind,int a1.E,int a1.Item,int a1.Loc,int a1.To,int a1.aM,int a1.aQ,int a1.Ref,aG 1 fI a1.bT]]⟩)])) rfl rfl rfl (aN rfl rfl (.cons rfl (.cons rfl .nil)) eG ?_) ?_
  refine dD (c:=_) Tryz.func40 rfl rfl ?_;intro Q hret hnorm
  refine tc aA 12 (.mk ?_)
  refine sY (aH (y:=aB false) (aI rfl rfl rfl) (congrArg aB (by decide))) ?_
  refine tr aA 5 (.mk ?_)
  refine sY (aH (y:=aB true) (aI rfl rfl rfl) (congrArg aB (by decide))) ?_
  refine tr aA 10 (.mk ?_)
  obtain rfl:=bE h1
  refine dM (hret _ _ (hk [(1,⟨29,9,true,true,v2,[[int a1.Kind,int a1.E,int a1.Item,int a1.Loc,int a1.To,int a1.aM,int a1.aQ,int a1.Ref,aG 1 fI a1.bT]]⟩)]) (.tmp rfl .nil) (HK.le ⟨rfl,trivial⟩) ?_)
  exact ⟨(),(),rfl,rfl,rfl⟩
  rintro y _ ⟨_,_,rfl,hc,rfl⟩
  subst hc
  refine tr aA 5 (.mk ?_)
  refine jn h0 [1,2,3,21,22,23] [1] (λ(a:Bool) (k:Unit)=>[(46,aB a)]) (λa k=>[]) ⟨λj26 h1=>?_,?_⟩
  refine tc aA 3 (.mk ?_)
  refine nb aA h1 λx27 h1=>?_
  refine tr aA 1 (.mk ?_)
  cases x27
  replace h1:=cf h1
  refine tr aA 2 (.mk ?_)
  refine nb aA h1 λx28 h1=>?_
  refine tr aA 2 (.mk ?_)
  exact lf h1 () aW
  replace h1:=ct h1
  refine tr aA 5 (.mk ?_)
  exact lf h1 () aW
  rintro y8_1_1 _ h0
  cases y8_1_1
  replace h0:=cf h0
  refine tc aA 23 (.mk ?_)
  obtain ⟨j29,h1,h0⟩:=bJ h0
  refine bL (Out:=λy H'=>(∃ (a:Bool) (k:Unit),a=j29/\y=aB a/\H'=hk [(1,⟨29,9,true,true,v2,[[int a1.Kind,int a1.E,int a1.Item,int a1.Loc,int a1.To,int a1.aM,int a1.aQ,int a1.Ref,aG 1 fI a1.bT]]⟩)])) rfl rfl rfl (aN rfl rfl (.cons rfl (.cons rfl .nil)) wU ?_) ?_
  refine dD (c:=_) Tryz.func70 rfl rfl ?_;intro Q hret hnorm
  refine tc aA 8 (.mk ?_)
  obtain ⟨j30,h2,h1⟩:=bJ h1
  refine bL (Out:=λy H'=>(∃ (a:Int) (k:Unit),a=j30/\y=int a/\H'=hk [(1,⟨29,9,true,true,v2,[[int a1.Kind,int a1.E,int a1.Item,int a1.Loc,int a1.To,int a1.aM,int a1.aQ,int a1.Ref,aG 1 fI a1.bT]]⟩)])) rfl rfl rfl (aN rfl rfl (.cons rfl (.cons rfl .nil)) wN ?_) ?_
  refine dD (c:=_) Tryz.func117 rfl rfl ?_;intro Q hret hnorm
  refine tc aA 8 (.mk ?_)
  refine sY (aH (y:=aB true) (qP rfl rfl rfl) (congrArg aB (by decide))) ?_
  refine tr aA 2 (.mk ?_)
  refine sY (aH (y:=aB true) (mU rfl rfl rfl) (congrArg aB (by decide))) ?_
  refine tr aA 8 (.mk ?_)
  refine sY (jS (r:=76) rfl Tryz.underlying21 Tryz.underlying5 rfl (by decide)) ?_
  obtain ⟨x31,e31,h2⟩:=bJ h2
  refine sC wO (wC e31) ?_
  refine tr aA 2 (.mk ?_)
  obtain rfl:=bE h2
  refine dM (hret _ _ (hk [(1,⟨29,9,true,true,v2,[[int a1.Kind,int a1.E,int a1.Item,int a1.Loc,int a1.To,int a1.aM,int a1.aQ,int a1.Ref,aG 1 fI a1.bT]]⟩)]) (.tmp rfl .nil) (HK.le ⟨rfl,trivial⟩) ?_)
  exact ⟨x31,(),rfl,rfl,rfl⟩
  rintro y _ ⟨y2_1,_,rfl,hc,rfl⟩
  subst hc
  refine nb aA h1 λx32 h1=>?_
  refine tr aA 2 (.mk ?_)
  obtain rfl:=bE h1
  refine dM (hret _ _ (hk [(1,⟨29,9,true,true,v2,[[int a1.Kind,int a1.E,int a1.Item,int a1.Loc,int a1.To,int a1.aM,int a1.aQ,int a1.Ref,aG 1 fI a1.bT]]⟩)]) (.tmp rfl .nil) (HK.le ⟨rfl,trivial⟩) ?_)
  exact ⟨x32,(),rfl,rfl,rfl⟩
  rintro y _ ⟨y4_1_2,_,rfl,hc,rfl⟩
  subst hc
  refine tr aA 1 (.mk ?_)
  refine jn h0 [1,2,3,5,21,22,23] [1] (λ(a:Int×Int) (k:Unit)=>[(6,int a.1),(7,int a.2)]) (λa k=>[]) ⟨λj33 h1=>?_,?_⟩
  cases y4_1_2
  replace h1:=cf h1
  refine tc aA 2 (.mk ?_)
  exact lf h1 () aW
  replace h1:=ct h1
  refine tc aA 5 (.mk ?_)
  obtain ⟨x34,e34,h1⟩:=bJ h1
  refine sC xP (wS e34) ?_
  refine tr aA 6 (.mk ?_)
  exact lf h1 () aW
  rintro ⟨y5_1_2,y5_2_2⟩ _ h0
  replace h0:=pG h0
  refine tc aA 3 (.mk ?_)
  obtain ⟨j35,h1,h0⟩:=bJ h0
  refine bL (Out:=λy H'=>(∃ (a:Unit) (k:Unit),a=j35/\y=.pt 1 v2 0 3/\H'=hk [(1,⟨29,9,true,true,v2,[[int a1.Kind,int a1.E,int a1.Item,int a1.Loc,int a1.To,int a1.aM,int a1.aQ,int a1.Ref,aG 1 fI a1.bT]]⟩)])) rfl rfl rfl (aN rfl rfl (.cons rfl (.cons rfl .nil)) eG ?_) ?_
  refine dD (c:=_) Tryz.func40 rfl rfl ?_;intro Q hret hnorm
  refine tc aA 12 (.mk ?_)
  refine sY (aH (y:=aB false) (aI rfl rfl rfl) (congrArg aB (by decide))) ?_
  refine tr aA 5 (.mk ?_)
  refine sY (aH (y:=aB false) (aI rfl rfl rfl) (congrArg aB (by decide))) ?_
  refine tr aA 5 (.mk ?_)
  refine sY (aH (y:=aB true) (aI rfl rfl rfl) (congrArg aB (by decide))) ?_
  refine tr aA 10 (.mk ?_)
  obtain rfl:=bE h1
  refine dM (hret _ _ (hk [(1,⟨29,9,true,true,v2,[[int a1.Kind,int a1.E,int a1.Item,int a1.Loc,int a1.To,int a1.aM,int a1.aQ,int a1.Ref,aG 1 fI a1.bT]]⟩)]) (.tmp rfl .nil) (HK.le ⟨rfl,trivial⟩) ?_)
  exact ⟨(),(),rfl,rfl,rfl⟩
  rintro y _ ⟨_,_,rfl,hc,rfl⟩
  subst hc
  refine tr aA 5 (.mk ?_)
  refine jn h0 [1,2,3,21,22,23] [1] (λ(a:Bool) (k:Unit)=>[(46,aB a)]) (λa k=>[]) ⟨λj36 h1=>?_,?_⟩
  refine tc aA 3 (.mk ?_)
  refine nb aA h1 λx37 h1=>?_
  refine tr aA 1 (.mk ?_)
  cases x37
  replace h1:=cf h1
  refine tr aA 2 (.mk ?_)
  refine nb aA h1 λx38 h1=>?_
  refine tr aA 2 (.mk ?_)
  exact lf h1 () aW
  replace h1:=ct h1
  refine tr aA 5 (.mk ?_)
  exact lf h1 () aW
  rintro y8_1_2 _ h0
  cases y8_1_2
  replace h0:=cf h0
  refine tc aA 23 (.mk ?_)
  obtain ⟨j39,h1,h0⟩:=bJ h0
  refine bL (Out:=λy H'=>(∃ (a:Bool) (k:Unit),a=j39/\y=aB a/\H'=hk [(1,⟨29,9,true,true,v2,[[int a1.Kind,int a1.E,int a1.Item,int a1.Loc,int a1.To,int a1.aM,int a1.aQ,int a1.Ref,aG 1 fI a1.bT]]⟩)])) rfl rfl rfl (aN rfl rfl (.cons rfl (.cons rfl .nil)) wU ?_) ?_
  refine dD (c:=_) Tryz.func70 rfl rfl ?_;intro Q hret hnorm
  refine tc aA 8 (.mk ?_)
  obtain ⟨j40,h2,h1⟩:=bJ h1
  refine bL (Out:=λy H'=>(∃ (a:Int) (k:Unit),a=j40/\y=int a/\H'=hk [(1,⟨29,9,true,true,v2,[[int a1.Kind,int a1.E,int a1.Item,int a1.Loc,int a1.To,int a1.aM,int a1.aQ,int a1.Ref,aG 1 fI a1.bT]]⟩)])) rfl rfl rfl (aN rfl rfl (.cons rfl (.cons rfl .nil)) wN ?_) ?_
  refine dD (c:=_) Tryz.func117 rfl rfl ?_;intro Q hret hnorm
  refine tc aA 8 (.mk ?_)
  refine sY (aH (y:=aB true) (qP rfl rfl rfl) (congrArg aB (by decide))) ?_
  refine tr aA 2 (.mk ?_)
  refine sY (aH (y:=aB true) (mU rfl rfl rfl) (congrArg aB (by decide))) ?_
  refine tr aA 8 (.mk ?_)
  refine sY (jS (r:=84) rfl Tryz.underlying21 Tryz.underlying5 rfl (by decide)) ?_
  obtain ⟨x41,e41,h2⟩:=bJ h2
  refine sC wO (wC e41) ?_
  refine tr aA 2 (.mk ?_)
  obtain rfl:=bE h2
  refine dM (hret _ _ (hk [(1,⟨29,9,true,true,v2,[[int a1.Kind,int a1.E,int a1.Item,int a1.Loc,int a1.To,int a1.aM,int a1.aQ,int a1.Ref,aG 1 fI a1.bT]]⟩)]) (.tmp rfl .nil) (HK.le ⟨rfl,trivial⟩) ?_)
  exact ⟨x41,(),rfl,rfl,rfl⟩
  rintro y _ ⟨y2_1,_,rfl,hc,rfl⟩
  subst hc
  refine nb aA h1 λx42 h1=>?_
  refine tr aA 2 (.mk ?_)
  obtain rfl:=bE h1
  refine dM (hret _ _ (hk [(1,⟨29,9,true,true,v2,[[int a1.Kind,int a1.E,int a1.Item,int a1.Loc,int a1.To,int a1.aM,int a1.aQ,int a1.Ref,aG 1 fI a1.bT]]⟩)]) (.tmp rfl .nil) (HK.le ⟨rfl,trivial⟩) ?_)
  exact ⟨x42,(),rfl,rfl,rfl⟩
  rintro y _ ⟨y4_1_3,_,rfl,hc,rfl⟩
  subst hc
  refine tr aA 1 (.mk ?_)
  refine jn h0 [1,2,3,5,21,22,23] [1] (λ(a:Int×Int) (k:Unit)=>[(6,int a.1),(7,int a.2)]) (λa k=>[]) ⟨λj43 h1=>?_,?_⟩
  cases y4_1_3
  replace h1:=cf h1
  refine tc aA 2 (.mk ?_)
  exact lf h1 () aW
  replace h1:=ct h1
  refine tc aA 5 (.mk ?_)
  obtain ⟨x44,e44,h1⟩:=bJ h1
  refine sC xP (wS e44) ?_
  refine tr aA 6 (.mk ?_)
  exact lf h1 () aW
  rintro ⟨y5_1_3,y5_2_3⟩ _ h0
  replace h0:=pG h0
  refine tc aA 3 (.mk ?_)
  obtain ⟨j45,h1,h0⟩:=bJ h0
  refine bL (Out:=λy H'=>(∃ (a:Unit) (k:Unit),a=j45/\y=.pt 1 v2 0 4/\H'=hk [(1,⟨29,9,true,true,v2,[[int a1.Kind,int a1.E,int a1.Item,int a1.Loc,int a1.To,int a1.aM,int a1.aQ,int a1.Ref,aG 1 fI a1.bT]]⟩)])) rfl rfl rfl (aN rfl rfl (.cons rfl (.cons rfl .nil)) eG ?_) ?_
  refine dD (c:=_) Tryz.func40 rfl rfl ?_;intro Q hret hnorm
  refine tc aA 12 (.mk ?_)
  refine sY (aH (y:=aB false) (aI rfl rfl rfl) (congrArg aB (by decide))) ?_
  refine tr aA 5 (.mk ?_)
  refine sY (aH (y:=aB false) (aI rfl rfl rfl) (congrArg aB (by decide))) ?_
  refine tr aA 5 (.mk ?_)
  refine sY (aH (y:=aB false) (aI rfl rfl rfl) (congrArg aB (by decide))) ?_
  refine tr aA 5 (.mk ?_)
  refine sY (aH (y:=aB true) (aI rfl rfl rfl) (congrArg aB (by decide))) ?_
  refine tr aA 10 (.mk ?_)
  obtain rfl:=bE h1
  refine dM (hret _ _ (hk [(1,⟨29,9,true,true,v2,[[int a1.Kind,int a1.E,int a1.Item,int a1.Loc,int a1.To,int a1.aM,int a1.aQ,int a1.Ref,aG 1 fI a1.bT]]⟩)]) (.tmp rfl .nil) (HK.le ⟨rfl,trivial⟩) ?_)
  exact ⟨(),(),rfl,rfl,rfl⟩
  rintro y _ ⟨_,_,rfl,hc,rfl⟩
  subst hc
  refine tr aA 5 (.mk ?_)
  refine jn h0 [1,2,3,21,22,23] [1] (λ(a:Bool) (k:Unit)=>[(46,aB a)]) (λa k=>[]) ⟨λj46 h1=>?_,?_⟩
  refine tc aA 3 (.mk ?_)
  refine nb aA h1 λx47 h1=>?_
  refine tr aA 1 (.mk ?_)
  cases x47
  replace h1:=cf h1
  refine tr aA 2 (.mk ?_)
  refine nb aA h1 λx48 h1=>?_
  refine tr aA 2 (.mk ?_)
  exact lf h1 () aW
  replace h1:=ct h1
  refine tr aA 5 (.mk ?_)
  exact lf h1 () aW
  rintro y8_1_3 _ h0
  cases y8_1_3
  replace h0:=cf h0
  refine tc aA 23 (.mk ?_)
  obtain ⟨j49,h1,h0⟩:=bJ h0
  refine bL (Out:=λy H'=>(∃ (a:Bool) (k:Unit),a=j49/\y=aB a/\H'=hk [(1,⟨29,9,true,true,v2,[[int a1.Kind,int a1.E,int a1.Item,int a1.Loc,int a1.To,int a1.aM,int a1.aQ,int a1.Ref,aG 1 fI a1.bT]]⟩)])) rfl rfl rfl (aN rfl rfl (.cons rfl (.cons rfl .nil)) wU ?_) ?_
  refine dD (c:=_) Tryz.func70 rfl rfl ?_;intro Q hret hnorm
  refine tc aA 8 (.mk ?_)
  obtain ⟨j50,h2,h1⟩:=bJ h1
  refine bL (Out:=λy H'=>(∃ (a:Int) (k:Unit),a=j50/\y=int a/\H'=hk [(1,⟨29,9,true,true,v2,[[int a1.Kind,int a1.E,int a1.Item,int a1.Loc,int a1.To,int a1.aM,int a1.aQ,int a1.Ref,aG 1 fI a1.bT]]⟩)])) rfl rfl rfl (aN rfl rfl (.cons rfl (.cons rfl .nil)) wN ?_) ?_
  refine dD (c:=_) Tryz.func117 rfl rfl ?_;intro Q hret hnorm
  refine tc aA 8 (.mk ?_)
  refine sY (aH (y:=aB true) (qP rfl rfl rfl) (congrArg aB (by decide))) ?_
  refine tr aA 2 (.mk ?_)
  refine sY (aH (y:=aB true) (mU rfl rfl rfl) (congrArg aB (by decide))) ?_
  refine tr aA 8 (.mk ?_)
  refine sY (jS (r:=81) rfl Tryz.underlying21 Tryz.underlying5 rfl (by decide)) ?_
  obtain ⟨x51,e51,h2⟩:=bJ h2
  refine sC wO (wC e51) ?_
  refine tr aA 2 (.mk ?_)
  obtain rfl:=bE h2
  refine dM (hret _ _ (hk [(1,⟨29,9,true,true,v2,[[int a1.Kind,int a1.E,int a1.Item,int a1.Loc,int a1.To,int a1.aM,int a1.aQ,int a1.Ref,aG 1 fI a1.bT]]⟩)]) (.tmp rfl .nil) (HK.le ⟨rfl,trivial⟩) ?_)
  exact ⟨x51,(),rfl,rfl,rfl⟩
  rintro y _ ⟨y2_1,_,rfl,hc,rfl⟩
  subst hc
  refine nb aA h1 λx52 h1=>?_
  refine tr aA 2 (.mk ?_)
  obtain rfl:=bE h1
  refine dM (hret _ _ (hk [(1,⟨29,9,true,true,v2,[[int a1.Kind,int a1.E,int a1.Item,int a1.Loc,int a1.To,int a1.aM,int a1.aQ,int a1.Ref,aG 1 fI a1.bT]]⟩)]) (.tmp rfl .nil) (HK.le ⟨rfl,trivial⟩) ?_)
  exact ⟨x52,(),rfl,rfl,rfl⟩
  rintro y _ ⟨y4_1_4,_,rfl,hc,rfl⟩
  subst hc
  refine tr aA 1 (.mk ?_)
  refine jn h0 [1,2,3,5,21,22,23] [1] (λ(a:Int×Int) (k:Unit)=>[(6,int a.1),(7,int a.2)]) (λa k=>[]) ⟨λj53 h1=>?_,?_⟩
  cases y4_1_4
  replace h1:=cf h1
  refine tc aA 2 (.mk ?_)
  exact lf h1 () aW
  replace h1:=ct h1
  refine tc aA 5 (.mk ?_)
  obtain ⟨x54,e54,h1⟩:=bJ h1
  refine sC xP (wS e54) ?_
  refine tr aA 6 (.mk ?_)
  exact lf h1 () aW
  rintro ⟨y5_1_4,y5_2_4⟩ _ h0
  replace h0:=pG h0
  refine tc aA 3 (.mk ?_)
  obtain ⟨j55,h1,h0⟩:=bJ h0
  refine bL (Out:=λy H'=>(∃ (a:Unit) (k:Unit),a=j55/\y=.pt 1 v2 0 5/\H'=hk [(1,⟨29,9,true,true,v2,[[int a1.Kind,int a1.E,int a1.Item,int a1.Loc,int a1.To,int a1.aM,int a1.aQ,int a1.Ref,aG 1 fI a1.bT]]⟩)])) rfl rfl rfl (aN rfl rfl (.cons rfl (.cons rfl .nil)) eG ?_) ?_
  refine dD (c:=_) Tryz.func40 rfl rfl ?_;intro Q hret hnorm
  refine tc aA 12 (.mk ?_)
  refine sY (aH (y:=aB false) (aI rfl rfl rfl) (congrArg aB (by decide))) ?_
  refine tr aA 5 (.mk ?_)
  refine sY (aH (y:=aB false) (aI rfl rfl rfl) (congrArg aB (by decide))) ?_
  refine tr aA 5 (.mk ?_)
  refine sY (aH (y:=aB false) (aI rfl rfl rfl) (congrArg aB (by decide))) ?_
  refine tr aA 5 (.mk ?_)
  refine sY (aH (y:=aB false) (aI rfl rfl rfl) (congrArg aB (by decide))) ?_
  refine tr aA 5 (.mk ?_)
  refine sY (aH (y:=aB true) (aI rfl rfl rfl) (congrArg aB (by decide))) ?_
  refine tr aA 10 (.mk ?_)
  obtain rfl:=bE h1
  refine dM (hret _ _ (hk [(1,⟨29,9,true,true,v2,[[int a1.Kind,int a1.E,int a1.Item,int a1.Loc,int a1.To,int a1.aM,int a1.aQ,int a1.Ref,aG 1 fI a1.bT]]⟩)]) (.tmp rfl .nil) (HK.le ⟨rfl,trivial⟩) ?_)
  exact ⟨(),(),rfl,rfl,rfl⟩
  rintro y _ ⟨_,_,rfl,hc,rfl⟩
  subst hc
  refine tr aA 5 (.mk ?_)
  refine jn h0 [1,2,3,21,22,23] [1] (λ(a:Bool) (k:Unit)=>[(46,aB a)]) (λa k=>[]) ⟨λj56 h1=>?_,?_⟩
  refine tc aA 3 (.mk ?_)
  refine nb aA h1 λx57 h1=>?_
  refine tr aA 1 (.mk ?_)
  cases x57
  replace h1:=cf h1
  refine tr aA 2 (.mk ?_)
  refine nb aA h1 λx58 h1=>?_
  refine tr aA 2 (.mk ?_)
  exact lf h1 () aW
  replace h1:=ct h1
  refine tr aA 5 (.mk ?_)
  exact lf h1 () aW
  rintro y8_1_4 _ h0
  cases y8_1_4
  replace h0:=cf h0
  refine tc aA 23 (.mk ?_)
  obtain ⟨j59,h1,h0⟩:=bJ h0
  refine bL (Out:=λy H'=>(∃ (a:Bool) (k:Unit),a=j59/\y=aB a/\H'=hk [(1,⟨29,9,true,true,v2,[[int a1.Kind,int a1.E,int a1.Item,int a1.Loc,int a1.To,int a1.aM,int a1.aQ,int a1.Ref,aG 1 fI a1.bT]]⟩)])) rfl rfl rfl (aN rfl rfl (.cons rfl (.cons rfl .nil)) wU ?_) ?_
  refine dD (c:=_) Tryz.func70 rfl rfl ?_;intro Q hret hnorm
  refine tc aA 8 (.mk ?_)
  obtain ⟨j60,h2,h1⟩:=bJ h1
  refine bL (Out:=λy H'=>(∃ (a:Int) (k:Unit),a=j60/\y=int a/\H'=hk [(1,⟨29,9,true,true,v2,[[int a1.Kind,int a1.E,int a1.Item,int a1.Loc,int a1.To,int a1.aM,int a1.aQ,int a1.Ref,aG 1 fI a1.bT]]⟩)])) rfl rfl rfl (aN rfl rfl (.cons rfl (.cons rfl .nil)) wN ?_) ?_
  refine dD (c:=_) Tryz.func117 rfl rfl ?_;intro Q hret hnorm
  refine tc aA 8 (.mk ?_)
  refine sY (aH (y:=aB true) (qP rfl rfl rfl) (congrArg aB (by decide))) ?_
  refine tr aA 2 (.mk ?_)
  refine sY (aH (y:=aB true) (mU rfl rfl rfl) (congrArg aB (by decide))) ?_
  refine tr aA 8 (.mk ?_)
  refine sY (jS (r:=65) rfl Tryz.underlying21 Tryz.underlying5 rfl (by decide)) ?_
  obtain ⟨x61,e61,h2⟩:=bJ h2
  refine sC wO (wC e61) ?_
  refine tr aA 2 (.mk ?_)
  obtain rfl:=bE h2
  refine dM (hret _ _ (hk [(1,⟨29,9,true,true,v2,[[int a1.Kind,int a1.E,int a1.Item,int a1.Loc,int a1.To,int a1.aM,int a1.aQ,int a1.Ref,aG 1 fI a1.bT]]⟩)]) (.tmp rfl .nil) (HK.le ⟨rfl,trivial⟩) ?_)
  exact ⟨x61,(),rfl,rfl,rfl⟩
  rintro y _ ⟨y2_1,_,rfl,hc,rfl⟩
  subst hc
  refine nb aA h1 λx62 h1=>?_
  refine tr aA 2 (.mk ?_)
  obtain rfl:=bE h1
  refine dM (hret _ _ (hk [(1,⟨29,9,true,true,v2,[[int a1.Kind,int a1.E,int a1.Item,int a1.Loc,int a1.To,int a1.aM,int a1.aQ,int a1.Ref,aG 1 fI a1.bT]]⟩)]) (.tmp rfl .nil) (HK.le ⟨rfl,trivial⟩) ?_)
  exact ⟨x62,(),rfl,rfl,rfl⟩
  rintro y _ ⟨y4_1_5,_,rfl,hc,rfl⟩
  subst hc
  refine tr aA 1 (.mk ?_)
  refine jn h0 [1,2,3,5,21,22,23] [1] (λ(a:Int×Int) (k:Unit)=>[(6,int a.1),(7,int a.2)]) (λa k=>[]) ⟨λj63 h1=>?_,?_⟩
  cases y4_1_5
  replace h1:=cf h1
  refine tc aA 2 (.mk ?_)
  exact lf h1 () aW
  replace h1:=ct h1
  refine tc aA 5 (.mk ?_)
  obtain ⟨x64,e64,h1⟩:=bJ h1
  refine sC xP (wS e64) ?_
  refine tr aA 6 (.mk ?_)
  exact lf h1 () aW
  rintro ⟨y5_1_5,y5_2_5⟩ _ h0
  replace h0:=pG h0
  refine tc aA 3 (.mk ?_)
  obtain ⟨j65,h1,h0⟩:=bJ h0
  refine bL (Out:=λy H'=>(∃ (a:Unit) (k:Unit),a=j65/\y=.pt 1 v2 0 6/\H'=hk [(1,⟨29,9,true,true,v2,[[int a1.Kind,int a1.E,int a1.Item,int a1.Loc,int a1.To,int a1.aM,int a1.aQ,int a1.Ref,aG 1 fI a1.bT]]⟩)])) rfl rfl rfl (aN rfl rfl (.cons rfl (.cons rfl .nil)) eG ?_) ?_
  refine dD (c:=_) Tryz.func40 rfl rfl ?_;intro Q hret hnorm
  refine tc aA 12 (.mk ?_)
  refine sY (aH (y:=aB false) (aI rfl rfl rfl) (congrArg aB (by decide))) ?_
  refine tr aA 5 (.mk ?_)
  refine sY (aH (y:=aB false) (aI rfl rfl rfl) (congrArg aB (by decide))) ?_
  refine tr aA 5 (.mk ?_)
  refine sY (aH (y:=aB false) (aI rfl rfl rfl) (congrArg aB (by decide))) ?_
  refine tr aA 5 (.mk ?_)
  refine sY (aH (y:=aB false) (aI rfl rfl rfl) (congrArg aB (by decide))) ?_
  refine tr aA 5 (.mk ?_)
  refine sY (aH (y:=aB false) (aI rfl rfl rfl) (congrArg aB (by decide))) ?_
  refine tr aA 5 (.mk ?_)
  refine sY (aH (y:=aB true) (aI rfl rfl rfl) (congrArg aB (by decide))) ?_
  refine tr aA 10 (.mk ?_)
  obtain rfl:=bE h1
  refine dM (hret _ _ (hk [(1,⟨29,9,true,true,v2,[[int a1.Kind,int a1.E,int a1.Item,int a1.Loc,int a1.To,int a1.aM,int a1.aQ,int a1.Ref,aG 1 fI a1.bT]]⟩)]) (.tmp rfl .nil) (HK.le ⟨rfl,trivial⟩) ?_)
  exact ⟨(),(),rfl,rfl,rfl⟩
  rintro y _ ⟨_,_,rfl,hc,rfl⟩
  subst hc
  refine tr aA 5 (.mk ?_)
  refine jn h0 [1,2,3,21,22,23] [1] (λ(a:Bool) (k:Unit)=>[(46,aB a)]) (λa k=>[]) ⟨λj66 h1=>?_,?_⟩
  refine tc aA 3 (.mk ?_)
  refine nb aA h1 λx67 h1=>?_
  refine tr aA 1 (.mk ?_)
  cases x67
  replace h1:=cf h1
  refine tr aA 2 (.mk ?_)
  refine nb aA h1 λx68 h1=>?_
  refine tr aA 2 (.mk ?_)
  exact lf h1 () aW
  replace h1:=ct h1
  refine tr aA 5 (.mk ?_)
  exact lf h1 () aW
  rintro y8_1_5 _ h0
  cases y8_1_5
  replace h0:=cf h0
  refine tc aA 23 (.mk ?_)
  obtain ⟨j69,h1,h0⟩:=bJ h0
  refine bL (Out:=λy H'=>(∃ (a:Bool) (k:Unit),a=j69/\y=aB a/\H'=hk [(1,⟨29,9,true,true,v2,[[int a1.Kind,int a1.E,int a1.Item,int a1.Loc,int a1.To,int a1.aM,int a1.aQ,int a1.Ref,aG 1 fI a1.bT]]⟩)])) rfl rfl rfl (aN rfl rfl (.cons rfl (.cons rfl .nil)) wU ?_) ?_
  refine dD (c:=_) Tryz.func70 rfl rfl ?_;intro Q hret hnorm
  refine tc aA 8 (.mk ?_)
  obtain ⟨j70,h2,h1⟩:=bJ h1
  refine bL (Out:=λy H'=>(∃ (a:Int) (k:Unit),a=j70/\y=int a/\H'=hk [(1,⟨29,9,true,true,v2,[[int a1.Kind,int a1.E,int a1.Item,int a1.Loc,int a1.To,int a1.aM,int a1.aQ,int a1.Ref,aG 1 fI a1.bT]]⟩)])) rfl rfl rfl (aN rfl rfl (.cons rfl (.cons rfl .nil)) wN ?_) ?_
  refine dD (c:=_) Tryz.func117 rfl rfl ?_;intro Q hret hnorm
  refine tc aA 8 (.mk ?_)
  refine sY (aH (y:=aB true) (qP rfl rfl rfl) (congrArg aB (by decide))) ?_
  refine tr aA 2 (.mk ?_)
  refine sY (aH (y:=aB true) (mU rfl rfl rfl) (congrArg aB (by decide))) ?_
  refine tr aA 8 (.mk ?_)
  refine sY (jS (r:=82) rfl Tryz.underlying21 Tryz.underlying5 rfl (by decide)) ?_
  obtain ⟨x71,e71,h2⟩:=bJ h2
  refine sC wO (wC e71) ?_
  refine tr aA 2 (.mk ?_)
  obtain rfl:=bE h2
  refine dM (hret _ _ (hk [(1,⟨29,9,true,true,v2,[[int a1.Kind,int a1.E,int a1.Item,int a1.Loc,int a1.To,int a1.aM,int a1.aQ,int a1.Ref,aG 1 fI a1.bT]]⟩)]) (.tmp rfl .nil) (HK.le ⟨rfl,trivial⟩) ?_)
  exact ⟨x71,(),rfl,rfl,rfl⟩
  rintro y _ ⟨y2_1,_,rfl,hc,rfl⟩
  subst hc
  refine nb aA h1 λx72 h1=>?_
  refine tr aA 2 (.mk ?_)
  obtain rfl:=bE h1
  refine dM (hret _ _ (hk [(1,⟨29,9,true,true,v2,[[int a1.Kind,int a1.E,int a1.Item,int a1.Loc,int a1.To,int a1.aM,int a1.aQ,int a1.Ref,aG 1 fI a1.bT]]⟩)]) (.tmp rfl .nil) (HK.le ⟨rfl,trivial⟩) ?_)
  exact ⟨x72,(),rfl,rfl,rfl⟩
  rintro y _ ⟨y4_1_6,_,rfl,hc,rfl⟩
  subst hc
  refine tr aA 1 (.mk ?_)
  refine jn h0 [1,2,3,5,21,22,23] [1] (λ(a:Int×Int) (k:Unit)=>[(6,int a.1),(7,int a.2)]) (λa k=>[]) ⟨λj73 h1=>?_,?_⟩
  cases y4_1_6
  replace h1:=cf h1
  refine tc aA 2 (.mk ?_)
  exact lf h1 () aW
  replace h1:=ct h1
  refine tc aA 5 (.mk ?_)
  obtain ⟨x74,e74,h1⟩:=bJ h1
  refine sC xP (wS e74) ?_
  refine tr aA 6 (.mk ?_)
  exact lf h1 () aW
  rintro ⟨y5_1_6,y5_2_6⟩ _ h0
  replace h0:=pG h0
  refine tc aA 3 (.mk ?_)
  obtain ⟨j75,h1,h0⟩:=bJ h0
  refine bL (Out:=λy H'=>(∃ (a:Unit) (k:Unit),a=j75/\y=.pt 1 v2 0 7/\H'=hk [(1,⟨29,9,true,true,v2,[[int a1.Kind,int a1.E,int a1.Item,int a1.Loc,int a1.To,int a1.aM,int a1.aQ,int a1.Ref,aG 1 fI a1.bT]]⟩)])) rfl rfl rfl (aN rfl rfl (.cons rfl (.cons rfl .nil)) eG ?_) ?_
  refine dD (c:=_) Tryz.func40 rfl rfl ?_;intro Q hret hnorm
  refine tc aA 12 (.mk ?_)
  refine sY (aH (y:=aB false) (aI rfl rfl rfl) (congrArg aB (by decide))) ?_
  refine tr aA 5 (.mk ?_)
  refine sY (aH (y:=aB false) (aI rfl rfl rfl) (congrArg aB (by decide))) ?_
  refine tr aA 5 (.mk ?_)
  refine sY (aH (y:=aB false) (aI rfl rfl rfl) (congrArg aB (by decide))) ?_
  refine tr aA 5 (.mk ?_)
  refine sY (aH (y:=aB false) (aI rfl rfl rfl) (congrArg aB (by decide))) ?_
  refine tr aA 5 (.mk ?_)
  refine sY (aH (y:=aB false) (aI rfl rfl rfl) (congrArg aB (by decide))) ?_
  refine tr aA 5 (.mk ?_)
  refine sY (aH (y:=aB false) (aI rfl rfl rfl) (congrArg aB (by decide))) ?_
  refine tr aA 12 (.mk ?_)
  obtain rfl:=bE h1
  refine dM (hret _ _ (hk [(1,⟨29,9,true,true,v2,[[int a1.Kind,int a1.E,int a1.Item,int a1.Loc,int a1.To,int a1.aM,int a1.aQ,int a1.Ref,aG 1 fI a1.bT]]⟩)]) (.tmp rfl .nil) (HK.le ⟨rfl,trivial⟩) ?_)
  exact ⟨(),(),rfl,rfl,rfl⟩
  rintro y _ ⟨_,_,rfl,hc,rfl⟩
  subst hc
  refine tr aA 5 (.mk ?_)
  refine jn h0 [1,2,3,21,22,23] [1] (λ(a:Bool) (k:Unit)=>[(46,aB a)]) (λa k=>[]) ⟨λj76 h1=>?_,?_⟩
  refine tc aA 3 (.mk ?_)
  refine nb aA h1 λx77 h1=>?_
  refine tr aA 1 (.mk ?_)
  cases x77
  replace h1:=cf h1
  refine tr aA 2 (.mk ?_)
  refine nb aA h1 λx78 h1=>?_
  refine tr aA 2 (.mk ?_)
  exact lf h1 () aW
  replace h1:=ct h1
  refine tr aA 5 (.mk ?_)
  exact lf h1 () aW
  rintro y8_1_6 _ h0
  cases y8_1_6
  replace h0:=cf h0
  refine tc aA 12 (.mk ?_)
  refine nb aA h0 λx79 h0=>?_
  refine tr aA 1 (.mk ?_)
  cases x79
  replace h0:=cf h0
  refine tc aA 3 (.mk ?_)
  refine jn h0 [] [] (λ(a:Bool) (k:Unit)=>[(2,aB a)]) (λa k=>[]) ⟨λj80 h1=>?_,?_⟩
  refine tc aA 3 (.mk ?_)
  refine sY (iT rfl Tryz.underlying23 rfl (mK _)) ?_
  refine nb aA h1 λx81 h1=>?_
  refine tr aA 1 (.mk ?_)
  cases x81
  replace h1:=cf h1
  refine tr aA 27 (.mk ?_)
  exact lf h1 () aW
  replace h1:=ct h1
  refine tr aA 2 (.mk ?_)
  refine nb aA h1 λx82 h1=>?_
  refine tr aA 1 (.mk ?_)
  cases x82
  replace h1:=cf h1
  refine tr aA 11 (.mk ?_)
  refine nb aA h1 λx83 h1=>?_
  refine tr aA 1 (.mk ?_)
  cases x83
  replace h1:=cf h1
  refine tr aA 10 (.mk ?_)
  exact lf h1 () aW
  replace h1:=ct h1
  refine tr aA 4 (.mk ?_)
  refine nb aA h1 λx84 h1=>?_
  refine tr aA 1 (.mk ?_)
  refine nb aA h1 λx85 h1=>?_
  refine tr aA 3 (.mk ?_)
  exact lf h1 () aW
  replace h1:=ct h1
  refine tr aA 4 (.mk ?_)
  refine nb aA h1 λx86 h1=>?_
  refine tr aA 1 (.mk ?_)
  refine nb aA h1 λx87 h1=>?_
  refine tr aA 2 (.mk ?_)
  cases x87
  replace h1:=cf h1
  refine tr aA 14 (.mk ?_)
  exact lf h1 () aW
  replace h1:=ct h1
  refine tr aA 2 (.mk ?_)
  refine nb aA h1 λx88 h1=>?_
  refine tr aA 1 (.mk ?_)
  cases x88
  replace h1:=cf h1
  refine tr aA 10 (.mk ?_)
  exact lf h1 () aW
  replace h1:=ct h1
  refine tr aA 4 (.mk ?_)
  refine nb aA h1 λx89 h1=>?_
  refine tr aA 1 (.mk ?_)
  refine nb aA h1 λx90 h1=>?_
  refine tr aA 3 (.mk ?_)
  exact lf h1 () aW
  rintro y9_1 _ h0
  obtain rfl:=bE h0
  refine wR hret (rT .nil) ?_
  exact .refl _
  replace h0:=ct h0
  refine tc aA 5 (.mk ?_)
  obtain ⟨x91,e91,h0⟩:=bJ h0
  refine sC aH7 (aL2 e91) ?_
  refine tr aA 2 (.mk ?_)
  obtain rfl:=bE h0
  refine wR hret (rT .nil) ?_
  exact .refl _
  replace h0:=ct h0
  refine tc aA 5 (.mk ?_)
  obtain rfl:=bE h0
  refine wR hret (rT .nil) ?_
  exact .refl _
  replace h0:=ct h0
  refine tc aA 5 (.mk ?_)
  obtain rfl:=bE h0
  refine wR hret (rT .nil) ?_
  exact .refl _
  replace h0:=ct h0
  refine tc aA 5 (.mk ?_)
  obtain rfl:=bE h0
  refine wR hret (rT .nil) ?_
  exact .refl _
  replace h0:=ct h0
  refine tc aA 5 (.mk ?_)
  obtain rfl:=bE h0
  refine wR hret (rT .nil) ?_
  exact .refl _
  replace h0:=ct h0
  refine tc aA 5 (.mk ?_)
  obtain rfl:=bE h0
  refine wR hret (rT .nil) ?_
  exact .refl _
  replace h0:=ct h0
  refine tc aA 5 (.mk ?_)
  obtain rfl:=bE h0
  refine wR hret (rT .nil) ?_
  exact .refl _
  replace h0:=ct h0
  refine tc aA 5 (.mk ?_)
  obtain rfl:=bE h0
  refine wR hret (rT .nil) ?_
  exact .refl _
  replace h0:=ct h0
  refine tc aA 5 (.mk ?_)
  obtain rfl:=bE h0
  refine wR hret (rT .nil) ?_
  exact .refl _
end
end Go.Pv
