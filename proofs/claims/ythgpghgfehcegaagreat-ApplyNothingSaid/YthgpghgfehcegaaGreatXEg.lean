import Derived.Test.YthgpghgfehcegaaGreatXEf
set_option linter.unusedVariables false
set_option linter.unusedSimpArgs false
namespace Go.Pv
open Go.Proofs
set_option maxRecDepth 100000
set_option maxHeartbeats 4000000
noncomputable section
def nJ (n:Nat) (a1:aS):Option (Bool) :=
(show Option (Bool) from
bnd (decide (a1.Kind<1)) λx4 =>
cond x4 (some (true:Bool)) (bnd (decide (a1.Kind>16)) λx5 =>
some (x5:Bool))).bind <| λy0_1 =>
cond y0_1 (some ((false:Bool))) (MG.bind λx6 =>
(ix ([x6.a0,x6.a1,x6.a2,x6.a3,x6.a4,x6.a5,x6.a6,x6.a7,x6.a8,x6.a9,x6.kK,x6.oM,x6.a12,x6.rZ,x6.IR,x6.JU,x6.a16]:List (List UInt8)) a1.Kind).bind λx7 =>
(show Option ((Bool)) from
(show Option ((Int)) from
(qL x7 69).bind λx11 =>
some (x11:Int)).bind <| λy2_1 =>
bnd (decide (y2_1>=0)) λx12 =>
some (x12:Bool)).bind <| λy4_1 =>
(show Option (Int×Int) from
cond y4_1 ((oV a1.Kind 69).bind λx14 =>
some ((x14.1:Int),(x14.2:Int))) (some ((0:Int),(0:Int)))).bind <| p2 λ(y5_1:Int) (y5_2:Int) =>
(show Option ((Unit)) from
some ()).bind <| λ_ =>
(show Option (Bool) from
bnd (decide (a1.E<y5_1)) λx17 =>
cond x17 (some (true:Bool)) (bnd (decide (a1.E>y5_2)) λx18 =>
some (x18:Bool))).bind <| λy8_1 =>
cond y8_1 (some ((false:Bool))) ((show Option ((Bool)) from
(show Option ((Int)) from
(qL x7 73).bind λx21 =>
some (x21:Int)).bind <| λy2_1 =>
bnd (decide (y2_1>=0)) λx22 =>
some (x22:Bool)).bind <| λy4_1_1 =>
(show Option (Int×Int) from
cond y4_1_1 ((oV a1.Kind 73).bind λx24 =>
some ((x24.1:Int),(x24.2:Int))) (some ((0:Int),(0:Int)))).bind <| p2 λ(y5_1_1:Int) (y5_2_1:Int) =>
(show Option ((Unit)) from
some ()).bind <| λ_ =>
(show Option (Bool) from
bnd (decide (a1.Item<y5_1_1)) λx27 =>
cond x27 (some (true:Bool)) (bnd (decide (a1.Item>y5_2_1)) λx28 =>
some (x28:Bool))).bind <| λy8_1_1 =>
cond y8_1_1 (some ((false:Bool))) ((show Option ((Bool)) from
(show Option ((Int)) from
(qL x7 76).bind λx31 =>
some (x31:Int)).bind <| λy2_1 =>
bnd (decide (y2_1>=0)) λx32 =>
some (x32:Bool)).bind <| λy4_1_2 =>
(show Option (Int×Int) from
cond y4_1_2 ((oV a1.Kind 76).bind λx34 =>
some ((x34.1:Int),(x34.2:Int))) (some ((0:Int),(0:Int)))).bind <| p2 λ(y5_1_2:Int) (y5_2_2:Int) =>
(show Option ((Unit)) from
some ()).bind <| λ_ =>
(show Option (Bool) from
bnd (decide (a1.Loc<y5_1_2)) λx37 =>
cond x37 (some (true:Bool)) (bnd (decide (a1.Loc>y5_2_2)) λx38 =>
some (x38:Bool))).bind <| λy8_1_2 =>
cond y8_1_2 (some ((false:Bool))) ((show Option ((Bool)) from
(show Option ((Int)) from
(qL x7 84).bind λx41 =>
some (x41:Int)).bind <| λy2_1 =>
bnd (decide (y2_1>=0)) λx42 =>
some (x42:Bool)).bind <| λy4_1_3 =>
(show Option (Int×Int) from
cond y4_1_3 ((oV a1.Kind 84).bind λx44 =>
some ((x44.1:Int),(x44.2:Int))) (some ((0:Int),(0:Int)))).bind <| p2 λ(y5_1_3:Int) (y5_2_3:Int) =>
(show Option ((Unit)) from
some ()).bind <| λ_ =>
(show Option (Bool) from
bnd (decide (a1.To<y5_1_3)) λx47 =>
cond x47 (some (true:Bool)) (bnd (decide (a1.To>y5_2_3)) λx48 =>
some (x48:Bool))).bind <| λy8_1_3 =>
cond y8_1_3 (some ((false:Bool))) ((show Option ((Bool)) from
(show Option ((Int)) from
(qL x7 81).bind λx51 =>
some (x51:Int)).bind <| λy2_1 =>
bnd (decide (y2_1>=0)) λx52 =>
some (x52:Bool)).bind <| λy4_1_4 =>
(show Option (Int×Int) from
cond y4_1_4 ((oV a1.Kind 81).bind λx54 =>
some ((x54.1:Int),(x54.2:Int))) (some ((0:Int),(0:Int)))).bind <| p2 λ(y5_1_4:Int) (y5_2_4:Int) =>
(show Option ((Unit)) from
some ()).bind <| λ_ =>
(show Option (Bool) from
bnd (decide (a1.aQ<y5_1_4)) λx57 =>
cond x57 (some (true:Bool)) (bnd (decide (a1.aQ>y5_2_4)) λx58 =>
some (x58:Bool))).bind <| λy8_1_4 =>
cond y8_1_4 (some ((false:Bool))) ((show Option ((Bool)) from
(show Option ((Int)) from
(qL x7 65).bind λx61 =>
some (x61:Int)).bind <| λy2_1 =>
bnd (decide (y2_1>=0)) λx62 =>
some (x62:Bool)).bind <| λy4_1_5 =>
(show Option (Int×Int) from
cond y4_1_5 ((oV a1.Kind 65).bind λx64 =>
some ((x64.1:Int),(x64.2:Int))) (some ((0:Int),(0:Int)))).bind <| p2 λ(y5_1_5:Int) (y5_2_5:Int) =>
(show Option ((Unit)) from
some ()).bind <| λ_ =>
(show Option (Bool) from
bnd (decide (a1.bD<y5_1_5)) λx67 =>
cond x67 (some (true:Bool)) (bnd (decide (a1.bD>y5_2_5)) λx68 =>
some (x68:Bool))).bind <| λy8_1_5 =>
cond y8_1_5 (some ((false:Bool))) ((show Option ((Bool)) from
(show Option ((Int)) from
(qL x7 82).bind λx71 =>
some (x71:Int)).bind <| λy2_1 =>
bnd (decide (y2_1>=0)) λx72 =>
some (x72:Bool)).bind <| λy4_1_6 =>
(show Option (Int×Int) from
cond y4_1_6 ((oV a1.Kind 82).bind λx74 =>
some ((x74.1:Int),(x74.2:Int))) (some ((0:Int),(0:Int)))).bind <| p2 λ(y5_1_6:Int) (y5_2_6:Int) =>
(show Option ((Unit)) from
some ()).bind <| λ_ =>
(show Option (Bool) from
bnd (decide (a1.Ref<y5_1_6)) λx77 =>
cond x77 (some (true:Bool)) (bnd (decide (a1.Ref>y5_2_6)) λx78 =>
some (x78:Bool))).bind <| λy8_1_6 =>
cond y8_1_6 (some ((false:Bool))) (bnd (decide (a1.Kind=11)) λx79 =>
cond x79 ((J3 n a1.bT).bind λx91 =>
some ((x91:Bool))) ((show Option (Bool) from
bnd (decide ((a1.bT.length:Int)=0)) λx81 =>
cond x81 (bnd (decide (a1.Kind=8)) λx82 =>
cond x82 (bnd (decide (a1.To=a1.Loc)) λx86 =>
bnd (!x86) λx87 =>
cond x87 (bnd (decide (a1.Kind=12)) λx88 =>
cond x88 (bnd (decide (a1.To=a1.E)) λx89 =>
bnd (!x89) λx90 =>
some (x90:Bool)) (some (true:Bool))) (some (false:Bool))) (bnd (decide (a1.Kind=12)) λx83 =>
cond x83 (bnd (decide (a1.To=a1.E)) λx84 =>
bnd (!x84) λx85 =>
some (x85:Bool)) (some (true:Bool)))) (some (false:Bool))).bind <| λy9_1 =>
some ((y9_1:Bool)))))))))))
theorem qP {n:Nat} {a1:aS} {r:Bool} (h0:nJ n a1=some r):PP Tryz.prog 28 [.agg (aS.av a1)] (λy=>y=aF r):=by
  unfold nJ at h0
  refine uD (R0:=λy H=>Cv (jZ H) y (aF r)) ?_ (λy H hc=>⟨_,rfl,yD r,hc⟩)
  refine gN (c:=_) Tryz.func28 rfl rfl ?_;intro Q hret hnorm
  refine tc aN 2 (.mk ?_)
  refine sB 1 λv2=>?_
  refine tr aN 4 (.mk ?_)
  refine jn h0 [1,2] [1] (λ(a:Bool) (k:Unit)=>[(16,aF a)]) (λa k=>[]) ⟨λj3 h1=>?_,?_⟩
  refine tc aN 3 (.mk ?_)
  refine nb aN h1 λx4 h1=>?_
  refine tr aN 1 (.mk ?_)
  cases x4
  replace h1:=cf h1
  refine tr aN 2 (.mk ?_)
  refine nb aN h1 λx5 h1=>?_
  refine tr aN 2 (.mk ?_)
  exact lf h1 () eD
  replace h1:=ct h1
  refine tr aN 5 (.mk ?_)
  exact lf h1 () eD
  rintro y0_1 _ h0
  cases y0_1
  replace h0:=cf h0
  refine tc aN 3 (.mk ?_)
  refine K9 [0,0,2,7,15] (rl [(1,[1]),(2,[1])] []) (λi=>[1]) (λi=>true) [0,1,2,3,4] mixed (by kernel_rfl) ?_;intro K hK
  obtain ⟨x6,e6,h0⟩:=dJ h0
  refine eP (λH hH=>xQ rfl rfl .nil aLR (bK.refl _) (aHE _ e6)) ?_
  refine eF aZB ?_
  refine eL fC ?_
  obtain ⟨x7,e7,h0⟩:=dJ h0
  refine eP (λH hH=>uR (g:=fS) (l:=([x6.a0,x6.a1,x6.a2,x6.a3,x6.a4,x6.a5,x6.a6,x6.a7,x6.a8,x6.a9,x6.kK,x6.oM,x6.a12,x6.rZ,x6.IR,x6.JU,x6.a16]:List (List UInt8))) (v:=x7) (w:=str x7) rfl Tryz.underlying94 gQ rfl rfl rfl e7 (λ_=>rfl) hw1) ?_
  refine eA ?_
  refine N8 (hK _ ?_)
  refine tc aN 1 (.mk ?_)
  refine aHR rfl rfl rfl rfl rfl rfl rfl rfl ?_
  refine aGN rfl rfl rfl rfl Tryz.underlying9 rfl λb8=>⟨rfl,?_⟩
  refine tc aN 20 (.mk ?_)
  obtain ⟨j9,h1,h0⟩:=dJ h0
  refine gV (Out:=λy H'=>(∃ (a:Bool) (k:Unit),a=j9/\y=aF a/\H'=hk [(1,⟨41,9,true,true,v2,[[int a1.Kind,int a1.E,int a1.Item,int a1.Loc,int a1.To,int a1.aQ,int a1.bD,int a1.Ref,aD 1 fI a1.bT]]⟩)])) rfl rfl rfl (d9 rfl rfl (.cons rfl (.cons rfl .nil)) qC ?_) ?_
  refine gN (c:=_) Tryz.func49 rfl rfl ?_;intro Q hret hnorm
  refine tc aN 8 (.mk ?_)
  obtain ⟨j10,h2,h1⟩:=dJ h1
  refine gV (Out:=λy H'=>(∃ (a:Int) (k:Unit),a=j10/\y=int a/\H'=hk [(1,⟨41,9,true,true,v2,[[int a1.Kind,int a1.E,int a1.Item,int a1.Loc,int a1.To,int a1.aQ,int a1.bD,int a1.Ref,aD 1 fI a1.bT]]⟩)])) rfl rfl rfl (d9 rfl rfl (.cons rfl (.cons rfl .nil)) aM0 ?_) ?_
  refine gN (c:=_) Tryz.func94 rfl rfl ?_;intro Q hret hnorm
  refine tc aN 8 (.mk ?_)
  refine sY (bX (y:=aF true) (pP rfl rfl rfl) (congrArg aF (by decide))) ?_
  refine tr aN 2 (.mk ?_)
  refine sY (bX (y:=aF true) (qT rfl rfl rfl) (congrArg aF (by decide))) ?_
  refine tr aN 8 (.mk ?_)
  refine sY (pX (r:=69) rfl Tryz.underlying21 Tryz.underlying5 rfl (by decide)) ?_
  obtain ⟨x11,e11,h2⟩:=dJ h2
  refine sC Q3 (rA _ e11) ?_
  refine tr aN 2 (.mk ?_)
  obtain rfl:=eG h2
  refine iL (hret _ _ (hk [(1,⟨41,9,true,true,v2,[[int a1.Kind,int a1.E,int a1.Item,int a1.Loc,int a1.To,int a1.aQ,int a1.bD,int a1.Ref,aD 1 fI a1.bT]]⟩)]) (.tmp rfl .nil) (HK.le ⟨rfl,trivial⟩) ?_)
  exact ⟨x11,(),rfl,rfl,rfl⟩
  rintro y _ ⟨y2_1,_,rfl,hc,rfl⟩
  subst hc
  refine nb aN h1 λx12 h1=>?_
  refine tr aN 2 (.mk ?_)
  obtain rfl:=eG h1
  refine iL (hret _ _ (hk [(1,⟨41,9,true,true,v2,[[int a1.Kind,int a1.E,int a1.Item,int a1.Loc,int a1.To,int a1.aQ,int a1.bD,int a1.Ref,aD 1 fI a1.bT]]⟩)]) (.tmp rfl .nil) (HK.le ⟨rfl,trivial⟩) ?_)
  exact ⟨x12,(),rfl,rfl,rfl⟩
  rintro y _ ⟨y4_1,_,rfl,hc,rfl⟩
  subst hc
  refine tr aN 1 (.mk ?_)
  refine jn h0 [1,2,3,5,21,22,23] [1] (λ(a:Int×Int) (k:Unit)=>[(6,int a.1),(7,int a.2)]) (λa k=>[]) ⟨λj13 h1=>?_,?_⟩
  cases y4_1
  replace h1:=cf h1
  refine tc aN 2 (.mk ?_)
  exact lf h1 () eD
  replace h1:=ct h1
  refine tc aN 5 (.mk ?_)
  obtain ⟨x14,e14,h1⟩:=dJ h1
  refine sC aC8 (qZ e14) ?_
  refine tr aN 6 (.mk ?_)
  exact lf h1 () eD
  rintro ⟨y5_1,y5_2⟩ _ h0
  replace h0:=uE h0
  refine tc aN 3 (.mk ?_)
  obtain ⟨j15,h1,h0⟩:=dJ h0
  refine gV (Out:=λy H'=>(∃ (a:Unit) (k:Unit),a=j15/\y=.pt 1 v2 0 1/\H'=hk [(1,⟨41,9,true,true,v2,[[int a1.Kind,int a1.E,int a1.Item,int a1.Loc,int a1.To,int a1.aQ,int a1.bD,int a1.Ref,aD 1 fI a1.bT]]⟩)])) rfl rfl rfl (d9 rfl rfl (.cons rfl (.cons rfl .nil)) sH ?_) ?_
  refine gN (c:=_) Tryz.func51 rfl rfl ?_;intro Q hret hnorm
  refine tc aN 12 (.mk ?_)
  refine sY (bX (y:=aF true) (gB rfl rfl rfl) (congrArg aF (by decide))) ?_
  refine tr aN 10 (.mk ?_)
  obtain rfl:=eG h1
  refine iL (hret _ _ (hk [(1,⟨41,9,true,true,v2,[[int a1.Kind,int a1.E,int a1.Item,int a1.Loc,int a1.To,int a1.aQ,int a1.bD,int a1.Ref,aD 1 fI a1.bT]]⟩)]) (.tmp rfl .nil) (HK.le ⟨rfl,trivial⟩) ?_)
  exact ⟨(),(),rfl,rfl,rfl⟩
  rintro y _ ⟨_,_,rfl,hc,rfl⟩
  subst hc
  refine tr aN 5 (.mk ?_)
  refine jn h0 [1,2,3,21,22,23] [1] (λ(a:Bool) (k:Unit)=>[(46,aF a)]) (λa k=>[]) ⟨λj16 h1=>?_,?_⟩
  refine tc aN 3 (.mk ?_)
  refine nb aN h1 λx17 h1=>?_
  refine tr aN 1 (.mk ?_)
  cases x17
  replace h1:=cf h1
  refine tr aN 2 (.mk ?_)
  refine nb aN h1 λx18 h1=>?_
  refine tr aN 2 (.mk ?_)
  exact lf h1 () eD
  replace h1:=ct h1
  refine tr aN 5 (.mk ?_)
  exact lf h1 () eD
  rintro y8_1 _ h0
  cases y8_1
  replace h0:=cf h0
  refine tc aN 23 (.mk ?_)
  obtain ⟨j19,h1,h0⟩:=dJ h0
  refine gV (Out:=λy H'=>(∃ (a:Bool) (k:Unit),a=j19/\y=aF a/\H'=hk [(1,⟨41,9,true,true,v2,[[int a1.Kind,int a1.E,int a1.Item,int a1.Loc,int a1.To,int a1.aQ,int a1.bD,int a1.Ref,aD 1 fI a1.bT]]⟩)])) rfl rfl rfl (d9 rfl rfl (.cons rfl (.cons rfl .nil)) qC ?_) ?_
  refine gN (c:=_) Tryz.func49 rfl rfl ?_;intro Q hret hnorm
  refine tc aN 8 (.mk ?_)
  obtain ⟨j20,h2,h1⟩:=dJ h1
  refine gV (Out:=λy H'=>(∃ (a:Int) (k:Unit),a=j20/\y=int a/\H'=hk [(1,⟨41,9,true,true,v2,[[int a1.Kind,int a1.E,int a1.Item,int a1.Loc,int a1.To,int a1.aQ,int a1.bD,int a1.Ref,aD 1 fI a1.bT]]⟩)])) rfl rfl rfl (d9 rfl rfl (.cons rfl (.cons rfl .nil)) aM0 ?_) ?_
  refine gN (c:=_) Tryz.func94 rfl rfl ?_;intro Q hret hnorm
  refine tc aN 8 (.mk ?_)
  refine sY (bX (y:=aF true) (pP rfl rfl rfl) (congrArg aF (by decide))) ?_
  refine tr aN 2 (.mk ?_)
  refine sY (bX (y:=aF true) (qT rfl rfl rfl) (congrArg aF (by decide))) ?_
  refine tr aN 8 (.mk ?_)
  refine sY (pX (r:=73) rfl Tryz.underlying21 Tryz.underlying5 rfl (by decide)) ?_
  obtain ⟨x21,e21,h2⟩:=dJ h2
  refine sC Q3 (rA _ e21) ?_
  refine tr aN 2 (.mk ?_)
  obtain rfl:=eG h2
  refine iL (hret _ _ (hk [(1,⟨41,9,true,true,v2,[[int a1.Kind,int a1.E,int a1.Item,int a1.Loc,int a1.To,int a1.aQ,int a1.bD,int a1.Ref,aD 1 fI a1.bT]]⟩)]) (.tmp rfl .nil) (HK.le ⟨rfl,trivial⟩) ?_)
  exact ⟨x21,(),rfl,rfl,rfl⟩
  rintro y _ ⟨y2_1,_,rfl,hc,rfl⟩
  subst hc
  refine nb aN h1 λx22 h1=>?_
  refine tr aN 2 (.mk ?_)
  obtain rfl:=eG h1
  refine iL (hret _ _ (hk [(1,⟨41,9,true,true,v2,[[int a1.Kind,int a1.E,int a1.Item,int a1.Loc,int a1.To,int a1.aQ,int a1.bD,int a1.Ref,aD 1 fI a1.bT]]⟩)]) (.tmp rfl .nil) (HK.le ⟨rfl,trivial⟩) ?_)
  exact ⟨x22,(),rfl,rfl,rfl⟩
  rintro y _ ⟨y4_1_1,_,rfl,hc,rfl⟩
  subst hc
  refine tr aN 1 (.mk ?_)
  refine jn h0 [1,2,3,5,21,22,23] [1] (λ(a:Int×Int) (k:Unit)=>[(6,int a.1),(7,int a.2)]) (λa k=>[]) ⟨λj23 h1=>?_,?_⟩
  cases y4_1_1
  replace h1:=cf h1
  refine tc aN 2 (.mk ?_)
  exact lf h1 () eD
  replace h1:=ct h1
  refine tc aN 5 (.mk ?_)
  obtain ⟨x24,e24,h1⟩:=dJ h1
  refine sC aC8 (qZ e24) ?_
  refine tr aN 6 (.mk ?_)
  exact lf h1 () eD
  rintro ⟨y5_1_1,y5_2_1⟩ _ h0
  replace h0:=uE h0
  refine tc aN 3 (.mk ?_)
  obtain ⟨j25,h1,h0⟩:=dJ h0
  refine gV (Out:=λy H'=>(∃ (a:Unit) (k:Unit),a=j25/\y=.pt 1 v2 0 2/\H'=hk [(1,⟨41,9,true,true,v2,[[int a1.Kind,int a1.E,int a1.Item,int a1.Loc,int a1.To,int a1.aQ,int a1.bD,int a1.Ref,aD 1 fI a1.bT]]⟩)])) rfl rfl rfl (d9 rfl rfl (.cons rfl (.cons rfl .nil)) sH ?_) ?_
  refine gN (c:=_) Tryz.func51 rfl rfl ?_;intro Q hret hnorm
  refine tc aN 12 (.mk ?_)
  refine sY (bX (y:=aF false) (gB rfl rfl rfl) (congrArg aF (by decide))) ?_
  refine tr aN 5 (.mk ?_)
  refine sY (bX (y:=aF true) (gB rfl rfl rfl) (congrArg aF (by decide))) ?_
  refine tr aN 10 (.mk ?_)
  obtain rfl:=eG h1
  refine iL (hret _ _ (hk [(1,⟨41,9,true,true,v2,[[int a1.Kind,int a1.E,int a1.Item,int a1.Loc,int a1.To,int a1.aQ,int a1.bD,int a1.Ref,aD 1 fI a1.bT]]⟩)]) (.tmp rfl .nil) (HK.le ⟨rfl,trivial⟩) ?_)
  exact ⟨(),(),rfl,rfl,rfl⟩
  rintro y _ ⟨_,_,rfl,hc,rfl⟩
  subst hc
  refine tr aN 5 (.mk ?_)
  refine jn h0 [1,2,3,21,22,23] [1] (λ(a:Bool) (k:Unit)=>[(46,aF a)]) (λa k=>[]) ⟨λj26 h1=>?_,?_⟩
  refine tc aN 3 (.mk ?_)
  refine nb aN h1 λx27 h1=>?_
  refine tr aN 1 (.mk ?_)
  cases x27
  replace h1:=cf h1
  refine tr aN 2 (.mk ?_)
  refine nb aN h1 λx28 h1=>?_
  refine tr aN 2 (.mk ?_)
  exact lf h1 () eD
  replace h1:=ct h1
  refine tr aN 5 (.mk ?_)
  exact lf h1 () eD
  rintro y8_1_1 _ h0
  cases y8_1_1
  replace h0:=cf h0
  refine tc aN 23 (.mk ?_)
  obtain ⟨j29,h1,h0⟩:=dJ h0
  refine gV (Out:=λy H'=>(∃ (a:Bool) (k:Unit),a=j29/\y=aF a/\H'=hk [(1,⟨41,9,true,true,v2,[[int a1.Kind,int a1.E,int a1.Item,int a1.Loc,int a1.To,int a1.aQ,int a1.bD,int a1.Ref,aD 1 fI a1.bT]]⟩)])) rfl rfl rfl (d9 rfl rfl (.cons rfl (.cons rfl .nil)) qC ?_) ?_
  refine gN (c:=_) Tryz.func49 rfl rfl ?_;intro Q hret hnorm
  refine tc aN 8 (.mk ?_)
  obtain ⟨j30,h2,h1⟩:=dJ h1
  refine gV (Out:=λy H'=>(∃ (a:Int) (k:Unit),a=j30/\y=int a/\H'=hk [(1,⟨41,9,true,true,v2,[[int a1.Kind,int a1.E,int a1.Item,int a1.Loc,int a1.To,int a1.aQ,int a1.bD,int a1.Ref,aD 1 fI a1.bT]]⟩)])) rfl rfl rfl (d9 rfl rfl (.cons rfl (.cons rfl .nil)) aM0 ?_) ?_
  refine gN (c:=_) Tryz.func94 rfl rfl ?_;intro Q hret hnorm
  refine tc aN 8 (.mk ?_)
  refine sY (bX (y:=aF true) (pP rfl rfl rfl) (congrArg aF (by decide))) ?_
  refine tr aN 2 (.mk ?_)
  refine sY (bX (y:=aF true) (qT rfl rfl rfl) (congrArg aF (by decide))) ?_
  refine tr aN 8 (.mk ?_)
  refine sY (pX (r:=76) rfl Tryz.underlying21 Tryz.underlying5 rfl (by decide)) ?_
  obtain ⟨x31,e31,h2⟩:=dJ h2
  refine sC Q3 (rA _ e31) ?_
  refine tr aN 2 (.mk ?_)
  obtain rfl:=eG h2
  refine iL (hret _ _ (hk [(1,⟨41,9,true,true,v2,[[int a1.Kind,int a1.E,int a1.Item,int a1.Loc,int a1.To,int a1.aQ,int a1.bD,int a1.Ref,aD 1 fI a1.bT]]⟩)]) (.tmp rfl .nil) (HK.le ⟨rfl,trivial⟩) ?_)
  exact ⟨x31,(),rfl,rfl,rfl⟩
  rintro y _ ⟨y2_1,_,rfl,hc,rfl⟩
  subst hc
  refine nb aN h1 λx32 h1=>?_
  refine tr aN 2 (.mk ?_)
  obtain rfl:=eG h1
  refine iL (hret _ _ (hk [(1,⟨41,9,true,true,v2,[[int a1.Kind,int a1.E,int a1.Item,int a1.Loc,int a1.To,int a1.aQ,int a1.bD,int a1.Ref,aD 1 fI a1.bT]]⟩)]) (.tmp rfl .nil) (HK.le ⟨rfl,trivial⟩) ?_)
  exact ⟨x32,(),rfl,rfl,rfl⟩
  rintro y _ ⟨y4_1_2,_,rfl,hc,rfl⟩
  subst hc
  refine tr aN 1 (.mk ?_)
  refine jn h0 [1,2,3,5,21,22,23] [1] (λ(a:Int×Int) (k:Unit)=>[(6,int a.1),(7,int a.2)]) (λa k=>[]) ⟨λj33 h1=>?_,?_⟩
  cases y4_1_2
  replace h1:=cf h1
  refine tc aN 2 (.mk ?_)
  exact lf h1 () eD
  replace h1:=ct h1
  refine tc aN 5 (.mk ?_)
  obtain ⟨x34,e34,h1⟩:=dJ h1
  refine sC aC8 (qZ e34) ?_
  refine tr aN 6 (.mk ?_)
  exact lf h1 () eD
  rintro ⟨y5_1_2,y5_2_2⟩ _ h0
  replace h0:=uE h0
  refine tc aN 3 (.mk ?_)
  obtain ⟨j35,h1,h0⟩:=dJ h0
  refine gV (Out:=λy H'=>(∃ (a:Unit) (k:Unit),a=j35/\y=.pt 1 v2 0 3/\H'=hk [(1,⟨41,9,true,true,v2,[[int a1.Kind,int a1.E,int a1.Item,int a1.Loc,int a1.To,int a1.aQ,int a1.bD,int a1.Ref,aD 1 fI a1.bT]]⟩)])) rfl rfl rfl (d9 rfl rfl (.cons rfl (.cons rfl .nil)) sH ?_) ?_
  refine gN (c:=_) Tryz.func51 rfl rfl ?_;intro Q hret hnorm
  refine tc aN 12 (.mk ?_)
  refine sY (bX (y:=aF false) (gB rfl rfl rfl) (congrArg aF (by decide))) ?_
  refine tr aN 5 (.mk ?_)
  refine sY (bX (y:=aF false) (gB rfl rfl rfl) (congrArg aF (by decide))) ?_
  refine tr aN 5 (.mk ?_)
  refine sY (bX (y:=aF true) (gB rfl rfl rfl) (congrArg aF (by decide))) ?_
  refine tr aN 10 (.mk ?_)
  obtain rfl:=eG h1
  refine iL (hret _ _ (hk [(1,⟨41,9,true,true,v2,[[int a1.Kind,int a1.E,int a1.Item,int a1.Loc,int a1.To,int a1.aQ,int a1.bD,int a1.Ref,aD 1 fI a1.bT]]⟩)]) (.tmp rfl .nil) (HK.le ⟨rfl,trivial⟩) ?_)
  exact ⟨(),(),rfl,rfl,rfl⟩
  rintro y _ ⟨_,_,rfl,hc,rfl⟩
  subst hc
  refine tr aN 5 (.mk ?_)
  refine jn h0 [1,2,3,21,22,23] [1] (λ(a:Bool) (k:Unit)=>[(46,aF a)]) (λa k=>[]) ⟨λj36 h1=>?_,?_⟩
  refine tc aN 3 (.mk ?_)
  refine nb aN h1 λx37 h1=>?_
  refine tr aN 1 (.mk ?_)
  cases x37
  replace h1:=cf h1
  refine tr aN 2 (.mk ?_)
  refine nb aN h1 λx38 h1=>?_
  refine tr aN 2 (.mk ?_)
  exact lf h1 () eD
  replace h1:=ct h1
  refine tr aN 5 (.mk ?_)
  exact lf h1 () eD
  rintro y8_1_2 _ h0
  cases y8_1_2
  replace h0:=cf h0
  refine tc aN 23 (.mk ?_)
  obtain ⟨j39,h1,h0⟩:=dJ h0
  refine gV (Out:=λy H'=>(∃ (a:Bool) (k:Unit),a=j39/\y=aF a/\H'=hk [(1,⟨41,9,true,true,v2,[[int a1.Kind,int a1.E,int a1.Item,int a1.Loc,int a1.To,int a1.aQ,int a1.bD,int a1.Ref,aD 1 fI a1.bT]]⟩)])) rfl rfl rfl (d9 rfl rfl (.cons rfl (.cons rfl .nil)) qC ?_) ?_
  refine gN (c:=_) Tryz.func49 rfl rfl ?_;intro Q hret hnorm
  refine tc aN 8 (.mk ?_)
  obtain ⟨j40,h2,h1⟩:=dJ h1
  refine gV (Out:=λy H'=>(∃ (a:Int) (k:Unit),a=j40/\y=int a/\H'=hk [(1,⟨41,9,true,true,v2,[[int a1.Kind,int a1.E,int a1.Item,int a1.Loc,int a1.To,int a1.aQ,int a1.bD,int a1.Ref,aD 1 fI a1.bT]]⟩)])) rfl rfl rfl (d9 rfl rfl (.cons rfl (.cons rfl .nil)) aM0 ?_) ?_
  refine gN (c:=_) Tryz.func94 rfl rfl ?_;intro Q hret hnorm
  refine tc aN 8 (.mk ?_)
  refine sY (bX (y:=aF true) (pP rfl rfl rfl) (congrArg aF (by decide))) ?_
  refine tr aN 2 (.mk ?_)
  refine sY (bX (y:=aF true) (qT rfl rfl rfl) (congrArg aF (by decide))) ?_
  refine tr aN 8 (.mk ?_)
  refine sY (pX (r:=84) rfl Tryz.underlying21 Tryz.underlying5 rfl (by decide)) ?_
  obtain ⟨x41,e41,h2⟩:=dJ h2
  refine sC Q3 (rA _ e41) ?_
  refine tr aN 2 (.mk ?_)
  obtain rfl:=eG h2
  refine iL (hret _ _ (hk [(1,⟨41,9,true,true,v2,[[int a1.Kind,int a1.E,int a1.Item,int a1.Loc,int a1.To,int a1.aQ,int a1.bD,int a1.Ref,aD 1 fI a1.bT]]⟩)]) (.tmp rfl .nil) (HK.le ⟨rfl,trivial⟩) ?_)
  exact ⟨x41,(),rfl,rfl,rfl⟩
  rintro y _ ⟨y2_1,_,rfl,hc,rfl⟩
  subst hc
  refine nb aN h1 λx42 h1=>?_
  refine tr aN 2 (.mk ?_)
  obtain rfl:=eG h1
  refine iL (hret _ _ (hk [(1,⟨41,9,true,true,v2,[[int a1.Kind,int a1.E,int a1.Item,int a1.Loc,int a1.To,int a1.aQ,int a1.bD,int a1.Ref,aD 1 fI a1.bT]]⟩)]) (.tmp rfl .nil) (HK.le ⟨rfl,trivial⟩) ?_)
  exact ⟨x42,(),rfl,rfl,rfl⟩
  rintro y _ ⟨y4_1_3,_,rfl,hc,rfl⟩
  subst hc
  refine tr aN 1 (.mk ?_)
  refine jn h0 [1,2,3,5,21,22,23] [1] (λ(a:Int×Int) (k:Unit)=>[(6,int a.1),(7,int a.2)]) (λa k=>[]) ⟨λj43 h1=>?_,?_⟩
  cases y4_1_3
  replace h1:=cf h1
  refine tc aN 2 (.mk ?_)
  exact lf h1 () eD
  replace h1:=ct h1
  refine tc aN 5 (.mk ?_)
  obtain ⟨x44,e44,h1⟩:=dJ h1
  refine sC aC8 (qZ e44) ?_
  refine tr aN 6 (.mk ?_)
  exact lf h1 () eD
  rintro ⟨y5_1_3,y5_2_3⟩ _ h0
  replace h0:=uE h0
  refine tc aN 3 (.mk ?_)
  obtain ⟨j45,h1,h0⟩:=dJ h0
  refine gV (Out:=λy H'=>(∃ (a:Unit) (k:Unit),a=j45/\y=.pt 1 v2 0 4/\H'=hk [(1,⟨41,9,true,true,v2,[[int a1.Kind,int a1.E,int a1.Item,int a1.Loc,int a1.To,int a1.aQ,int a1.bD,int a1.Ref,aD 1 fI a1.bT]]⟩)])) rfl rfl rfl (d9 rfl rfl (.cons rfl (.cons rfl .nil)) sH ?_) ?_
  refine gN (c:=_) Tryz.func51 rfl rfl ?_;intro Q hret hnorm
  refine tc aN 12 (.mk ?_)
  refine sY (bX (y:=aF false) (gB rfl rfl rfl) (congrArg aF (by decide))) ?_
  refine tr aN 5 (.mk ?_)
  refine sY (bX (y:=aF false) (gB rfl rfl rfl) (congrArg aF (by decide))) ?_
  refine tr aN 5 (.mk ?_)
  refine sY (bX (y:=aF false) (gB rfl rfl rfl) (congrArg aF (by decide))) ?_
  refine tr aN 5 (.mk ?_)
  refine sY (bX (y:=aF true) (gB rfl rfl rfl) (congrArg aF (by decide))) ?_
  refine tr aN 10 (.mk ?_)
  obtain rfl:=eG h1
  refine iL (hret _ _ (hk [(1,⟨41,9,true,true,v2,[[int a1.Kind,int a1.E,int a1.Item,int a1.Loc,int a1.To,int a1.aQ,int a1.bD,int a1.Ref,aD 1 fI a1.bT]]⟩)]) (.tmp rfl .nil) (HK.le ⟨rfl,trivial⟩) ?_)
  exact ⟨(),(),rfl,rfl,rfl⟩
  rintro y _ ⟨_,_,rfl,hc,rfl⟩
  subst hc
  refine tr aN 5 (.mk ?_)
  refine jn h0 [1,2,3,21,22,23] [1] (λ(a:Bool) (k:Unit)=>[(46,aF a)]) (λa k=>[]) ⟨λj46 h1=>?_,?_⟩
  refine tc aN 3 (.mk ?_)
  refine nb aN h1 λx47 h1=>?_
  refine tr aN 1 (.mk ?_)
  cases x47
  replace h1:=cf h1
  refine tr aN 2 (.mk ?_)
  refine nb aN h1 λx48 h1=>?_
  refine tr aN 2 (.mk ?_)
  exact lf h1 () eD
  replace h1:=ct h1
  refine tr aN 5 (.mk ?_)
  exact lf h1 () eD
  rintro y8_1_3 _ h0
  cases y8_1_3
  replace h0:=cf h0
  refine tc aN 23 (.mk ?_)
  obtain ⟨j49,h1,h0⟩:=dJ h0
  refine gV (Out:=λy H'=>(∃ (a:Bool) (k:Unit),a=j49/\y=aF a/\H'=hk [(1,⟨41,9,true,true,v2,[[int a1.Kind,int a1.E,int a1.Item,int a1.Loc,int a1.To,int a1.aQ,int a1.bD,int a1.Ref,aD 1 fI a1.bT]]⟩)])) rfl rfl rfl (d9 rfl rfl (.cons rfl (.cons rfl .nil)) qC ?_) ?_
  refine gN (c:=_) Tryz.func49 rfl rfl ?_;intro Q hret hnorm
  refine tc aN 8 (.mk ?_)
  obtain ⟨j50,h2,h1⟩:=dJ h1
  refine gV (Out:=λy H'=>(∃ (a:Int) (k:Unit),a=j50/\y=int a/\H'=hk [(1,⟨41,9,true,true,v2,[[int a1.Kind,int a1.E,int a1.Item,int a1.Loc,int a1.To,int a1.aQ,int a1.bD,int a1.Ref,aD 1 fI a1.bT]]⟩)])) rfl rfl rfl (d9 rfl rfl (.cons rfl (.cons rfl .nil)) aM0 ?_) ?_
  refine gN (c:=_) Tryz.func94 rfl rfl ?_;intro Q hret hnorm
  refine tc aN 8 (.mk ?_)
  refine sY (bX (y:=aF true) (pP rfl rfl rfl) (congrArg aF (by decide))) ?_
  refine tr aN 2 (.mk ?_)
  refine sY (bX (y:=aF true) (qT rfl rfl rfl) (congrArg aF (by decide))) ?_
  refine tr aN 8 (.mk ?_)
  refine sY (pX (r:=81) rfl Tryz.underlying21 Tryz.underlying5 rfl (by decide)) ?_
  obtain ⟨x51,e51,h2⟩:=dJ h2
  refine sC Q3 (rA _ e51) ?_
  refine tr aN 2 (.mk ?_)
  obtain rfl:=eG h2
  refine iL (hret _ _ (hk [(1,⟨41,9,true,true,v2,[[int a1.Kind,int a1.E,int a1.Item,int a1.Loc,int a1.To,int a1.aQ,int a1.bD,int a1.Ref,aD 1 fI a1.bT]]⟩)]) (.tmp rfl .nil) (HK.le ⟨rfl,trivial⟩) ?_)
  exact ⟨x51,(),rfl,rfl,rfl⟩
  rintro y _ ⟨y2_1,_,rfl,hc,rfl⟩
  subst hc
  refine nb aN h1 λx52 h1=>?_
  refine tr aN 2 (.mk ?_)
  obtain rfl:=eG h1
  refine iL (hret _ _ (hk [(1,⟨41,9,true,true,v2,[[int a1.Kind,int a1.E,int a1.Item,int a1.Loc,int a1.To,int a1.aQ,int a1.bD,int a1.Ref,aD 1 fI a1.bT]]⟩)]) (.tmp rfl .nil) (HK.le ⟨rfl,trivial⟩) ?_)
  exact ⟨x52,(),rfl,rfl,rfl⟩
  rintro y _ ⟨y4_1_4,_,rfl,hc,rfl⟩
  subst hc
  refine tr aN 1 (.mk ?_)
  refine jn h0 [1,2,3,5,21,22,23] [1] (λ(a:Int×Int) (k:Unit)=>[(6,int a.1),(7,int a.2)]) (λa k=>[]) ⟨λj53 h1=>?_,?_⟩
  cases y4_1_4
  replace h1:=cf h1
  refine tc aN 2 (.mk ?_)
  exact lf h1 () eD
  replace h1:=ct h1
  refine tc aN 5 (.mk ?_)
  obtain ⟨x54,e54,h1⟩:=dJ h1
  refine sC aC8 (qZ e54) ?_
  refine tr aN 6 (.mk ?_)
  exact lf h1 () eD
  rintro ⟨y5_1_4,y5_2_4⟩ _ h0
  replace h0:=uE h0
  refine tc aN 3 (.mk ?_)
  obtain ⟨j55,h1,h0⟩:=dJ h0
  refine gV (Out:=λy H'=>(∃ (a:Unit) (k:Unit),a=j55/\y=.pt 1 v2 0 5/\H'=hk [(1,⟨41,9,true,true,v2,[[int a1.Kind,int a1.E,int a1.Item,int a1.Loc,int a1.To,int a1.aQ,int a1.bD,int a1.Ref,aD 1 fI a1.bT]]⟩)])) rfl rfl rfl (d9 rfl rfl (.cons rfl (.cons rfl .nil)) sH ?_) ?_
  refine gN (c:=_) Tryz.func51 rfl rfl ?_;intro Q hret hnorm
  refine tc aN 12 (.mk ?_)
  refine sY (bX (y:=aF false) (gB rfl rfl rfl) (congrArg aF (by decide))) ?_
  refine tr aN 5 (.mk ?_)
  refine sY (bX (y:=aF false) (gB rfl rfl rfl) (congrArg aF (by decide))) ?_
  refine tr aN 5 (.mk ?_)
  refine sY (bX (y:=aF false) (gB rfl rfl rfl) (congrArg aF (by decide))) ?_
  refine tr aN 5 (.mk ?_)
  refine sY (bX (y:=aF false) (gB rfl rfl rfl) (congrArg aF (by decide))) ?_
  refine tr aN 5 (.mk ?_)
  refine sY (bX (y:=aF true) (gB rfl rfl rfl) (congrArg aF (by decide))) ?_
  refine tr aN 10 (.mk ?_)
  obtain rfl:=eG h1
  refine iL (hret _ _ (hk [(1,⟨41,9,true,true,v2,[[int a1.Kind,int a1.E,int a1.Item,int a1.Loc,int a1.To,int a1.aQ,int a1.bD,int a1.Ref,aD 1 fI a1.bT]]⟩)]) (.tmp rfl .nil) (HK.le ⟨rfl,trivial⟩) ?_)
  exact ⟨(),(),rfl,rfl,rfl⟩
  rintro y _ ⟨_,_,rfl,hc,rfl⟩
  subst hc
  refine tr aN 5 (.mk ?_)
  refine jn h0 [1,2,3,21,22,23] [1] (λ(a:Bool) (k:Unit)=>[(46,aF a)]) (λa k=>[]) ⟨λj56 h1=>?_,?_⟩
  refine tc aN 3 (.mk ?_)
  refine nb aN h1 λx57 h1=>?_
  refine tr aN 1 (.mk ?_)
  cases x57
  replace h1:=cf h1
  refine tr aN 2 (.mk ?_)
  refine nb aN h1 λx58 h1=>?_
  refine tr aN 2 (.mk ?_)
  exact lf h1 () eD
  replace h1:=ct h1
  refine tr aN 5 (.mk ?_)
  exact lf h1 () eD
  rintro y8_1_4 _ h0
  cases y8_1_4
  replace h0:=cf h0
  refine tc aN 23 (.mk ?_)
  obtain ⟨j59,h1,h0⟩:=dJ h0
  refine gV (Out:=λy H'=>(∃ (a:Bool) (k:Unit),a=j59/\y=aF a/\H'=hk [(1,⟨41,9,true,true,v2,[[int a1.Kind,int a1.E,int a1.Item,int a1.Loc,int a1.To,int a1.aQ,int a1.bD,int a1.Ref,aD 1 fI a1.bT]]⟩)])) rfl rfl rfl (d9 rfl rfl (.cons rfl (.cons rfl .nil)) qC ?_) ?_
  refine gN (c:=_) Tryz.func49 rfl rfl ?_;intro Q hret hnorm
  refine tc aN 8 (.mk ?_)
  obtain ⟨j60,h2,h1⟩:=dJ h1
  refine gV (Out:=λy H'=>(∃ (a:Int) (k:Unit),a=j60/\y=int a/\H'=hk [(1,⟨41,9,true,true,v2,[[int a1.Kind,int a1.E,int a1.Item,int a1.Loc,int a1.To,int a1.aQ,int a1.bD,int a1.Ref,aD 1 fI a1.bT]]⟩)])) rfl rfl rfl (d9 rfl rfl (.cons rfl (.cons rfl .nil)) aM0 ?_) ?_
  refine gN (c:=_) Tryz.func94 rfl rfl ?_;intro Q hret hnorm
  refine tc aN 8 (.mk ?_)
  refine sY (bX (y:=aF true) (pP rfl rfl rfl) (congrArg aF (by decide))) ?_
  refine tr aN 2 (.mk ?_)
  refine sY (bX (y:=aF true) (qT rfl rfl rfl) (congrArg aF (by decide))) ?_
  refine tr aN 8 (.mk ?_)
  refine sY (pX (r:=65) rfl Tryz.underlying21 Tryz.underlying5 rfl (by decide)) ?_
  obtain ⟨x61,e61,h2⟩:=dJ h2
  refine sC Q3 (rA _ e61) ?_
  refine tr aN 2 (.mk ?_)
  obtain rfl:=eG h2
  refine iL (hret _ _ (hk [(1,⟨41,9,true,true,v2,[[int a1.Kind,int a1.E,int a1.Item,int a1.Loc,int a1.To,int a1.aQ,int a1.bD,int a1.Ref,aD 1 fI a1.bT]]⟩)]) (.tmp rfl .nil) (HK.le ⟨rfl,trivial⟩) ?_)
  exact ⟨x61,(),rfl,rfl,rfl⟩
  rintro y _ ⟨y2_1,_,rfl,hc,rfl⟩
  subst hc
  refine nb aN h1 λx62 h1=>?_
  refine tr aN 2 (.mk ?_)
  obtain rfl:=eG h1
  refine iL (hret _ _ (hk [(1,⟨41,9,true,true,v2,[[int a1.Kind,int a1.E,int a1.Item,int a1.Loc,int a1.To,int a1.aQ,int a1.bD,int a1.Ref,aD 1 fI a1.bT]]⟩)]) (.tmp rfl .nil) (HK.le ⟨rfl,trivial⟩) ?_)
  exact ⟨x62,(),rfl,rfl,rfl⟩
  rintro y _ ⟨y4_1_5,_,rfl,hc,rfl⟩
  subst hc
  refine tr aN 1 (.mk ?_)
  refine jn h0 [1,2,3,5,21,22,23] [1] (λ(a:Int×Int) (k:Unit)=>[(6,int a.1),(7,int a.2)]) (λa k=>[]) ⟨λj63 h1=>?_,?_⟩
  cases y4_1_5
  replace h1:=cf h1
  refine tc aN 2 (.mk ?_)
  exact lf h1 () eD
  replace h1:=ct h1
  refine tc aN 5 (.mk ?_)
  obtain ⟨x64,e64,h1⟩:=dJ h1
  refine sC aC8 (qZ e64) ?_
  refine tr aN 6 (.mk ?_)
  exact lf h1 () eD
  rintro ⟨y5_1_5,y5_2_5⟩ _ h0
  replace h0:=uE h0
  refine tc aN 3 (.mk ?_)
  obtain ⟨j65,h1,h0⟩:=dJ h0
  refine gV (Out:=λy H'=>(∃ (a:Unit) (k:Unit),a=j65/\y=.pt 1 v2 0 6/\H'=hk [(1,⟨41,9,true,true,v2,[[int a1.Kind,int a1.E,int a1.Item,int a1.Loc,int a1.To,int a1.aQ,int a1.bD,int a1.Ref,aD 1 fI a1.bT]]⟩)])) rfl rfl rfl (d9 rfl rfl (.cons rfl (.cons rfl .nil)) sH ?_) ?_
  refine gN (c:=_) Tryz.func51 rfl rfl ?_;intro Q hret hnorm
  refine tc aN 12 (.mk ?_)
  refine sY (bX (y:=aF false) (gB rfl rfl rfl) (congrArg aF (by decide))) ?_
  refine tr aN 5 (.mk ?_)
  refine sY (bX (y:=aF false) (gB rfl rfl rfl) (congrArg aF (by decide))) ?_
  refine tr aN 5 (.mk ?_)
  refine sY (bX (y:=aF false) (gB rfl rfl rfl) (congrArg aF (by decide))) ?_
  refine tr aN 5 (.mk ?_)
  refine sY (bX (y:=aF false) (gB rfl rfl rfl) (congrArg aF (by decide))) ?_
  refine tr aN 5 (.mk ?_)
  refine sY (bX (y:=aF false) (gB rfl rfl rfl) (congrArg aF (by decide))) ?_
  refine tr aN 5 (.mk ?_)
  refine sY (bX (y:=aF true) (gB rfl rfl rfl) (congrArg aF (by decide))) ?_
  refine tr aN 10 (.mk ?_)
  obtain rfl:=eG h1
  refine iL (hret _ _ (hk [(1,⟨41,9,true,true,v2,[[int a1.Kind,int a1.E,int a1.Item,int a1.Loc,int a1.To,int a1.aQ,int a1.bD,int a1.Ref,aD 1 fI a1.bT]]⟩)]) (.tmp rfl .nil) (HK.le ⟨rfl,trivial⟩) ?_)
  exact ⟨(),(),rfl,rfl,rfl⟩
  rintro y _ ⟨_,_,rfl,hc,rfl⟩
  subst hc
  refine tr aN 5 (.mk ?_)
  refine jn h0 [1,2,3,21,22,23] [1] (λ(a:Bool) (k:Unit)=>[(46,aF a)]) (λa k=>[]) ⟨λj66 h1=>?_,?_⟩
  refine tc aN 3 (.mk ?_)
  refine nb aN h1 λx67 h1=>?_
  refine tr aN 1 (.mk ?_)
  cases x67
  replace h1:=cf h1
  refine tr aN 2 (.mk ?_)
  refine nb aN h1 λx68 h1=>?_
  refine tr aN 2 (.mk ?_)
  exact lf h1 () eD
  replace h1:=ct h1
  refine tr aN 5 (.mk ?_)
  exact lf h1 () eD
  rintro y8_1_5 _ h0
  cases y8_1_5
  replace h0:=cf h0
  refine tc aN 23 (.mk ?_)
  obtain ⟨j69,h1,h0⟩:=dJ h0
  refine gV (Out:=λy H'=>(∃ (a:Bool) (k:Unit),a=j69/\y=aF a/\H'=hk [(1,⟨41,9,true,true,v2,[[int a1.Kind,int a1.E,int a1.Item,int a1.Loc,int a1.To,int a1.aQ,int a1.bD,int a1.Ref,aD 1 fI a1.bT]]⟩)])) rfl rfl rfl (d9 rfl rfl (.cons rfl (.cons rfl .nil)) qC ?_) ?_
  refine gN (c:=_) Tryz.func49 rfl rfl ?_;intro Q hret hnorm
  refine tc aN 8 (.mk ?_)
  obtain ⟨j70,h2,h1⟩:=dJ h1
  refine gV (Out:=λy H'=>(∃ (a:Int) (k:Unit),a=j70/\y=int a/\H'=hk [(1,⟨41,9,true,true,v2,[[int a1.Kind,int a1.E,int a1.Item,int a1.Loc,int a1.To,int a1.aQ,int a1.bD,int a1.Ref,aD 1 fI a1.bT]]⟩)])) rfl rfl rfl (d9 rfl rfl (.cons rfl (.cons rfl .nil)) aM0 ?_) ?_
  refine gN (c:=_) Tryz.func94 rfl rfl ?_;intro Q hret hnorm
  refine tc aN 8 (.mk ?_)
  refine sY (bX (y:=aF true) (pP rfl rfl rfl) (congrArg aF (by decide))) ?_
  refine tr aN 2 (.mk ?_)
  refine sY (bX (y:=aF true) (qT rfl rfl rfl) (congrArg aF (by decide))) ?_
  refine tr aN 8 (.mk ?_)
  refine sY (pX (r:=82) rfl Tryz.underlying21 Tryz.underlying5 rfl (by decide)) ?_
  obtain ⟨x71,e71,h2⟩:=dJ h2
  refine sC Q3 (rA _ e71) ?_
  refine tr aN 2 (.mk ?_)
  obtain rfl:=eG h2
  refine iL (hret _ _ (hk [(1,⟨41,9,true,true,v2,[[int a1.Kind,int a1.E,int a1.Item,int a1.Loc,int a1.To,int a1.aQ,int a1.bD,int a1.Ref,aD 1 fI a1.bT]]⟩)]) (.tmp rfl .nil) (HK.le ⟨rfl,trivial⟩) ?_)
  exact ⟨x71,(),rfl,rfl,rfl⟩
  rintro y _ ⟨y2_1,_,rfl,hc,rfl⟩
  subst hc
  refine nb aN h1 λx72 h1=>?_
  refine tr aN 2 (.mk ?_)
  obtain rfl:=eG h1
  refine iL (hret _ _ (hk [(1,⟨41,9,true,true,v2,[[int a1.Kind,int a1.E,int a1.Item,int a1.Loc,int a1.To,int a1.aQ,int a1.bD,int a1.Ref,aD 1 fI a1.bT]]⟩)]) (.tmp rfl .nil) (HK.le ⟨rfl,trivial⟩) ?_)
  exact ⟨x72,(),rfl,rfl,rfl⟩
  rintro y _ ⟨y4_1_6,_,rfl,hc,rfl⟩
  subst hc
  refine tr aN 1 (.mk ?_)
  refine jn h0 [1,2,3,5,21,22,23] [1] (λ(a:Int×Int) (k:Unit)=>[(6,int a.1),(7,int a.2)]) (λa k=>[]) ⟨λj73 h1=>?_,?_⟩
  cases y4_1_6
  replace h1:=cf h1
  refine tc aN 2 (.mk ?_)
  exact lf h1 () eD
  replace h1:=ct h1
  refine tc aN 5 (.mk ?_)
  obtain ⟨x74,e74,h1⟩:=dJ h1
  refine sC aC8 (qZ e74) ?_
  refine tr aN 6 (.mk ?_)
  exact lf h1 () eD
  rintro ⟨y5_1_6,y5_2_6⟩ _ h0
  replace h0:=uE h0
  refine tc aN 3 (.mk ?_)
  obtain ⟨j75,h1,h0⟩:=dJ h0
  refine gV (Out:=λy H'=>(∃ (a:Unit) (k:Unit),a=j75/\y=.pt 1 v2 0 7/\H'=hk [(1,⟨41,9,true,true,v2,[[int a1.Kind,int a1.E,int a1.Item,int a1.Loc,int a1.To,int a1.aQ,int a1.bD,int a1.Ref,aD 1 fI a1.bT]]⟩)])) rfl rfl rfl (d9 rfl rfl (.cons rfl (.cons rfl .nil)) sH ?_) ?_
  refine gN (c:=_) Tryz.func51 rfl rfl ?_;intro Q hret hnorm
  refine tc aN 12 (.mk ?_)
  refine sY (bX (y:=aF false) (gB rfl rfl rfl) (congrArg aF (by decide))) ?_
  refine tr aN 5 (.mk ?_)
  refine sY (bX (y:=aF false) (gB rfl rfl rfl) (congrArg aF (by decide))) ?_
  refine tr aN 5 (.mk ?_)
  refine sY (bX (y:=aF false) (gB rfl rfl rfl) (congrArg aF (by decide))) ?_
  refine tr aN 5 (.mk ?_)
  refine sY (bX (y:=aF false) (gB rfl rfl rfl) (congrArg aF (by decide))) ?_
  refine tr aN 5 (.mk ?_)
  refine sY (bX (y:=aF false) (gB rfl rfl rfl) (congrArg aF (by decide))) ?_
  refine tr aN 5 (.mk ?_)
  refine sY (bX (y:=aF false) (gB rfl rfl rfl) (congrArg aF (by decide))) ?_
  refine tr aN 12 (.mk ?_)
  obtain rfl:=eG h1
  refine iL (hret _ _ (hk [(1,⟨41,9,true,true,v2,[[int a1.Kind,int a1.E,int a1.Item,int a1.Loc,int a1.To,int a1.aQ,int a1.bD,int a1.Ref,aD 1 fI a1.bT]]⟩)]) (.tmp rfl .nil) (HK.le ⟨rfl,trivial⟩) ?_)
  exact ⟨(),(),rfl,rfl,rfl⟩
  rintro y _ ⟨_,_,rfl,hc,rfl⟩
  subst hc
  refine tr aN 5 (.mk ?_)
  refine jn h0 [1,2,3,21,22,23] [1] (λ(a:Bool) (k:Unit)=>[(46,aF a)]) (λa k=>[]) ⟨λj76 h1=>?_,?_⟩
  refine tc aN 3 (.mk ?_)
  refine nb aN h1 λx77 h1=>?_
  refine tr aN 1 (.mk ?_)
  cases x77
  replace h1:=cf h1
  refine tr aN 2 (.mk ?_)
  refine nb aN h1 λx78 h1=>?_
  refine tr aN 2 (.mk ?_)
  exact lf h1 () eD
  replace h1:=ct h1
  refine tr aN 5 (.mk ?_)
  exact lf h1 () eD
  rintro y8_1_6 _ h0
  cases y8_1_6
  replace h0:=cf h0
  refine tc aN 12 (.mk ?_)
  refine nb aN h0 λx79 h0=>?_
  refine tr aN 1 (.mk ?_)
  cases x79
  replace h0:=cf h0
  refine tc aN 3 (.mk ?_)
  refine jn h0 [] [] (λ(a:Bool) (k:Unit)=>[(2,aF a)]) (λa k=>[]) ⟨λj80 h1=>?_,?_⟩
  refine tc aN 3 (.mk ?_)
  refine sY (oU rfl Tryz.underlying22 rfl (F9 _)) ?_
  refine nb aN h1 λx81 h1=>?_
  refine tr aN 1 (.mk ?_)
  cases x81
  replace h1:=cf h1
  refine tr aN 27 (.mk ?_)
  exact lf h1 () eD
  replace h1:=ct h1
  refine tr aN 2 (.mk ?_)
  refine nb aN h1 λx82 h1=>?_
  refine tr aN 1 (.mk ?_)
  cases x82
  replace h1:=cf h1
  refine tr aN 11 (.mk ?_)
  refine nb aN h1 λx83 h1=>?_
  refine tr aN 1 (.mk ?_)
  cases x83
  replace h1:=cf h1
  refine tr aN 10 (.mk ?_)
  exact lf h1 () eD
  replace h1:=ct h1
  refine tr aN 4 (.mk ?_)
  refine nb aN h1 λx84 h1=>?_
  refine tr aN 1 (.mk ?_)
  refine nb aN h1 λx85 h1=>?_
  refine tr aN 3 (.mk ?_)
  exact lf h1 () eD
  replace h1:=ct h1
  refine tr aN 4 (.mk ?_)
  refine nb aN h1 λx86 h1=>?_
  refine tr aN 1 (.mk ?_)
  refine nb aN h1 λx87 h1=>?_
  refine tr aN 2 (.mk ?_)
  cases x87
  replace h1:=cf h1
  refine tr aN 14 (.mk ?_)
  exact lf h1 () eD
  replace h1:=ct h1
  refine tr aN 2 (.mk ?_)
  refine nb aN h1 λx88 h1=>?_
  refine tr aN 1 (.mk ?_)
  cases x88
  replace h1:=cf h1
  refine tr aN 10 (.mk ?_)
  exact lf h1 () eD
  replace h1:=ct h1
  refine tr aN 4 (.mk ?_)
  refine nb aN h1 λx89 h1=>?_
  refine tr aN 1 (.mk ?_)
  refine nb aN h1 λx90 h1=>?_
  refine tr aN 3 (.mk ?_)
  exact lf h1 () eD
  rintro y9_1 _ h0
  obtain rfl:=eG h0
  refine wR hret (rT .nil) ?_
  exact .refl _
  replace h0:=ct h0
  refine tc aN 5 (.mk ?_)
  obtain ⟨x91,e91,h0⟩:=dJ h0
  refine sC MQ (aG3 _ e91) ?_
  refine tr aN 2 (.mk ?_)
  obtain rfl:=eG h0
  refine wR hret (rT .nil) ?_
  exact .refl _
  replace h0:=ct h0
  refine tc aN 5 (.mk ?_)
  obtain rfl:=eG h0
  refine wR hret (rT .nil) ?_
  exact .refl _
  replace h0:=ct h0
  refine tc aN 5 (.mk ?_)
  obtain rfl:=eG h0
  refine wR hret (rT .nil) ?_
  exact .refl _
  replace h0:=ct h0
  refine tc aN 5 (.mk ?_)
  obtain rfl:=eG h0
  refine wR hret (rT .nil) ?_
  exact .refl _
  replace h0:=ct h0
  refine tc aN 5 (.mk ?_)
  obtain rfl:=eG h0
  refine wR hret (rT .nil) ?_
  exact .refl _
  replace h0:=ct h0
  refine tc aN 5 (.mk ?_)
  obtain rfl:=eG h0
  refine wR hret (rT .nil) ?_
  exact .refl _
  replace h0:=ct h0
  refine tc aN 5 (.mk ?_)
  obtain rfl:=eG h0
  refine wR hret (rT .nil) ?_
  exact .refl _
  replace h0:=ct h0
  refine tc aN 5 (.mk ?_)
  obtain rfl:=eG h0
  refine wR hret (rT .nil) ?_
  exact .refl _
  replace h0:=ct h0
  refine tc aN 5 (.mk ?_)
  obtain rfl:=eG h0
  refine wR hret (rT .nil) ?_
  exact .refl _
def aFN (n:Nat) (a1:aA) (a2:aS):WB (aA×Int) :=
 .al 1<|.al 2<|.al 3<|.bB 16 (decide (a2.Kind≠1)) λx6=>.ifs [16] x6 (.ret ((a1:aA),1)) (.al 4<|.al 5<|.al 6<|.al 7<|.gv 24<|.jn 1 [2,3,4,5,6,9] [1,2,3] [] (λ_ (a:aA×Int)=>[]) (λ_ a=>[.kp 4 [(aA.av a.1)],.kp 7 [[int a.2]]]) (.un 24 (.kB 28 true<|.gv 29<|.inl 32 ZF Tryz.func69 [1,2,3,4,5,6] [] (λ_ (a:Int)=>.aU []) (λ_ a=>[.kp 7 [[int a]]]) (.cl 8 (lH a1 a2.E a2.Item) aBK mU λx11=>.ret x11) (λy0_1=>.bB 34 (decide (y0_1≠0)) λx12=>.ifs [34] x12 (.ret ((a1:aA),y0_1)) (.kI 35 1<|.kB 28 true<|.gv 29<|.inl 32 YI Tryz.func71 [1,2,3,4,5,6] [] (λ_ (a:Int)=>.aU []) (λ_ a=>[.kp 7 [[int a]]]) (.ln 4 bH.av a1.bP<|.bB 5 (decide ((a1.bP.length:Int)>=40)) λx13=>.ifs [5] x13 (.ret 6) (.ret y0_1)) (λy0_1_1=>.bB 34 (decide (y0_1_1≠0)) λx14=>.ifs [34] x14 (.ret ((a1:aA),(y0_1_1:Int))) (.kI 35 2<|.kB 28 true<|.gv 29<|.inl 32 oG Tryz.func72 [1,2,3] [] (λ_ (a:aA×Int×Int×Int)=>.aU []) (λ_ a=>[.kp 4 [(aA.av a.1)],.kp 5 [[int a.2.1]],.kp 6 [[int a.2.2.1]],.kp 7 [[int a.2.2.2]]]) (.cl 19 (uU n a1 a2.E a2.Item a2.Loc (⟨a2.aQ,a2.bD,0⟩:aB)) aIG yA λx15=>.ret ((x15.1:aA),x15.2.1,x15.2.2.1,x15.2.2.2)) (pw λy0_1_2 q0=>(pw λy0_2 q1=>(pw λy0_3 y0_4=>.bB 34 (decide (y0_4≠0)) λx16=>.ifs [34] x16 (.ret ((y0_1_2:aA),y0_4)) (.kI 35 3<|.kB 28 true<|.gv 29<|.inl 32 kX Tryz.func74 [1,2,3,5,6] [] (λ_ (a:aA×Int)=>.aU []) (λ_ a=>[.kp 4 [(aA.av a.1)],.kp 7 [[int a.2]]]) (.bI 15 (aI (0-a2.bD)) λx17=>.to 17 (aD 2 aH.av ([(⟨0,y0_2⟩:aH),(⟨6,y0_3⟩:aH),(⟨1,x17⟩:aH)]:List aH))<|.cl 18 (oN n y0_1_2 a2.E ([(⟨0,y0_2⟩:aH),(⟨6,y0_3⟩:aH),(⟨1,x17⟩:aH)]:List aH)) wJ qN λx18=>.ret ((x18.1:aA),x18.2)) (pw λy0_1_3 y0_2_1=>.bB 34 (decide (y0_2_1≠0)) λx19=>.ifs [34] x19 (.ret ((y0_1_3:aA),(y0_2_1:Int))) (.kI 35 4<|.kB 28 true<|.gv 29<|.inl 32 o6 Tryz.func76 [1,2,3,5,6] [] (λ_ (a:aA×Int)=>.aU []) (λ_ a=>[.kp 4 [(aA.av a.1)],.kp 7 [[int a.2]]]) (.cl 12 (qD y0_1_3 a2.E a2.Item (⟨0,y0_2,0,0,0,0,0,0,0,0,0⟩:bM)) XZ sO λx20=>.ret ((x20.1:aA),x20.2)) (pw λy0_1_4 y0_2_2=>.bB 34 (decide (y0_2_2≠0)) λx21=>.ifs [34] x21 (.ret ((y0_1_4:aA),(y0_2_2:Int))) (.kI 35 5<|.kB 28 false<|.ret ((y0_1_4:aA),(y0_2_2:Int)))))))) q1) q0))))))) (pw λy1_1 y1_2=>.bB 37 (decide (y1_2≠0)) λx22=>.ifs [37] x22 (.dr [(0,[1]),(1,[7])] [(2,[7])] [1,7] [2] [0,1,2,3] (.ret ((a1:aA),y1_2))) (.al 8<|.dr [(0,[4]),(1,[4]),(3,[8]),(6,[4])] [(2,[8]),(5,[]),(7,[])] [4,8] [2,5,7] [0,1,3,4,2,5,6,7] (.to 59 (aD 8 bH.av ([(⟨a2.E,a2.Item,a2.Loc,a2.aQ,a2.bD,a2.aQ,a2.bD,0⟩:bH)]:List bH))<|.as (y1_1.bP.length<=68719476736) inferInstance<|.ge 57 9<|.bl (y1_1.bP++([(⟨a2.E,a2.Item,a2.Loc,a2.aQ,a2.bD,a2.aQ,a2.bD,0⟩:bH)]:List bH):List bH) λx26=>.as (x26.length<=68719476736) inferInstance<|.ge 60 0<|.ret (((⟨y1_1.bA,y1_1.aW,x26,y1_1.bU,y1_1.bY,y1_1.Done⟩:aA):aA),0)))))
def VK (n:Nat) (a1:aA) (a2:aS):Option (aA×Int):=(aFN n a1 a2).run
theorem aK7 {n a1 a2}:PZ (VK n a1 a2) 41 [.agg (aA.av a1),.agg (aS.av a2)] (λr=>.aU [.agg (aA.av r.1),int r.2]):=by
 refine wm Tryz.func41 ?_
 intro v3
 intro v4
 intro v5
 refine .mk λx6=>?_
 refine .mk .mk ?_
 intro v7
 intro v8
 intro v9
 intro v10
 refine .mk _ (bE (dQ (ps:=[(0,_),(1,_),(2,_),(3,_),(4,_)]) (rows:=[[.fn (.func 69) [] [.pt 1 v3 0 0,.pt 2 v4 0 0,.pt 7 v10 0 0]],[.fn (.func 71) [] [.pt 1 v3 0 0,.pt 7 v10 0 0]],[.fn (.func 72) [] [.pt 1 v3 0 0,.pt 2 v4 0 0,.pt 4 v7 0 0,.pt 5 v8 0 0,.pt 6 v9 0 0,.pt 7 v10 0 0]],[.fn (.func 74) [] [.pt 4 v7 0 0,.pt 2 v4 0 0,.pt 5 v8 0 0,.pt 6 v9 0 0,.pt 7 v10 0 0]],[.fn (.func 76) [] [.pt 4 v7 0 0,.pt 2 v4 0 0,.pt 5 v8 0 0,.pt 7 v10 0 0]]]) rfl Tryz.underlying120 WS (.cons rfl (.cons rfl (.cons rfl (.cons rfl (.cons rfl .nil))))) (by kernel_rfl) rfl rfl rfl)) ?_
 refine .mk ?_ ?_
 refine .mk ?_
 refine .mk _ (bE (iM (j:=0) rfl Tryz.underlying120 xC rfl rfl rfl (.list rfl))) ?_
 refine .mk ?_ ?_
 refine .mk λx11 e11=>?_
 exact .mk
 intro _ _
 refine .mk trivial ?_
 refine .mk λx12=>?_
 refine .mk .mk ?_
 refine .mk ?_
 refine .mk ?_
 refine .mk _ (bE (iM (j:=1) rfl Tryz.underlying120 xC rfl rfl rfl (.list rfl))) ?_
 refine .mk ?_ ?_
 refine .mk ?_
 refine .mk λx13=>?_
 refine .mk .mk ?_
 exact .mk
 intro _ _
 refine .mk trivial ?_
 refine .mk λx14=>?_
 refine .mk .mk ?_
 refine .mk ?_
 refine .mk ?_
 refine .mk _ (bE (iM (j:=2) rfl Tryz.underlying120 xC rfl rfl rfl (.list rfl))) ?_
 refine .mk ?_ ?_
 refine .mk λx15 e15=>?_
 exact .mk
 rintro ⟨y0_1_2,y0_2,y0_3,y0_4⟩ _
 refine .mk trivial ?_
 refine .mk λx16=>?_
 refine .mk .mk ?_
 refine .mk ?_
 refine .mk ?_
 refine .mk _ (bE (iM (j:=3) rfl Tryz.underlying120 xC rfl rfl rfl (.list rfl))) ?_
 refine .mk ?_ ?_
 refine .mk λx17=>?_
 refine .mk (bE (bX (y:=aD 2 aH.av ([(⟨0,y0_2⟩:aH),(⟨6,y0_3⟩:aH),(⟨1,x17⟩:aH)]:List aH)) (dQ (ps:=[(0,_),(1,_),(2,_)]) (rows:=[[int 0,int y0_2],[int 6,int y0_3],[int 1,int x17]]) rfl Tryz.underlying111 aRE (.cons rfl (.cons rfl (.cons rfl .nil))) (by kernel_rfl) rfl rfl rfl) rfl)) ?_
 refine .mk λx18 e18=>?_
 exact .mk
 intro _ _
 refine .mk trivial ?_
 refine .mk λx19=>?_
 refine .mk .mk ?_
 refine .mk ?_
 refine .mk ?_
 refine .mk _ (bE (iM (j:=4) rfl Tryz.underlying120 xC rfl rfl rfl (.list rfl))) ?_
 refine .mk ?_ ?_
 refine .mk λx20 e20=>?_
 exact .mk
 intro _ _
 refine .mk trivial ?_
 refine .mk λx21=>?_
 refine .mk .mk ?_
 refine .mk ?_
 refine .mk ?_
 exact .mk
 rintro ⟨y1_1,y1_2⟩ _
 refine .mk λx22=>?_
 refine .mk ?_ ?_
 refine .mk ?_
 exact .mk
 intro v23
 refine .mk ?_
 refine .mk (λH hH _=>bX (y:=aD 8 bH.av ([(⟨a2.E,a2.Item,a2.Loc,a2.aQ,a2.bD,a2.aQ,a2.bD,0⟩:bH)]:List bH)) (dQ (ps:=[(0,_)]) (rows:=[[int a2.E,int a2.Item,int a2.Loc,int a2.aQ,int a2.bD,int a2.aQ,int a2.bD,int 0]]) rfl Tryz.underlying28 aUN (.cons rfl .nil) (by kernel_rfl) rfl rfl rfl) rfl) ?_
 refine .mk λp24=>?_
 refine .mk _ ⟨λ_=>d9 rfl rfl (.cons rfl .nil) aLZ (iK (aW2.pc (id:=9) (l:=y1_1.bP) rfl p24) (.cons (.refl _) .nil)),by rintro _ _ ⟨v25,rfl,rfl⟩;exact ⟨rfl,trivial⟩⟩ ?_
 rintro _ _ ⟨v25,rfl,rfl⟩
 refine .mk λx26 e26=>?_
 refine .mk λp27=>?_
 refine .mk _ ⟨λ_=>jU (g:=bH.av) (l:=y1_1.bP) (m:=([(⟨a2.E,a2.Item,a2.Loc,a2.aQ,a2.bD,a2.aQ,a2.bD,0⟩:bH)]:List bH)) .any rfl Tryz.underlying28 aUN aW6 rfl rfl rfl rfl rfl rfl rfl rfl rfl rfl (Eq.symm rfl) (.refl _) (λ_=>rfl) e26 p27,by rintro _ _ ⟨v28,-,rfl,rfl⟩;exact trivial⟩ ?_
 rintro _ _ ⟨v28,-,rfl,rfl⟩
 exact .mk (bK.aU (.cons (bK.agg (.cons (.refl _) (.cons (.refl _) (.cons (.refl _) (.cons (.refl _) (.cons (.refl _) (.cons (.refl _) (.cons (dH rfl rfl rfl rfl rfl (Eq.symm rfl)) (.cons (.refl _) (.cons (.refl _) (.cons (.refl _) .nil))))))))))) (.cons (.refl _) .nil)))
def aGP (a1:Int) (a2:Int):WB (aH) :=
 .al 1<|.ret (((⟨a1,a2⟩:aH):aH))
def lU (a1:Int) (a2:Int):Option (aH):=(aGP a1 a2).run
theorem mF {a1 a2}:PZ (lU a1 a2) 137 [int a1,int a2] (λr=>.agg (aH.av r)):=wq Tryz.func137
def aFY (n:Nat) (a1:aA) (a2:aS):WB (aA×Int) :=
 .al 1<|.al 2<|.al 3<|.ln 12 bS.av a1.bU<|.bB 13 (decide ((a1.bU.length:Int)>=40)) λx6=>.ifs [13] x6 (.ret ((a1:aA),6)) (.cl 25 (rR n a1 a2.E a2.Item a2.Loc 0 a2.aQ) aDR wP λx7=>.al 4<|.al 5<|.bB 31 (decide (x7.2.2.2≠0)) λx10=>.ifs [31] x10 (.ret ((a1:aA),x7.2.2.2)) (.dr [(0,[4]),(1,[2]),(2,[2]),(3,[2]),(4,[2]),(6,[2]),(7,[2]),(10,[5]),(11,[5]),(13,[5]),(14,[5])] [(22,[])] [2,4,5] [22] [0,1,2,3,4,5,6,7,8,9,10,11,12,13,14,15,16,17,18,19,20,21,22,23] (.cl 40 (lU 3 a2.bD) RN mF λx11=>.bI 43 (aI (0-a2.bD)) λx12=>.cl 44 (lU 4 x12) RN mF λx13=>.cl 47 (lU 5 x7.2.1.Value) RN mF λx14=>.bI 50 (aI (0-x7.2.1.Value)) λx15=>.cl 51 (lU 0 x15) RN mF λx16=>.to 52 (aD 2 aH.av ([x11,x13,x14,x16]:List aH))<|.cl 53 (oN n x7.1 a2.E ([x11,x13,x14,x16]:List aH)) wJ qN λx17=>.bB 57 (decide (x17.2≠0)) λx18=>.ifs [57] x18 (.ret ((a1:aA),x17.2)) (.cl 69 (qD x17.1 a2.E a2.Item (⟨0,0,0,0,0,x7.2.1.Value,0,0,0,0,0⟩:bM)) XZ sO λx19=>.bB 73 (decide (x19.2≠0)) λx20=>.ifs [73] x20 (.ret ((a1:aA),x19.2)) (.dr [(0,[4]),(1,[4]),(3,[2]),(4,[2]),(5,[2]),(6,[2]),(7,[2]),(8,[2]),(9,[2]),(10,[2]),(11,[5]),(12,[5]),(13,[5]),(14,[5]),(15,[1]),(16,[1]),(17,[2]),(18,[2]),(26,[4])] [(2,[1,2,5]),(25,[]),(27,[])] [1,2,4,5] [2,25,27] [0,1,3,4,5,6,7,8,9,10,11,12,13,14,15,16,17,18,19,20,21,22,23,24,2,25,26,27] (.gI 95 aP.av gE aP.bW a1.aW a2.E λx21=>.bB 98 (x7.2.2.1) λx22=>.to 100 (aD 9 bS.av ([(⟨a2.E,a2.Item,a2.Loc,a2.aQ,0,x7.2.1.Value,x7.2.1.bO,x21.dS,x22⟩:bS)]:List bS))<|.as (x19.1.bU.length<=68719476736) inferInstance<|.ge 78 6<|.bl (x19.1.bU++([(⟨a2.E,a2.Item,a2.Loc,a2.aQ,0,x7.2.1.Value,x7.2.1.bO,x21.dS,x22⟩:bS)]:List bS):List bS) λx25=>.as (x25.length<=68719476736) inferInstance<|.ge 101 0<|.ret (((⟨x19.1.bA,x19.1.aW,x19.1.bP,x25,x19.1.bY,x19.1.Done⟩:aA):aA),0)))))))
def OX (n:Nat) (a1:aA) (a2:aS):Option (aA×Int):=(aFY n a1 a2).run
theorem aHA {n a1 a2}:PZ (OX n a1 a2) 79 [.agg (aA.av a1),.agg (aS.av a2)] (λr=>.aU [.agg (aA.av r.1),int r.2]):=wq Tryz.func79
end
end Go.Pv
