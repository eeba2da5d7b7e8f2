import Derived.Test.YtkgnickfdedbmabGreatXCf
set_option linter.unusedVariables false
set_option linter.unusedSimpArgs false
namespace Go.Pv
open Go.Proofs
set_option maxRecDepth 100000
set_option maxHeartbeats 4000000
noncomputable section
def nJ (n:Nat) (a1:aS):Option (Bool) :=
(show Option (Bool) from
bnd (decide (a1.Kind<1)) λx4 =>
cond x4 (some (true:Bool)) (bnd (decide (a1.Kind>16)) λx5 =>
some (x5:Bool))).bind <| λy0_1 =>
cond y0_1 (some ((false:Bool))) (MG.bind λx6 =>
(ix ([x6.a0,x6.a1,x6.a2,x6.a3,x6.a4,x6.a5,x6.a6,x6.a7,x6.a8,x6.a9,x6.kK,x6.oM,x6.a12,x6.rZ,x6.IR,x6.JU,x6.a16]:List (List UInt8)) a1.Kind).bind λx7 =>
(show Option ((Bool)) from
(show Option ((Int)) from
(qL x7 69).bind λx11 =>
some (x11:Int)).bind <| λy2_1 =>
bnd (decide (y2_1>=0)) λx12 =>
some (x12:Bool)).bind <| λy4_1 =>
(show Option (Int×Int) from
cond y4_1 ((oV a1.Kind 69).bind λx14 =>
some ((x14.1:Int),(x14.2:Int))) (some ((0:Int),(0:Int)))).bind <| p2 λ(y5_1:Int) (y5_2:Int) =>
(show Option ((Unit)) from
some ()).bind <| λ_ =>
(show Option (Bool) from
bnd (decide (a1.E<y5_1)) λx17 =>
cond x17 (some (true:Bool)) (bnd (decide (a1.E>y5_2)) λx18 =>
some (x18:Bool))).bind <| λy8_1 =>
cond y8_1 (some ((false:Bool))) ((show Option ((Bool)) from
(show Option ((Int)) from
(qL x7 73).bind λx21 =>
some (x21:Int)).bind <| λy2_1 =>
bnd (decide (y2_1>=0)) λx22 =>
some (x22:Bool)).bind <| λy4_1_1 =>
(show Option (Int×Int) from
cond y4_1_1 ((oV a1.Kind 73).bind λx24 =>
some ((x24.1:Int),(x24.2:Int))) (some ((0:Int),(0:Int)))).bind <| p2 λ(y5_1_1:Int) (y5_2_1:Int) =>
(show Option ((Unit)) from
some ()).bind <| λ_ =>
(show Option (Bool) from
bnd (decide (a1.Item<y5_1_1)) λx27 =>
cond x27 (some (true:Bool)) (bnd (decide (a1.Item>y5_2_1)) λx28 =>
some (x28:Bool))).bind <| λy8_1_1 =>
cond y8_1_1 (some ((false:Bool))) ((show Option ((Bool)) from
(show Option ((Int)) from
(qL x7 76).bind λx31 =>
some (x31:Int)).bind <| λy2_1 =>
bnd (decide (y2_1>=0)) λx32 =>
some (x32:Bool)).bind <| λy4_1_2 =>
(show Option (Int×Int) from
cond y4_1_2 ((oV a1.Kind 76).bind λx34 =>
some ((x34.1:Int),(x34.2:Int))) (some ((0:Int),(0:Int)))).bind <| p2 λ(y5_1_2:Int) (y5_2_2:Int) =>
(show Option ((Unit)) from
some ()).bind <| λ_ =>
(show Option (Bool) from
bnd (decide (a1.Loc<y5_1_2)) λx37 =>
cond x37 (some (true:Bool)) (bnd (decide (a1.Loc>y5_2_2)) λx38 =>
some (x38:Bool))).bind <| λy8_1_2 =>
cond y8_1_2 (some ((false:Bool))) ((show Option ((Bool)) from
(show Option ((Int)) from
(qL x7 84).bind λx41 =>
some (x41:Int)).bind <| λy2_1 =>
bnd (decide (y2_1>=0)) λx42 =>
some (x42:Bool)).bind <| λy4_1_3 =>
(show Option (Int×Int) from
cond y4_1_3 ((oV a1.Kind 84).bind λx44 =>
some ((x44.1:Int),(x44.2:Int))) (some ((0:Int),(0:Int)))).bind <| p2 λ(y5_1_3:Int) (y5_2_3:Int) =>
(show Option ((Unit)) from
some ()).bind <| λ_ =>
(show Option (Bool) from
bnd (decide (a1.To<y5_1_3)) λx47 =>
cond x47 (some (true:Bool)) (bnd (decide (a1.To>y5_2_3)) λx48 =>
some (x48:Bool))).bind <| λy8_1_3 =>
cond y8_1_3 (some ((false:Bool))) ((show Option ((Bool)) from
(show Option ((Int)) from
(qL x7 81).bind λx51 =>
some (x51:Int)).bind <| λy2_1 =>
bnd (decide (y2_1>=0)) λx52 =>
some (x52:Bool)).bind <| λy4_1_4 =>
(show Option (Int×Int) from
cond y4_1_4 ((oV a1.Kind 81).bind λx54 =>
some ((x54.1:Int),(x54.2:Int))) (some ((0:Int),(0:Int)))).bind <| p2 λ(y5_1_4:Int) (y5_2_4:Int) =>
(show Option ((Unit)) from
some ()).bind <| λ_ =>
(show Option (Bool) from
bnd (decide (a1.aQ<y5_1_4)) λx57 =>
cond x57 (some (true:Bool)) (bnd (decide (a1.aQ>y5_2_4)) λx58 =>
some (x58:Bool))).bind <| λy8_1_4 =>
cond y8_1_4 (some ((false:Bool))) ((show Option ((Bool)) from
(show Option ((Int)) from
(qL x7 65).bind λx61 =>
some (x61:Int)).bind <| λy2_1 =>
bnd (decide (y2_1>=0)) λx62 =>
some (x62:Bool)).bind <| λy4_1_5 =>
(show Option (Int×Int) from
cond y4_1_5 ((oV a1.Kind 65).bind λx64 =>
some ((x64.1:Int),(x64.2:Int))) (some ((0:Int),(0:Int)))).bind <| p2 λ(y5_1_5:Int) (y5_2_5:Int) =>
(show Option ((Unit)) from
some ()).bind <| λ_ =>
(show Option (Bool) from
bnd (decide (a1.bD<y5_1_5)) λx67 =>
cond x67 (some (true:Bool)) (bnd (decide (a1.bD>y5_2_5)) λx68 =>
some (x68:Bool))).bind <| λy8_1_5 =>
cond y8_1_5 (some ((false:Bool))) ((show Option ((Bool)) from
(show Option ((Int)) from
(qL x7 82).bind λx71 =>
some (x71:Int)).bind <| λy2_1 =>
bnd (decide (y2_1>=0)) λx72 =>
some (x72:Bool)).bind <| λy4_1_6 =>
(show Option (Int×Int) from
cond y4_1_6 ((oV a1.Kind 82).bind λx74 =>
some ((x74.1:Int),(x74.2:Int))) (some ((0:Int),(0:Int)))).bind <| p2 λ(y5_1_6:Int) (y5_2_6:Int) =>
(show Option ((Unit)) from
some ()).bind <| λ_ =>
(show Option (Bool) from
bnd (decide (a1.Ref<y5_1_6)) λx77 =>
cond x77 (some (true:Bool)) (bnd (decide (a1.Ref>y5_2_6)) λx78 =>
some (x78:Bool))).bind <| λy8_1_6 =>
cond y8_1_6 (some ((false:Bool))) (bnd (decide (a1.Kind=11)) λx79 =>
cond x79 ((J3 n a1.bT).bind λx91 =>
some ((x91:Bool))) ((show Option (Bool) from
bnd (decide ((a1.bT.length:Int)=0)) λx81 =>
cond x81 (bnd (decide (a1.Kind=8)) λx82 =>
cond x82 (bnd (decide (a1.To=a1.Loc)) λx86 =>
bnd (!x86) λx87 =>
cond x87 (bnd (decide (a1.Kind=12)) λx88 =>
cond x88 (bnd (decide (a1.To=a1.E)) λx89 =>
bnd (!x89) λx90 =>
some (x90:Bool)) (some (true:Bool))) (some (false:Bool))) (bnd (decide (a1.Kind=12)) λx83 =>
cond x83 (bnd (decide (a1.To=a1.E)) λx84 =>
bnd (!x84) λx85 =>
some (x85:Bool)) (some (true:Bool)))) (some (false:Bool))).bind <| λy9_1 =>
some ((y9_1:Bool)))))))))))
theorem qP {n:Nat} {a1:aS} {r:Bool} (h0:nJ n a1=some r):PP Tryz.prog 12 [.agg (aS.av a1)] (λy=>y=aF r):=by
  unfold nJ at h0
  refine uD (R0:=λy H=>Cv (jZ H) y (aF r)) ?_ (λy H hc=>⟨_,rfl,yD r,hc⟩)
  refine gN (c:=_) Tryz.func12 rfl rfl ?_;intro Q hret hnorm
  refine tc aN 2 (.mk ?_)
  refine sB 1 λv2=>?_
  refine tr aN 4 (.mk ?_)
  refine jn h0 [1,2] [1] (λ(a:Bool) (k:Unit)=>[(16,aF a)]) (λa k=>[]) ⟨λj3 h1=>?_,?_⟩
  refine tc aN 3 (.mk ?_)
  refine nb aN h1 λx4 h1=>?_
  refine tr aN 1 (.mk ?_)
  cases x4
  replace h1:=cf h1
  refine tr aN 2 (.mk ?_)
  refine nb aN h1 λx5 h1=>?_
  refine tr aN 2 (.mk ?_)
  exact lf h1 () eD
  replace h1:=ct h1
  refine tr aN 5 (.mk ?_)
  exact lf h1 () eD
  rintro y0_1 _ h0
  cases y0_1
  replace h0:=cf h0
  refine tc aN 3 (.mk ?_)
  refine K9 [0,0,2,7,15] (rl [(1,[1]),(2,[1])] []) (λi=>[1]) (λi=>true) [0,1,2,3,4] mixed (by kernel_rfl) ?_;intro K hK
  obtain ⟨x6,e6,h0⟩:=dJ h0
  refine eP (λH hH=>xQ rfl rfl .nil aHV (bK.refl _) (aHE _ e6)) ?_
  refine eF aE4 ?_
  refine eL fC ?_
  obtain ⟨x7,e7,h0⟩:=dJ h0
  refine eP (λH hH=>uR (g:=fS) (l:=([x6.a0,x6.a1,x6.a2,x6.a3,x6.a4,x6.a5,x6.a6,x6.a7,x6.a8,x6.a9,x6.kK,x6.oM,x6.a12,x6.rZ,x6.IR,x6.JU,x6.a16]:List (List UInt8))) (v:=x7) (w:=str x7) rfl Tryz.underlying63 OT rfl rfl rfl e7 (λ_=>rfl) hw1) ?_
  refine eA ?_
  refine N8 (hK _ ?_)
  refine tc aN 1 (.mk ?_)
  refine aHR rfl rfl rfl rfl rfl rfl rfl rfl ?_
  refine aGN rfl rfl rfl rfl Tryz.underlying9 rfl λb8=>⟨rfl,?_⟩
  refine tc aN 20 (.mk ?_)
  obtain ⟨j9,h1,h0⟩:=dJ h0
  refine gV (Out:=λy H'=>(∃ (a:Bool) (k:Unit),a=j9/\y=aF a/\H'=hk [(1,⟨34,9,true,true,v2,[[int a1.Kind,int a1.E,int a1.Item,int a1.Loc,int a1.To,int a1.aQ,int a1.bD,int a1.Ref,aD 1 fI a1.bT]]⟩)])) rfl rfl rfl (d9 rfl rfl (.cons rfl (.cons rfl .nil)) rW ?_) ?_
  refine gN (c:=_) Tryz.func30 rfl rfl ?_;intro Q hret hnorm
  refine tc aN 8 (.mk ?_)
  obtain ⟨j10,h2,h1⟩:=dJ h1
  refine gV (Out:=λy H'=>(∃ (a:Int) (k:Unit),a=j10/\y=int a/\H'=hk [(1,⟨34,9,true,true,v2,[[int a1.Kind,int a1.E,int a1.Item,int a1.Loc,int a1.To,int a1.aQ,int a1.bD,int a1.Ref,aD 1 fI a1.bT]]⟩)])) rfl rfl rfl (d9 rfl rfl (.cons rfl (.cons rfl .nil)) sK ?_) ?_
  refine gN (c:=_) Tryz.func68 rfl rfl ?_;intro Q hret hnorm
  refine tc aN 8 (.mk ?_)
  refine sY (bX (y:=aF true) (pP rfl rfl rfl) (congrArg aF (by decide))) ?_
  refine tr aN 2 (.mk ?_)
  refine sY (bX (y:=aF true) (qT rfl rfl rfl) (congrArg aF (by decide))) ?_
  refine tr aN 8 (.mk ?_)
  refine sY (pX (r:=69) rfl Tryz.underlying21 Tryz.underlying5 rfl (by decide)) ?_
  obtain ⟨x11,e11,h2⟩:=dJ h2
  refine sC tZ (rA _ e11) ?_
  refine tr aN 2 (.mk ?_)
  obtain rfl:=eG h2
  refine iL (hret _ _ (hk [(1,⟨34,9,true,true,v2,[[int a1.Kind,int a1.E,int a1.Item,int a1.Loc,int a1.To,int a1.aQ,int a1.bD,int a1.Ref,aD 1 fI a1.bT]]⟩)]) (.tmp rfl .nil) (HK.le ⟨rfl,trivial⟩) ?_)
  exact ⟨x11,(),rfl,rfl,rfl⟩
  rintro y _ ⟨y2_1,_,rfl,hc,rfl⟩
  subst hc
  refine nb aN h1 λx12 h1=>?_
  refine tr aN 2 (.mk ?_)
  obtain rfl:=eG h1
  refine iL (hret _ _ (hk [(1,⟨34,9,true,true,v2,[[int a1.Kind,int a1.E,int a1.Item,int a1.Loc,int a1.To,int a1.aQ,int a1.bD,int a1.Ref,aD 1 fI a1.bT]]⟩)]) (.tmp rfl .nil) (HK.le ⟨rfl,trivial⟩) ?_)
  exact ⟨x12,(),rfl,rfl,rfl⟩
  rintro y _ ⟨y4_1,_,rfl,hc,rfl⟩
  subst hc
  refine tr aN 1 (.mk ?_)
  refine jn h0 [1,2,3,5,21,22,23] [1] (λ(a:Int×Int) (k:Unit)=>[(6,int a.1),(7,int a.2)]) (λa k=>[]) ⟨λj13 h1=>?_,?_⟩
  cases y4_1
  replace h1:=cf h1
  refine tc aN 2 (.mk ?_)
  exact lf h1 () eD
  replace h1:=ct h1
  refine tc aN 5 (.mk ?_)
  obtain ⟨x14,e14,h1⟩:=dJ h1
  refine sC uG (qZ e14) ?_
  refine tr aN 6 (.mk ?_)
  exact lf h1 () eD
  rintro ⟨y5_1,y5_2⟩ _ h0
  replace h0:=uE h0
  refine tc aN 3 (.mk ?_)
  obtain ⟨j15,h1,h0⟩:=dJ h0
  refine gV (Out:=λy H'=>(∃ (a:Unit) (k:Unit),a=j15/\y=.pt 1 v2 0 1/\H'=hk [(1,⟨34,9,true,true,v2,[[int a1.Kind,int a1.E,int a1.Item,int a1.Loc,int a1.To,int a1.aQ,int a1.bD,int a1.Ref,aD 1 fI a1.bT]]⟩)])) rfl rfl rfl (d9 rfl rfl (.cons rfl (.cons rfl .nil)) sQ ?_) ?_
  refine gN (c:=_) Tryz.func32 rfl rfl ?_;intro Q hret hnorm
  refine tc aN 12 (.mk ?_)
  refine sY (bX (y:=aF true) (gB rfl rfl rfl) (congrArg aF (by decide))) ?_
  refine tr aN 10 (.mk ?_)
  obtain rfl:=eG h1
  refine iL (hret _ _ (hk [(1,⟨34,9,true,true,v2,[[int a1.Kind,int a1.E,int a1.Item,int a1.Loc,int a1.To,int a1.aQ,int a1.bD,int a1.Ref,aD 1 fI a1.bT]]⟩)]) (.tmp rfl .nil) (HK.le ⟨rfl,trivial⟩) ?_)
  exact ⟨(),(),rfl,rfl,rfl⟩
  rintro y _ ⟨_,_,rfl,hc,rfl⟩
  subst hc
  refine tr aN 5 (.mk ?_)
  refine jn h0 [1,2,3,21,22,23] [1] (λ(a:Bool) (k:Unit)=>[(46,aF a)]) (λa k=>[]) ⟨λj16 h1=>?_,?_⟩
  refine tc aN 3 (.mk ?_)
  refine nb aN h1 λx17 h1=>?_
  refine tr aN 1 (.mk ?_)
  cases x17
  replace h1:=cf h1
  refine tr aN 2 (.mk ?_)
  refine nb aN h1 λx18 h1=>?_
  refine tr aN 2 (.mk ?_)
  exact lf h1 () eD
  replace h1:=ct h1
  refine tr aN 5 (.mk ?_)
  exact lf h1 () eD
  rintro y8_1 _ h0
  cases y8_1
  replace h0:=cf h0
  refine tc aN 23 (.mk ?_)
  obtain ⟨j19,h1,h0⟩:=dJ h0
  refine gV (Out:=λy H'=>(∃ (a:Bool) (k:Unit),a=j19/\y=aF a/\H'=hk [(1,⟨34,9,true,true,v2,[[int a1.Kind,int a1.E,int a1.Item,int a1.Loc,int a1.To,int a1.aQ,int a1.bD,int a1.Ref,aD 1 fI a1.bT]]⟩)])) rfl rfl rfl (d9 rfl rfl (.cons rfl (.cons rfl .nil)) rW ?_) ?_
  refine gN (c:=_) Tryz.func30 rfl rfl ?_;intro Q hret hnorm
  refine tc aN 8 (.mk ?_)
  obtain ⟨j20,h2,h1⟩:=dJ h1
  refine gV (Out:=λy H'=>(∃ (a:Int) (k:Unit),a=j20/\y=int a/\H'=hk [(1,⟨34,9,true,true,v2,[[int a1.Kind,int a1.E,int a1.Item,int a1.Loc,int a1.To,int a1.aQ,int a1.bD,int a1.Ref,aD 1 fI a1.bT]]⟩)])) rfl rfl rfl (d9 rfl rfl (.cons rfl (.cons rfl .nil)) sK ?_) ?_
  refine gN (c:=_) Tryz.func68 rfl rfl ?_;intro Q hret hnorm
  refine tc aN 8 (.mk ?_)
  refine sY (bX (y:=aF true) (pP rfl rfl rfl) (congrArg aF (by decide))) ?_
  refine tr aN 2 (.mk ?_)
  refine sY (bX (y:=aF true) (qT rfl rfl rfl) (congrArg aF (by decide))) ?_
  refine tr aN 8 (.mk ?_)
  refine sY (pX (r:=73) rfl Tryz.underlying21 Tryz.underlying5 rfl (by decide)) ?_
  obtain ⟨x21,e21,h2⟩:=dJ h2
  refine sC tZ (rA _ e21) ?_
  refine tr aN 2 (.mk ?_)
  obtain rfl:=eG h2
  refine iL (hret _ _ (hk [(1,⟨34,9,true,true,v2,[[int a1.Kind,int a1.E,int a1.Item,int a1.Loc,int a1.To,int a1.aQ,int a1.bD,int a1.Ref,aD 1 fI a1.bT]]⟩)]) (.tmp rfl .nil) (HK.le ⟨rfl,trivial⟩) ?_)
  exact ⟨x21,(),rfl,rfl,rfl⟩
  rintro y _ ⟨y2_1,_,rfl,hc,rfl⟩
  subst hc
  refine nb aN h1 λx22 h1=>?_
  refine tr aN 2 (.mk ?_)
  obtain rfl:=eG h1
  refine iL (hret _ _ (hk [(1,⟨34,9,true,true,v2,[[int a1.Kind,int a1.E,int a1.Item,int a1.Loc,int a1.To,int a1.aQ,int a1.bD,int a1.Ref,aD 1 fI a1.bT]]⟩)]) (.tmp rfl .nil) (HK.le ⟨rfl,trivial⟩) ?_)
  exact ⟨x22,(),rfl,rfl,rfl⟩
  rintro y _ ⟨y4_1_1,_,rfl,hc,rfl⟩
  subst hc
  refine tr aN 1 (.mk ?_)
  refine jn h0 [1,2,3,5,21,22,23] [1] (λ(a:Int×Int) (k:Unit)=>[(6,int a.1),(7,int a.2)]) (λa k=>[]) ⟨λj23 h1=>?_,?_⟩
  cases y4_1_1
  replace h1:=cf h1
  refine tc aN 2 (.mk ?_)
  exact lf h1 () eD
  replace h1:=ct h1
  refine tc aN 5 (.mk ?_)
  obtain ⟨x24,e24,h1⟩:=dJ h1
  refine sC uG (qZ e24) ?_
  refine tr aN 6 (.mk ?_)
  exact lf h1 () eD
  rintro ⟨y5_1_1,y5_2_1⟩ _ h0
  replace h0:=uE h0
  refine tc aN 3 (.mk ?_)
  obtain ⟨j25,h1,h0⟩:=dJ h0
  refine gV (Out:=λy H'=>(∃ (a:Unit) (k:Unit),a=j25/\y=.pt 1 v2 0 2/\H'=hk [(1,⟨34,9,true,true,v2,[[int a1.Kind,int a1.E,int a1.Item,int a1.Loc,int a1.To,int a1.aQ,int a1.bD,int a1.Ref,aD 1 fI a1.bT]]⟩)])) rfl rfl rfl (d9 rfl rfl (.cons rfl (.cons rfl .nil)) sQ ?_) ?_
  refine gN (c:=_) Tryz.func32 rfl rfl ?_;intro Q hret hnorm
  refine tc aN 12 (.mk ?_)
  refine sY (bX (y:=aF false) (gB rfl rfl rfl) (congrArg aF (by decide))) ?_
  refine tr aN 5 (.mk ?_)
  refine sY (bX (y:=aF true) (gB rfl rfl rfl) (congrArg aF (by decide))) ?_
  refine tr aN 10 (.mk ?_)
  obtain rfl:=eG h1
  refine iL (hret _ _ (hk [(1,⟨34,9,true,true,v2,[[int a1.Kind,int a1.E,int a1.Item,int a1.Loc,int a1.To,int a1.aQ,int a1.bD,int a1.Ref,aD 1 fI a1.bT]]⟩)]) (.tmp rfl .nil) (HK.le ⟨rfl,trivial⟩) ?_)
  exact ⟨(),(),rfl,rfl,rfl⟩
  rintro y _ ⟨_,_,rfl,hc,rfl⟩
  subst hc
  refine tr aN 5 (.mk ?_)
  refine jn h0 [1,2,3,21,22,23] [1] (λ(a:Bool) (k:Unit)=>[(46,aF a)]) (λa k=>[]) ⟨λj26 h1=>?_,?_⟩
  refine tc aN 3 (.mk ?_)
  refine nb aN h1 λx27 h1=>?_
  refine tr aN 1 (.mk ?_)
  cases x27
  replace h1:=cf h1
  refine tr aN 2 (.mk ?_)
  refine nb aN h1 λx28 h1=>?_
  refine tr aN 2 (.mk ?_)
  exact lf h1 () eD
  replace h1:=ct h1
  refine tr aN 5 (.mk ?_)
  exact lf h1 () eD
  rintro y8_1_1 _ h0
  cases y8_1_1
  replace h0:=cf h0
  refine tc aN 23 (.mk ?_)
  obtain ⟨j29,h1,h0⟩:=dJ h0
  refine gV (Out:=λy H'=>(∃ (a:Bool) (k:Unit),a=j29/\y=aF a/\H'=hk [(1,⟨34,9,true,true,v2,[[int a1.Kind,int a1.E,int a1.Item,int a1.Loc,int a1.To,int a1.aQ,int a1.bD,int a1.Ref,aD 1 fI a1.bT]]⟩)])) rfl rfl rfl (d9 rfl rfl (.cons rfl (.cons rfl .nil)) rW ?_) ?_
  refine gN (c:=_) Tryz.func30 rfl rfl ?_;intro Q hret hnorm
  refine tc aN 8 (.mk ?_)
  obtain ⟨j30,h2,h1⟩:=dJ h1
  refine gV (Out:=λy H'=>(∃ (a:Int) (k:Unit),a=j30/\y=int a/\H'=hk [(1,⟨34,9,true,true,v2,[[int a1.Kind,int a1.E,int a1.Item,int a1.Loc,int a1.To,int a1.aQ,int a1.bD,int a1.Ref,aD 1 fI a1.bT]]⟩)])) rfl rfl rfl (d9 rfl rfl (.cons rfl (.cons rfl .nil)) sK ?_) ?_
  refine gN (c:=_) Tryz.func68 rfl rfl ?_;intro Q hret hnorm
  refine tc aN 8 (.mk ?_)
  refine sY (bX (y:=aF true) (pP rfl rfl rfl) (congrArg aF (by decide))) ?_
  refine tr aN 2 (.mk ?_)
  refine sY (bX (y:=aF true) (qT rfl rfl rfl) (congrArg aF (by decide))) ?_
  refine tr aN 8 (.mk ?_)
  refine sY (pX (r:=76) rfl Tryz.underlying21 Tryz.underlying5 rfl (by decide)) ?_
  obtain ⟨x31,e31,h2⟩:=dJ h2
  refine sC tZ (rA _ e31) ?_
  refine tr aN 2 (.mk ?_)
  obtain rfl:=eG h2
  refine iL (hret _ _ (hk [(1,⟨34,9,true,true,v2,[[int a1.Kind,int a1.E,int a1.Item,int a1.Loc,int a1.To,int a1.aQ,int a1.bD,int a1.Ref,aD 1 fI a1.bT]]⟩)]) (.tmp rfl .nil) (HK.le ⟨rfl,trivial⟩) ?_)
  exact ⟨x31,(),rfl,rfl,rfl⟩
  rintro y _ ⟨y2_1,_,rfl,hc,rfl⟩
  subst hc
  refine nb aN h1 λx32 h1=>?_
  refine tr aN 2 (.mk ?_)
  obtain rfl:=eG h1
  refine iL (hret _ _ (hk [(1,⟨34,9,true,true,v2,[[int a1.Kind,int a1.E,int a1.Item,int a1.Loc,int a1.To,int a1.aQ,int a1.bD,int a1.Ref,aD 1 fI a1.bT]]⟩)]) (.tmp rfl .nil) (HK.le ⟨rfl,trivial⟩) ?_)
  exact ⟨x32,(),rfl,rfl,rfl⟩
  rintro y _ ⟨y4_1_2,_,rfl,hc,rfl⟩
  subst hc
  refine tr aN 1 (.mk ?_)
  refine jn h0 [1,2,3,5,21,22,23] [1] (λ(a:Int×Int) (k:Unit)=>[(6,int a.1),(7,int a.2)]) (λa k=>[]) ⟨λj33 h1=>?_,?_⟩
  cases y4_1_2
  replace h1:=cf h1
  refine tc aN 2 (.mk ?_)
  exact lf h1 () eD
  replace h1:=ct h1
  refine tc aN 5 (.mk ?_)
  obtain ⟨x34,e34,h1⟩:=dJ h1
  refine sC uG (qZ e34) ?_
  refine tr aN 6 (.mk ?_)
  exact lf h1 () eD
  rintro ⟨y5_1_2,y5_2_2⟩ _ h0
  replace h0:=uE h0
  refine tc aN 3 (.mk ?_)
  obtain ⟨j35,h1,h0⟩:=dJ h0
  refine gV (Out:=λy H'=>(∃ (a:Unit) (k:Unit),a=j35/\y=.pt 1 v2 0 3/\H'=hk [(1,⟨34,9,true,true,v2,[[int a1.Kind,int a1.E,int a1.Item,int a1.Loc,int a1.To,int a1.aQ,int a1.bD,int a1.Ref,aD 1 fI a1.bT]]⟩)])) rfl rfl rfl (d9 rfl rfl (.cons rfl (.cons rfl .nil)) sQ ?_) ?_
  refine gN (c:=_) Tryz.func32 rfl rfl ?_;intro Q hret hnorm
  refine tc aN 12 (.mk ?_)
  refine sY (bX (y:=aF false) (gB rfl rfl rfl) (congrArg aF (by decide))) ?_
  refine tr aN 5 (.mk ?_)
  refine sY (bX (y:=aF false) (gB rfl rfl rfl) (congrArg aF (by decide))) ?_
  refine tr aN 5 (.mk ?_)
  refine sY (bX (y:=aF true) (gB rfl rfl rfl) (congrArg aF (by decide))) ?_
  refine tr aN 10 (.mk ?_)
  obtain rfl:=eG h1
  refine iL (hret _ _ (hk [(1,⟨34,9,true,true,v2,[[int a1.Kind,int a1.E,int a1.Item,int a1.Loc,int a1.To,int a1.aQ,int a1.bD,int a1.Ref,aD 1 fI a1.bT]]⟩)]) (.tmp rfl .nil) (HK.le ⟨rfl,trivial⟩) ?_)
  exact ⟨(),(),rfl,rfl,rfl⟩
  rintro y _ ⟨_,_,rfl,hc,rfl⟩
  subst hc
  refine tr aN 5 (.mk ?_)
  refine jn h0 [1,2,3,21,22,23] [1] (λ(a:Bool) (k:Unit)=>[(46,aF a)]) (λa k=>[]) ⟨λj36 h1=>?_,?_⟩
  refine tc aN 3 (.mk ?_)
  refine nb aN h1 λx37 h1=>?_
  refine tr aN 1 (.mk ?_)
  cases x37
  replace h1:=cf h1
  refine tr aN 2 (.mk ?_)
  refine nb aN h1 λx38 h1=>?_
  refine tr aN 2 (.mk ?_)
  exact lf h1 () eD
  replace h1:=ct h1
  refine tr aN 5 (.mk ?_)
  exact lf h1 () eD
  rintro y8_1_2 _ h0
  cases y8_1_2
  replace h0:=cf h0
  refine tc aN 23 (.mk ?_)
  obtain ⟨j39,h1,h0⟩:=dJ h0
  refine gV (Out:=λy H'=>(∃ (a:Bool) (k:Unit),a=j39/\y=aF a/\H'=hk [(1,⟨34,9,true,true,v2,[[int a1.Kind,int a1.E,int a1.Item,int a1.Loc,int a1.To,int a1.aQ,int a1.bD,int a1.Ref,aD 1 fI a1.bT]]⟩)])) rfl rfl rfl (d9 rfl rfl (.cons rfl (.cons rfl .nil)) rW ?_) ?_
  refine gN (c:=_) Tryz.func30 rfl rfl ?_;intro Q hret hnorm
  refine tc aN 8 (.mk ?_)
  obtain ⟨j40,h2,h1⟩:=dJ h1
  refine gV (Out:=λy H'=>(∃ (a:Int) (k:Unit),a=j40/\y=int a/\H'=hk [(1,⟨34,9,true,true,v2,[[int a1.Kind,int a1.E,int a1.Item,int a1.Loc,int a1.To,int a1.aQ,int a1.bD,int a1.Ref,aD 1 fI a1.bT]]⟩)])) rfl rfl rfl (d9 rfl rfl (.cons rfl (.cons rfl .nil)) sK ?_) ?_
  refine gN (c:=_) Tryz.func68 rfl rfl ?_;intro Q hret hnorm
  refine tc aN 8 (.mk ?_)
  refine sY (bX (y:=aF true) (pP rfl rfl rfl) (congrArg aF (by decide))) ?_
  refine tr aN 2 (.mk ?_)
  refine sY (bX (y:=aF true) (qT rfl rfl rfl) (congrArg aF (by decide))) ?_
  refine tr aN 8 (.mk ?_)
  refine sY (pX (r:=84) rfl Tryz.underlying21 Tryz.underlying5 rfl (by decide)) ?_
  obtain ⟨x41,e41,h2⟩:=dJ h2
  refine sC tZ (rA _ e41) ?_
  refine tr aN 2 (.mk ?_)
  obtain rfl:=eG h2
  refine iL (hret _ _ (hk [(1,⟨34,9,true,true,v2,[[int a1.Kind,int a1.E,int a1.Item,int a1.Loc,int a1.To,int a1.aQ,int a1.bD,int a1.Ref,aD 1 fI a1.bT]]⟩)]) (.tmp rfl .nil) (HK.le ⟨rfl,trivial⟩) ?_)
  exact ⟨x41,(),rfl,rfl,rfl⟩
  rintro y _ ⟨y2_1,_,rfl,hc,rfl⟩
  subst hc
  refine nb aN h1 λx42 h1=>?_
  refine tr aN 2 (.mk ?_)
  obtain rfl:=eG h1
  refine iL (hret _ _ (hk [(1,⟨34,9,true,true,v2,[[int a1.Kind,int a1.E,int a1.Item,int a1.Loc,int a1.To,int a1.aQ,int a1.bD,int a1.Ref,aD 1 fI a1.bT]]⟩)]) (.tmp rfl .nil) (HK.le ⟨rfl,trivial⟩) ?_)
  exact ⟨x42,(),rfl,rfl,rfl⟩
  rintro y _ ⟨y4_1_3,_,rfl,hc,rfl⟩
  subst hc
  refine tr aN 1 (.mk ?_)
  refine jn h0 [1,2,3,5,21,22,23] [1] (λ(a:Int×Int) (k:Unit)=>[(6,int a.1),(7,int a.2)]) (λa k=>[]) ⟨λj43 h1=>?_,?_⟩
  cases y4_1_3
  replace h1:=cf h1
  refine tc aN 2 (.mk ?_)
  exact lf h1 () eD
  replace h1:=ct h1
  refine tc aN 5 (.mk ?_)
  obtain ⟨x44,e44,h1⟩:=dJ h1
  refine sC uG (qZ e44) ?_
  refine tr aN 6 (.mk ?_)
  exact lf h1 () eD
  rintro ⟨y5_1_3,y5_2_3⟩ _ h0
  replace h0:=uE h0
  refine tc aN 3 (.mk ?_)
  obtain ⟨j45,h1,h0⟩:=dJ h0
  refine gV (Out:=λy H'=>(∃ (a:Unit) (k:Unit),a=j45/\y=.pt 1 v2 0 4/\H'=hk [(1,⟨34,9,true,true,v2,[[int a1.Kind,int a1.E,int a1.Item,int a1.Loc,int a1.To,int a1.aQ,int a1.bD,int a1.Ref,aD 1 fI a1.bT]]⟩)])) rfl rfl rfl (d9 rfl rfl (.cons rfl (.cons rfl .nil)) sQ ?_) ?_
  refine gN (c:=_) Tryz.func32 rfl rfl ?_;intro Q hret hnorm
  refine tc aN 12 (.mk ?_)
  refine sY (bX (y:=aF false) (gB rfl rfl rfl) (congrArg aF (by decide))) ?_
  refine tr aN 5 (.mk ?_)
  refine sY (bX (y:=aF false) (gB rfl rfl rfl) (congrArg aF (by decide))) ?_
  refine tr aN 5 (.mk ?_)
  refine sY (bX (y:=aF false) (gB rfl rfl rfl) (congrArg aF (by decide))) ?_
  refine tr aN 5 (.mk ?_)
  refine sY (bX (y:=aF true) (gB rfl rfl rfl) (congrArg aF (by decide))) ?_
  refine tr aN 10 (.mk ?_)
  obtain rfl:=eG h1
  refine iL (hret _ _ (hk [(1,⟨34,9,true,true,v2,[[int a1.Kind,int a1.E,int a1.Item,int a1.Loc,int a1.To,int a1.aQ,int a1.bD,int a1.Ref,aD 1 fI a1.bT]]⟩)]) (.tmp rfl .nil) (HK.le ⟨rfl,trivial⟩) ?_)
  exact ⟨(),(),rfl,rfl,rfl⟩
  rintro y _ ⟨_,_,rfl,hc,rfl⟩
  subst hc
  refine tr aN 5 (.mk ?_)
  refine jn h0 [1,2,3,21,22,23] [1] (λ(a:Bool) (k:Unit)=>[(46,aF a)]) (λa k=>[]) ⟨λj46 h1=>?_,?_⟩
  refine tc aN 3 (.mk ?_)
  refine nb aN h1 λx47 h1=>?_
  refine tr aN 1 (.mk ?_)
  cases x47
  replace h1:=cf h1
  refine tr aN 2 (.mk ?_)
  refine nb aN h1 λx48 h1=>?_
  refine tr aN 2 (.mk ?_)
  exact lf h1 () eD
  replace h1:=ct h1
  refine tr aN 5 (.mk ?_)
  exact lf h1 () eD
  rintro y8_1_3 _ h0
  cases y8_1_3
  replace h0:=cf h0
  refine tc aN 23 (.mk ?_)
  obtain ⟨j49,h1,h0⟩:=dJ h0
  refine gV (Out:=λy H'=>(∃ (a:Bool) (k:Unit),a=j49/\y=aF a/\H'=hk [(1,⟨34,9,true,true,v2,[[int a1.Kind,int a1.E,int a1.Item,int a1.Loc,int a1.To,int a1.aQ,int a1.bD,int a1.Ref,aD 1 fI a1.bT]]⟩)])) rfl rfl rfl (d9 rfl rfl (.cons rfl (.cons rfl .nil)) rW ?_) ?_
  refine gN (c:=_) Tryz.func30 rfl rfl ?_;intro Q hret hnorm
  refine tc aN 8 (.mk ?_)
  obtain ⟨j50,h2,h1⟩:=dJ h1
  refine gV (Out:=λy H'=>(∃ (a:Int) (k:Unit),a=j50/\y=int a/\H'=hk [(1,⟨34,9,true,true,v2,[[int a1.Kind,int a1.E,int a1.Item,int a1.Loc,int a1.To,int a1.aQ,int a1.bD,int a1.Ref,aD 1 fI a1.bT]]⟩)])) rfl rfl rfl (d9 rfl rfl (.cons rfl (.cons rfl .nil)) sK ?_) ?_
  refine gN (c:=_) Tryz.func68 rfl rfl ?_;intro Q hret hnorm
  refine tc aN 8 (.mk ?_)
  refine sY (bX (y:=aF true) (pP rfl rfl rfl) (congrArg aF (by decide))) ?_
  refine tr aN 2 (.mk ?_)
  refine sY (bX (y:=aF true) (qT rfl rfl rfl) (congrArg aF (by decide))) ?_
  refine tr aN 8 (.mk ?_)
  refine sY (pX (r:=81) rfl Tryz.underlying21 Tryz.underlying5 rfl (by decide)) ?_
  obtain ⟨x51,e51,h2⟩:=dJ h2
  refine sC tZ (rA _ e51) ?_
  refine tr aN 2 (.mk ?_)
  obtain rfl:=eG h2
  refine iL (hret _ _ (hk [(1,⟨34,9,true,true,v2,[[int a1.Kind,int a1.E,int a1.Item,int a1.Loc,int a1.To,int a1.aQ,int a1.bD,int a1.Ref,aD 1 fI a1.bT]]⟩)]) (.tmp rfl .nil) (HK.le ⟨rfl,trivial⟩) ?_)
  exact ⟨x51,(),rfl,rfl,rfl⟩
  rintro y _ ⟨y2_1,_,rfl,hc,rfl⟩
  subst hc
  refine nb aN h1 λx52 h1=>?_
  refine tr aN 2 (.mk ?_)
  obtain rfl:=eG h1
  refine iL (hret _ _ (hk [(1,⟨34,9,true,true,v2,[[int a1.Kind,int a1.E,int a1.Item,int a1.Loc,int a1.To,int a1.aQ,int a1.bD,int a1.Ref,aD 1 fI a1.bT]]⟩)]) (.tmp rfl .nil) (HK.le ⟨rfl,trivial⟩) ?_)
  exact ⟨x52,(),rfl,rfl,rfl⟩
  rintro y _ ⟨y4_1_4,_,rfl,hc,rfl⟩
  subst hc
  refine tr aN 1 (.mk ?_)
  refine jn h0 [1,2,3,5,21,22,23] [1] (λ(a:Int×Int) (k:Unit)=>[(6,int a.1),(7,int a.2)]) (λa k=>[]) ⟨λj53 h1=>?_,?_⟩
  cases y4_1_4
  replace h1:=cf h1
  refine tc aN 2 (.mk ?_)
  exact lf h1 () eD
  replace h1:=ct h1
  refine tc aN 5 (.mk ?_)
  obtain ⟨x54,e54,h1⟩:=dJ h1
  refine sC uG (qZ e54) ?_
  refine tr aN 6 (.mk ?_)
  exact lf h1 () eD
  rintro ⟨y5_1_4,y5_2_4⟩ _ h0
  replace h0:=uE h0
  refine tc aN 3 (.mk ?_)
  obtain ⟨j55,h1,h0⟩:=dJ h0
  refine gV (Out:=λy H'=>(∃ (a:Unit) (k:Unit),a=j55/\y=.pt 1 v2 0 5/\H'=hk [(1,⟨34,9,true,true,v2,[[int a1.Kind,int a1.E,int a1.Item,int a1.Loc,int a1.To,int a1.aQ,int a1.bD,int a1.Ref,aD 1 fI a1.bT]]⟩)])) rfl rfl rfl (d9 rfl rfl (.cons rfl (.cons rfl .nil)) sQ ?_) ?_
  refine gN (c:=_) Tryz.func32 rfl rfl ?_;intro Q hret hnorm
  refine tc aN 12 (.mk ?_)
  refine sY (bX (y:=aF false) (gB rfl rfl rfl) (congrArg aF (by decide))) ?_
  refine tr aN 5 (.mk ?_)
  refine sY (bX (y:=aF false) (gB rfl rfl rfl) (congrArg aF (by decide))) ?_
  refine tr aN 5 (.mk ?_)
  refine sY (bX (y:=aF false) (gB rfl rfl rfl) (congrArg aF (by decide))) ?_
  refine tr aN 5 (.mk ?_)
  refine sY (bX (y:=aF false) (gB rfl rfl rfl) (congrArg aF (by decide))) ?_
  refine tr aN 5 (.mk ?_)
  refine sY (bX (y:=aF true) (gB rfl rfl rfl) (congrArg aF (by decide))) ?_
  refine tr aN 10 (.mk ?_)
  obtain rfl:=eG h1
  refine iL (hret _ _ (hk [(1,⟨34,9,true,true,v2,[[int a1.Kind,int a1.E,int a1.Item,int a1.Loc,int a1.To,int a1.aQ,int a1.bD,int a1.Ref,aD 1 fI a1.bT]]⟩)]) (.tmp rfl .nil) (HK.le ⟨rfl,trivial⟩) ?_)
  exact ⟨(),(),rfl,rfl,rfl⟩
  rintro y _ ⟨_,_,rfl,hc,rfl⟩
  subst hc
  refine tr aN 5 (.mk ?_)
  refine jn h0 [1,2,3,21,22,23] [1] (λ(a:Bool) (k:Unit)=>[(46,aF a)]) (λa k=>[]) ⟨λj56 h1=>?_,?_⟩
  refine tc aN 3 (.mk ?_)
  refine nb aN h1 λx57 h1=>?_
  refine tr aN 1 (.mk ?_)
  cases x57
  replace h1:=cf h1
  refine tr aN 2 (.mk ?_)
  refine nb aN h1 λx58 h1=>?_
  refine tr aN 2 (.mk ?_)
  exact lf h1 () eD
  replace h1:=ct h1
  refine tr aN 5 (.mk ?_)
  exact lf h1 () eD
  rintro y8_1_4 _ h0
  cases y8_1_4
  replace h0:=cf h0
  refine tc aN 23 (.mk ?_)
  obtain ⟨j59,h1,h0⟩:=dJ h0
  refine gV (Out:=λy H'=>(∃ (a:Bool) (k:Unit),a=j59/\y=aF a/\H'=hk [(1,⟨34,9,true,true,v2,[[int a1.Kind,int a1.E,int a1.Item,int a1.Loc,int a1.To,int a1.aQ,int a1.bD,int a1.Ref,aD 1 fI a1.bT]]⟩)])) rfl rfl rfl (d9 rfl rfl (.cons rfl (.cons rfl .nil)) rW ?_) ?_
  refine gN (c:=_) Tryz.func30 rfl rfl ?_;intro Q hret hnorm
  refine tc aN 8 (.mk ?_)
  obtain ⟨j60,h2,h1⟩:=dJ h1
  refine gV (Out:=λy H'=>(∃ (a:Int) (k:Unit),a=j60/\y=int a/\H'=hk [(1,⟨34,9,true,true,v2,[[int a1.Kind,int a1.E,int a1.Item,int a1.Loc,int a1.To,int a1.aQ,int a1.bD,int a1.Ref,aD 1 fI a1.bT]]⟩)])) rfl rfl rfl (d9 rfl rfl (.cons rfl (.cons rfl .nil)) sK ?_) ?_
  refine gN (c:=_) Tryz.func68 rfl rfl ?_;intro Q hret hnorm
  refine tc aN 8 (.mk ?_)
  refine sY (bX (y:=aF true) (pP rfl rfl rfl) (congrArg aF (by decide))) ?_
  refine tr aN 2 (.mk ?_)
  refine sY (bX (y:=aF true) (qT rfl rfl rfl) (congrArg aF (by decide))) ?_
  refine tr aN 8 (.mk ?_)
  refine sY (pX (r:=65) rfl Tryz.underlying21 Tryz.underlying5 rfl (by decide)) ?_
  obtain ⟨x61,e61,h2⟩:=dJ h2
  refine sC tZ (rA _ e61) ?_
  refine tr aN 2 (.mk ?_)
  obtain rfl:=eG h2
  refine iL (hret _ _ (hk [(1,⟨34,9,true,true,v2,[[int a1.Kind,int a1.E,int a1.Item,int a1.Loc,int a1.To,int a1.aQ,int a1.bD,int a1.Ref,aD 1 fI a1.bT]]⟩)]) (.tmp rfl .nil) (HK.le ⟨rfl,trivial⟩) ?_)
  exact ⟨x61,(),rfl,rfl,rfl⟩
  rintro y _ ⟨y2_1,_,rfl,hc,rfl⟩
  subst hc
  refine nb aN h1 λx62 h1=>?_
  refine tr aN 2 (.mk ?_)
  obtain rfl:=eG h1
  refine iL (hret _ _ (hk [(1,⟨34,9,true,true,v2,[[int a1.Kind,int a1.E,int a1.Item,int a1.Loc,int a1.To,int a1.aQ,int a1.bD,int a1.Ref,aD 1 fI a1.bT]]⟩)]) (.tmp rfl .nil) (HK.le ⟨rfl,trivial⟩) ?_)
  exact ⟨x62,(),rfl,rfl,rfl⟩
  rintro y _ ⟨y4_1_5,_,rfl,hc,rfl⟩
  subst hc
  refine tr aN 1 (.mk ?_)
  refine jn h0 [1,2,3,5,21,22,23] [1] (λ(a:Int×Int) (k:Unit)=>[(6,int a.1),(7,int a.2)]) (λa k=>[]) ⟨λj63 h1=>?_,?_⟩
  cases y4_1_5
  replace h1:=cf h1
  refine tc aN 2 (.mk ?_)
  exact lf h1 () eD
  replace h1:=ct h1
  refine tc aN 5 (.mk ?_)
  obtain ⟨x64,e64,h1⟩:=dJ h1
  refine sC uG (qZ e64) ?_
  refine tr aN 6 (.mk ?_)
  exact lf h1 () eD
  rintro ⟨y5_1_5,y5_2_5⟩ _ h0
  replace h0:=uE h0
  refine tc aN 3 (.mk ?_)
  obtain ⟨j65,h1,h0⟩:=dJ h0
  refine gV (Out:=λy H'=>(∃ (a:Unit) (k:Unit),a=j65/\y=.pt 1 v2 0 6/\H'=hk [(1,⟨34,9,true,true,v2,[[int a1.Kind,int a1.E,int a1.Item,int a1.Loc,int a1.To,int a1.aQ,int a1.bD,int a1.Ref,aD 1 fI a1.bT]]⟩)])) rfl rfl rfl (d9 rfl rfl (.cons rfl (.cons rfl .nil)) sQ ?_) ?_
  refine gN (c:=_) Tryz.func32 rfl rfl ?_;intro Q hret hnorm
  refine tc aN 12 (.mk ?_)
  refine sY (bX (y:=aF false) (gB rfl rfl rfl) (congrArg aF (by decide))) ?_
  refine tr aN 5 (.mk ?_)
  refine sY (bX (y:=aF false) (gB rfl rfl rfl) (congrArg aF (by decide))) ?_
  refine tr aN 5 (.mk ?_)
  refine sY (bX (y:=aF false) (gB rfl rfl rfl) (congrArg aF (by decide))) ?_
  refine tr aN 5 (.mk ?_)
  refine sY (bX (y:=aF false) (gB rfl rfl rfl) (congrArg aF (by decide))) ?_
  refine tr aN 5 (.mk ?_)
  refine sY (bX (y:=aF false) (gB rfl rfl rfl) (congrArg aF (by decide))) ?_
  refine tr aN 5 (.mk ?_)
  refine sY (bX (y:=aF true) (gB rfl rfl rfl) (congrArg aF (by decide))) ?_
  refine tr aN 10 (.mk ?_)
  obtain rfl:=eG h1
  refine iL (hret _ _ (hk [(1,⟨34,9,true,true,v2,[[int a1.Kind,int a1.E,int a1.Item,int a1.Loc,int a1.To,int a1.aQ,int a1.bD,int a1.Ref,aD 1 fI a1.bT]]⟩)]) (.tmp rfl .nil) (HK.le ⟨rfl,trivial⟩) ?_)
  exact ⟨(),(),rfl,rfl,rfl⟩
  rintro y _ ⟨_,_,rfl,hc,rfl⟩
  subst hc
  refine tr aN 5 (.mk ?_)
  refine jn h0 [1,2,3,21,22,23] [1] (λ(a:Bool) (k:Unit)=>[(46,aF a)]) (λa k=>[]) ⟨λj66 h1=>?_,?_⟩
  refine tc aN 3 (.mk ?_)
  refine nb aN h1 λx67 h1=>?_
  refine tr aN 1 (.mk ?_)
  cases x67
  replace h1:=cf h1
  refine tr aN 2 (.mk ?_)
  refine nb aN h1 λx68 h1=>?_
  refine tr aN 2 (.mk ?_)
  exact lf h1 () eD
  replace h1:=ct h1
  refine tr aN 5 (.mk ?_)
  exact lf h1 () eD
  rintro y8_1_5 _ h0
  cases y8_1_5
  replace h0:=cf h0
  refine tc aN 23 (.mk ?_)
  obtain ⟨j69,h1,h0⟩:=dJ h0
  refine gV (Out:=λy H'=>(∃ (a:Bool) (k:Unit),a=j69/\y=aF a/\H'=hk [(1,⟨34,9,true,true,v2,[[int a1.Kind,int a1.E,int a1.Item,int a1.Loc,int a1.To,int a1.aQ,int a1.bD,int a1.Ref,aD 1 fI a1.bT]]⟩)])) rfl rfl rfl (d9 rfl rfl (.cons rfl (.cons rfl .nil)) rW ?_) ?_
  refine gN (c:=_) Tryz.func30 rfl rfl ?_;intro Q hret hnorm
  refine tc aN 8 (.mk ?_)
  obtain ⟨j70,h2,h1⟩:=dJ h1
  refine gV (Out:=λy H'=>(∃ (a:Int) (k:Unit),a=j70/\y=int a/\H'=hk [(1,⟨34,9,true,true,v2,[[int a1.Kind,int a1.E,int a1.Item,int a1.Loc,int a1.To,int a1.aQ,int a1.bD,int a1.Ref,aD 1 fI a1.bT]]⟩)])) rfl rfl rfl (d9 rfl rfl (.cons rfl (.cons rfl .nil)) sK ?_) ?_
  refine gN (c:=_) Tryz.func68 rfl rfl ?_;intro Q hret hnorm
  refine tc aN 8 (.mk ?_)
  refine sY (bX (y:=aF true) (pP rfl rfl rfl) (congrArg aF (by decide))) ?_
  refine tr aN 2 (.mk ?_)
  refine sY (bX (y:=aF true) (qT rfl rfl rfl) (congrArg aF (by decide))) ?_
  refine tr aN 8 (.mk ?_)
  refine sY (pX (r:=82) rfl Tryz.underlying21 Tryz.underlying5 rfl (by decide)) ?_
  obtain ⟨x71,e71,h2⟩:=dJ h2
  refine sC tZ (rA _ e71) ?_
  refine tr aN 2 (.mk ?_)
  obtain rfl:=eG h2
  refine iL (hret _ _ (hk [(1,⟨34,9,true,true,v2,[[int a1.Kind,int a1.E,int a1.Item,int a1.Loc,int a1.To,int a1.aQ,int a1.bD,int a1.Ref,aD 1 fI a1.bT]]⟩)]) (.tmp rfl .nil) (HK.le ⟨rfl,trivial⟩) ?_)
  exact ⟨x71,(),rfl,rfl,rfl⟩
  rintro y _ ⟨y2_1,_,rfl,hc,rfl⟩
  subst hc
  refine nb aN h1 λx72 h1=>?_
  refine tr aN 2 (.mk ?_)
  obtain rfl:=eG h1
  refine iL (hret _ _ (hk [(1,⟨34,9,true,true,v2,[[int a1.Kind,int a1.E,int a1.Item,int a1.Loc,int a1.To,int a1.aQ,int a1.bD,int a1.Ref,aD 1 fI a1.bT]]⟩)]) (.tmp rfl .nil) (HK.le ⟨rfl,trivial⟩) ?_)
  exact ⟨x72,(),rfl,rfl,rfl⟩
  rintro y _ ⟨y4_1_6,_,rfl,hc,rfl⟩
  subst hc
  refine tr aN 1 (.mk ?_)
  refine jn h0 [1,2,3,5,21,22,23] [1] (λ(a:Int×Int) (k:Unit)=>[(6,int a.1),(7,int a.2)]) (λa k=>[]) ⟨λj73 h1=>?_,?_⟩
  cases y4_1_6
  replace h1:=cf h1
  refine tc aN 2 (.mk ?_)
  exact lf h1 () eD
  replace h1:=ct h1
  refine tc aN 5 (.mk ?_)
  obtain ⟨x74,e74,h1⟩:=dJ h1
  refine sC uG (qZ e74) ?_
  refine tr aN 6 (.mk ?_)
  exact lf h1 () eD
  rintro ⟨y5_1_6,y5_2_6⟩ _ h0
  replace h0:=uE h0
  refine tc aN 3 (.mk ?_)
  obtain ⟨j75,h1,h0⟩:=dJ h0
  refine gV (Out:=λy H'=>(∃ (a:Unit) (k:Unit),a=j75/\y=.pt 1 v2 0 7/\H'=hk [(1,⟨34,9,true,true,v2,[[int a1.Kind,int a1.E,int a1.Item,int a1.Loc,int a1.To,int a1.aQ,int a1.bD,int a1.Ref,aD 1 fI a1.bT]]⟩)])) rfl rfl rfl (d9 rfl rfl (.cons rfl (.cons rfl .nil)) sQ ?_) ?_
  refine gN (c:=_) Tryz.func32 rfl rfl ?_;intro Q hret hnorm
  refine tc aN 12 (.mk ?_)
  refine sY (bX (y:=aF false) (gB rfl rfl rfl) (congrArg aF (by decide))) ?_
  refine tr aN 5 (.mk ?_)
  refine sY (bX (y:=aF false) (gB rfl rfl rfl) (congrArg aF (by decide))) ?_
  refine tr aN 5 (.mk ?_)
  refine sY (bX (y:=aF false) (gB rfl rfl rfl) (congrArg aF (by decide))) ?_
  refine tr aN 5 (.mk ?_)
  refine sY (bX (y:=aF false) (gB rfl rfl rfl) (congrArg aF (by decide))) ?_
  refine tr aN 5 (.mk ?_)
  refine sY (bX (y:=aF false) (gB rfl rfl rfl) (congrArg aF (by decide))) ?_
  refine tr aN 5 (.mk ?_)
  refine sY (bX (y:=aF false) (gB rfl rfl rfl) (congrArg aF (by decide))) ?_
  refine tr aN 12 (.mk ?_)
  obtain rfl:=eG h1
  refine iL (hret _ _ (hk [(1,⟨34,9,true,true,v2,[[int a1.Kind,int a1.E,int a1.Item,int a1.Loc,int a1.To,int a1.aQ,int a1.bD,int a1.Ref,aD 1 fI a1.bT]]⟩)]) (.tmp rfl .nil) (HK.le ⟨rfl,trivial⟩) ?_)
  exact ⟨(),(),rfl,rfl,rfl⟩
  rintro y _ ⟨_,_,rfl,hc,rfl⟩
  subst hc
  refine tr aN 5 (.mk ?_)
  refine jn h0 [1,2,3,21,22,23] [1] (λ(a:Bool) (k:Unit)=>[(46,aF a)]) (λa k=>[]) ⟨λj76 h1=>?_,?_⟩
  refine tc aN 3 (.mk ?_)
  refine nb aN h1 λx77 h1=>?_
  refine tr aN 1 (.mk ?_)
  cases x77
  replace h1:=cf h1
  refine tr aN 2 (.mk ?_)
  refine nb aN h1 λx78 h1=>?_
  refine tr aN 2 (.mk ?_)
  exact lf h1 () eD
  replace h1:=ct h1
  refine tr aN 5 (.mk ?_)
  exact lf h1 () eD
  rintro y8_1_6 _ h0
  cases y8_1_6
  replace h0:=cf h0
  refine tc aN 12 (.mk ?_)
  refine nb aN h0 λx79 h0=>?_
  refine tr aN 1 (.mk ?_)
  cases x79
  replace h0:=cf h0
  refine tc aN 3 (.mk ?_)
  refine jn h0 [] [] (λ(a:Bool) (k:Unit)=>[(2,aF a)]) (λa k=>[]) ⟨λj80 h1=>?_,?_⟩
  refine tc aN 3 (.mk ?_)
  refine sY (oU rfl Tryz.underlying22 rfl (F9 _)) ?_
  refine nb aN h1 λx81 h1=>?_
  refine tr aN 1 (.mk ?_)
  cases x81
  replace h1:=cf h1
  refine tr aN 27 (.mk ?_)
  exact lf h1 () eD
  replace h1:=ct h1
  refine tr aN 2 (.mk ?_)
  refine nb aN h1 λx82 h1=>?_
  refine tr aN 1 (.mk ?_)
  cases x82
  replace h1:=cf h1
  refine tr aN 11 (.mk ?_)
  refine nb aN h1 λx83 h1=>?_
  refine tr aN 1 (.mk ?_)
  cases x83
  replace h1:=cf h1
  refine tr aN 10 (.mk ?_)
  exact lf h1 () eD
  replace h1:=ct h1
  refine tr aN 4 (.mk ?_)
  refine nb aN h1 λx84 h1=>?_
  refine tr aN 1 (.mk ?_)
  refine nb aN h1 λx85 h1=>?_
  refine tr aN 3 (.mk ?_)
  exact lf h1 () eD
  replace h1:=ct h1
  refine tr aN 4 (.mk ?_)
  refine nb aN h1 λx86 h1=>?_
  refine tr aN 1 (.mk ?_)
  refine nb aN h1 λx87 h1=>?_
  refine tr aN 2 (.mk ?_)
  cases x87
  replace h1:=cf h1
  refine tr aN 14 (.mk ?_)
  exact lf h1 () eD
  replace h1:=ct h1
  refine tr aN 2 (.mk ?_)
  refine nb aN h1 λx88 h1=>?_
  refine tr aN 1 (.mk ?_)
  cases x88
  replace h1:=cf h1
  refine tr aN 10 (.mk ?_)
  exact lf h1 () eD
  replace h1:=ct h1
  refine tr aN 4 (.mk ?_)
  refine nb aN h1 λx89 h1=>?_
  refine tr aN 1 (.mk ?_)
  refine nb aN h1 λx90 h1=>?_
  refine tr aN 3 (.mk ?_)
  exact lf h1 () eD
  rintro y9_1 _ h0
  obtain rfl:=eG h0
  refine wR hret (rT .nil) ?_
  exact .refl _
  replace h0:=ct h0
  refine tc aN 5 (.mk ?_)
  obtain ⟨x91,e91,h0⟩:=dJ h0
  refine sC aDW (aG3 _ e91) ?_
  refine tr aN 2 (.mk ?_)
  obtain rfl:=eG h0
  refine wR hret (rT .nil) ?_
  exact .refl _
  replace h0:=ct h0
  refine tc aN 5 (.mk ?_)
  obtain rfl:=eG h0
  refine wR hret (rT .nil) ?_
  exact .refl _
  replace h0:=ct h0
  refine tc aN 5 (.mk ?_)
  obtain rfl:=eG h0
  refine wR hret (rT .nil) ?_
  exact .refl _
  replace h0:=ct h0
  refine tc aN 5 (.mk ?_)
  obtain rfl:=eG h0
  refine wR hret (rT .nil) ?_
  exact .refl _
  replace h0:=ct h0
  refine tc aN 5 (.mk ?_)
  obtain rfl:=eG h0
  refine wR hret (rT .nil) ?_
  exact .refl _
  replace h0:=ct h0
  refine tc aN 5 (.mk ?_)
  obtain rfl:=eG h0
  refine wR hret (rT .nil) ?_
  exact .refl _
  replace h0:=ct h0
  refine tc aN 5 (.mk ?_)
  obtain rfl:=eG h0
  refine wR hret (rT .nil) ?_
  exact .refl _
  replace h0:=ct h0
  refine tc aN 5 (.mk ?_)
  obtain rfl:=eG h0
  refine wR hret (rT .nil) ?_
  exact .refl _
  replace h0:=ct h0
  refine tc aN 5 (.mk ?_)
  obtain rfl:=eG h0
  refine wR hret (rT .nil) ?_
  exact .refl _
def XU (a1:aA) (a2:Int) (a3:Int):WB (Bool) :=
 .al 1<|.jn 0 [1,3,6] [1] [] (λ_ (a:Bool)=>[(29,aF a)]) (λ_ _=>[]) (.bB 10 (decide (a2<0)) λx5=>.ifs [10] x5 (.ret true) (.ln 15 aP.av a1.aW<|.bB 16 (decide (a2>=(a1.aW.length:Int))) λx6=>.ifs [16] x6 (.ret true) (.bB 20 (decide (a3<0)) λx7=>.ifs [20] x7 (.ret true) (.ln 27 fI a1.bA.cB<|.bB 28 (decide (a3>=(a1.bA.cB.length:Int))) λx8=>.ret x8)))) (λy0_1=>.ifs [29] y0_1 (.ret ((false:Bool))) (.dr [(0,[1]),(1,[1]),(5,[1]),(6,[1]),(7,[1])] [] [1] [9,10] [0,1,2,3,4,5,6,7,8,9,10,11] (.gI 33 aP.av gE aP.bW a1.aW a2 λx9=>.ln 38 fI a1.bA.cB<|.al 2<|.jn 0 [] [] [] (λ_ (a:Bool)=>[(6,aF a)]) (λ_ _=>[]) (.ln 41 aM.av x9.dD<|.bI 43 (aI ((a1.bA.cB.length:Int)*2)) λx11=>.bB 44 (decide ((x9.dD.length:Int)>=x11)) λx12=>.ifs [44] x12 (.ln 48 bM.av x9.dI<|.bB 50 (decide ((x9.dI.length:Int)>=(a1.bA.cB.length:Int))) λx13=>.ifs [50] x13 (.ln 57 (fL 1 fI) a1.bA.Methods<|.bB 58 (decide (a2<(a1.bA.Methods.length:Int))) λx14=>.ifs [58] x14 (.ln 65 (fL 1 fI) a1.bA.dN<|.bB 66 (decide (a2<(a1.bA.dN.length:Int))) λx15=>.ifs [66] x15 (.ix 73 (fL 1 fI) a1.bA.Methods a2 λx16=>.ln 75 fI x16<|.bB 77 (decide ((x16.length:Int)>=(a1.bA.cB.length:Int))) λx17=>.ifs [77] x17 (.ix 84 (fL 1 fI) a1.bA.dN a2 λx18=>.ln 86 fI x18<|.bB 88 (decide ((x18.length:Int)>=(a1.bA.cB.length:Int))) λx19=>.ret x19) (.ret false)) (.ret false)) (.ret false)) (.ret false)) (.ret false)) (λy1_1=>.ret ((y1_1:Bool))))))
def zC (a1:aA) (a2:Int) (a3:Int):Option (Bool):=(XU a1 a2 a3).run
theorem IS {a1 a2 a3}:PZ (zC a1 a2 a3) 87 [.agg (aA.av a1),int a2,int a3] aF:=wq Tryz.func87
def aLX (a1:aA) (a2:Int) (a3:Int):WB (Int) :=
 .al 1<|.cl 11 (zC a1 a2 a3) JA IS λx5=>.bB 12 (!x5) λx6=>.ifs [12] x6 (.ret ((4:Int))) (.gI 17 aP.av gE aP.bW a1.aW a2 λx7=>.wt 13 <|.ifs [13] x7.Closed (.ret ((7:Int))) (.ret ((0:Int))))
def lH (a1:aA) (a2:Int) (a3:Int):Option (Int):=(aLX a1 a2 a3).run
theorem mU {a1 a2 a3}:PZ (lH a1 a2 a3) 44 [.agg (aA.av a1),int a2,int a3] int:=wq Tryz.func44
def aIS (a1:Int) (a2:Int) (a3:Int):WB (Bool) :=
 .jn 1 [] [] [] (λ_ (a:Bool)=>[(6,aF a)]) (λ_ _=>[]) (.bB 9 (decide (a1>=a2)) λx4=>.ifs [9] x4 (.bB 13 (decide (a1<=a3)) λx5=>.ret x5) (.ret false)) (λy0_1=>.ret ((y0_1:Bool)))
def UX (a1:Int) (a2:Int) (a3:Int):Option (Bool):=(aIS a1 a2 a3).run
theorem aK1 {a1 a2 a3}:PZ (UX a1 a2 a3) 160 [int a1,int a2,int a3] aF:=wq Tryz.func160
def aLD (a1:aA) (a2:Int) (a3:Int) (a4:Int):WB (Int) :=
 .al 1<|.jn 0 [2,3,8] [] [] (λ_ (a:Bool)=>[(18,aF a)]) (λ_ _=>[]) (.cl 12 (zC a1 a2 a3) JA IS λx6=>.bB 13 (!x6) λx7=>.ifs [13] x7 (.ret true) (.cl 16 (UX a4 0 1) aJP aK1 λx8=>.bB 17 (!x8) λx9=>.ret x9)) (λy0_1=>.ifs [18] y0_1 (.ret (((-1):Int))) (.bI 20 (aI (a3*2)) λx10=>.bI 22 (aI (x10+a4)) λx11=>.ret ((x11:Int))))
def zN (a1:aA) (a2:Int) (a3:Int) (a4:Int):Option (Int):=(aLD a1 a2 a3 a4).run
theorem FX {a1 a2 a3 a4}:PZ (zN a1 a2 a3 a4) 88 [.agg (aA.av a1),int a2,int a3,int a4] int:=wq Tryz.func88
def aJB (a1:aB):WB (Bool) :=
 .al 1<|.jn 0 [] [] [] (λ_ (a:Bool)=>[(2,aF a)]) (λ_ _=>[]) (.bB 5 (decide (a1.aQ<1)) λx3=>.ifs [5] x3 (.ret true) (.bB 9 (decide (a1.aQ>288230376151711744)) λx4=>.ifs [9] x4 (.ret true) (.bB 14 (decide (a1.Value<0)) λx5=>.ifs [14] x5 (.ret true) (.bB 19 (decide (a1.Value>288230376151711744)) λx6=>.ifs [19] x6 (.ret true) (.bB 24 (decide (a1.bO<(-288230376151711744))) λx7=>.ifs [24] x7 (.ret true) (.bB 29 (decide (a1.bO>288230376151711744)) λx8=>.ret x8)))))) (λy0_1=>.ret ((y0_1:Bool)))
def TU (a1:aB):Option (Bool):=(aJB a1).run
theorem aFP {a1}:PZ (TU a1) 242 [.agg (aB.av a1)] aF:=wq Tryz.func242
def aN8 (a1:Int):WB (Bool) :=
 .jn 1 [] [] [] (λ_ (a:Bool)=>[(2,aF a)]) (λ_ _=>[]) (.bB 4 (decide (a1>=(-288230376151711744))) λx2=>.ifs [4] x2 (.bB 7 (decide (a1<=288230376151711744)) λx3=>.ret x3) (.ret false)) (λy0_1=>.ret ((y0_1:Bool)))
def xE (a1:Int):Option (Bool):=(aN8 a1).run
theorem B8 {a1}:PZ (xE a1) 176 [int a1] aF:=wq Tryz.func176
def aNE (a1:Int) (a2:Int):WB (Int×Int) :=
 .jn 1 [0,1,4,5] [] [] (λ_ (a:Bool)=>[(20,aF a)]) (λ_ _=>[]) (.cl 7 (xE a1) AT B8 λx3=>.bB 8 (!x3) λx4=>.ifs [8] x4 (.ret true) (.cl 11 (xE a2) AT B8 λx5=>.bB 12 (!x5) λx6=>.ifs [12] x6 (.ret true) (.bI 17 (aI (a1+a2)) λx7=>.cl 18 (xE x7) AT B8 λx8=>.bB 19 (!x8) λx9=>.ret x9))) (λy0_1=>.ifs [20] y0_1 (.ret ((0:Int),2)) (.bI 23 (aI (a1+a2)) λx10=>.ret ((x10:Int),0)))
def kG (a1:Int) (a2:Int):Option (Int×Int):=(aNE a1 a2).run
theorem kJ {a1 a2}:PZ (kG a1 a2) 98 [int a1,int a2] (λr=>.aU [int r.1,int r.2]):=wq Tryz.func98
def aMW (n:Nat) (a1:List Int):WB (Int×Int) :=
 .ln 9 fI a1<|.dF 0 [2,3] [] [] (λ_ (a:Int)=>[(4,int a)]) (λ_ _=>[]) (.lp [2,3,8,9] [] [] (λ_ (a:Int×Int)=>[(4,int a.1),(10,int a.2)]) (λ_ _=>[]) n ((0:Int),0) (pw λy0_1 y0_2=>.bB 11 (decide (y0_2<(a1.length:Int))) λx2=>.ifs [11] x2 (.ix 12 fI a1 y0_2 λx3=>.cl 17 (kG y0_1 x3) kL kJ λx4=>.bB 21 (decide (x4.2≠0)) λx5=>.ifs [21] x5 (.esc (.esc (.ret ((0:Int),x4.2)))) (.bI 23 (aI (y0_2+1)) λx6=>.brk ((x4.1:Int),x6))) (.esc (.brk y0_1)))) (λy1_1=>.ret ((y1_1:Int),0))
def nV (n:Nat) (a1:List Int):Option (Int×Int):=(aMW n a1).run
theorem o5 {n a1}:PZ (nV n a1) 119 [aD 1 fI a1] (λr=>.aU [int r.1,int r.2]):=wq Tryz.func119
def Z5 (n:Nat) (a1:List aB):WB (aB×Int) :=
 .al 1<|.ln 15 aB.av a1<|.jn 0 [2,3] [1] [6,7,8] (λu2 (a:(List Int)×(List Int)×(List Int))=>[(4,.sl 6 (u2 6) 0 a.1.length),(5,.sl 7 (u2 7) 0 a.2.1.length),(6,.sl 8 (u2 8) 0 a.2.2.length)]) (λ_ a=>[.nw 6 3 1 (a.1.map fI),.nw 7 3 1 (a.2.1.map fI),.nw 8 3 1 (a.2.2.map fI)]) (.no 4 6 3 1<|.no 5 7 3 1<|.no 6 8 3 1<|.lp [2,3,14,15] [1] [6,7,8] (λu3 (a:Int×(List Int)×(List Int)×(List Int))=>[(4,.sl 6 (u3 6) 0 a.2.1.length),(5,.sl 7 (u3 7) 0 a.2.2.1.length),(6,.sl 8 (u3 8) 0 a.2.2.2.length),(16,int a.1)]) (λ_ a=>[.nw 6 3 1 (a.2.1.map fI),.nw 7 3 1 (a.2.2.1.map fI),.nw 8 3 1 (a.2.2.2.map fI)]) n ((0:Int),(([]:List Int):List Int),(([]:List Int):List Int),(([]:List Int):List Int)) (pw λy0_4 q0=>(pw λy0_5 q1=>(pw λy0_6 y0_7=>.bB 17 (decide (y0_4<(a1.length:Int))) λx6=>.ifs [17] x6 (.ix 18 aB.av a1 y0_4 λx7=>.al 2<|.dr [(1,[2]),(2,[2]),(6,[2]),(7,[2]),(11,[2]),(12,[2])] [(14,[])] [2] [4,9,14] [0,1,2,3,5,6,7,8,10,11,12,13,4,9,14,15,16,17] (.to 23 (aD 1 fI ([x7.aQ]:List Int))<|.to 28 (aD 1 fI ([x7.Value]:List Int))<|.to 33 (aD 1 fI ([x7.bO]:List Int))<|.bl (y0_5++([x7.aQ]:List Int):List Int) λx9=>.as (x9.length<=68719476736) inferInstance<|.ge 24 0<|.bl (y0_6++([x7.Value]:List Int):List Int) λx12=>.as (x12.length<=68719476736) inferInstance<|.ge 29 0<|.bl (y0_7++([x7.bO]:List Int):List Int) λx15=>.as (x15.length<=68719476736) inferInstance<|.ge 34 0<|.bI 35 (aI (y0_4+1)) λx18=>.brk ((x18:Int),x9,x12,x15))) (.esc (.ret ((y0_5:List Int),y0_6,y0_7)))) q1) q0)) (pw λy1_4 q0=>(pw λy1_5 y1_6=>.al 9<|.gv 45<|.dF 0 [2,3,9] [1] [] (λ_ (a:aB)=>[]) (λ_ a=>[.kp 9 [[int a.aQ,int a.Value,int a.bO]]]) (.un 24 (.kB 48 true<|.gv 49<|.al 10<|.gK 54 (nV n y1_4) pG o5 (λ_=>rfl) λx21=>.bB 58 (decide (x21.2≠0)) λx22=>.ifs [58] x22 (.esc (.ret (((⟨0,0,0⟩:aB):aB),x21.2))) (.kI 65 1<|.kB 48 true<|.gv 49<|.al 11<|.gK 54 (nV n y1_5) pG o5 (λ_=>rfl) λx24=>.bB 58 (decide (x24.2≠0)) λx25=>.ifs [58] x25 (.esc (.ret (((⟨0,0,0⟩:aB):aB),x24.2))) (.kI 65 2<|.kB 48 true<|.gv 49<|.al 12<|.gK 54 (nV n y1_6) pG o5 (λ_=>rfl) λx27=>.bB 58 (decide (x27.2≠0)) λx28=>.ifs [58] x28 (.esc (.ret (((⟨0,0,0⟩:aB):aB),x27.2))) (.kI 65 3<|.kB 48 false<|.brk ((⟨x21.1,x24.1,x27.1⟩:aB):aB)))))) (λy2_1=>.ret ((y2_1:aB),0))) q0)
def y8 (n:Nat) (a1:List aB):Option (aB×Int):=(Z5 n a1).run
theorem BD {n a1}:PZ (y8 n a1) 163 [aD 3 aB.av a1] (λr=>.aU [.agg (aB.av r.1),int r.2]):=by
 refine wm Tryz.func163 ?_
 intro v2
 refine .mk ?_
 refine .mk ?_ ?_
 intro v3
 intro v4
 intro v5
 refine .mk ?_
 rintro ⟨y0_4,y0_5,y0_6,y0_7⟩ _
 refine .mk λx6=>?_
 refine .mk ?_ ?_
 refine .mk λx7 e7=>?_
 intro v8
 refine .mk ?_
 refine .mk (λH hH _=>bX (y:=aD 1 fI ([x7.aQ]:List Int)) (dQ (ps:=[(0,_)]) (rows:=[[int x7.aQ]]) rfl Tryz.underlying22 fT (.cons rfl .nil) (by kernel_rfl) rfl rfl rfl) rfl) ?_
 refine .mk (λH hH _=>bX (y:=aD 1 fI ([x7.Value]:List Int)) (dQ (ps:=[(0,_)]) (rows:=[[int x7.Value]]) rfl Tryz.underlying22 fT (.cons rfl .nil) (by kernel_rfl) rfl rfl rfl) rfl) ?_
 refine .mk (λH hH _=>bX (y:=aD 1 fI ([x7.bO]:List Int)) (dQ (ps:=[(0,_)]) (rows:=[[int x7.bO]]) rfl Tryz.underlying22 fT (.cons rfl .nil) (by kernel_rfl) rfl rfl rfl) rfl) ?_
 refine .mk λx9 e9=>?_
 refine .mk λp10=>?_
 refine .mk _ ⟨λ_=>jU (g:=fI) (l:=y0_5) (m:=([x7.aQ]:List Int)) .any rfl Tryz.underlying22 fT kY rfl rfl rfl rfl rfl rfl rfl rfl rfl rfl (Eq.symm rfl) (.refl _) (λ_=>rfl) e9 p10,by rintro _ _ ⟨v11,-,rfl,rfl⟩;exact ⟨rfl,trivial⟩⟩ ?_
 rintro _ _ ⟨v11,-,rfl,rfl⟩
 refine .mk λx12 e12=>?_
 refine .mk λp13=>?_
 refine .mk _ ⟨λ_=>jU (g:=fI) (l:=y0_6) (m:=([x7.Value]:List Int)) .any rfl Tryz.underlying22 fT kY rfl rfl rfl rfl rfl rfl rfl rfl rfl rfl (Eq.symm rfl) (.refl _) (λ_=>rfl) e12 p13,by rintro _ _ ⟨v14,-,rfl,rfl⟩;exact ⟨rfl,trivial⟩⟩ ?_
 rintro _ _ ⟨v14,-,rfl,rfl⟩
 refine .mk λx15 e15=>?_
 refine .mk λp16=>?_
 refine .mk _ ⟨λ_=>jU (g:=fI) (l:=y0_7) (m:=([x7.bO]:List Int)) .any rfl Tryz.underlying22 fT kY rfl rfl rfl rfl rfl rfl rfl rfl rfl rfl (Eq.symm rfl) (.refl _) (λ_=>rfl) e15 p16,by rintro _ _ ⟨v17,-,rfl,rfl⟩;exact trivial⟩ ?_
 rintro _ _ ⟨v17,-,rfl,rfl⟩
 refine .mk λx18=>?_
 exact .mk
 exact .mk
 rintro ⟨y1_4,y1_5,y1_6⟩ u2
 intro v19
 refine .mk _ (bE (dQ (ps:=[(0,_),(1,_),(2,_)]) (rows:=[[.pt 9 v19 0 0,.sl 6 (u2 6) 0 y1_4.length],[.pt 9 v19 0 1,.sl 7 (u2 7) 0 y1_5.length],[.pt 9 v19 0 2,.sl 8 (u2 8) 0 y1_6.length]]) rfl Tryz.underlying241 aJ5 (.cons rfl (.cons rfl (.cons rfl .nil))) (by kernel_rfl) rfl rfl rfl)) ?_
 refine .mk ?_ ?_
 refine .mk ?_
 refine .mk _ (bE (iM (j:=0) rfl Tryz.underlying241 FQ rfl rfl rfl (.list rfl))) ?_
 intro v20
 refine .mk (λx21 e21=>?_) rfl (by rintro _ rfl;exact (.cons (dH rfl rfl rfl rfl rfl (Eq.symm rfl)) .nil))
 refine .mk λx22=>?_
 refine .mk .mk ?_
 refine .mk ?_
 refine .mk ?_
 refine .mk _ (bE (iM (j:=1) rfl Tryz.underlying241 FQ rfl rfl rfl (.list rfl))) ?_
 intro v23
 refine .mk (λx24 e24=>?_) rfl (by rintro _ rfl;exact (.cons (dH rfl rfl rfl rfl rfl (Eq.symm rfl)) .nil))
 refine .mk λx25=>?_
 refine .mk .mk ?_
 refine .mk ?_
 refine .mk ?_
 refine .mk _ (bE (iM (j:=2) rfl Tryz.underlying241 FQ rfl rfl rfl (.list rfl))) ?_
 intro v26
 refine .mk (λx27 e27=>?_) rfl (by rintro _ rfl;exact (.cons (dH rfl rfl rfl rfl rfl (Eq.symm rfl)) .nil))
 refine .mk λx28=>?_
 refine .mk .mk ?_
 refine .mk ?_
 refine .mk ?_
 exact .mk
 intro _ _
 exact .mk
end
end Go.Pv
