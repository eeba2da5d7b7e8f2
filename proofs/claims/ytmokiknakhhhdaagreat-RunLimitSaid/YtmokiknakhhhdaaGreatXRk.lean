import Derived.Test.YtmokiknakhhhdaaGreatXRj
set_option linter.unusedVariables false
set_option linter.unusedSimpArgs false
namespace Go.Pv
open Go.Proofs
set_option maxRecDepth 100000
set_option maxHeartbeats 4000000
noncomputable section
def kX (n:Nat) (a1:aF) (a2:aF) (a3:Int):Option (aF×Bool) :=
bnd (decide (a3=101)) λx7 =>
cond x7 ((show Option (Bool) from
bnd (decide (a1.E>=0)) λx37 =>
cond x37 (bnd (decide (a1.E<4)) λx38 =>
some (x38:Bool)) (some (false:Bool))).bind <| λy5_1 =>
some (((⟨a2.Kind,a1.E,a2.Item,a2.Loc,a2.To,a2.aM,a2.aQ,a2.Ref,a2.bT⟩:aF):aF),(y5_1:Bool))) (bnd (decide (a3=105)) λx8 =>
cond x8 ((show Option (Bool) from
bnd (decide (a1.Item>=0)) λx34 =>
cond x34 (bnd (decide (a1.Item<5)) λx35 =>
some (x35:Bool)) (some (false:Bool))).bind <| λy4_1 =>
some (((⟨a2.Kind,a2.E,a1.Item,a2.Loc,a2.To,a2.aM,a2.aQ,a2.Ref,a2.bT⟩:aF):aF),(y4_1:Bool))) (bnd (decide (a3=108)) λx9 =>
cond x9 ((show Option (Bool) from
bnd (decide (a1.Loc>=0)) λx31 =>
cond x31 (bnd (decide (a1.Loc<2)) λx32 =>
some (x32:Bool)) (some (false:Bool))).bind <| λy3_1 =>
some (((⟨a2.Kind,a2.E,a2.Item,a1.Loc,a2.To,a2.aM,a2.aQ,a2.Ref,a2.bT⟩:aF):aF),(y3_1:Bool))) (bnd (decide (a3=116)) λx10 =>
cond x10 ((pJ a1).bind λx29 =>
some (((⟨a2.Kind,a2.E,a2.Item,a2.Loc,a1.To,a2.aM,a2.aQ,a2.Ref,a2.bT⟩:aF):aF),(x29:Bool))) (bnd (decide (a3=113)) λx11 =>
cond x11 ((show Option (Bool) from
bnd (decide (a1.aM<=1073741824)) λx25 =>
cond x25 (bnd (decide (a1.aM>=1)) λx26 =>
cond x26 (some (true:Bool)) (bnd (decide (a1.aM=0)) λx27 =>
cond x27 (bnd (decide (a1.Kind=7)) λx28 =>
some (x28:Bool)) (some (false:Bool)))) (some (false:Bool))).bind <| λy2_1 =>
some (((⟨a2.Kind,a2.E,a2.Item,a2.Loc,a2.To,a1.aM,a2.aQ,a2.Ref,a2.bT⟩:aF):aF),(y2_1:Bool))) (bnd (decide (a3=97)) λx12 =>
cond x12 ((show Option (Bool) from
bnd (decide (a1.aQ>=0)) λx19 =>
cond x19 (bnd (decide (a1.aQ<=1125899906842624)) λx20 =>
cond x20 (bnd (decide (a1.aQ<=1073741824)) λx21 =>
cond x21 (some (true:Bool)) (bnd (decide (a1.Kind≠9)) λx22 =>
cond x22 (bnd (decide (a1.Kind≠10)) λx23 =>
some (x23:Bool)) (some (false:Bool)))) (some (false:Bool))) (some (false:Bool))).bind <| λy1_1 =>
some (((⟨a2.Kind,a2.E,a2.Item,a2.Loc,a2.To,a2.aM,a1.aQ,a2.Ref,a2.bT⟩:aF):aF),(y1_1:Bool))) (bnd (decide (a3=114)) λx13 =>
cond x13 ((show Option (Bool) from
bnd (decide (a1.Ref>=0)) λx16 =>
cond x16 (bnd (decide (a1.Ref<40)) λx17 =>
some (x17:Bool)) (some (false:Bool))).bind <| λy0_1 =>
some (((⟨a2.Kind,a2.E,a2.Item,a2.Loc,a2.To,a2.aM,a2.aQ,a1.Ref,a2.bT⟩:aF):aF),(y0_1:Bool))) ((vK n a1.bT).bind λx14 =>
some (((⟨a2.Kind,a2.E,a2.Item,a2.Loc,a2.To,a2.aM,a2.aQ,a2.Ref,a1.bT⟩:aF):aF),(x14:Bool)))))))))
theorem aKT {n:Nat} {a1:aF} {a2:aF} {a3:Int} {r:aF×Bool} (h0:kX n a1 a2 a3=some r):PP Tryz.prog 49 [.agg (aF.av a1),.agg (aF.av a2),.sc (.int .u8 a3)] (λy=>y=.aS [.agg (aF.av r.1),aB r.2]):=by
  unfold kX at h0
  refine kE (R0:=λy H=>Cv (iN H) y (.aS [.agg (aF.av r.1),aB r.2])) ?_ (λy H hc=>⟨_,rfl,.aS (BH ((λ(a:aF)=>PV.agg (aF.eH a)) (r.1)) (qD (r.2))),hc⟩)
  refine dD (c:=_) Tryz.func49 rfl rfl ?_;intro Q hret hnorm
  refine tc aA 2 (.mk ?_)
  refine sB 1 λv4=>?_
  refine sB 2 λv5=>?_
  refine sA 3 z29 λv6=>?_
  refine tr aA 10 (.mk ?_)
  refine nb aA h0 λx7 h0=>?_
  refine tr aA 2 (.mk ?_)
  cases x7
  replace h0:=cf h0
  refine tc aA 3 (.mk ?_)
  refine nb aA h0 λx8 h0=>?_
  refine tr aA 2 (.mk ?_)
  cases x8
  replace h0:=cf h0
  refine tc aA 3 (.mk ?_)
  refine nb aA h0 λx9 h0=>?_
  refine tr aA 2 (.mk ?_)
  cases x9
  replace h0:=cf h0
  refine tc aA 3 (.mk ?_)
  refine nb aA h0 λx10 h0=>?_
  refine tr aA 2 (.mk ?_)
  cases x10
  replace h0:=cf h0
  refine tc aA 3 (.mk ?_)
  refine nb aA h0 λx11 h0=>?_
  refine tr aA 2 (.mk ?_)
  cases x11
  replace h0:=cf h0
  refine tc aA 3 (.mk ?_)
  refine nb aA h0 λx12 h0=>?_
  refine tr aA 2 (.mk ?_)
  cases x12
  replace h0:=cf h0
  refine tc aA 3 (.mk ?_)
  refine nb aA h0 λx13 h0=>?_
  refine tr aA 2 (.mk ?_)
  cases x13
  replace h0:=cf h0
  refine tc aA 8 (.mk ?_)
  refine sS ⟨29,9,true,true,v5,[[int a2.Kind,int a2.E,int a2.Item,int a2.Loc,int a2.To,int a2.aM,int a2.aQ,int a2.Ref,aG 1 fI a1.bT]]⟩ vD ?_
  refine tr aA 2 (.mk ?_)
  refine nH [0,0,2,6,15,31] (rl [(0,[2]),(1,[1]),(2,[1])] []) (rl [(4,[])] [1,2]) (rl [(4,false)] true) [0,1,2,3,4,5] mixed (by kernel_rfl) ?_;intro K hK
  refine eL fD ?_
  refine eF aNQ ?_
  refine eL vD ?_
  obtain ⟨x14,e14,h0⟩:=bJ h0
  refine eP (λH hH=>gH rfl rfl (.cons rfl .nil) aFW (bO.refl _) (aCZ e14)) ?_
  refine jR rfl rfl rfl rfl (bZ.fA (gM (ob':=(⟨29,9,true,true,v6,[[int a2.Kind,int a2.E,int a2.Item,int a2.Loc,int a2.To,int a2.aM,int a2.aQ,int a2.Ref,aG 1 fI a1.bT]]⟩:bA)) (dZ rfl fD rfl rfl rfl rfl rfl rfl rfl rfl rfl) rfl) (λ_ h=>h) (λ_ _=>trivial)) (by rintro _ _ ⟨rfl,rfl⟩;exact trivial) ?_;rintro _ _ ⟨rfl,rfl⟩
  refine eA ?_
  refine jI (hK _ ?_)
  obtain rfl:=bE h0
  refine wR hret (rC fD (rT .nil)) ?_
  exact .refl _
  replace h0:=ct h0
  refine tc aA 6 (.mk ?_)
  refine sS ⟨29,9,true,true,v5,[[int a2.Kind,int a2.E,int a2.Item,int a2.Loc,int a2.To,int a2.aM,int a2.aQ,int a1.Ref,aG 1 fI a2.bT]]⟩ bW ?_
  refine tr aA 2 (.mk ?_)
  refine jn h0 [3,4,6] [1,2] (λ(a:Bool) (k:Unit)=>[(7,aB a)]) (λa k=>[(3,⟨29,9,true,true,v6,[[int a2.Kind,int a2.E,int a2.Item,int a2.Loc,int a2.To,int a2.aM,int a2.aQ,int a1.Ref,aG 1 fI a2.bT]]⟩)]) ⟨λj15 h1=>?_,?_⟩
  refine nH [0,0,2,6,14,30,62,126,254,31,1023] (rl [(0,[2]),(1,[1]),(2,[1]),(5,[1]),(6,[1])] []) (rl [(9,[1])] [1,2]) (rl [(9,false)] true) [0,1,2,3,4,5,6,7,8,9,10] mixed (by kernel_rfl) ?_;intro K hK
  refine eL fD ?_
  refine eF YT ?_
  refine eL bW ?_
  obtain ⟨x16,e16,h1⟩:=aP h1
  refine eP (λH hH=>aH (y:=aB x16) (qF rfl rfl rfl) (congrArg aB e16)) ?_
  refine eM ?_
  cases x16
  replace h1:=cf h1
  refine dO rfl rfl rfl ?_
  refine dO rfl rfl rfl ?_
  refine dO rfl rfl rfl ?_
  refine eP (λH hH=>gP rfl rfl (λ_=>rfl) (λ_=>rfl) rfl) ?_
  refine jR rfl rfl rfl rfl (bZ.fA (gM (ob':=(⟨29,9,true,true,v6,[[int a2.Kind,int a2.E,int a2.Item,int a2.Loc,int a2.To,int a2.aM,int a2.aQ,int a1.Ref,aG 1 fI a2.bT]]⟩:bA)) (dZ rfl fD rfl rfl rfl rfl rfl rfl rfl rfl rfl) rfl) (λ_ h=>h) (λ_ _=>trivial)) (by rintro _ _ ⟨rfl,rfl⟩;exact ⟨rfl,trivial⟩) ?_;rintro _ _ ⟨rfl,rfl⟩
  refine eA ?_
  refine jI (hK _ ?_)
  exact lf h1 () aW
  replace h1:=ct h1
  refine eF YT ?_
  refine eL bW ?_
  obtain ⟨x17,e17,h1⟩:=aP h1
  refine eP (λH hH=>aH (y:=aB x17) (mU rfl rfl rfl) (congrArg aB e17)) ?_
  refine eP (λH hH=>gP rfl rfl (λ_=>rfl) (λ_=>rfl) rfl) ?_
  refine jR rfl rfl rfl rfl (bZ.fA (gM (ob':=(⟨29,9,true,true,v6,[[int a2.Kind,int a2.E,int a2.Item,int a2.Loc,int a2.To,int a2.aM,int a2.aQ,int a1.Ref,aG 1 fI a2.bT]]⟩:bA)) (dZ rfl fD rfl rfl rfl rfl rfl rfl rfl rfl rfl) rfl) (λ_ h=>h) (λ_ _=>trivial)) (by rintro _ _ ⟨rfl,rfl⟩;exact ⟨rfl,trivial⟩) ?_;rintro _ _ ⟨rfl,rfl⟩
  refine eA ?_
  refine jI (hK _ ?_)
  exact lf h1 () aW
  rintro y0_1 _ h0
  obtain rfl:=bE h0
  refine wR hret (rC fD (rT .nil)) ?_
  exact .refl _
  replace h0:=ct h0
  refine tc aA 6 (.mk ?_)
  refine sS ⟨29,9,true,true,v5,[[int a2.Kind,int a2.E,int a2.Item,int a2.Loc,int a2.To,int a2.aM,int a1.aQ,int a2.Ref,aG 1 fI a2.bT]]⟩ bW ?_
  refine tr aA 2 (.mk ?_)
  refine jn h0 [3,4,6] [1,2] (λ(a:Bool) (k:Unit)=>[(7,aB a)]) (λa k=>[(3,⟨29,9,true,true,v6,[[int a2.Kind,int a2.E,int a2.Item,int a2.Loc,int a2.To,int a2.aM,int a1.aQ,int a2.Ref,aG 1 fI a2.bT]]⟩)]) ⟨λj18 h1=>?_,?_⟩
  refine nH [0,0,2,6,14,30,62,126,254,510,1022,2046,4094,8190,16382,32766,65534,131070,262142,524286,1048574,2097150,4194302,8388606,262143,33554431] (rl [(0,[2]),(1,[1]),(2,[1]),(5,[1]),(6,[1]),(10,[1]),(11,[1]),(14,[1]),(15,[1]),(18,[1]),(19,[1])] []) (rl [(24,[1])] [1,2]) (rl [(24,false)] true) [0,1,2,3,4,5,6,7,8,9,10,11,12,13,14,15,16,17,18,19,20,21,22,23,24,25] mixed (by kernel_rfl) ?_;intro K hK
  refine eL fD ?_
  refine eF I1 ?_
  refine eL bW ?_
  obtain ⟨x19,e19,h1⟩:=aP h1
  refine eP (λH hH=>aH (y:=aB x19) (qF rfl rfl rfl) (congrArg aB e19)) ?_
  refine eM ?_
  cases x19
  replace h1:=cf h1
  refine dO rfl rfl rfl ?_
  refine dO rfl rfl rfl ?_
  refine dO rfl rfl rfl ?_
  refine eP (λH hH=>gP rfl rfl (λ_=>rfl) (λ_=>rfl) rfl) ?_
  refine eM ?_
  refine dO rfl rfl rfl ?_
  refine dO rfl rfl rfl ?_
  refine dO rfl rfl rfl ?_
  refine dO rfl rfl rfl ?_
  refine dO rfl rfl rfl ?_
  refine dO rfl rfl rfl ?_
  refine dO rfl rfl rfl ?_
  refine dO rfl rfl rfl ?_
  refine dO rfl rfl rfl ?_
  refine dO rfl rfl rfl ?_
  refine dO rfl rfl rfl ?_
  refine dO rfl rfl rfl ?_
  refine dO rfl rfl rfl ?_
  refine eP (λH hH=>gP rfl rfl (λ_=>rfl) (λ_=>rfl) rfl) ?_
  refine jR rfl rfl rfl rfl (bZ.fA (gM (ob':=(⟨29,9,true,true,v6,[[int a2.Kind,int a2.E,int a2.Item,int a2.Loc,int a2.To,int a2.aM,int a1.aQ,int a2.Ref,aG 1 fI a2.bT]]⟩:bA)) (dZ rfl fD rfl rfl rfl rfl rfl rfl rfl rfl rfl) rfl) (λ_ h=>h) (λ_ _=>trivial)) (by rintro _ _ ⟨rfl,rfl⟩;exact ⟨rfl,trivial⟩) ?_;rintro _ _ ⟨rfl,rfl⟩
  refine eA ?_
  refine jI (hK _ ?_)
  exact lf h1 () aW
  replace h1:=ct h1
  refine eF I1 ?_
  refine eL bW ?_
  obtain ⟨x20,e20,h1⟩:=aP h1
  refine eP (λH hH=>aH (y:=aB x20) (qP rfl rfl rfl) (congrArg aB e20)) ?_
  refine eP (λH hH=>gP rfl rfl (λ_=>rfl) (λ_=>rfl) rfl) ?_
  refine eM ?_
  cases x20
  replace h1:=cf h1
  refine dO rfl rfl rfl ?_
  refine dO rfl rfl rfl ?_
  refine dO rfl rfl rfl ?_
  refine dO rfl rfl rfl ?_
  refine dO rfl rfl rfl ?_
  refine dO rfl rfl rfl ?_
  refine dO rfl rfl rfl ?_
  refine dO rfl rfl rfl ?_
  refine dO rfl rfl rfl ?_
  refine dO rfl rfl rfl ?_
  refine dO rfl rfl rfl ?_
  refine dO rfl rfl rfl ?_
  refine dO rfl rfl rfl ?_
  refine eP (λH hH=>gP rfl rfl (λ_=>rfl) (λ_=>rfl) rfl) ?_
  refine jR rfl rfl rfl rfl (bZ.fA (gM (ob':=(⟨29,9,true,true,v6,[[int a2.Kind,int a2.E,int a2.Item,int a2.Loc,int a2.To,int a2.aM,int a1.aQ,int a2.Ref,aG 1 fI a2.bT]]⟩:bA)) (dZ rfl fD rfl rfl rfl rfl rfl rfl rfl rfl rfl) rfl) (λ_ h=>h) (λ_ _=>trivial)) (by rintro _ _ ⟨rfl,rfl⟩;exact ⟨rfl,trivial⟩) ?_;rintro _ _ ⟨rfl,rfl⟩
  refine eA ?_
  refine jI (hK _ ?_)
  exact lf h1 () aW
  replace h1:=ct h1
  refine eF I1 ?_
  refine eL bW ?_
  obtain ⟨x21,e21,h1⟩:=aP h1
  refine eP (λH hH=>aH (y:=aB x21) (qP rfl rfl rfl) (congrArg aB e21)) ?_
  refine eM ?_
  cases x21
  replace h1:=cf h1
  refine eF lW ?_
  refine eL bW ?_
  obtain ⟨x22,e22,h1⟩:=aP h1
  refine eP (λH hH=>aH (y:=aB x22) (D8 rfl rfl rfl) (congrArg aB e22)) ?_
  refine eM ?_
  cases x22
  replace h1:=cf h1
  refine dO rfl rfl rfl ?_
  refine dO rfl rfl rfl ?_
  refine dO rfl rfl rfl ?_
  refine eP (λH hH=>gP rfl rfl (λ_=>rfl) (λ_=>rfl) rfl) ?_
  refine eP (λH hH=>gP rfl rfl (λ_=>rfl) (λ_=>rfl) rfl) ?_
  refine eP (λH hH=>gP rfl rfl (λ_=>rfl) (λ_=>rfl) rfl) ?_
  refine jR rfl rfl rfl rfl (bZ.fA (gM (ob':=(⟨29,9,true,true,v6,[[int a2.Kind,int a2.E,int a2.Item,int a2.Loc,int a2.To,int a2.aM,int a1.aQ,int a2.Ref,aG 1 fI a2.bT]]⟩:bA)) (dZ rfl fD rfl rfl rfl rfl rfl rfl rfl rfl rfl) rfl) (λ_ h=>h) (λ_ _=>trivial)) (by rintro _ _ ⟨rfl,rfl⟩;exact ⟨rfl,trivial⟩) ?_;rintro _ _ ⟨rfl,rfl⟩
  refine eA ?_
  refine jI (hK _ ?_)
  exact lf h1 () aW
  replace h1:=ct h1
  refine eF lW ?_
  refine eL bW ?_
  obtain ⟨x23,e23,h1⟩:=aP h1
  refine eP (λH hH=>aH (y:=aB x23) (D8 rfl rfl rfl) (congrArg aB e23)) ?_
  refine eP (λH hH=>gP rfl rfl (λ_=>rfl) (λ_=>rfl) rfl) ?_
  refine eP (λH hH=>gP rfl rfl (λ_=>rfl) (λ_=>rfl) rfl) ?_
  refine eP (λH hH=>gP rfl rfl (λ_=>rfl) (λ_=>rfl) rfl) ?_
  refine jR rfl rfl rfl rfl (bZ.fA (gM (ob':=(⟨29,9,true,true,v6,[[int a2.Kind,int a2.E,int a2.Item,int a2.Loc,int a2.To,int a2.aM,int a1.aQ,int a2.Ref,aG 1 fI a2.bT]]⟩:bA)) (dZ rfl fD rfl rfl rfl rfl rfl rfl rfl rfl rfl) rfl) (λ_ h=>h) (λ_ _=>trivial)) (by rintro _ _ ⟨rfl,rfl⟩;exact ⟨rfl,trivial⟩) ?_;rintro _ _ ⟨rfl,rfl⟩
  refine eA ?_
  refine jI (hK _ ?_)
  exact lf h1 () aW
  replace h1:=ct h1
  refine dO rfl rfl rfl ?_
  refine dO rfl rfl rfl ?_
  refine dO rfl rfl rfl ?_
  refine dO rfl rfl rfl ?_
  refine dO rfl rfl rfl ?_
  refine dO rfl rfl rfl ?_
  refine dO rfl rfl rfl ?_
  refine dO rfl rfl rfl ?_
  refine eP (λH hH=>gP rfl rfl (λ_=>rfl) (λ_=>rfl) rfl) ?_
  refine eP (λH hH=>gP rfl rfl (λ_=>rfl) (λ_=>rfl) rfl) ?_
  refine jR rfl rfl rfl rfl (bZ.fA (gM (ob':=(⟨29,9,true,true,v6,[[int a2.Kind,int a2.E,int a2.Item,int a2.Loc,int a2.To,int a2.aM,int a1.aQ,int a2.Ref,aG 1 fI a2.bT]]⟩:bA)) (dZ rfl fD rfl rfl rfl rfl rfl rfl rfl rfl rfl) rfl) (λ_ h=>h) (λ_ _=>trivial)) (by rintro _ _ ⟨rfl,rfl⟩;exact ⟨rfl,trivial⟩) ?_;rintro _ _ ⟨rfl,rfl⟩
  refine eA ?_
  refine jI (hK _ ?_)
  exact lf h1 () aW
  rintro y1_1 _ h0
  obtain rfl:=bE h0
  refine wR hret (rC fD (rT .nil)) ?_
  exact .refl _
  replace h0:=ct h0
  refine tc aA 6 (.mk ?_)
  refine sS ⟨29,9,true,true,v5,[[int a2.Kind,int a2.E,int a2.Item,int a2.Loc,int a2.To,int a1.aM,int a2.aQ,int a2.Ref,aG 1 fI a2.bT]]⟩ bW ?_
  refine tr aA 2 (.mk ?_)
  refine jn h0 [3,4,6] [1,2] (λ(a:Bool) (k:Unit)=>[(7,aB a)]) (λa k=>[(3,⟨29,9,true,true,v6,[[int a2.Kind,int a2.E,int a2.Item,int a2.Loc,int a2.To,int a1.aM,int a2.aQ,int a2.Ref,aG 1 fI a2.bT]]⟩)]) ⟨λj24 h1=>?_,?_⟩
  refine nH [0,0,2,6,14,30,62,126,254,510,1022,2046,4094,8190,16382,32766,65534,131070,262142,8191,1048575] (rl [(0,[2]),(1,[1]),(2,[1]),(5,[1]),(6,[1]),(9,[1]),(10,[1]),(13,[1]),(14,[1])] []) (rl [(19,[1])] [1,2]) (rl [(19,false)] true) [0,1,2,3,4,5,6,7,8,9,10,11,12,13,14,15,16,17,18,19,20] mixed (by kernel_rfl) ?_;intro K hK
  refine eL fD ?_
  refine eF JQ ?_
  refine eL bW ?_
  obtain ⟨x25,e25,h1⟩:=aP h1
  refine eP (λH hH=>aH (y:=aB x25) (qP rfl rfl rfl) (congrArg aB e25)) ?_
  refine eM ?_
  cases x25
  replace h1:=cf h1
  refine dO rfl rfl rfl ?_
  refine dO rfl rfl rfl ?_
  refine dO rfl rfl rfl ?_
  refine dO rfl rfl rfl ?_
  refine dO rfl rfl rfl ?_
  refine dO rfl rfl rfl ?_
  refine dO rfl rfl rfl ?_
  refine dO rfl rfl rfl ?_
  refine dO rfl rfl rfl ?_
  refine dO rfl rfl rfl ?_
  refine dO rfl rfl rfl ?_
  refine dO rfl rfl rfl ?_
  refine dO rfl rfl rfl ?_
  refine eP (λH hH=>gP rfl rfl (λ_=>rfl) (λ_=>rfl) rfl) ?_
  refine jR rfl rfl rfl rfl (bZ.fA (gM (ob':=(⟨29,9,true,true,v6,[[int a2.Kind,int a2.E,int a2.Item,int a2.Loc,int a2.To,int a1.aM,int a2.aQ,int a2.Ref,aG 1 fI a2.bT]]⟩:bA)) (dZ rfl fD rfl rfl rfl rfl rfl rfl rfl rfl rfl) rfl) (λ_ h=>h) (λ_ _=>trivial)) (by rintro _ _ ⟨rfl,rfl⟩;exact ⟨rfl,trivial⟩) ?_;rintro _ _ ⟨rfl,rfl⟩
  refine eA ?_
  refine jI (hK _ ?_)
  exact lf h1 () aW
  replace h1:=ct h1
  refine eF JQ ?_
  refine eL bW ?_
  obtain ⟨x26,e26,h1⟩:=aP h1
  refine eP (λH hH=>aH (y:=aB x26) (qF rfl rfl rfl) (congrArg aB e26)) ?_
  refine eM ?_
  cases x26
  replace h1:=cf h1
  refine eF JQ ?_
  refine eL bW ?_
  obtain ⟨x27,e27,h1⟩:=aP h1
  refine eP (λH hH=>aH (y:=aB x27) (aI rfl rfl rfl) (congrArg aB e27)) ?_
  refine eM ?_
  cases x27
  replace h1:=cf h1
  refine dO rfl rfl rfl ?_
  refine dO rfl rfl rfl ?_
  refine dO rfl rfl rfl ?_
  refine eP (λH hH=>gP rfl rfl (λ_=>rfl) (λ_=>rfl) rfl) ?_
  refine eP (λH hH=>gP rfl rfl (λ_=>rfl) (λ_=>rfl) rfl) ?_
  refine eP (λH hH=>gP rfl rfl (λ_=>rfl) (λ_=>rfl) rfl) ?_
  refine jR rfl rfl rfl rfl (bZ.fA (gM (ob':=(⟨29,9,true,true,v6,[[int a2.Kind,int a2.E,int a2.Item,int a2.Loc,int a2.To,int a1.aM,int a2.aQ,int a2.Ref,aG 1 fI a2.bT]]⟩:bA)) (dZ rfl fD rfl rfl rfl rfl rfl rfl rfl rfl rfl) rfl) (λ_ h=>h) (λ_ _=>trivial)) (by rintro _ _ ⟨rfl,rfl⟩;exact ⟨rfl,trivial⟩) ?_;rintro _ _ ⟨rfl,rfl⟩
  refine eA ?_
  refine jI (hK _ ?_)
  exact lf h1 () aW
  replace h1:=ct h1
  refine eF lW ?_
  refine eL bW ?_
  obtain ⟨x28,e28,h1⟩:=aP h1
  refine eP (λH hH=>aH (y:=aB x28) (aI rfl rfl rfl) (congrArg aB e28)) ?_
  refine eP (λH hH=>gP rfl rfl (λ_=>rfl) (λ_=>rfl) rfl) ?_
  refine eP (λH hH=>gP rfl rfl (λ_=>rfl) (λ_=>rfl) rfl) ?_
  refine eP (λH hH=>gP rfl rfl (λ_=>rfl) (λ_=>rfl) rfl) ?_
  refine jR rfl rfl rfl rfl (bZ.fA (gM (ob':=(⟨29,9,true,true,v6,[[int a2.Kind,int a2.E,int a2.Item,int a2.Loc,int a2.To,int a1.aM,int a2.aQ,int a2.Ref,aG 1 fI a2.bT]]⟩:bA)) (dZ rfl fD rfl rfl rfl rfl rfl rfl rfl rfl rfl) rfl) (λ_ h=>h) (λ_ _=>trivial)) (by rintro _ _ ⟨rfl,rfl⟩;exact ⟨rfl,trivial⟩) ?_;rintro _ _ ⟨rfl,rfl⟩
  refine eA ?_
  refine jI (hK _ ?_)
  exact lf h1 () aW
  replace h1:=ct h1
  refine dO rfl rfl rfl ?_
  refine dO rfl rfl rfl ?_
  refine dO rfl rfl rfl ?_
  refine dO rfl rfl rfl ?_
  refine dO rfl rfl rfl ?_
  refine dO rfl rfl rfl ?_
  refine dO rfl rfl rfl ?_
  refine dO rfl rfl rfl ?_
  refine eP (λH hH=>gP rfl rfl (λ_=>rfl) (λ_=>rfl) rfl) ?_
  refine eP (λH hH=>gP rfl rfl (λ_=>rfl) (λ_=>rfl) rfl) ?_
  refine jR rfl rfl rfl rfl (bZ.fA (gM (ob':=(⟨29,9,true,true,v6,[[int a2.Kind,int a2.E,int a2.Item,int a2.Loc,int a2.To,int a1.aM,int a2.aQ,int a2.Ref,aG 1 fI a2.bT]]⟩:bA)) (dZ rfl fD rfl rfl rfl rfl rfl rfl rfl rfl rfl) rfl) (λ_ h=>h) (λ_ _=>trivial)) (by rintro _ _ ⟨rfl,rfl⟩;exact ⟨rfl,trivial⟩) ?_;rintro _ _ ⟨rfl,rfl⟩
  refine eA ?_
  refine jI (hK _ ?_)
  exact lf h1 () aW
  rintro y2_1 _ h0
  obtain rfl:=bE h0
  refine wR hret (rC fD (rT .nil)) ?_
  exact .refl _
  replace h0:=ct h0
  refine tc aA 6 (.mk ?_)
  refine sS ⟨29,9,true,true,v5,[[int a2.Kind,int a2.E,int a2.Item,int a2.Loc,int a1.To,int a2.aM,int a2.aQ,int a2.Ref,aG 1 fI a2.bT]]⟩ bW ?_
  refine tr aA 2 (.mk ?_)
  refine nH [0,0,2,7,15] (rl [(0,[2]),(1,[1])] []) (rl [(3,[])] [1,2]) (rl [(3,false)] true) [0,1,2,3,4] mixed (by kernel_rfl) ?_;intro K hK
  refine eL fD ?_
  refine eL fD ?_
  obtain ⟨x29,e29,h0⟩:=bJ h0
  refine eP (λH hH=>gH rfl rfl (.cons rfl .nil) aIX (bO.refl _) (aN6 e29)) ?_
  refine jR rfl rfl rfl rfl (bZ.fA (gM (ob':=(⟨29,9,true,true,v6,[[int a2.Kind,int a2.E,int a2.Item,int a2.Loc,int a1.To,int a2.aM,int a2.aQ,int a2.Ref,aG 1 fI a2.bT]]⟩:bA)) (dZ rfl fD rfl rfl rfl rfl rfl rfl rfl rfl rfl) rfl) (λ_ h=>h) (λ_ _=>trivial)) (by rintro _ _ ⟨rfl,rfl⟩;exact trivial) ?_;rintro _ _ ⟨rfl,rfl⟩
  refine eA ?_
  refine jI (hK _ ?_)
  obtain rfl:=bE h0
  refine wR hret (rC fD (rT .nil)) ?_
  exact .refl _
  replace h0:=ct h0
  refine tc aA 6 (.mk ?_)
  refine sS ⟨29,9,true,true,v5,[[int a2.Kind,int a2.E,int a2.Item,int a1.Loc,int a2.To,int a2.aM,int a2.aQ,int a2.Ref,aG 1 fI a2.bT]]⟩ bW ?_
  refine tr aA 2 (.mk ?_)
  refine jn h0 [3,4,6] [1,2] (λ(a:Bool) (k:Unit)=>[(7,aB a)]) (λa k=>[(3,⟨29,9,true,true,v6,[[int a2.Kind,int a2.E,int a2.Item,int a1.Loc,int a2.To,int a2.aM,int a2.aQ,int a2.Ref,aG 1 fI a2.bT]]⟩)]) ⟨λj30 h1=>?_,?_⟩
  refine nH [0,0,2,6,14,30,62,126,254,31,1023] (rl [(0,[2]),(1,[1]),(2,[1]),(5,[1]),(6,[1])] []) (rl [(9,[1])] [1,2]) (rl [(9,false)] true) [0,1,2,3,4,5,6,7,8,9,10] mixed (by kernel_rfl) ?_;intro K hK
  refine eL fD ?_
  refine eF QA ?_
  refine eL bW ?_
  obtain ⟨x31,e31,h1⟩:=aP h1
  refine eP (λH hH=>aH (y:=aB x31) (qF rfl rfl rfl) (congrArg aB e31)) ?_
  refine eM ?_
  cases x31
  replace h1:=cf h1
  refine dO rfl rfl rfl ?_
  refine dO rfl rfl rfl ?_
  refine dO rfl rfl rfl ?_
  refine eP (λH hH=>gP rfl rfl (λ_=>rfl) (λ_=>rfl) rfl) ?_
  refine jR rfl rfl rfl rfl (bZ.fA (gM (ob':=(⟨29,9,true,true,v6,[[int a2.Kind,int a2.E,int a2.Item,int a1.Loc,int a2.To,int a2.aM,int a2.aQ,int a2.Ref,aG 1 fI a2.bT]]⟩:bA)) (dZ rfl fD rfl rfl rfl rfl rfl rfl rfl rfl rfl) rfl) (λ_ h=>h) (λ_ _=>trivial)) (by rintro _ _ ⟨rfl,rfl⟩;exact ⟨rfl,trivial⟩) ?_;rintro _ _ ⟨rfl,rfl⟩
  refine eA ?_
  refine jI (hK _ ?_)
  exact lf h1 () aW
  replace h1:=ct h1
  refine eF QA ?_
  refine eL bW ?_
  obtain ⟨x32,e32,h1⟩:=aP h1
  refine eP (λH hH=>aH (y:=aB x32) (mU rfl rfl rfl) (congrArg aB e32)) ?_
  refine eP (λH hH=>gP rfl rfl (λ_=>rfl) (λ_=>rfl) rfl) ?_
  refine jR rfl rfl rfl rfl (bZ.fA (gM (ob':=(⟨29,9,true,true,v6,[[int a2.Kind,int a2.E,int a2.Item,int a1.Loc,int a2.To,int a2.aM,int a2.aQ,int a2.Ref,aG 1 fI a2.bT]]⟩:bA)) (dZ rfl fD rfl rfl rfl rfl rfl rfl rfl rfl rfl) rfl) (λ_ h=>h) (λ_ _=>trivial)) (by rintro _ _ ⟨rfl,rfl⟩;exact ⟨rfl,trivial⟩) ?_;rintro _ _ ⟨rfl,rfl⟩
  refine eA ?_
  refine jI (hK _ ?_)
  exact lf h1 () aW
  rintro y3_1 _ h0
  obtain rfl:=bE h0
  refine wR hret (rC fD (rT .nil)) ?_
  exact .refl _
  replace h0:=ct h0
  refine tc aA 6 (.mk ?_)
  refine sS ⟨29,9,true,true,v5,[[int a2.Kind,int a2.E,int a1.Item,int a2.Loc,int a2.To,int a2.aM,int a2.aQ,int a2.Ref,aG 1 fI a2.bT]]⟩ bW ?_
  refine tr aA 2 (.mk ?_)
  refine jn h0 [3,4,6] [1,2] (λ(a:Bool) (k:Unit)=>[(7,aB a)]) (λa k=>[(3,⟨29,9,true,true,v6,[[int a2.Kind,int a2.E,int a1.Item,int a2.Loc,int a2.To,int a2.aM,int a2.aQ,int a2.Ref,aG 1 fI a2.bT]]⟩)]) ⟨λj33 h1=>?_,?_⟩
  refine nH [0,0,2,6,14,30,62,126,254,31,1023] (rl [(0,[2]),(1,[1]),(2,[1]),(5,[1]),(6,[1])] []) (rl [(9,[1])] [1,2]) (rl [(9,false)] true) [0,1,2,3,4,5,6,7,8,9,10] mixed (by kernel_rfl) ?_;intro K hK
  refine eL fD ?_
  refine eF RJ ?_
  refine eL bW ?_
  obtain ⟨x34,e34,h1⟩:=aP h1
  refine eP (λH hH=>aH (y:=aB x34) (qF rfl rfl rfl) (congrArg aB e34)) ?_
  refine eM ?_
  cases x34
  replace h1:=cf h1
  refine dO rfl rfl rfl ?_
  refine dO rfl rfl rfl ?_
  refine dO rfl rfl rfl ?_
  refine eP (λH hH=>gP rfl rfl (λ_=>rfl) (λ_=>rfl) rfl) ?_
  refine jR rfl rfl rfl rfl (bZ.fA (gM (ob':=(⟨29,9,true,true,v6,[[int a2.Kind,int a2.E,int a1.Item,int a2.Loc,int a2.To,int a2.aM,int a2.aQ,int a2.Ref,aG 1 fI a2.bT]]⟩:bA)) (dZ rfl fD rfl rfl rfl rfl rfl rfl rfl rfl rfl) rfl) (λ_ h=>h) (λ_ _=>trivial)) (by rintro _ _ ⟨rfl,rfl⟩;exact ⟨rfl,trivial⟩) ?_;rintro _ _ ⟨rfl,rfl⟩
  refine eA ?_
  refine jI (hK _ ?_)
  exact lf h1 () aW
  replace h1:=ct h1
  refine eF RJ ?_
  refine eL bW ?_
  obtain ⟨x35,e35,h1⟩:=aP h1
  refine eP (λH hH=>aH (y:=aB x35) (mU rfl rfl rfl) (congrArg aB e35)) ?_
  refine eP (λH hH=>gP rfl rfl (λ_=>rfl) (λ_=>rfl) rfl) ?_
  refine jR rfl rfl rfl rfl (bZ.fA (gM (ob':=(⟨29,9,true,true,v6,[[int a2.Kind,int a2.E,int a1.Item,int a2.Loc,int a2.To,int a2.aM,int a2.aQ,int a2.Ref,aG 1 fI a2.bT]]⟩:bA)) (dZ rfl fD rfl rfl rfl rfl rfl rfl rfl rfl rfl) rfl) (λ_ h=>h) (λ_ _=>trivial)) (by rintro _ _ ⟨rfl,rfl⟩;exact ⟨rfl,trivial⟩) ?_;rintro _ _ ⟨rfl,rfl⟩
  refine eA ?_
  refine jI (hK _ ?_)
  exact lf h1 () aW
  rintro y4_1 _ h0
  obtain rfl:=bE h0
  refine wR hret (rC fD (rT .nil)) ?_
  exact .refl _
  replace h0:=ct h0
  refine tc aA 6 (.mk ?_)
  refine sS ⟨29,9,true,true,v5,[[int a2.Kind,int a1.E,int a2.Item,int a2.Loc,int a2.To,int a2.aM,int a2.aQ,int a2.Ref,aG 1 fI a2.bT]]⟩ bW ?_
  refine tr aA 2 (.mk ?_)
  refine jn h0 [3,4,6] [1,2] (λ(a:Bool) (k:Unit)=>[(7,aB a)]) (λa k=>[(3,⟨29,9,true,true,v6,[[int a2.Kind,int a1.E,int a2.Item,int a2.Loc,int a2.To,int a2.aM,int a2.aQ,int a2.Ref,aG 1 fI a2.bT]]⟩)]) ⟨λj36 h1=>?_,?_⟩
  refine nH [0,0,2,6,14,30,62,126,254,31,1023] (rl [(0,[2]),(1,[1]),(2,[1]),(5,[1]),(6,[1])] []) (rl [(9,[1])] [1,2]) (rl [(9,false)] true) [0,1,2,3,4,5,6,7,8,9,10] mixed (by kernel_rfl) ?_;intro K hK
  refine eL fD ?_
  refine eF TX ?_
  refine eL bW ?_
  obtain ⟨x37,e37,h1⟩:=aP h1
  refine eP (λH hH=>aH (y:=aB x37) (qF rfl rfl rfl) (congrArg aB e37)) ?_
  refine eM ?_
  cases x37
  replace h1:=cf h1
  refine dO rfl rfl rfl ?_
  refine dO rfl rfl rfl ?_
  refine dO rfl rfl rfl ?_
  refine eP (λH hH=>gP rfl rfl (λ_=>rfl) (λ_=>rfl) rfl) ?_
  refine jR rfl rfl rfl rfl (bZ.fA (gM (ob':=(⟨29,9,true,true,v6,[[int a2.Kind,int a1.E,int a2.Item,int a2.Loc,int a2.To,int a2.aM,int a2.aQ,int a2.Ref,aG 1 fI a2.bT]]⟩:bA)) (dZ rfl fD rfl rfl rfl rfl rfl rfl rfl rfl rfl) rfl) (λ_ h=>h) (λ_ _=>trivial)) (by rintro _ _ ⟨rfl,rfl⟩;exact ⟨rfl,trivial⟩) ?_;rintro _ _ ⟨rfl,rfl⟩
  refine eA ?_
  refine jI (hK _ ?_)
  exact lf h1 () aW
  replace h1:=ct h1
  refine eF TX ?_
  refine eL bW ?_
  obtain ⟨x38,e38,h1⟩:=aP h1
  refine eP (λH hH=>aH (y:=aB x38) (mU rfl rfl rfl) (congrArg aB e38)) ?_
  refine eP (λH hH=>gP rfl rfl (λ_=>rfl) (λ_=>rfl) rfl) ?_
  refine jR rfl rfl rfl rfl (bZ.fA (gM (ob':=(⟨29,9,true,true,v6,[[int a2.Kind,int a1.E,int a2.Item,int a2.Loc,int a2.To,int a2.aM,int a2.aQ,int a2.Ref,aG 1 fI a2.bT]]⟩:bA)) (dZ rfl fD rfl rfl rfl rfl rfl rfl rfl rfl rfl) rfl) (λ_ h=>h) (λ_ _=>trivial)) (by rintro _ _ ⟨rfl,rfl⟩;exact ⟨rfl,trivial⟩) ?_;rintro _ _ ⟨rfl,rfl⟩
  refine eA ?_
  refine jI (hK _ ?_)
  exact lf h1 () aW
  rintro y5_1 _ h0
  obtain rfl:=bE h0
  refine wR hret (rC fD (rT .nil)) ?_
  exact .refl _
def uY (a1:List Int) (a2:List Int):Nat->Int->Option ((Unit)⊕(Bool))
  | 0,_=>none
  | n+1,y0_1 =>
    bnd (decide (y0_1<(a1.length:Int))) λx5 =>
    cond x5 ((ix a1 y0_1).bind λx6 =>
    (ix a2 y0_1).bind λx7 =>
    bnd (decide (x6≠x7)) λx8 =>
    cond x8 (esc (some ((false:Bool)))) (bnd (bM (y0_1+1)) λx9 =>
    uY a1 a2 n (x9:Int))) (brk ())
def rF (n:Nat) (a1:List Int) (a2:List Int):Option (Bool) :=
bnd (decide ((a1.length:Int)≠(a2.length:Int))) λx3 =>
cond x3 (some ((false:Bool))) ((show Option ((Unit)⊕(Bool)) from
uY a1 a2 n (0:Int)).bind <| sel <| λ_ =>
some ((true:Bool)))
theorem aEY {n:Nat} {a1:List Int} {a2:List Int} {r:Bool} (h0:rF n a1 a2=some r):PP Tryz.prog 91 [aG 1 fI a1,aG 1 fI a2] (λy=>y=aB r):=by
  unfold rF at h0
  refine kE (R0:=λy H=>Cv (iN H) y (aB r)) ?_ (λy H hc=>⟨_,rfl,qD r,hc⟩)
  refine dD (c:=_) Tryz.func91 rfl rfl ?_;intro Q hret hnorm
  refine tc aA 8 (.mk ?_)
  refine sY (iT rfl Tryz.underlying23 rfl (mK _)) ?_
  refine tr aA 1 (.mk ?_)
  refine sY (iT rfl Tryz.underlying23 rfl (mK _)) ?_
  refine nb aA h0 λx3 h0=>?_
  refine tr aA 1 (.mk ?_)
  cases x3
  replace h0:=cf h0
  refine tc aA 7 (.mk ?_)
  refine iA h0 [4] [] (λ(a:Unit) (k:Unit)=>[]) (λa k=>[]) ⟨λj4 h1 h0=>?_,?_⟩
  refine tc aA 1 (.mk ?_)
  refine lp (λn (a:Int)=>uY a1 a2 n a) (0:Int) () h1 [0,1,4] [] (λ(a:Int) (k:Unit)=>[(5,int a)]) (λa k=>[]) (λ_=>rfl) ⟨aW,?_⟩
  rintro n y0_1 _ hm h1
  replace h1:uY a1 a2 (n+1) y0_1=some _:=h1
  rw [uY] at h1
  refine tc aA 5 (.mk ?_)
  refine sY (iT rfl Tryz.underlying23 rfl (mK _)) ?_
  refine nb aA h1 λx5 h1=>?_
  refine tr aA 1 (.mk ?_)
  cases x5
  replace h1:=cf h1
  refine tc aA 2 (.mk ?_)
  exact jW h1 () aW
  replace h1:=ct h1
  refine tc aA 5 (.mk ?_)
  refine nH [0,0,3,7,0,0,48,112,255] (λi=>[]) (λi=>[]) (λi=>true) [0,1,2,3,4,5,6,7,8] mixed (by kernel_rfl) ?_;intro K hK
  iterate 2 refine eM ?_
  obtain ⟨x6,e6,h1⟩:=bJ h1
  refine eP (λH hH=>oG rfl Tryz.underlying23 bW rfl rfl e6) ?_
  refine eP (λH hH=>eT rfl bW rfl (.pp _) rfl) ?_
  iterate 2 refine eM ?_
  obtain ⟨x7,e7,h1⟩:=bJ h1
  refine eP (λH hH=>oG rfl Tryz.underlying23 bW rfl rfl e7) ?_
  refine eP (λH hH=>eT rfl bW rfl (.pp _) rfl) ?_
  obtain ⟨x8,e8,h1⟩:=aP h1
  refine eP (λH hH=>aH (y:=aB x8) (D8 rfl rfl rfl) (congrArg aB e8)) ?_
  refine jI (hK _ ?_)
  cases x8
  replace h1:=cf h1
  refine tc aA 5 (.mk ?_)
  refine ni aA h1 λx9 h1=>?_
  refine tr aA 2 (.mk ?_)
  exact bk x9 () h1 aW
  replace h1:=ct h1
  refine tc aA 5 (.mk ?_)
  obtain ⟨c10,hX,hj⟩:=gD h1;subst hj;replace h0:=hX.trans (fZ h0)
  obtain rfl:=bE h0
  refine wR hret (rT .nil) ?_
  exact .refl _
  rintro _ _ h0
  refine tc aA 4 (.mk ?_)
  obtain rfl:=bE h0
  refine wR hret (rT .nil) ?_
  exact .refl _
  replace h0:=ct h0
  refine tc aA 5 (.mk ?_)
  obtain rfl:=bE h0
  refine wR hret (rT .nil) ?_
  exact .refl _
def fF (n:Nat) (a1:aF) (a2:aF):Option (Bool) :=
(show Option (Bool) from
bnd (decide (a1.Kind=a2.Kind)) λx6 =>
cond x6 (bnd (decide (a1.E=a2.E)) λx7 =>
cond x7 (bnd (decide (a1.Item=a2.Item)) λx8 =>
cond x8 (bnd (decide (a1.Loc=a2.Loc)) λx9 =>
cond x9 (bnd (decide (a1.To=a2.To)) λx10 =>
cond x10 (bnd (decide (a1.aM=a2.aM)) λx11 =>
cond x11 (bnd (decide (a1.aQ=a2.aQ)) λx12 =>
cond x12 (bnd (decide (a1.Ref=a2.Ref)) λx13 =>
cond x13 ((rF n a1.bT a2.bT).bind λx14 =>
some (x14:Bool)) (some (false:Bool))) (some (false:Bool))) (some (false:Bool))) (some (false:Bool))) (some (false:Bool))) (some (false:Bool))) (some (false:Bool))) (some (false:Bool))).bind <| λy0_1 =>
some ((y0_1:Bool))
theorem aH2 {n:Nat} {a1:aF} {a2:aF} {r:Bool} (h0:fF n a1 a2=some r):PP Tryz.prog 50 [.agg (aF.av a1),.agg (aF.av a2)] (λy=>y=aB r):=by
  unfold fF at h0
  refine kE (R0:=λy H=>Cv (iN H) y (aB r)) ?_ (λy H hc=>⟨_,rfl,qD r,hc⟩)
  refine dD (c:=_) Tryz.func50 rfl rfl ?_;intro Q hret hnorm
  refine tc aA 2 (.mk ?_)
  refine sB 1 λv3=>?_
  refine sB 2 λv4=>?_
  refine tr aA 3 (.mk ?_)
  refine jn h0 [] [] (λ(a:Bool) (k:Unit)=>[(4,aB a)]) (λa k=>[]) ⟨λj5 h1=>?_,?_⟩
  refine tc aA 5 (.mk ?_)
  refine nb aA h1 λx6 h1=>?_
  refine tr aA 1 (.mk ?_)
  cases x6
  replace h1:=cf h1
  refine tr aA 57 (.mk ?_)
  exact lf h1 () aW
  replace h1:=ct h1
  refine tr aA 4 (.mk ?_)
  refine nb aA h1 λx7 h1=>?_
  refine tr aA 2 (.mk ?_)
  cases x7
  replace h1:=cf h1
  refine tr aA 50 (.mk ?_)
  exact lf h1 () aW
  replace h1:=ct h1
  refine tr aA 4 (.mk ?_)
  refine nb aA h1 λx8 h1=>?_
  refine tr aA 2 (.mk ?_)
  cases x8
  replace h1:=cf h1
  refine tr aA 43 (.mk ?_)
  exact lf h1 () aW
  replace h1:=ct h1
  refine tr aA 4 (.mk ?_)
  refine nb aA h1 λx9 h1=>?_
  refine tr aA 2 (.mk ?_)
  cases x9
  replace h1:=cf h1
  refine tr aA 36 (.mk ?_)
  exact lf h1 () aW
  replace h1:=ct h1
  refine tr aA 4 (.mk ?_)
  refine nb aA h1 λx10 h1=>?_
  refine tr aA 2 (.mk ?_)
  cases x10
  replace h1:=cf h1
  refine tr aA 29 (.mk ?_)
  exact lf h1 () aW
  replace h1:=ct h1
  refine tr aA 4 (.mk ?_)
  refine nb aA h1 λx11 h1=>?_
  refine tr aA 2 (.mk ?_)
  cases x11
  replace h1:=cf h1
  refine tr aA 22 (.mk ?_)
  exact lf h1 () aW
  replace h1:=ct h1
  refine tr aA 4 (.mk ?_)
  refine nb aA h1 λx12 h1=>?_
  refine tr aA 2 (.mk ?_)
  cases x12
  replace h1:=cf h1
  refine tr aA 15 (.mk ?_)
  exact lf h1 () aW
  replace h1:=ct h1
  refine tr aA 4 (.mk ?_)
  refine nb aA h1 λx13 h1=>?_
  refine tr aA 2 (.mk ?_)
  cases x13
  replace h1:=cf h1
  refine tr aA 8 (.mk ?_)
  exact lf h1 () aW
  replace h1:=ct h1
  refine tr aA 4 (.mk ?_)
  obtain ⟨x14,e14,h1⟩:=bJ h1
  refine sC aMF (aEY e14) ?_
  refine tr aA 3 (.mk ?_)
  exact lf h1 () aW
  rintro y0_1 _ h0
  obtain rfl:=bE h0
  refine wR hret (rT .nil) ?_
  exact .refl _
def jM (a1:aF) (x3:(List UInt8)):Nat->Int->aF->Option ((aF)⊕(Bool))
  | 0,_,_=>none
  | n+1,y0_1,y0_2 =>
    bnd (decide (y0_1<(x3.length:Int))) λx6 =>
    cond x6 ((ix x3 y0_1).bind λx7 =>
    (kX n a1 y0_2 (x7.toNat:Int)).bind λx8 =>
    bnd x8.2 λx10 =>
    bnd (!x10) λx11 =>
    cond x11 (esc (some ((false:Bool)))) (bnd (bM (y0_1+1)) λx12 =>
    jM a1 x3 n (x12:Int) (x8.1:aF))) (brk (y0_2:aF))
def fO (n:Nat) (a1:aF):Option (Bool) :=
(lC a1.Kind).bind λx3 =>
(show Option ((aF)⊕(Bool)) from
jM a1 x3 n (0:Int) ((⟨a1.Kind,0,0,0,0,0,0,0,[]⟩:aF):aF)).bind <| sel <| λy1_1 =>
(show Option (Bool) from
bnd (decide (x3≠([]:List UInt8))) λx15 =>
cond x15 ((fF n a1 y1_1).bind λx16 =>
some (x16:Bool)) (some (false:Bool))).bind <| λy2_1 =>
some ((y2_1:Bool))
theorem aGF {n:Nat} {a1:aF} {r:Bool} (h0:fO n a1=some r):PP Tryz.prog 22 [.agg (aF.av a1)] (λy=>y=aB r):=by
  unfold fO at h0
  refine kE (R0:=λy H=>Cv (iN H) y (aB r)) ?_ (λy H hc=>⟨_,rfl,qD r,hc⟩)
  refine dD (c:=_) Tryz.func22 rfl rfl ?_;intro Q hret hnorm
  refine tc aA 2 (.mk ?_)
  refine sB 1 λv2=>?_
  refine tr aA 6 (.mk ?_)
  obtain ⟨x3,e3,h0⟩:=bJ h0
  refine sC Y3 (XT e3) ?_
  refine tr aA 6 (.mk ?_)
  refine sY (yC (cs:=[int a1.Kind,int 0,int 0,int 0,int 0,int 0,int 0,int 0,.sc (.slice none 0 0)]) (ps:=[(0,_)]) rfl X9 z29 rfl (.cons rfl .nil) (by kernel_rfl)) ?_
  refine sA 2 z29 λv4=>?_
  refine sS ⟨29,9,true,true,v4,[[int a1.Kind,int 0,int 0,int 0,int 0,int 0,int 0,int 0,.sc (.slice none 0 0)]]⟩ fD ?_
  refine tr aA 6 (.mk ?_)
  refine iA h0 [1,2,3,4] [1] (λ(a:aF) (k:Unit)=>[]) (λa k=>[(2,⟨29,9,true,true,v4,[[int a.Kind,int a.E,int a.Item,int a.Loc,int a.To,int a.aM,int a.aQ,int a.Ref,aG 1 fI a.bT]]⟩)]) ⟨λj5 h1 h0=>?_,?_⟩
  refine tc aA 1 (.mk ?_)
  refine lp (λn (a:Int×aF)=>jM a1 x3 n a.1 a.2) ((0:Int),((⟨a1.Kind,0,0,0,0,0,0,0,[]⟩:aF):aF)) () h1 [1,2,3,4] [1] (λ(a:Int×aF) (k:Unit)=>[(5,int a.1)]) (λa k=>[(2,⟨29,9,true,true,v4,[[int a.2.Kind,int a.2.E,int a.2.Item,int a.2.Loc,int a.2.To,int a.2.aM,int a.2.aQ,int a.2.Ref,aG 1 fI a.2.bT]]⟩)]) (λ_=>rfl) ⟨zC ⟨⟨_,rfl,(.refl _)⟩,⟨_,rfl,(.refl _)⟩,⟨_,rfl,(.refl _)⟩,⟨_,rfl,(.refl _)⟩,⟨_,rfl,(.refl _)⟩,trivial⟩ ⟨⟨_,rfl,⟨rfl,(.cons (.cons (.refl _) (.cons (.refl _) (.cons (.refl _) (.cons (.refl _) (.cons (.refl _) (.cons (.refl _) (.cons (.refl _) (.cons (.refl _) (.cons (.nil _) .nil))))))))) .nil)⟩⟩,⟨_,rfl,(.refl _)⟩,trivial⟩,?_⟩
  rintro n ⟨y0_1,y0_2⟩ _ hm h1
  replace h1:jM a1 x3 (n+1) y0_1 y0_2=some _:=h1
  rw [jM] at h1
  refine tc aA 5 (.mk ?_)
  refine sY (qB rfl Tryz.underlying9 rfl) ?_
  refine nb aA h1 λx6 h1=>?_
  refine tr aA 1 (.mk ?_)
  cases x6
  replace h1:=cf h1
  refine tc aA 2 (.mk ?_)
  exact jW h1 () aW
  replace h1:=ct h1
  refine tc aA 5 (.mk ?_)
  refine nH [0,0,0,0,12,31,63,127,127,0,767,2047] (rl [(0,[1]),(1,[2])] []) (rl [(10,[])] [1,2]) (rl [(9,false),(10,false)] true) [0,1,2,3,4,5,6,7,8,9,10,11] mixed (by kernel_rfl) ?_;intro K hK
  refine eL fD ?_
  refine eL fD ?_
  iterate 2 refine eM ?_
  obtain ⟨x7,e7,h1⟩:=bJ h1
  refine eP (λH hH=>zI rfl Tryz.underlying9 rfl rfl (mY e7).1 (mY e7).2) ?_
  obtain ⟨x8,e8,h1⟩:=bJ h1
  refine eP (λH hH=>gH rfl rfl (.cons rfl (.cons rfl (.cons rfl .nil))) aGW (bO.refl _) (aKT e8)) ?_
  refine eM ?_
  iterate 2 refine eX ?_
  refine MI rfl rfl rfl rfl (xW 3 .any rfl z29 rfl) (by rintro _ _ ⟨v9,-,rfl,rfl⟩;exact ⟨rfl,rfl,trivial⟩) ?_;rintro _ _ ⟨v9,-,rfl,rfl⟩
  refine jR rfl rfl rfl rfl (bZ.fA (gM (ob':=(⟨29,9,true,true,v9,[[int x8.1.Kind,int x8.1.E,int x8.1.Item,int x8.1.Loc,int x8.1.To,int x8.1.aM,int x8.1.aQ,int x8.1.Ref,aG 1 fI x8.1.bT]]⟩:bA)) (dZ rfl fD rfl rfl rfl rfl rfl rfl rfl rfl rfl) rfl) (λ_ h=>h) (λ_ _=>trivial)) (by rintro _ _ ⟨rfl,rfl⟩;exact trivial) ?_;rintro _ _ ⟨rfl,rfl⟩
  obtain ⟨x10,e10,h1⟩:=aP h1
  refine eP (λH hH=>aH (y:=aB x10) (dG rfl rfl) (congrArg aB e10)) ?_
  refine jI (hK _ ?_)
  refine tc aA 4 (.mk ?_)
  refine nb aA h1 λx11 h1=>?_
  refine tr aA 1 (.mk ?_)
  cases x11
  replace h1:=cf h1
  refine tc aA 4 (.mk ?_)
  refine sS ⟨29,9,true,true,v4,[[int x8.1.Kind,int x8.1.E,int x8.1.Item,int x8.1.Loc,int x8.1.To,int x8.1.aM,int x8.1.aQ,int x8.1.Ref,aG 1 fI x8.1.bT]]⟩ fD ?_
  refine tr aA 4 (.mk ?_)
  refine ni aA h1 λx12 h1=>?_
  refine tr aA 2 (.mk ?_)
  exact bk (x12,x8.1) () h1 aW
  replace h1:=ct h1
  refine tc aA 5 (.mk ?_)
  obtain ⟨c13,hX,hj⟩:=gD h1;subst hj;replace h0:=hX.trans (fZ h0)
  obtain rfl:=bE h0
  refine wR hret (rT .nil) ?_
  exact .refl _
  rintro y1_1 _ h0
  refine tc aA 1 (.mk ?_)
  refine jn h0 [] [] (λ(a:Bool) (k:Unit)=>[(2,aB a)]) (λa k=>[]) ⟨λj14 h1=>?_,?_⟩
  refine tc aA 2 (.mk ?_)
  obtain ⟨x15,e15,h1⟩:=aP h1
  refine sY (aH (y:=aB x15) (JV rfl rfl rfl) (congrArg aB e15)) ?_
  refine tr aA 1 (.mk ?_)
  cases x15
  replace h1:=cf h1
  refine tr aA 6 (.mk ?_)
  exact lf h1 () aW
  replace h1:=ct h1
  refine tr aA 2 (.mk ?_)
  obtain ⟨x16,e16,h1⟩:=bJ h1
  refine sC aAJ (aH2 e16) ?_
  refine tr aA 3 (.mk ?_)
  exact lf h1 () aW
  rintro y2_1 _ h0
  obtain rfl:=bE h0
  refine wR hret (rT .nil) ?_
  exact .refl _
def CB (a1:aF) (a2:Int):Option (Int) :=
bnd (decide (a2=101)) λx4 =>
cond x4 (some ((a1.E:Int))) (bnd (decide (a2=105)) λx5 =>
cond x5 (some ((a1.Item:Int))) (bnd (decide (a2=108)) λx6 =>
cond x6 (some ((a1.Loc:Int))) (bnd (decide (a2=116)) λx7 =>
cond x7 (some ((a1.To:Int))) (bnd (decide (a2=113)) λx8 =>
cond x8 (some ((a1.aM:Int))) (bnd (decide (a2=97)) λx9 =>
cond x9 (some ((a1.aQ:Int))) (some ((a1.Ref:Int))))))))
theorem aJ4 {a1:aF} {a2:Int} {r:Int} (h0:CB a1 a2=some r):PP Tryz.prog 24 [.agg (aF.av a1),.sc (.int .u8 a2)] (λy=>y=int r):=by
  unfold CB at h0
  refine kE (R0:=λy H=>Cv (iN H) y (int r)) ?_ (λy H hc=>⟨_,rfl,qI r,hc⟩)
  refine dD (c:=_) Tryz.func24 rfl rfl ?_;intro Q hret hnorm
  refine tc aA 2 (.mk ?_)
  refine sB 1 λv3=>?_
  refine tr aA 10 (.mk ?_)
  refine nb aA h0 λx4 h0=>?_
  refine tr aA 2 (.mk ?_)
  cases x4
  replace h0:=cf h0
  refine tc aA 3 (.mk ?_)
  refine nb aA h0 λx5 h0=>?_
  refine tr aA 2 (.mk ?_)
  cases x5
  replace h0:=cf h0
  refine tc aA 3 (.mk ?_)
  refine nb aA h0 λx6 h0=>?_
  refine tr aA 2 (.mk ?_)
  cases x6
  replace h0:=cf h0
  refine tc aA 3 (.mk ?_)
  refine nb aA h0 λx7 h0=>?_
  refine tr aA 2 (.mk ?_)
  cases x7
  replace h0:=cf h0
  refine tc aA 3 (.mk ?_)
  refine nb aA h0 λx8 h0=>?_
  refine tr aA 2 (.mk ?_)
  cases x8
  replace h0:=cf h0
  refine tc aA 3 (.mk ?_)
  refine nb aA h0 λx9 h0=>?_
  refine tr aA 2 (.mk ?_)
  cases x9
  replace h0:=cf h0
  refine tc aA 9 (.mk ?_)
  obtain rfl:=bE h0
  refine wR hret (rT .nil) ?_
  exact .refl _
  replace h0:=ct h0
  refine tc aA 7 (.mk ?_)
  obtain rfl:=bE h0
  refine wR hret (rT .nil) ?_
  exact .refl _
  replace h0:=ct h0
  refine tc aA 7 (.mk ?_)
  obtain rfl:=bE h0
  refine wR hret (rT .nil) ?_
  exact .refl _
  replace h0:=ct h0
  refine tc aA 7 (.mk ?_)
  obtain rfl:=bE h0
  refine wR hret (rT .nil) ?_
  exact .refl _
  replace h0:=ct h0
  refine tc aA 7 (.mk ?_)
  obtain rfl:=bE h0
  refine wR hret (rT .nil) ?_
  exact .refl _
  replace h0:=ct h0
  refine tc aA 7 (.mk ?_)
  obtain rfl:=bE h0
  refine wR hret (rT .nil) ?_
  exact .refl _
  replace h0:=ct h0
  refine tc aA 7 (.mk ?_)
  obtain rfl:=bE h0
  refine wR hret (rT .nil) ?_
  exact .refl _
end
end Go.Pv
