import Derived.Test.YtidcjedeacampaaGreatX80c
set_option linter.unusedVariables false
set_option linter.unusedSimpArgs false
namespace Go.Pv
open Go.Proofs
set_option maxRecDepth 100000
set_option maxHeartbeats 4000000
noncomputable section
def uI (a1:aB) (a2:Int) (a3:Int) (a4:cB) (x13:iX):Nat->Int->(List Int)->Option (((List Int))⊕(aB×Int))
  | 0,_,_=>none
  | n+1,y0_1,y0_2 =>
    bnd (decide (y0_1<11)) λx17 =>
    cond x17 (gV ((0:Int)<=y0_1/\y0_1<(11:Int))<|
    (ix y0_2 y0_1).bind λx19 =>
    gV ((0:Int)<=y0_1/\y0_1<(11:Int))<|
    (ix ([x13.a0,x13.a1,x13.a2,x13.a3,x13.a4,x13.a5,x13.a6,x13.a7,x13.a8,x13.a9,x13.jU]:List Int) y0_1).bind λx21 =>
    (uE x19 x21).bind λx22 =>
    bnd (decide (x22.2≠0)) λx23 =>
    cond x23 (esc (some ((a1:aB),(x22.2:Int)))) (gV ((0:Int)<=y0_1/\y0_1<(11:Int))<|
    bnd (y0_2.set (Int.toNat y0_1) x22.1) λx25 =>
    bnd (bE (y0_1+1)) λx26 =>
    uI a1 a2 a3 a4 x13 n (x26:Int) (x25:List Int))) (brk (y0_2:List Int))
def nA (n:Nat) (a1:aB) (a2:Int) (a3:Int) (a4:cB):Option (aB×Int) :=
(yD a1 a2 a3).bind λx8 =>
bnd (!x8) λx9 =>
cond x9 (some ((a1:aB),(4:Int))) ((ix a1.bA a2).bind λx10 =>
(ix x10.dJ a3).bind λx11 =>
(xC x11).bind λx12 =>
(xC a4).bind λx13 =>
(show Option (((List Int))⊕(aB×Int)) from
uI a1 a2 a3 a4 x13 n (0:Int) (([x12.a0,x12.a1,x12.a2,x12.a3,x12.a4,x12.a5,x12.a6,x12.a7,x12.a8,x12.a9,x12.jU]:List Int):List Int)).bind <| sel <| λy1_1 =>
(show Option ((Int×Bool×(List aP)×(List aS)×(List Int)×(List cB)×(List Int)×(List Int))) from
gV (a1.bA.length<=68719476736)<|
(ix a1.bA a2).bind λx33 =>
gV (x33.bR.length<=68719476736)<|
gV (x33.dI.length<=68719476736)<|
gV (x33.dJ.length<=68719476736)<|
gV (x33.gJ.length<=68719476736)<|
gV (x33.Down.length<=68719476736)<|
some ((x33.fQ:Int),(x33.Closed:Bool),(x33.fZ:List aP),(x33.bR:List aS),(x33.dI:List Int),(x33.dJ:List cB),(x33.gJ:List Int),(x33.Down:List Int))).bind <| p2 λ(y3_2:Int) (q0:Bool×(List aP)×(List aS)×(List Int)×(List cB)×(List Int)×(List Int))=>(p2 λ(y3_3:Bool) (q1:(List aP)×(List aS)×(List Int)×(List cB)×(List Int)×(List Int))=>(p2 λ(y3_9:List aP) (q2:(List aS)×(List Int)×(List cB)×(List Int)×(List Int))=>(p2 λ(y3_10:List aS) (q3:(List Int)×(List cB)×(List Int)×(List Int))=>(p2 λ(y3_11:List Int) (q4:(List cB)×(List Int)×(List Int))=>(p2 λ(y3_12:List cB) (q5:(List Int)×(List Int))=>(p2 λ(y3_13:List Int) (y3_14:List Int) =>
(ix a1.bA a2).bind λx44 =>
gV (y1_1.length=11)<|
(aEL (⟨(y1_1.getD 0 0),(y1_1.getD 1 0),(y1_1.getD 2 0),(y1_1.getD 3 0),(y1_1.getD 4 0),(y1_1.getD 5 0),(y1_1.getD 6 0),(y1_1.getD 7 0),(y1_1.getD 8 0),(y1_1.getD 9 0),(y1_1.getD 10 0)⟩:iX)).bind λx47 =>
(ix y3_12 a3).bind λx48 =>
bnd (y3_12.set (Int.toNat a3) (x47:cB)) λx49 =>
some (((⟨a1.bF,(a1.bA.set (Int.toNat a2) (⟨y3_2,y3_3,y3_10,y3_11,x49,y3_13,y3_14,y3_9⟩:aP)),a1.bX,a1.dS,a1.dH,a1.Done⟩:aB):aB),(0:Int))) q5) q4) q3) q2) q1) q0)
theorem wY {n:Nat} {a1:aB} {a2:Int} {a3:Int} {a4:cB} {r:aB×Int} (h0:nA n a1 a2 a3 a4=some r):PP Tryz.prog 46 [.agg (aB.av a1),int a2,int a3,.agg (cB.av a4)] (λy=>y=.bD [.agg (aB.av r.1),int r.2]):=by
  unfold nA at h0
  refine oN (R0:=λy H=>Cv (lH H) y (.bD [.agg (aB.av r.1),int r.2])) ?_ (λy H hc=>⟨_,rfl,.bD (gK ((λ(a:aB)=>PV.agg (aB.dR a)) (r.1)) (bQ (r.2))),hc⟩)
  refine lN (c:=_) Tryz.func46 rfl rfl ?_;intro Q hret hnorm
  refine tc aA 2 (.mk ?_)
  refine sB 1 λv5=>?_
  refine sB 2 λv6=>?_
  refine sA 3 z32 λv7=>?_
  refine tr aA 8 (.mk ?_)
  obtain ⟨x8,e8,h0⟩:=fE h0
  refine sC G7 (FQ e8) ?_
  refine nb aA h0 λx9 h0=>?_
  refine tr aA 1 (.mk ?_)
  cases x9
  replace h0:=cf h0
  refine tc aA 3 (.mk ?_)
  refine PO [0,1,0,7,15,31,0,127,255,511,0,2047,0,0,16383,32767] (λi k=>bif Nat.beq i 0 then (Nat.beq k 1) else bif Nat.beq i 1 then (Nat.beq k 1) else bif Nat.beq i 10 then (Nat.beq k 2) else bif Nat.beq i 14 then (Nat.beq k 4) else bif Nat.beq i 15 then (Nat.beq k 5) else false) (λi=>bif Nat.beq i 12 then (some 4) else bif Nat.beq i 13 then (some 5) else bif Nat.beq i 14 then (some 4) else bif Nat.beq i 15 then (some 5) else none) mixed (by kernel_rfl) ?_;intro C K hK
  refine iF rfl (λH hH=>iC rfl WB rfl (.pt ((hH _ rfl).trans rfl) rfl rfl) (.pt _ _ _ _ _)) ?_
  refine iF rfl (λH hH=>gQ rfl vK rfl (.pt ((hH _ rfl).trans rfl) rfl rfl) rfl) ?_
  refine iF rfl (λH hH=>iE rfl rfl) ?_
  obtain ⟨x10,e10,h0⟩:=fE h0
  refine iF rfl (λH hH=>fT (y:=.pp [int x10.fQ,aZ x10.Closed,aH 4 aS.av x10.bR,aH 1 fI x10.dI,aH 11 cB.av x10.dJ,aH 1 fI x10.gJ,aH 1 fI x10.Down,aH 8 aP.av x10.fZ]) (mM rfl Tryz.underlying27 mQ rfl rfl e10) (congrArg AV.pp (aP.fB x10))) ?_
  refine iF rfl (λH hH=>iC rfl tC rfl (.pp _) (.pp _ _)) ?_
  refine iF rfl (λH hH=>gQ rfl sG rfl (.pp _) rfl) ?_
  refine iF rfl (λH hH=>iE rfl rfl) ?_
  obtain ⟨x11,e11,h0⟩:=fE h0
  refine iF rfl (λH hH=>mM rfl Tryz.underlying58 rM rfl rfl e11) ?_
  refine iF rfl (λH hH=>gQ rfl rM rfl (.pp _) rfl) ?_
  obtain ⟨x12,e12,h0⟩:=fE h0
  refine iF rfl (λH hH=>oC rfl rfl (.cons rfl .nil) GI (dG.refl _) (EM e12)) ?_
  refine iF rfl (λH hH=>gQ rfl rM rfl (.pt ((hH _ rfl).trans rfl) rfl rfl) rfl) ?_
  obtain ⟨x13,e13,h0⟩:=fE h0
  refine iF rfl (λH hH=>oC rfl rfl (.cons rfl .nil) GI (dG.refl _) (EM e13)) ?_
  refine rX rfl rfl (λH hH=>GN 4 rfl z127 rfl) ?_;generalize C+12=v14
  refine rX rfl rfl (λH hH=>GN 5 rfl z127 rfl) ?_;generalize C+13=v15
  refine FN rfl rfl rfl (λH hH=>iP (ob':=(⟨127,11,true,true,v14,[[int x12.a0,int x12.a1,int x12.a2,int x12.a3,int x12.a4,int x12.a5,int x12.a6,int x12.a7,int x12.a8,int x12.a9,int x12.jU]]⟩:cO)) (iL rfl K4 rfl rfl ((hH _ rfl).trans rfl) rfl rfl rfl rfl rfl rfl) rfl) ?_
  refine FN rfl rfl rfl (λH hH=>iP (ob':=(⟨127,11,true,true,v15,[[int x13.a0,int x13.a1,int x13.a2,int x13.a3,int x13.a4,int x13.a5,int x13.a6,int x13.a7,int x13.a8,int x13.a9,int x13.jU]]⟩:cO)) (iL rfl K4 rfl rfl ((hH _ rfl).trans rfl) rfl rfl rfl rfl rfl rfl) rfl) ?_
  refine RE (hK _ ?_)
  refine tc aA 5 (.mk ?_)
  refine fH h0 [1,2,4,8,9,10] [1,3] (λ(a:(List Int)) (k:Unit)=>[]) (λa k=>[(4,⟨127,11,true,true,v14,[a.map int]⟩)]) ⟨λj16 h1 h0=>?_,?_⟩
  refine tc aA 1 (.mk ?_)
  refine lp (λn (a:Int×(List Int))=>uI a1 a2 a3 a4 x13 n a.1 a.2) ((0:Int),(([x12.a0,x12.a1,x12.a2,x12.a3,x12.a4,x12.a5,x12.a6,x12.a7,x12.a8,x12.a9,x12.jU]:List Int):List Int)) () h1 [1,2,4,8,9,10,11] [1,3,5] (λ(a:Int×(List Int)) (k:Unit)=>[(12,int a.1)]) (λa k=>[(4,⟨127,11,true,true,v14,[a.2.map int]⟩)]) (λ_=>rfl) ⟨dP,?_⟩
  rintro n ⟨y0_1,y0_2⟩ _ hm h1
  replace h1:uI a1 a2 a3 a4 x13 (n+1) y0_1 y0_2=some _:=h1
  rw [uI] at h1
  refine tc aA 4 (.mk ?_)
  refine nb aA h1 λx17 h1=>?_
  refine tr aA 1 (.mk ?_)
  cases x17
  replace h1:=cf h1
  refine tc aA 2 (.mk ?_)
  exact oW h1 () dP
  replace h1:=ct h1
  refine tc aA 5 (.mk ?_)
  refine pR [0,1,3,0,8,24,63,127,255,255,511,2047] (rl [(1,[4]),(2,[4]),(4,[5]),(5,[5])] []) (λi=>[4,5]) (λi=>true) [0,1,2,3,4,5,6,7,8,9,10,11] mixed (by kernel_rfl) ?_;intro K hK
  refine eM ?_
  obtain ⟨p18,h1⟩:=iR h1
  obtain ⟨x19,e19,h1⟩:=fE h1
  refine eT rfl rfl rfl rfl (λH hH=>xB rfl Tryz.underlying127 dM rfl rfl ((hH _ (by decide)).trans rfl) rfl rfl p18) ?_
  refine eT rfl rfl rfl rfl (λH hH=>AI rfl dM rfl ((hH _ (by decide)).trans rfl) rfl rfl e19) ?_
  refine eM ?_
  obtain ⟨p20,h1⟩:=iR h1
  obtain ⟨x21,e21,h1⟩:=fE h1
  refine eT rfl rfl rfl rfl (λH hH=>xB rfl Tryz.underlying127 dM rfl rfl ((hH _ (by decide)).trans rfl) rfl rfl p20) ?_
  refine eT rfl rfl rfl rfl (λH hH=>AI rfl dM rfl ((hH _ (by decide)).trans rfl) rfl rfl e21) ?_
  obtain ⟨x22,e22,h1⟩:=fE h1
  refine eP (λH hH=>oC rfl rfl (.cons rfl (.cons rfl .nil)) yX (dG.refl _) (xR e22)) ?_
  refine eM ?_
  iterate 2 refine eX ?_
  iterate 2 refine eA ?_
  refine oK (hK _ ?_)
  refine tc aA 4 (.mk ?_)
  refine nb aA h1 λx23 h1=>?_
  refine tr aA 1 (.mk ?_)
  cases x23
  replace h1:=cf h1
  refine tc aA 5 (.mk ?_)
  obtain ⟨p24,h1⟩:=iR h1
  refine sY (xB rfl Tryz.underlying127 dM rfl rfl rfl rfl rfl p24) ?_
  obtain ⟨x25,e25,h1⟩:=iI h1
  refine LH rfl rfl (iP (ob':=(⟨127,11,true,true,v14,[x25.map int]⟩:cO)) (aAZ rfl dM rfl rfl rfl rfl rfl rfl e19 e25) rfl) ?_
  refine tr aA 4 (.mk ?_)
  refine ni aA h1 λx26 h1=>?_
  refine tr aA 2 (.mk ?_)
  exact bk (x26,x25) () h1 dP
  replace h1:=ct h1
  refine tc aA 5 (.mk ?_)
  refine sS ⟨32,10,true,true,v7,[(aB.av a1)]⟩ lX ?_
  refine tr aA 2 (.mk ?_)
  obtain ⟨c27,hX,hj⟩:=oG h1;subst hj;replace h0:=hX.trans (nZ h0)
  obtain rfl:=fV h0
  refine wR hret (rC lX (rT .nil)) ?_
  exact .refl _
  rintro y1_1 _ h0
  refine tc aA 4 (.mk ?_)
  obtain ⟨j28,h1,h0⟩:=fE h0
  refine oJ (Out:=λy H'=>(∃ (a:Int×Bool×(List aP)×(List aS)×(List Int)×(List cB)×(List Int)×(List Int)) (k:Nat×Nat×Nat×Nat×Nat×Nat),a=j28/\y=.agg [int a1.bF.gG,int a1.bF.gZ,aH 1 fI a1.bF.bW,aH 1 (fL 1 fI) a1.bF.Methods,aH 1 (fL 1 fI) a1.bF.gX,.sl 8 k.1 0 a1.bA.length,aH 8 dX.av a1.bX,aH 9 fA.av a1.dS,aH 6 fP.av a1.dH,int a1.Done]/\H'=hk [(1,⟨32,10,true,true,v5,[(aB.av a1)]⟩),(3,⟨32,10,true,true,v7,[[int 0,int 0,.sc (.slice none 0 0),.sc (.slice none 0 0),.sc (.slice none 0 0),.sc (.slice none 0 0),.sc (.slice none 0 0),.sc (.slice none 0 0),.sc (.slice none 0 0),int 0]]⟩),(4,⟨127,11,true,true,v14,[y1_1.map int]⟩),(8,⟨60,8,true,true,k.1,(a1.bA.map aP.av).set (Int.toNat a2) [int a.1,aZ a.2.1,.sl 9 k.2.1 0 a.2.2.2.1.length,.sl 10 k.2.2.1 0 a.2.2.2.2.1.length,.sl 11 k.2.2.2.1 0 a.2.2.2.2.2.1.length,.sl 12 k.2.2.2.2.1 0 a.2.2.2.2.2.2.1.length,.sl 13 k.2.2.2.2.2 0 a.2.2.2.2.2.2.2.length,aH 8 aP.av a.2.2.1]⟩),(9,⟨99,4,true,true,k.2.1,a.2.2.2.1.map aS.av⟩),(10,⟨3,1,true,true,k.2.2.1,a.2.2.2.2.1.map fI⟩),(11,⟨76,11,true,true,k.2.2.2.1,a.2.2.2.2.2.1.map cB.av⟩),(12,⟨3,1,true,true,k.2.2.2.2.1,a.2.2.2.2.2.2.1.map fI⟩),(13,⟨3,1,true,true,k.2.2.2.2.2,a.2.2.2.2.2.2.2.map fI⟩)])) rfl rfl rfl (nC rfl rfl (.cons rfl (.cons rfl .nil)) zH ?_) ?_
  refine lN (c:=_) Tryz.func60 rfl rfl ?_;intro Q hret hnorm
  refine tc aA 2 (.mk ?_)
  refine sB 6 λv29=>?_
  refine sA 7 z32 λv30=>?_
  refine tr aA 5 (.mk ?_)
  obtain ⟨p31,h1⟩:=iR h1
  refine oJ rfl rfl rfl (nU (g:=aP.av) (m:=a1.bA) 8 rfl Tryz.underlying27 yH EH rfl rfl rfl rfl (.refl _) aP.one p31) ?_;rintro _ _ ⟨v32,rfl,rfl⟩
  refine tr aA 1 (.mk ?_)
  refine sS ⟨32,10,true,true,v29,[[int a1.bF.gG,int a1.bF.gZ,aH 1 fI a1.bF.bW,aH 1 (fL 1 fI) a1.bF.Methods,aH 1 (fL 1 fI) a1.bF.gX,.sl 8 v32 0 a1.bA.length,aH 8 dX.av a1.bX,aH 9 fA.av a1.dS,aH 6 fP.av a1.dH,int a1.Done]]⟩ vK ?_
  refine tr aA 6 (.mk ?_)
  obtain ⟨x33,e33,h1⟩:=fE h1
  refine sY (iT rfl Tryz.underlying27 mQ rfl rfl rfl rfl rfl (Eq.symm rfl) (List.length_map _) e33) ?_
  refine tr aA 3 (.mk ?_)
  refine pR [0,0,0,0,8,24,56,120,0,256,768,1792,4088,0,8192,24576,57344,131064,262137,524281,1048569,2097147,4194299,8388603,16777215,33554431,67108863] (rl [(4,[8]),(5,[8]),(6,[8]),(9,[8]),(10,[8]),(11,[8]),(14,[8]),(15,[8]),(16,[8]),(18,[8]),(19,[8]),(21,[8]),(22,[8]),(24,[8]),(25,[8])] []) (rl [(17,[]),(20,[]),(23,[]),(26,[])] [8]) (rl [(7,false),(12,false),(17,false),(20,false),(23,false),(26,false)] true) [0,1,2,3,4,5,6,8,9,10,11,13,14,15,16,7,12,17,18,19,20,21,22,23,24,25,26] mixed (by kernel_rfl) ?_;intro K hK
  iterate 4 refine eM ?_
  refine eN (hr:=iM e33 (aP.fB _)) ?_
  refine eF uQ (hr:=iM e33 (aP.fB _)) ?_
  refine eL uN (hr:=iM e33 (aP.fB _)) ?_
  refine eM ?_
  refine eN (hr:=iM e33 (aP.fB _)) ?_
  refine eF FY (hr:=iM e33 (aP.fB _)) ?_
  refine eL lT (hr:=iM e33 (aP.fB _)) ?_
  refine eM ?_
  refine eN (hr:=iM e33 (aP.fB _)) ?_
  refine eF tC (hr:=iM e33 (aP.fB _)) ?_
  refine eL sG (hr:=iM e33 (aP.fB _)) ?_
  obtain ⟨p34,h1⟩:=iR h1
  refine zG rfl rfl rfl rfl (nU (g:=aS.av) (m:=x33.bR) 9 rfl Tryz.underlying57 EN ID rfl rfl rfl rfl (.refl _) (λ_=>rfl) p34) (by rintro _ _ ⟨v35,rfl,rfl⟩;exact ⟨rfl,trivial⟩) ?_;rintro _ _ ⟨v35,rfl,rfl⟩
  obtain ⟨p36,h1⟩:=iR h1
  refine zG rfl rfl rfl rfl (nU (g:=fI) (m:=x33.dI) 10 rfl Tryz.underlying22 kC nK rfl rfl rfl rfl (.refl _) (λ_=>rfl) p36) (by rintro _ _ ⟨v37,rfl,rfl⟩;exact ⟨rfl,trivial⟩) ?_;rintro _ _ ⟨v37,rfl,rfl⟩
  obtain ⟨p38,h1⟩:=iR h1
  refine zG rfl rfl rfl rfl (nU (g:=cB.av) (m:=x33.dJ) 11 rfl Tryz.underlying58 D7 NH rfl rfl rfl rfl (.refl _) (λ_=>rfl) p38) (by rintro _ _ ⟨v39,rfl,rfl⟩;exact trivial) ?_;rintro _ _ ⟨v39,rfl,rfl⟩
  refine eN (hr:=iM e33 (aP.fB _)) ?_
  refine eF uQ (hr:=iM e33 (aP.fB _)) ?_
  refine uD rfl rfl rfl rfl (eG.iA (iP (ob':=(⟨60,8,true,true,v32,(a1.bA.map aP.av).set (Int.toNat a2) [int x33.fQ,aZ x33.Closed,.sl 9 v35 0 x33.bR.length,aH 1 fI x33.dI,aH 11 cB.av x33.dJ,aH 1 fI x33.gJ,aH 1 fI x33.Down,aH 8 aP.av x33.fZ]⟩:cO)) (iL rfl uN rfl rfl rfl rfl rfl (iM e33 (aP.fB _)) rfl rfl rfl) (jZ rfl)) (λ_ h=>h) (λ_ _=>trivial)) (by rintro _ _ ⟨rfl,rfl⟩;exact trivial) ?_;rintro _ _ ⟨rfl,rfl⟩
  refine eN (hr:=iG e33) ?_
  refine eF FY (hr:=iG e33) ?_
  refine uD rfl rfl rfl rfl (eG.iA (iP (ob':=(⟨60,8,true,true,v32,(a1.bA.map aP.av).set (Int.toNat a2) [int x33.fQ,aZ x33.Closed,.sl 9 v35 0 x33.bR.length,.sl 10 v37 0 x33.dI.length,aH 11 cB.av x33.dJ,aH 1 fI x33.gJ,aH 1 fI x33.Down,aH 8 aP.av x33.fZ]⟩:cO)) (iL rfl lT rfl rfl rfl rfl rfl (iG e33) rfl rfl rfl) (jZ sQ)) (λ_ h=>h) (λ_ _=>trivial)) (by rintro _ _ ⟨rfl,rfl⟩;exact trivial) ?_;rintro _ _ ⟨rfl,rfl⟩
  refine eN (hr:=iG e33) ?_
  refine eF tC (hr:=iG e33) ?_
  refine uD rfl rfl rfl rfl (eG.iA (iP (ob':=(⟨60,8,true,true,v32,(a1.bA.map aP.av).set (Int.toNat a2) [int x33.fQ,aZ x33.Closed,.sl 9 v35 0 x33.bR.length,.sl 10 v37 0 x33.dI.length,.sl 11 v39 0 x33.dJ.length,aH 1 fI x33.gJ,aH 1 fI x33.Down,aH 8 aP.av x33.fZ]⟩:cO)) (iL rfl sG rfl rfl rfl rfl rfl (iG e33) rfl rfl rfl) (jZ sQ)) (λ_ h=>h) (λ_ _=>trivial)) (by rintro _ _ ⟨rfl,rfl⟩;exact trivial) ?_;rintro _ _ ⟨rfl,rfl⟩
  refine oK (hK _ ?_)
  refine tc aA 1 (.mk ?_)
  refine pR [0,0,0,4,12,28,60,0,128,384,896,2044,4093,8189,16381,32767,65535,131071] (rl [(3,[8]),(4,[8]),(5,[8]),(8,[8]),(9,[8]),(10,[8]),(12,[8]),(13,[8]),(15,[8]),(16,[8])] []) (rl [(11,[]),(14,[]),(17,[])] [8]) (rl [(6,false),(11,false),(14,false),(17,false)] true) [0,1,2,3,4,5,7,8,9,10,6,11,12,13,14,15,16,17] mixed (by kernel_rfl) ?_;intro K hK
  iterate 3 refine eM ?_
  refine eN (hr:=iG e33) ?_
  refine eF I4 (hr:=iG e33) ?_
  refine eL lT (hr:=iG e33) ?_
  refine eM ?_
  refine eN (hr:=iG e33) ?_
  refine eF IG (hr:=iG e33) ?_
  refine eL lT (hr:=iG e33) ?_
  obtain ⟨p40,h1⟩:=iR h1
  refine zG rfl rfl rfl rfl (nU (g:=fI) (m:=x33.gJ) 12 rfl Tryz.underlying22 kC nK rfl rfl rfl rfl (.refl _) (λ_=>rfl) p40) (by rintro _ _ ⟨v41,rfl,rfl⟩;exact ⟨rfl,trivial⟩) ?_;rintro _ _ ⟨v41,rfl,rfl⟩
  obtain ⟨p42,h1⟩:=iR h1
  refine zG rfl rfl rfl rfl (nU (g:=fI) (m:=x33.Down) 13 rfl Tryz.underlying22 kC nK rfl rfl rfl rfl (.refl _) (λ_=>rfl) p42) (by rintro _ _ ⟨v43,rfl,rfl⟩;exact trivial) ?_;rintro _ _ ⟨v43,rfl,rfl⟩
  refine eN (hr:=iG e33) ?_
  refine eF I4 (hr:=iG e33) ?_
  refine uD rfl rfl rfl rfl (eG.iA (iP (ob':=(⟨60,8,true,true,v32,(a1.bA.map aP.av).set (Int.toNat a2) [int x33.fQ,aZ x33.Closed,.sl 9 v35 0 x33.bR.length,.sl 10 v37 0 x33.dI.length,.sl 11 v39 0 x33.dJ.length,.sl 12 v41 0 x33.gJ.length,aH 1 fI x33.Down,aH 8 aP.av x33.fZ]⟩:cO)) (iL rfl lT rfl rfl rfl rfl rfl (iG e33) rfl rfl rfl) (jZ sQ)) (λ_ h=>h) (λ_ _=>trivial)) (by rintro _ _ ⟨rfl,rfl⟩;exact trivial) ?_;rintro _ _ ⟨rfl,rfl⟩
  refine eN (hr:=iG e33) ?_
  refine eF IG (hr:=iG e33) ?_
  refine uD rfl rfl rfl rfl (eG.iA (iP (ob':=(⟨60,8,true,true,v32,(a1.bA.map aP.av).set (Int.toNat a2) [int x33.fQ,aZ x33.Closed,.sl 9 v35 0 x33.bR.length,.sl 10 v37 0 x33.dI.length,.sl 11 v39 0 x33.dJ.length,.sl 12 v41 0 x33.gJ.length,.sl 13 v43 0 x33.Down.length,aH 8 aP.av x33.fZ]⟩:cO)) (iL rfl lT rfl rfl rfl rfl rfl (iG e33) rfl rfl rfl) (jZ sQ)) (λ_ h=>h) (λ_ _=>trivial)) (by rintro _ _ ⟨rfl,rfl⟩;exact trivial) ?_;rintro _ _ ⟨rfl,rfl⟩
  refine oK (hK _ ?_)
  refine tc aA 3 (.mk ?_)
  refine sS ⟨32,10,true,true,v30,[[int a1.bF.gG,int a1.bF.gZ,aH 1 fI a1.bF.bW,aH 1 (fL 1 fI) a1.bF.Methods,aH 1 (fL 1 fI) a1.bF.gX,.sl 8 v32 0 a1.bA.length,aH 8 dX.av a1.bX,aH 9 fA.av a1.dS,aH 6 fP.av a1.dH,int a1.Done]]⟩ lX ?_
  refine tr aA 1 (.mk ?_)
  obtain rfl:=fV h1
  refine o7 (hret _ _ (hk [(1,⟨32,10,true,true,v5,[(aB.av a1)]⟩),(3,⟨32,10,true,true,v7,[[int 0,int 0,.sc (.slice none 0 0),.sc (.slice none 0 0),.sc (.slice none 0 0),.sc (.slice none 0 0),.sc (.slice none 0 0),.sc (.slice none 0 0),.sc (.slice none 0 0),int 0]]⟩),(4,⟨127,11,true,true,v14,[y1_1.map int]⟩),(8,⟨60,8,true,true,v32,(a1.bA.map aP.av).set (Int.toNat a2) [int x33.fQ,aZ x33.Closed,.sl 9 v35 0 x33.bR.length,.sl 10 v37 0 x33.dI.length,.sl 11 v39 0 x33.dJ.length,.sl 12 v41 0 x33.gJ.length,.sl 13 v43 0 x33.Down.length,aH 8 aP.av x33.fZ]⟩),(9,⟨99,4,true,true,v35,x33.bR.map aS.av⟩),(10,⟨3,1,true,true,v37,x33.dI.map fI⟩),(11,⟨76,11,true,true,v39,x33.dJ.map cB.av⟩),(12,⟨3,1,true,true,v41,x33.gJ.map fI⟩),(13,⟨3,1,true,true,v43,x33.Down.map fI⟩)]) (.cell rfl (.pt rfl rfl rfl) lX rfl .nil) (HK.le ⟨rfl,rfl,rfl,rfl,rfl,rfl,rfl,rfl,rfl,trivial⟩) ?_)
  exact ⟨(x33.fQ,x33.Closed,x33.fZ,x33.bR,x33.dI,x33.dJ,x33.gJ,x33.Down),(v32,v35,v37,v39,v41,v43),rfl,rfl,rfl⟩
  rintro y _ ⟨⟨y3_2,y3_3,y3_9,y3_10,y3_11,y3_12,y3_13,y3_14⟩,⟨w3_1,w3_4,w3_5,w3_6,w3_7,w3_8⟩,rfl,hc,rfl⟩
  replace h0:=mZ h0
  replace h0:=mZ h0
  replace h0:=mZ h0
  replace h0:=mZ h0
  replace h0:=mZ h0
  replace h0:=mZ h0
  replace h0:=mZ h0
  subst hc
  obtain ⟨x44,e44,h0⟩:=fE h0
  refine sA 14 z32 λv45=>?_
  refine sS ⟨32,10,true,true,v45,[[int a1.bF.gG,int a1.bF.gZ,aH 1 fI a1.bF.bW,aH 1 (fL 1 fI) a1.bF.Methods,aH 1 (fL 1 fI) a1.bF.gX,.sl 8 w3_1 0 a1.bA.length,aH 8 dX.av a1.bX,aH 9 fA.av a1.dS,aH 6 fP.av a1.dH,int a1.Done]]⟩ lX ?_
  refine tr aA 2 (.mk ?_)
  refine pR [0,1,0,7,15,31,0,0,128,511,1023] (rl [(0,[14]),(1,[14]),(3,[8]),(4,[8]),(5,[8]),(7,[4]),(9,[11])] []) (rl [(10,[])] [4,8,11,14]) (rl [(10,false)] true) [0,1,2,3,4,5,6,7,8,9,10] mixed (by kernel_rfl) ?_;intro K hK
  refine eF WB ?_
  refine eL vK ?_
  refine eM ?_
  refine eT rfl rfl rfl rfl (λH hH=>iT rfl Tryz.underlying27 mQ rfl rfl ((hH _ (by decide)).trans rfl) rfl rfl (Eq.symm rfl) FM e44) ?_
  refine eF tC (hr:=iG e44) ?_
  refine eL sG (hr:=iG e44) ?_
  refine eM ?_
  obtain ⟨p46,h0⟩:=iR h0
  refine eT rfl rfl rfl rfl (λH hH=>aH9 rfl K4 rfl ((hH _ (by decide)).trans rfl) rfl rfl p46) ?_
  obtain ⟨x47,e47,h0⟩:=fE h0
  refine eP (λH hH=>oC rfl rfl (.cons rfl .nil) aT5 (dG.refl _) (aQR e47)) ?_
  obtain ⟨x48,e48,h0⟩:=fE h0
  refine eT rfl rfl rfl rfl (λH hH=>iT rfl Tryz.underlying58 rM rfl rfl ((hH _ (by decide)).trans rfl) rfl rfl (Eq.symm rfl) (List.length_map _) e48) ?_
  obtain ⟨x49,e49,h0⟩:=iI h0
  have fx49:=mX e48 e49;have lx49:=l6 e49 (rfl:y3_12.length=y3_12.length)
  refine uD rfl rfl rfl rfl (eG.iA (iP (ob':=(⟨76,11,true,true,w3_6,x49.map cB.av⟩:cO)) (iL rfl rM rfl rfl rfl rfl rfl (iN e48) rfl rfl rfl) (jZ (oI e49))) (λ_ h=>h) (λ_ _=>trivial)) (by rintro _ _ ⟨rfl,rfl⟩;exact trivial) ?_;rintro _ _ ⟨rfl,rfl⟩
  refine oK (hK _ ?_)
  refine tc aA 3 (.mk ?_)
  refine sS ⟨32,10,true,true,v7,[[int a1.bF.gG,int a1.bF.gZ,aH 1 fI a1.bF.bW,aH 1 (fL 1 fI) a1.bF.Methods,aH 1 (fL 1 fI) a1.bF.gX,.sl 8 w3_1 0 a1.bA.length,aH 8 dX.av a1.bX,aH 9 fA.av a1.dS,aH 6 fP.av a1.dH,int a1.Done]]⟩ lX ?_
  refine tr aA 2 (.mk ?_)
  obtain rfl:=fV h0
  refine wR hret (rC lX (rT .nil)) ?_
  exact dG.bD (.cons (dG.agg (.cons (.refl _) (.cons (.refl _) (.cons (.refl _) (.cons (.refl _) (.cons (.refl _) (.cons (wX rfl rfl rfl rfl rfl (Eq.symm rfl) e44 (uO (.cons (.refl _) (.cons (.refl _) (.cons (gY rfl rfl rfl rfl rfl (Eq.symm rfl)) (.cons (gY rfl rfl rfl rfl rfl (Eq.symm rfl)) (.cons (gY rfl rfl rfl rfl rfl (Eq.symm lx49)) (.cons (gY rfl rfl rfl rfl rfl (Eq.symm rfl)) (.cons (gY rfl rfl rfl rfl rfl (Eq.symm rfl)) (.cons (.refl _) .nil)))))))) (aP.fB _))) (.cons (.refl _) (.cons (.refl _) (.cons (.refl _) (.cons (.refl _) .nil))))))))))) (.cons (.refl _) .nil))
  replace h0:=ct h0
  refine tc aA 4 (.mk ?_)
  refine sS ⟨32,10,true,true,v7,[(aB.av a1)]⟩ lX ?_
  refine tr aA 2 (.mk ?_)
  obtain rfl:=fV h0
  refine wR hret (rC lX (rT .nil)) ?_
  exact .refl _
def UP (a1:aB) (a2:fA) (a3:Int) (a4:Int) (a5:Int):WT Tryz.prog (.b (Bool)) :=
 .al 1<|.al 2<|.jn 0 [] [] [] (λ_ (a:Bool)=>[(10,aZ a)]) (λ_ _=>[]) (.dr [(0,[2]),(1,[2]),(3,[2]),(4,[2]),(9,[2]),(10,[2]),(15,[2]),(16,[2]),(21,[2]),(22,[2]),(23,[1]),(24,[1])] [] [1,2] [] [0,1,2,3,4,5,6,7,8,9,10,11,12,13,14,15,16,17,18,19,20,21,22,23,24,25,26,27,28,29,30,31] (.bB 13 (a2.qF) λx8=>.ifs [13] x8 (.bB 17 (decide (a2.fU=a3)) λx9=>.ifs [17] x9 (.bB 23 (decide (a2.Item=a4)) λx10=>.ifs [23] x10 (.bB 29 (decide (a2.Loc=a5)) λx11=>.ifs [29] x11 (.jC 37 aP.av gE aP.fB a1.bA a3 λx12=>.bB 40 (decide (a2.oP=x12.fQ)) λx13=>.ret x13) (.ret false)) (.ret false)) (.ret false)) (.ret false))) (λy0_1=>.ret ((y0_1:Bool)))
def PW (a1:aB) (a2:fA) (a3:Int) (a4:Int) (a5:Int):Option (Bool):=(UP a1 a2 a3 a4 a5).run
theorem aOC {a1 a2 a3 a4 a5 r} (h0:PW a1 a2 a3 a4 a5=some r):PP Tryz.prog 139 [.agg (aB.av a1),.agg (fA.av a2),int a3,int a4,int a5] (λy=>y=aZ r) :=
 bY mixed aA (λr:Bool=>aZ r) h0 Tryz.func139 (λr=>gT r) 100000 au
def aAD (n:Nat) (a1:Int) (a2:List Int):WT Tryz.prog (.b ((List Int)×Int)) :=
 .bB 10 (decide (a1>=0)) λx3=>.ifs [10] x3 (.inl 13 TJ Tryz.func150 [] [3] (B:=(Int)⊕((List Int))) (λu90=>Sum.elim (λa=>.bD [.sc (.slice none 0 0),int a]) (λa=>.bD [.sl 3 (u90 3) 0 a.length,int 0])) (λu90=>Sum.elim (λa=>[]) (λa=>[.nw 3 3 1 (a.map fI)])) (.fH 3 [0,1,4,5] [] [] (λ_ (a:Bool)=>[(6,aZ a)]) (λ_ _=>[]) (.lp [0,1,4,5] [] [] (λ_ (a:Bool×Int)=>[(6,aZ a.1),(7,int a.2)]) (λ_ _=>[]) n ((false:Bool),0) (pw λy0_1 y0_2=>.ln 21 fI a2<|.bB 22 (decide (y0_2<(a2.length:Int))) λx4=>.ifs [22] x4 (.jn 2 [0,1,4,5,6,7] [] [] (λ_ (a:Bool)=>[(36,aZ a)]) (λ_ _=>[]) (.ix 27 fI a2 y0_2 λx5=>.bB 29 (decide (x5<0)) λx6=>.ifs [29] x6 (.ret true) (.ix 33 fI a2 y0_2 λx7=>.bB 35 (decide (x7>288230376151711744)) λx8=>.ret x8)) (λy1_1=>.ifs [36] y1_1 (.esc (.esc (.ret (.inl 1)))) (.jn 1 [0,1,4,5,7] [] [] (λ_ (a:Bool)=>[(6,aZ a)]) (λ_ _=>[]) (.ifs [6] y0_1 (.ret true) (.ix 41 fI a2 y0_2 λx9=>.bB 43 (decide (x9>0)) λx10=>.ret x10)) (λy2_1=>.bI 24 (bE (y0_2+1)) λx11=>.brk ((y2_1:Bool),x11))))) (.esc (.brk y0_1)))) (λy3_1=>.jn 0 [0,1,4,5] [] [] (λ_ (a:Bool)=>[(54,aZ a)]) (λ_ _=>[]) (.bB 46 (decide (a1<0)) λx12=>.ifs [46] x12 (.ret true) (.bB 49 (decide (a1>288230376151711744)) λx13=>.ifs [49] x13 (.ret true) (.bB 53 (!y3_1) λx14=>.ret x14))) (λy4_1=>.ifs [54] y4_1 (.ret (.inl 1)) (.cl 57 (oQ n a2) uH uG λx15=>.bB 61 (decide (x15.2≠0)) λx16=>.ifs [61] x16 (.ret (.inl x15.2)) (.jn 4 [4,5] [] [3,4] (λu97 (a:Int×(List Int)×(List Int))=>[(10,.sl 3 (u97 3) 0 a.2.1.length),(11,.sl 4 (u97 4) 0 a.2.2.length),(12,int a.1)]) (λ_ a=>[.nw 3 3 1 (a.2.1.map fI),.nw 4 3 1 (a.2.2.map fI)]) (.no 10 3 3 1<|.no 11 4 3 1<|.lp [0,1,4,5,8] [] [3,4] (λu98 (a:Int×Int×(List Int)×(List Int))=>[(10,.sl 3 (u98 3) 0 a.2.2.1.length),(11,.sl 4 (u98 4) 0 a.2.2.2.length),(12,int a.1),(13,int a.2.1)]) (λ_ a=>[.nw 3 3 1 (a.2.2.1.map fI),.nw 4 3 1 (a.2.2.2.map fI)]) n ((a1:Int),0,(([]:List Int):List Int),(([]:List Int):List Int)) (pw λy5_3 q0=>(pw λy5_4 q1=>(pw λy5_5 y5_6=>.ln 66 fI a2<|.bB 67 (decide (y5_4<(a2.length:Int))) λx19=>.ifs [67] x19 (.ix 74 fI a2 y5_4 λx20=>.cl 77 (qZ n a1 x20 x15.1) xY xX λx21=>.to 83 (aH 1 fI ([x21.1]:List Int))<|.bl (y5_5++([x21.1]:List Int):List Int) λx22=>.as (x22.length<=68719476736) inferInstance<|.ge 84 0<|.to 87 (aH 1 fI ([x21.2.1]:List Int))<|.bl (y5_6++([x21.2.1]:List Int):List Int) λx25=>.as (x25.length<=68719476736) inferInstance<|.ge 88 0<|.bI 91 (bE (y5_3-x21.1)) λx28=>.bI 69 (bE (y5_4+1)) λx29=>.brk ((x28:Int),x29,x22,x25)) (.esc (.ret ((y5_3:Int),y5_5,y5_6)))) q1) q0)) (pw λy6_3 q0=>(pw λy6_4 y6_5=>.jn 0 [4,5] [] [] (λu118 (a:(List Int))=>[(10,.sl 3 (u118 3) 0 a.length)]) (λ_ a=>[.kp 3 (a.map fI)]) (.lp [4,5] [] [] (λu121 (a:Int×(List Int)×(List Int))=>[(10,.sl 3 (u121 3) 0 a.2.1.length),(11,.sl 4 (u121 4) 0 a.2.2.length),(12,int a.1)]) (λ_ a=>[.kp 3 (a.2.1.map fI),.kp 4 (a.2.2.map fI)]) n ((y6_3:Int),y6_4,y6_5) (pw λy7_1 q0=>(pw λy7_2 y7_3=>.bB 93 (decide (y7_1>0)) λx30=>.ifs [93] x30 (.jn 1 [4,5,12] [] [] (λu127 (a:(List Int)×(List Int))=>[(10,.sl 3 (u127 3) 0 a.1.length),(11,.sl 4 (u127 4) 0 a.2.length)]) (λ_ a=>[.kp 3 (a.1.map fI),.kp 4 (a.2.map fI)]) (.jn 3 [4,5,10,11,12] [3,4] [] (λ_ (a:Int)=>[(17,int a)]) (λ_ _=>[]) (.lp [4,5,10,11,12] [3,4] [] (λ_ (a:Int×Int)=>[(17,int a.1),(18,int a.2)]) (λ_ _=>[]) n ((0:Int),1) (pw λy8_1 y8_2=>.bB 99 (decide (y8_2<(y7_3.length:Int))) λx31=>.ifs [99] x31 (.jn 1 [4,5,10,11,12,18] [3,4] [] (λ_ (a:Int)=>[(17,int a)]) (λ_ _=>[]) (.dr [(2,[4]),(3,[4]),(6,[4]),(7,[4])] [] [4] [] [0,1,2,3,4,5,6,7,8] (.bo (ix y7_3 y8_2) λx32=>.gv 104<|.gv 105<|.bo (ix y7_3 y8_1) λx33=>.gv 108<|.gv 109<|.bB 110 (decide (x32>x33)) λx34=>.ifs [110] x34 (.ret y8_2) (.ret y8_1))) (λy9_1=>.bI 101 (bE (y8_2+1)) λx35=>.brk ((y9_1:Int),x35))) (.esc (.ret y8_1)))) (λy10_1=>.bo (ix y7_2 y10_1) λx36=>.gv 114<|.gv 115<|.bI 116 (bE (x36+1)) λx37=>.gv 117<|.bl (y7_2.set (Int.toNat y10_1) x37:List Int) λx38=>.ge 1028006 0<|.bo (ix y7_3 y10_1) λx39=>.gv 120<|.bl (y7_3.set (Int.toNat y10_1) (-1):List Int) λx40=>.ge 1029003 0<|.ret ((x38:List Int),x40))) (pw λy11_1 y11_2=>.bI 95 (bE (y7_1-1)) λx41=>.brk ((x41:Int),y11_1,y11_2))) (.esc (.ret y7_2))) q0)) (λy12_1=>.ret (.inr y12_1))) q0)))))) (Sum.elim (λy13_1=>.ret (([]:List Int),y13_1)) (λy14_2=>.ret ((y14_2:List Int),0)))) (.bI 18 (bE (0-a1)) λx42=>.inl 20 TJ Tryz.func150 [] [7] (B:=(Int)⊕((List Int))) (λu181=>Sum.elim (λa=>.bD [.sc (.slice none 0 0),int a]) (λa=>.bD [.sl 7 (u181 7) 0 a.length,int 0])) (λu181=>Sum.elim (λa=>[]) (λa=>[.nw 7 3 1 (a.map fI)])) (.fH 3 [0,1,4,5] [] [] (λ_ (a:Bool)=>[(6,aZ a)]) (λ_ _=>[]) (.lp [0,1,4,5] [] [] (λ_ (a:Bool×Int)=>[(6,aZ a.1),(7,int a.2)]) (λ_ _=>[]) n ((false:Bool),0) (pw λy15_1 y15_2=>.ln 21 fI a2<|.bB 22 (decide (y15_2<(a2.length:Int))) λx43=>.ifs [22] x43 (.jn 2 [0,1,4,5,6,7] [] [] (λ_ (a:Bool)=>[(36,aZ a)]) (λ_ _=>[]) (.ix 27 fI a2 y15_2 λx44=>.bB 29 (decide (x44<0)) λx45=>.ifs [29] x45 (.ret true) (.ix 33 fI a2 y15_2 λx46=>.bB 35 (decide (x46>288230376151711744)) λx47=>.ret x47)) (λy16_1=>.ifs [36] y16_1 (.esc (.esc (.ret (.inl 1)))) (.jn 1 [0,1,4,5,7] [] [] (λ_ (a:Bool)=>[(6,aZ a)]) (λ_ _=>[]) (.ifs [6] y15_1 (.ret true) (.ix 41 fI a2 y15_2 λx48=>.bB 43 (decide (x48>0)) λx49=>.ret x49)) (λy17_1=>.bI 24 (bE (y15_2+1)) λx50=>.brk ((y17_1:Bool),x50))))) (.esc (.brk y15_1)))) (λy18_1=>.jn 0 [0,1,4,5] [] [] (λ_ (a:Bool)=>[(54,aZ a)]) (λ_ _=>[]) (.bB 46 (decide (x42<0)) λx51=>.ifs [46] x51 (.ret true) (.bB 49 (decide (x42>288230376151711744)) λx52=>.ifs [49] x52 (.ret true) (.bB 53 (!y18_1) λx53=>.ret x53))) (λy19_1=>.ifs [54] y19_1 (.ret (.inl 1)) (.cl 57 (oQ n a2) uH uG λx54=>.bB 61 (decide (x54.2≠0)) λx55=>.ifs [61] x55 (.ret (.inl x54.2)) (.jn 4 [4,5] [] [7,8] (λu188 (a:Int×(List Int)×(List Int))=>[(10,.sl 7 (u188 7) 0 a.2.1.length),(11,.sl 8 (u188 8) 0 a.2.2.length),(12,int a.1)]) (λ_ a=>[.nw 7 3 1 (a.2.1.map fI),.nw 8 3 1 (a.2.2.map fI)]) (.no 10 7 3 1<|.no 11 8 3 1<|.lp [0,1,4,5,8] [] [7,8] (λu189 (a:Int×Int×(List Int)×(List Int))=>[(10,.sl 7 (u189 7) 0 a.2.2.1.length),(11,.sl 8 (u189 8) 0 a.2.2.2.length),(12,int a.1),(13,int a.2.1)]) (λ_ a=>[.nw 7 3 1 (a.2.2.1.map fI),.nw 8 3 1 (a.2.2.2.map fI)]) n ((x42:Int),0,(([]:List Int):List Int),(([]:List Int):List Int)) (pw λy20_3 q0=>(pw λy20_4 q1=>(pw λy20_5 y20_6=>.ln 66 fI a2<|.bB 67 (decide (y20_4<(a2.length:Int))) λx58=>.ifs [67] x58 (.ix 74 fI a2 y20_4 λx59=>.cl 77 (qZ n x42 x59 x54.1) xY xX λx60=>.to 83 (aH 1 fI ([x60.1]:List Int))<|.bl (y20_5++([x60.1]:List Int):List Int) λx61=>.as (x61.length<=68719476736) inferInstance<|.ge 84 0<|.to 87 (aH 1 fI ([x60.2.1]:List Int))<|.bl (y20_6++([x60.2.1]:List Int):List Int) λx64=>.as (x64.length<=68719476736) inferInstance<|.ge 88 0<|.bI 91 (bE (y20_3-x60.1)) λx67=>.bI 69 (bE (y20_4+1)) λx68=>.brk ((x67:Int),x68,x61,x64)) (.esc (.ret ((y20_3:Int),y20_5,y20_6)))) q1) q0)) (pw λy21_3 q0=>(pw λy21_4 y21_5=>.jn 0 [4,5] [] [] (λu209 (a:(List Int))=>[(10,.sl 7 (u209 7) 0 a.length)]) (λ_ a=>[.kp 7 (a.map fI)]) (.lp [4,5] [] [] (λu212 (a:Int×(List Int)×(List Int))=>[(10,.sl 7 (u212 7) 0 a.2.1.length),(11,.sl 8 (u212 8) 0 a.2.2.length),(12,int a.1)]) (λ_ a=>[.kp 7 (a.2.1.map fI),.kp 8 (a.2.2.map fI)]) n ((y21_3:Int),y21_4,y21_5) (pw λy22_1 q0=>(pw λy22_2 y22_3=>.bB 93 (decide (y22_1>0)) λx69=>.ifs [93] x69 (.jn 1 [4,5,12] [] [] (λu218 (a:(List Int)×(List Int))=>[(10,.sl 7 (u218 7) 0 a.1.length),(11,.sl 8 (u218 8) 0 a.2.length)]) (λ_ a=>[.kp 7 (a.1.map fI),.kp 8 (a.2.map fI)]) (.jn 3 [4,5,10,11,12] [7,8] [] (λ_ (a:Int)=>[(17,int a)]) (λ_ _=>[]) (.lp [4,5,10,11,12] [7,8] [] (λ_ (a:Int×Int)=>[(17,int a.1),(18,int a.2)]) (λ_ _=>[]) n ((0:Int),1) (pw λy23_1 y23_2=>.bB 99 (decide (y23_2<(y22_3.length:Int))) λx70=>.ifs [99] x70 (.jn 1 [4,5,10,11,12,18] [7,8] [] (λ_ (a:Int)=>[(17,int a)]) (λ_ _=>[]) (.dr [(2,[8]),(3,[8]),(6,[8]),(7,[8])] [] [8] [] [0,1,2,3,4,5,6,7,8] (.bo (ix y22_3 y23_2) λx71=>.gv 104<|.gv 105<|.bo (ix y22_3 y23_1) λx72=>.gv 108<|.gv 109<|.bB 110 (decide (x71>x72)) λx73=>.ifs [110] x73 (.ret y23_2) (.ret y23_1))) (λy24_1=>.bI 101 (bE (y23_2+1)) λx74=>.brk ((y24_1:Int),x74))) (.esc (.ret y23_1)))) (λy25_1=>.bo (ix y22_2 y25_1) λx75=>.gv 114<|.gv 115<|.bI 116 (bE (x75+1)) λx76=>.gv 117<|.bl (y22_2.set (Int.toNat y25_1) x76:List Int) λx77=>.ge 1028006 0<|.bo (ix y22_3 y25_1) λx78=>.gv 120<|.bl (y22_3.set (Int.toNat y25_1) (-1):List Int) λx79=>.ge 1029003 0<|.ret ((x77:List Int),x79))) (pw λy26_1 y26_2=>.bI 95 (bE (y22_1-1)) λx80=>.brk ((x80:Int),y26_1,y26_2))) (.esc (.ret y22_2))) q0)) (λy27_1=>.ret (.inr y27_1))) q0)))))) (Sum.elim (λy28_1=>.jn 1 [4,5,6,7] [] [] (λ_ (a:Unit)=>[]) (λ_ _=>[]) (.lp [4,5,6,7,8] [] [] (λ_ (a:Unit)=>[]) (λ_ _=>[]) n () (λ_=>.kB 26 false<|.esc (.ret ()))) (λ_=>.ret (([]:List Int),y28_1))) (λy29_2=>.jn 1 [4,5,7] [] [] (λu232 (a:(List Int))=>[(6,.sl 7 (u232 7) 0 a.length)]) (λ_ a=>[.kp 7 (a.map fI)]) (.lp [4,5,7] [] [] (λu233 (a:Int×(List Int))=>[(6,.sl 7 (u233 7) 0 a.2.length),(8,int a.1)]) (λ_ a=>[.kp 7 (a.2.map fI)]) n ((0:Int),y29_2) (pw λy30_1 y30_2=>.bB 26 (decide (y30_1<(y30_2.length:Int))) λx81=>.ifs [26] x81 (.bo (ix y30_2 y30_1) λx82=>.gv 33<|.gv 34<|.bI 35 (bE (0-x82)) λx83=>.gv 36<|.bl (y30_2.set (Int.toNat y30_1) x83:List Int) λx84=>.ge 1007008 0<|.bI 28 (bE (y30_1+1)) λx85=>.brk ((x85:Int),x84)) (.esc (.ret y30_2)))) (λy31_1=>.ret ((y31_1:List Int),0)))))
def DU (n:Nat) (a1:Int) (a2:List Int):Option ((List Int)×Int):=(aAD n a1 a2).run
theorem aAE {n a1 a2 r} (h0:DU n a1 a2=some r):PP Tryz.prog 140 [int a1,aH 1 fI a2] (λy=>y=.bD [aH 1 fI r.1,int r.2]) :=
 bY mixed aA (λr:(List Int)×Int=>.bD [aH 1 fI r.1,int r.2]) h0 Tryz.func140 (λr=>.bD (gK ((jD pN) (r.1)) (bQ (r.2)))) 100000 au
def XE (n:Nat) (a1:aB) (a2:Int) (a3:Int) (a4:Int) (a5:aF):WT Tryz.prog (.b (aB×Int)) :=
 .al 1<|.al 2<|.al 3<|.jn 3 [5,9,10,11] [1,2,3] [7,8] (λu9 (a:Bool×(List Int)×(List Int))=>[(12,.sl 7 (u9 7) 0 a.2.1.length),(13,.sl 8 (u9 8) 0 a.2.2.length),(14,aZ a.1)]) (λ_ a=>[.nw 7 3 1 (a.2.1.map fI),.nw 8 3 1 (a.2.2.map fI)]) (.no 12 7 3 1<|.no 13 8 3 1<|.lp [1,2,3,5,9,10,11] [1,2,3] [7,8] (λu14 (a:Bool×Int×(List Int)×(List Int))=>[(12,.sl 7 (u14 7) 0 a.2.2.1.length),(13,.sl 8 (u14 8) 0 a.2.2.2.length),(14,aZ a.1),(15,int a.2.1)]) (λ_ a=>[.nw 7 3 1 (a.2.2.1.map fI),.nw 8 3 1 (a.2.2.2.map fI)]) n ((false:Bool),0,(([]:List Int):List Int),(([]:List Int):List Int)) (pw λy0_3 q0=>(pw λy0_4 q1=>(pw λy0_5 y0_6=>.ln 26 fA.av a1.dS<|.bB 27 (decide (y0_4<(a1.dS.length:Int))) λx11=>.ifs [27] x11 (.jn 1 [1,2,3,5,9,10,11,15] [1,2,3] [7,8] (λu16 (a:Bool×(List Int)×(List Int))=>[(12,.sl 7 (u16 7) 0 a.2.1.length),(13,.sl 8 (u16 8) 0 a.2.2.length),(14,aZ a.1)]) (λ_ a=>[.nw 7 3 1 (a.2.1.map fI),.nw 8 3 1 (a.2.2.map fI)]) (.ix 33 fA.av a1.dS y0_4 λx12=>.al 4<|.cl 40 (PW a1 x12 a2 a3 a4) aUO aOC λx14=>.ifs [40] x14 (.jn 1 [1,2,3,5,9,10,11,15] [1,2,3] [7,8] (λu17 (a:Bool×(List Int)×(List Int))=>[(12,.sl 7 (u17 7) 0 a.2.1.length),(13,.sl 8 (u17 8) 0 a.2.2.length),(14,aZ a.1)]) (λ_ a=>[.nw 7 3 1 (a.2.1.map fI),.nw 8 3 1 (a.2.2.map fI)]) (.dr [(5,[4]),(6,[4]),(7,[4]),(8,[4]),(14,[4]),(15,[4]),(16,[4]),(17,[4])] [(11,[])] [4] [3,11] [0,1,2,4,5,6,7,8,9,10,12,3,11,13,14,15,16,17,18,19,20,21,22] (.to 43 (aH 1 fI ([y0_4]:List Int))<|.bI 50 (bE (x12.aT-x12.jB)) λx15=>.to 51 (aH 1 fI ([x15]:List Int))<|.bl (y0_5++([y0_4]:List Int):List Int) λx16=>.as (x16.length<=68719476736) inferInstance<|.ge 44 0<|.bl (y0_6++([x15]:List Int):List Int) λx19=>.as (x19.length<=68719476736) inferInstance<|.ge 52 0<|.ifs [14,53] y0_3 (.ret ((true:Bool),x16,x19)) (.bB 59 (decide (x12.aT>x12.jB)) λx22=>.ret ((x22:Bool),x16,x19)))) (pw λy2_3 q0=>(pw λy2_4 y2_5=>.ret ((y2_3:Bool),y2_4,y2_5)) q0)) (.ret ((y0_3:Bool),y0_5,y0_6))) (pw λy1_3 q0=>(pw λy1_4 y1_5=>.bI 29 (bE (y0_4+1)) λx23=>.brk ((y1_3:Bool),x23,y1_4,y1_5)) q0)) (.esc (.ret ((y0_3:Bool),y0_5,y0_6)))) q1) q0)) (pw λy3_3 q0=>(pw λy3_4 y3_5=>.bB 62 (!y3_3) λx24=>.ifs [62] x24 (.ret ((a1:aB),0)) (.kS 8<|.cl 68 (DU n a5.Value y3_5) ZV aAE λx25=>.cl 75 (DU n a5.bO y3_5) ZV aAE λx26=>.jn 0 [5,10,11,12,17,18,19,20] [1,3,7] [] (λ_ (a:Bool)=>[(83,aZ a)]) (λ_ _=>[]) (.bB 79 (decide (x25.2≠0)) λx27=>.ifs [79] x27 (.ret true) (.bB 82 (decide (x26.2≠0)) λx28=>.ret x28)) (λy4_1=>.ifs [83] y4_1 (.bl (if x26.2>x25.2 then x26.2 else x25.2:Int) λx29=>.gv 87<|.ret ((a1:aB),x29)) (.as (a1.dS.length<=68719476736) inferInstance<|.ge 90 9<|.jn 1 [5,10,11] [1,3] [] (λu20 (a:(List fA))=>[(21,.sl 9 (u20 9) 0 a.length)]) (λ_ a=>[.kp 9 (a.map fA.av)]) (.lp [5,10,11,12,17,19] [1,3,7] [] (λu21 (a:Int×(List fA))=>[(21,.sl 9 (u21 9) 0 a.2.length),(22,int a.1)]) (λ_ a=>[.kp 9 (a.2.map fA.av)]) n ((0:Int),(a1.dS:List fA)) (pw λy5_1 y5_2=>.bB 94 (decide (y5_1<(y3_4.length:Int))) λx32=>.ifs [94] x32 (.dr [(3,[7]),(4,[7]),(8,[7]),(9,[7]),(18,[9]),(19,[9]),(21,[9]),(22,[9])] [(20,[]),(23,[])] [7,9] [20,23] [0,1,2,3,4,5,6,7,8,9,10,11,12,13,14,15,16,17,18,19,20,21,22,23] (.bo (ix y3_4 y5_1) λx33=>.gv 100<|.gv 101<|.gv 105<|.gv 106<|.ix 109 fI x25.1 y5_1 λx34=>.ix 113 fI x26.1 y5_1 λx35=>.bo (ix y5_2 x33) λx36=>.gv 115<|.gv 116<|.bl (y5_2.set (Int.toNat x33) ((⟨x36.fU,x36.Item,x36.Loc,x36.aT,x36.jB,x34,x36.bO,x36.oP,x36.qF⟩:fA):fA):List fA) λx37=>.ge 1019020 0<|.gv 117<|.gv 118<|.bl (x37.set (Int.toNat x33) ((⟨x36.fU,x36.Item,x36.Loc,x36.aT,x36.jB,x34,x35,x36.oP,x36.qF⟩:fA):fA):List fA) λx38=>.ge 1019023 0<|.bI 96 (bE (y5_1+1)) λx39=>.brk ((x39:Int),x38))) (.esc (.ret y5_2)))) (λy6_1=>.ret (((⟨a1.bF,a1.bA,a1.bX,y6_1,a1.dH,a1.Done⟩:aB):aB),0)))))) q0)
def KQ (n:Nat) (a1:aB) (a2:Int) (a3:Int) (a4:Int) (a5:aF):Option (aB×Int):=(XE n a1 a2 a3 a4 a5).run
theorem aM9 {n a1 a2 a3 a4 a5 r} (h0:KQ n a1 a2 a3 a4 a5=some r):PP Tryz.prog 98 [.agg (aB.av a1),int a2,int a3,int a4,.agg (aF.av a5)] (λy=>y=.bD [.agg (aB.av r.1),int r.2]) :=
 bY mixed aA (λr:aB×Int=>.bD [.agg (aB.av r.1),int r.2]) h0 Tryz.func98 (λr=>.bD (gK ((λ(a:aB)=>PV.agg (aB.dR a)) (r.1)) (bQ (r.2)))) 100000 au
def ZF (n:Nat) (a1:aB) (a2:Int) (a3:Int) (a4:Int):WT Tryz.prog (.b (aB×Int)) :=
 .al 1<|.al 2<|.cl 22 (rG a1 a2 a3 a4) wZ vW λx7=>.al 3<|.gv 24<|.gv 27<|.bI 29 (bE (x7.bC.a0+x7.bC.a1)) λx9=>.gv 31<|.bI 33 (bE (x9+x7.bC.a2)) λx10=>.bB 34 (decide (x10=0)) λx11=>.ifs [34] x11 (.ret ((a1:aB),0)) (.cl 38 (IY n x7) aLC aE7 λx12=>.al 4<|.al 5<|.dr [(0,[5]),(1,[5]),(2,[5]),(3,[5]),(4,[5]),(5,[5]),(6,[5]),(7,[5]),(8,[5])] [] [5] [] [0,1,2,3,4,5,6,7,8,9,10,11] (.gv 41<|.gv 44<|.gv 47<|.cl 56 (wI a1 a2 a3 a4 x12.1) BU CY λx15=>.bI 65 (bE (0-x12.2.a0.Value)) λx16=>.bI 68 (bE (0-x12.2.a1.Value)) λx17=>.bI 71 (bE (0-x12.2.a2.Value)) λx18=>.to 73 (aH 2 aN.av ([(⟨5,x12.2.a0.Value⟩:aN),(⟨7,x12.2.a1.Value⟩:aN),(⟨8,x12.2.a2.Value⟩:aN),(⟨0,x16⟩:aN),(⟨0,x17⟩:aN),(⟨0,x18⟩:aN)]:List aN))<|.cl 74 (lS n x15 a2 ([(⟨5,x12.2.a0.Value⟩:aN),(⟨7,x12.2.a1.Value⟩:aN),(⟨8,x12.2.a2.Value⟩:aN),(⟨0,x16⟩:aN),(⟨0,x17⟩:aN),(⟨0,x18⟩:aN)]:List aN)) qU qK λx19=>.al 6<|.bB 78 (decide (x19.2≠0)) λx21=>.ifs [78] x21 (.ret ((a1:aB),x19.2)) (.cl 89 (nA n x19.1 a2 a3 (⟨0,0,0,0,0,x12.2.a0.Value,0,0,x12.2.a1.Value,x12.2.a2.Value,0⟩:cB)) wE wY λx22=>.bB 93 (decide (x22.2≠0)) λx23=>.ifs [93] x23 (.ret ((a1:aB),x22.2)) (.gv 100<|.cl 102 (KQ n x22.1 a2 a3 a4 x12.2.a0) aNT aM9 λx24=>.ret ((x24.1:aB),x24.2)))))
def KJ (n:Nat) (a1:aB) (a2:Int) (a3:Int) (a4:Int):Option (aB×Int):=(ZF n a1 a2 a3 a4).run
theorem aMN {n a1 a2 a3 a4 r} (h0:KJ n a1 a2 a3 a4=some r):PP Tryz.prog 58 [.agg (aB.av a1),int a2,int a3,int a4] (λy=>y=.bD [.agg (aB.av r.1),int r.2]) :=
 bY mixed aA (λr:aB×Int=>.bD [.agg (aB.av r.1),int r.2]) h0 Tryz.func58 (λr=>.bD (gK ((λ(a:aB)=>PV.agg (aB.dR a)) (r.1)) (bQ (r.2)))) 100000 au
def aAS (n:Nat) (a1:aS):WT Tryz.prog (.b (aF)) :=
 .al 1<|.al 2<|.cl 8 (sH n a1.aI) AB zA λx4=>.al 3<|.ret ((x4.1:aF))
def wT (n:Nat) (a1:aS):Option (aF):=(aAS n a1).run
theorem BG {n a1 r} (h0:wT n a1=some r):PP Tryz.prog 131 [.agg (aS.av a1)] (λy=>y=.agg (aF.av r)) :=
 bY mixed aA (λr:aF=>.agg (aF.av r)) h0 Tryz.func131 (λr=>(λ(a:aF)=>PV.agg (aF.dR a)) r) 100000 au
def aAV (n:Nat) (a1:aB) (a2:Int) (a3:Int):WT Tryz.prog (.b (aF×Int)) :=
 .al 1<|.al 2<|.jn 2 [6,7] [2] [7,8,9] (λu2 (a:(List Int)×(List Int)×(List Int))=>[(8,.sl 7 (u2 7) 0 a.1.length),(9,.sl 8 (u2 8) 0 a.2.1.length),(10,.sl 9 (u2 9) 0 a.2.2.length)]) (λ_ a=>[.nw 7 3 1 (a.1.map fI),.nw 8 3 1 (a.2.1.map fI),.nw 9 3 1 (a.2.2.map fI)]) (.no 8 7 3 1<|.no 9 8 3 1<|.no 10 9 3 1<|.lp [1,2,3,6,7] [1,2] [7,8,9] (λu3 (a:Int×(List Int)×(List Int)×(List Int))=>[(8,.sl 7 (u3 7) 0 a.2.1.length),(9,.sl 8 (u3 8) 0 a.2.2.1.length),(10,.sl 9 (u3 9) 0 a.2.2.2.length),(11,int a.1)]) (λ_ a=>[.nw 7 3 1 (a.2.1.map fI),.nw 8 3 1 (a.2.2.1.map fI),.nw 9 3 1 (a.2.2.2.map fI)]) n ((0:Int),(([]:List Int):List Int),(([]:List Int):List Int),(([]:List Int):List Int)) (pw λy0_4 q0=>(pw λy0_5 q1=>(pw λy0_6 y0_7=>.bB 20 (decide (y0_4<2)) λx9=>.ifs [20] x9 (.cl 27 (rG a1 a2 a3 y0_4) wZ vW λx10=>.cl 28 (wT n x10) BZ BG λx11=>.al 3<|.dr [(1,[3]),(2,[3]),(6,[3]),(7,[3]),(11,[3]),(12,[3])] [(14,[])] [3] [4,9,14] [0,1,2,3,5,6,7,8,10,11,12,13,4,9,14,15,16,17] (.to 32 (aH 1 fI ([x11.aT]:List Int))<|.to 37 (aH 1 fI ([x11.Value]:List Int))<|.to 42 (aH 1 fI ([x11.bO]:List Int))<|.bl (y0_5++([x11.aT]:List Int):List Int) λx13=>.as (x13.length<=68719476736) inferInstance<|.ge 33 0<|.bl (y0_6++([x11.Value]:List Int):List Int) λx16=>.as (x16.length<=68719476736) inferInstance<|.ge 38 0<|.bl (y0_7++([x11.bO]:List Int):List Int) λx19=>.as (x19.length<=68719476736) inferInstance<|.ge 43 0<|.bI 22 (bE (y0_4+1)) λx22=>.brk ((x22:Int),x13,x16,x19))) (.esc (.ret ((y0_5:List Int),y0_6,y0_7)))) q1) q0)) (pw λy1_4 q0=>(pw λy1_5 y1_6=>.kZ 46 (oQ n y1_4) uH uG (λ_=>rfl) λx23=>.kZ 51 (oQ n y1_5) uH uG (λ_=>rfl) λx24=>.kZ 56 (oQ n y1_6) uH uG (λ_=>rfl) λx25=>.bl (if x25.2>(if x24.2>x23.2 then x24.2 else x23.2) then x25.2 else (if x24.2>x23.2 then x24.2 else x23.2):Int) λx26=>.gv 66<|.ret (((⟨x23.1,x24.1,x25.1⟩:aF):aF),x26)) q0)
def BC (n:Nat) (a1:aB) (a2:Int) (a3:Int):Option (aF×Int):=(aAV n a1 a2 a3).run
theorem aBV {n a1 a2 a3 r} (h0:BC n a1 a2 a3=some r):PP Tryz.prog 82 [.agg (aB.av a1),int a2,int a3] (λy=>y=.bD [.agg (aF.av r.1),int r.2]) :=
 bY mixed aA (λr:aF×Int=>.bD [.agg (aF.av r.1),int r.2]) h0 Tryz.func82 (λr=>.bD (gK ((λ(a:aF)=>PV.agg (aF.dR a)) (r.1)) (bQ (r.2)))) 100000 au
def TX (n:Nat) (a1:aB) (a2:Int) (a3:Int):WT Tryz.prog (.b (aF)) :=
 .al 1<|.al 2<|.cl 13 (BC n a1 a2 a3) UO aBV λx6=>.al 3<|.ret ((x6.1:aF))
def xN (n:Nat) (a1:aB) (a2:Int) (a3:Int):Option (aF):=(TX n a1 a2 a3).run
theorem IV {n a1 a2 a3 r} (h0:xN n a1 a2 a3=some r):PP Tryz.prog 61 [.agg (aB.av a1),int a2,int a3] (λy=>y=.agg (aF.av r)) :=
 bY mixed aA (λr:aF=>.agg (aF.av r)) h0 Tryz.func61 (λr=>(λ(a:aF)=>PV.agg (aF.dR a)) r) 100000 au
def ZH (a1:Int) (a2:Int) (a3:Int):WT Tryz.prog (.b (Int)) :=
 .jn 1 [0,1,2,6] [] [] (λ_ (a:Bool)=>[(18,aZ a)]) (λ_ _=>[]) (.bB 10 (decide (a1<0)) λx4=>.ifs [10] x4 (.ret true) (.bB 13 (decide (a2<0)) λx5=>.ifs [13] x5 (.ret true) (.bB 17 (decide (a3<0)) λx6=>.ret x6))) (λy0_1=>.ifs [18] y0_1 (.ret ((0:Int))) (.cl 22 (DW a2 a3) aCZ WG λx7=>.jn 0 [0,6,8] [] [] (λ_ (a:Bool)=>[(32,aZ a)]) (λ_ _=>[]) (.bB 26 (decide (x7.1>0)) λx8=>.ifs [26] x8 (.ret true) (.bI 30 (wu64 a1) λx9=>.bB 31 (decide (x7.2>=x9)) λx10=>.ret x10)) (λy1_1=>.ifs [32] y1_1 (.ret ((0:Int))) (.bI 35 (bE x7.2) λx11=>.bI 36 (bE (a1-x11)) λx12=>.ret ((x12:Int))))))
def LM (a1:Int) (a2:Int) (a3:Int):Option (Int):=(ZH a1 a2 a3).run
theorem aFA {a1 a2 a3 r} (h0:LM a1 a2 a3=some r):PP Tryz.prog 99 [int a1,int a2,int a3] (λy=>y=int r) :=
 bY mixed aA (λr:Int=>int r) h0 Tryz.func99 (λr=>bQ r) 100000 au
end
end Go.Pv
