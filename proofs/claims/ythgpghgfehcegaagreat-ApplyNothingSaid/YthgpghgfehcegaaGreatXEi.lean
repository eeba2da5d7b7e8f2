import Derived.Test.YthgpghgfehcegaaGreatXEh
set_option linter.unusedVariables false
set_option linter.unusedSimpArgs false
namespace Go.Pv
open Go.Proofs
set_option maxRecDepth 100000
set_option maxHeartbeats 4000000
noncomputable section
def aRT (a2:List Int):Nat->Int->Option ((Unit)⊕((Int)))
  | 0,_=>none
  | n+1,y0_1 =>
    bnd (decide (y0_1<(a2.length:Int))) λx8 =>
    cond x8 ((ix a2 y0_1).bind λx9 =>
    (aSJ x9).bind λx10 =>
    cond x10 (esc (some (y0_1:Int))) (bnd (aI (y0_1+1)) λx11 =>
    aRT a2 n (x11:Int))) (brk ())
def aRI (a2:List Int):Nat->Int->Option ((Unit)⊕((Int)))
  | 0,_=>none
  | n+1,y5_1 =>
    bnd (decide (y5_1<(a2.length:Int))) λx17 =>
    cond x17 ((ix a2 y5_1).bind λx18 =>
    (aS5 x18).bind λx19 =>
    cond x19 (esc (some (y5_1:Int))) (bnd (aI (y5_1+1)) λx20 =>
    aRI a2 n (x20:Int))) (brk ())
def aRL (a1:Int) (a2:List Int) (x24:Int×Int):Nat->Int->Int->(List Int)->(List Int)->Option (Int×(List Int)×(List Int))
  | 0,_,_,_,_=>none
  | n+1,y11_1,y11_2,y11_3,y11_4 =>
    bnd (decide (y11_2<(a2.length:Int))) λx33 =>
    cond x33 ((ix a2 y11_2).bind λx34 =>
    (wT n a1 x34 x24.1).bind λx35 =>
    (ix y11_3 y11_2).bind λx36 =>
    bnd (y11_3.set (Int.toNat y11_2) (x35.1:Int)) λx37 =>
    (ix y11_4 y11_2).bind λx38 =>
    bnd (y11_4.set (Int.toNat y11_2) (x35.2.1:Int)) λx39 =>
    bnd (aI (y11_1-(x35.1:Int))) λx40 =>
    bnd (aI (y11_2+1)) λx41 =>
    aRL a1 a2 x24 n (x40:Int) (x41:Int) (x37:List Int) (x39:List Int)) (some ((y11_1:Int),(y11_3:List Int),(y11_4:List Int)))
def aRH (y12_3:List Int):Nat->Int->(List Int)->Option ((List Int))
  | 0,_,_=>none
  | n+1,y13_1,y13_2 =>
    bnd (decide (y13_1<(y12_3.length:Int))) λx49 =>
    cond x49 ((ix y13_2 y13_1).bind λx50 =>
    bnd (y13_2.set (Int.toNat y13_1) (y13_1:Int)) λx51 =>
    bnd (aI (y13_1+1)) λx52 =>
    aRH y12_3 n (x52:Int) (x51:List Int)) (some (y13_2:List Int))
def aSE (y14_1:List Int):Nat->Option (Unit)
  | 0=>none
  | n+1 =>
    bnd (decide (20<=(y14_1.length:Int))) λx56 =>
    fG (x56=false)<|
    some ()
def aRP (y12_3:List Int):Nat->Int->(List Int)->Option ((List Int))
  | 0,_,_=>none
  | n+1,y18_1,y18_2 =>
    (show Option (Bool) from
    bnd (decide (y18_1>0)) λx63 =>
    cond x63 ((ix y18_2 y18_1).bind λx64 =>
    bnd (aI (y18_1-1)) λx65 =>
    (ix y18_2 x65).bind λx66 =>
    (show Option ((Int)) from
    (ix y12_3 x66).bind λx68 =>
    (aSD x68).bind λx69 =>
    (ix y12_3 x64).bind λx70 =>
    (aSD x70).bind λx71 =>
    (UB x69 x71).bind λx72 =>
    some (x72:Int)).bind <| λy19_1 =>
    bnd (decide (y19_1<0)) λx73 =>
    some (x73:Bool)) (some (false:Bool))).bind <| λy21_1 =>
    cond y21_1 (bnd (aI (y18_1-1)) λx74 =>
    bnd (aI (y18_1-1)) λx75 =>
    (ix y18_2 x75).bind λx76 =>
    (ix y18_2 y18_1).bind λx77 =>
    bnd (y18_2.set (Int.toNat y18_1) (x76:Int)) λx78 =>
    (ix x78 x74).bind λx79 =>
    bnd (x78.set (Int.toNat x74) (x77:Int)) λx80 =>
    bnd (aI (y18_1-1)) λx81 =>
    aRP y12_3 n (x81:Int) (x80:List Int)) (some (y18_2:List Int))
def aRM (y12_3:List Int) (y14_1:List Int):Nat->Int->(List Int)->Option ((List Int))
  | 0,_,_=>none
  | n+1,y17_1,y17_2 =>
    bnd (decide (y17_1<(y14_1.length:Int))) λx59 =>
    cond x59 ((show Option ((List Int)) from
    (show Option ((List Int)) from
    aRP y12_3 n (y17_1:Int) (y17_2:List Int)).bind <| λy22_1 =>
    some (y22_1:List Int)).bind <| λy23_1 =>
    bnd (aI (y17_1+1)) λx82 =>
    aRM y12_3 y14_1 n (x82:Int) (y23_1:List Int)) (some (y17_2:List Int))
def aSH (y14_1:List Int):Nat->Option (Unit)
  | 0=>none
  | n+1 =>
    bnd (decide (20<(y14_1.length:Int))) λx85 =>
    fG (x85=false)<|
    some ()
def aRJ (y33_2:List Int) (x87:Int):Nat->Int->(List Int)->Option ((List Int))
  | 0,_,_=>none
  | n+1,y34_1,y34_2 =>
    bnd (decide (y34_1<(((x87.toNat-0):Nat):Int))) λx90 =>
    cond x90 (fG ((0:Int)<=y34_1/\y34_1<(((x87.toNat-0):Nat):Int))<|
    (ix y33_2 ((((0+0):Nat):Int)+y34_1)).bind λx92 =>
    (ix y34_2 x92).bind λx93 =>
    bnd (aI (x93+1)) λx94 =>
    bnd (y34_2.set (Int.toNat x92) (x94:Int)) λx95 =>
    bnd (aI (y34_1+1)) λx96 =>
    aRJ y33_2 x87 n (x96:Int) (x95:List Int)) (some (y34_2:List Int))
def aRY (n:Nat) (a1:Int) (a2:List Int):Option ((List Int)×Int) :=
(show Option (Bool) from
(aSJ a1).bind λx4 =>
cond x4 (some (true:Bool)) ((show Option ((Bool)) from
(show Option ((Int)) from
(show Option ((Unit)⊕((Int))) from
aRT a2 n (0:Int)).bind <| sel <| λ_ =>
some ((-1):Int)).bind <| λy3_1 =>
bnd (decide (y3_1>=0)) λx13 =>
some (x13:Bool)).bind <| λy4_1 =>
cond y4_1 (some (true:Bool)) ((show Option ((Bool)) from
(show Option ((Int)) from
(show Option ((Unit)⊕((Int))) from
aRI a2 n (0:Int)).bind <| sel <| λ_ =>
some ((-1):Int)).bind <| λy8_1 =>
bnd (decide (y8_1>=0)) λx22 =>
some (x22:Bool)).bind <| λy9_1 =>
bnd (!y9_1) λx23 =>
some (x23:Bool)))).bind <| λy10_1 =>
cond y10_1 (some (([]:List Int),(1:Int))) ((nV n a2).bind λx24 =>
bnd (decide (x24.2≠0)) λx25 =>
cond x25 (some (([]:List Int),(x24.2:Int))) (fG ((0:Int)<=(a2.length:Int)/\((a2.length:Int):Int)<=1048576)<|
bnd (List.replicate (Int.toNat (a2.length:Int)) (0:Int)) λx27 =>
fG ((0:Int)<=(a2.length:Int)/\((a2.length:Int):Int)<=1048576)<|
bnd (List.replicate (Int.toNat (a2.length:Int)) (0:Int)) λx30 =>
(show Option (Int×(List Int)×(List Int)) from
aRL a1 a2 x24 n (a1:Int) (0:Int) (x27:List Int) (x30:List Int)).bind <| p2 λ(y12_1:Int) (q0:(List Int)×(List Int))=>(p2 λ(y12_2:List Int) (y12_3:List Int) =>
(show Option (((List Int))) from
fG ((0:Int)<=(y12_3.length:Int)/\((y12_3.length:Int):Int)<=1048576)<|
bnd (List.replicate (Int.toNat (y12_3.length:Int)) (0:Int)) λx46 =>
(show Option ((List Int)) from
aRH y12_3 n (0:Int) (x46:List Int)).bind <| λy14_1 =>
(show Option (((List Int))) from
(show Option (((List Int))) from
(show Option (Unit) from
aSE y14_1 n).bind <| λ_ =>
(show Option (((List Int))) from
(show Option ((List Int)) from
aRM y12_3 y14_1 n (1:Int) (y14_1:List Int)).bind <| λy24_1 =>
some (y24_1:List Int)).bind <| λy26_1 =>
fG (y26_1.length=y14_1.length)<|
(show Option (Unit) from
aSH y14_1 n).bind <| λ_ =>
some (y26_1:List Int)).bind <| λy30_1 =>
some (y30_1:List Int)).bind <| λy32_1 =>
fG (y32_1.length=y14_1.length)<|
some (y32_1:List Int)).bind <| λy33_2 =>
bnd (if (y12_3.length:Int)<y12_1 then (y12_3.length:Int) else y12_1) λx87 =>
fG ((0:Int)<=x87/\x87<=(y33_2.length:Int))<|
(show Option ((List Int)) from
aRJ y33_2 x87 n (0:Int) (y12_2:List Int)).bind <| λy35_1 =>
some ((y35_1:List Int),(0:Int))) q0))
theorem a1I {n:Nat} {a1:Int} {a2:List Int} {r:(List Int)×Int} (h0:aRY n a1 a2=some r):PP Tryz.prog 86 [int a1,aD 1 fI a2] (λy=>y=.aU [aD 1 fI r.1,int r.2]):=by
  unfold aRY at h0
  refine uD (R0:=λy H=>Cv (jZ H) y (.aU [aD 1 fI r.1,int r.2])) ?_ (λy H hc=>⟨_,rfl,.aU (N6 ((o8 vI) (r.1)) (qX (r.2))),hc⟩)
  refine gN (c:=_) Tryz.func86 rfl rfl ?_;intro Q hret hnorm
  refine tc aN 15 (.mk ?_)
  refine jn h0 [0,1,4,5] [] (λ(a:Bool) (k:Unit)=>[(30,aF a)]) (λa k=>[]) ⟨λj3 h1=>?_,?_⟩
  refine tc aN 3 (.mk ?_)
  obtain ⟨x4,e4,h1⟩:=dJ h1
  refine sC aA0 (aWU _ e4) ?_
  refine tr aN 1 (.mk ?_)
  cases x4
  replace h1:=cf h1
  refine tr aN 2 (.mk ?_)
  obtain ⟨j5,h2,h1⟩:=dJ h1
  refine gV (Out:=λy H'=>(∃ (a:Bool) (k:Unit),a=j5/\y=aF a/\H'=hk [])) rfl rfl rfl (d9 rfl rfl (.cons rfl (.cons rfl .nil)) aFG ?_) ?_
  refine gN (c:=_) Tryz.func154 rfl rfl ?_;intro Q hret hnorm
  refine tc aN 8 (.mk ?_)
  obtain ⟨j6,h3,h2⟩:=dJ h2
  refine gV (Out:=λy H'=>(∃ (a:Int) (k:Unit),a=j6/\y=int a/\H'=hk [])) rfl rfl rfl (d9 rfl rfl (.cons rfl (.cons rfl .nil)) rV ?_) ?_
  refine gN (c:=_) Tryz.func213 rfl rfl ?_;intro Q hret hnorm
  refine tc aN 8 (.mk ?_)
  refine sY (oU rfl Tryz.underlying22 rfl (F9 _)) ?_
  refine tr aN 2 (.mk ?_)
  refine dF h3 [4] [] (λ(a:Unit) (k:Unit)=>[]) (λa k=>[]) ⟨λj7 h4 h3=>?_,?_⟩
  refine tc aN 1 (.mk ?_)
  refine lp (λn (a:Int)=>aRT a2 n a) (0:Int) () h4 [0,1,4,7] [] (λ(a:Int) (k:Unit)=>[(8,int a)]) (λa k=>[]) (λ_=>rfl) ⟨eD,?_⟩
  rintro n y0_1 _ hm h4
  replace h4:aRT a2 (n+1) y0_1=some _:=h4
  rw [aRT] at h4
  refine tc aN 2 (.mk ?_)
  refine nb aN h4 λx8 h4=>?_
  refine tr aN 2 (.mk ?_)
  cases x8
  replace h4:=cf h4
  refine tc aN 2 (.mk ?_)
  exact lfE h4 () eD
  replace h4:=ct h4
  refine tc aN 14 (.mk ?_)
  obtain ⟨x9,e9,h4⟩:=dJ h4
  refine sY (MU rfl Tryz.underlying22 fC rfl rfl e9) ?_
  refine tr aN 1 (.mk ?_)
  obtain ⟨x10,e10,h4⟩:=dJ h4
  refine sC aA0 (aWU _ e10) ?_
  refine tr aN 1 (.mk ?_)
  cases x10
  replace h4:=cf h4
  refine tc aN 4 (.mk ?_)
  refine ni aN h4 λx11 h4=>?_
  refine tr aN 2 (.mk ?_)
  exact bk x11 () h4 eD
  replace h4:=ct h4
  refine tc aN 6 (.mk ?_)
  obtain ⟨c12,hX,hj⟩:=O0 h4;subst hj;replace h3:=hX.trans (aTJ h3)
  obtain rfl:=eG h3
  refine iL (hret _ _ (hk []) (.tmp rfl .nil) (λ_ _ h=>nomatch h) ?_)
  exact ⟨y0_1,(),rfl,rfl,rfl⟩
  rintro _ _ h3
  refine tc aN 4 (.mk ?_)
  obtain rfl:=eG h3
  refine iL (hret _ _ (hk []) (.tmp rfl .nil) (λ_ _ h=>nomatch h) ?_)
  exact ⟨(-1),(),rfl,rfl,rfl⟩
  rintro y _ ⟨y3_1,_,rfl,hc,rfl⟩
  subst hc
  refine nb aN h2 λx13 h2=>?_
  refine tr aN 2 (.mk ?_)
  obtain rfl:=eG h2
  refine iL (hret _ _ (hk []) (.tmp rfl .nil) (λ_ _ h=>nomatch h) ?_)
  exact ⟨x13,(),rfl,rfl,rfl⟩
  rintro y _ ⟨y4_1,_,rfl,hc,rfl⟩
  subst hc
  refine tr aN 2 (.mk ?_)
  cases y4_1
  replace h1:=cf h1
  refine tr aN 2 (.mk ?_)
  obtain ⟨j14,h2,h1⟩:=dJ h1
  refine gV (Out:=λy H'=>(∃ (a:Bool) (k:Unit),a=j14/\y=aF a/\H'=hk [])) rfl rfl rfl (d9 rfl rfl (.cons rfl (.cons rfl .nil)) aFG ?_) ?_
  refine gN (c:=_) Tryz.func154 rfl rfl ?_;intro Q hret hnorm
  refine tc aN 8 (.mk ?_)
  obtain ⟨j15,h3,h2⟩:=dJ h2
  refine gV (Out:=λy H'=>(∃ (a:Int) (k:Unit),a=j15/\y=int a/\H'=hk [])) rfl rfl rfl (d9 rfl rfl (.cons rfl (.cons rfl .nil)) rV ?_) ?_
  refine gN (c:=_) Tryz.func213 rfl rfl ?_;intro Q hret hnorm
  refine tc aN 8 (.mk ?_)
  refine sY (oU rfl Tryz.underlying22 rfl (F9 _)) ?_
  refine tr aN 2 (.mk ?_)
  refine dF h3 [4] [] (λ(a:Unit) (k:Unit)=>[]) (λa k=>[]) ⟨λj16 h4 h3=>?_,?_⟩
  refine tc aN 1 (.mk ?_)
  refine lp (λn (a:Int)=>aRI a2 n a) (0:Int) () h4 [0,1,4,7] [] (λ(a:Int) (k:Unit)=>[(8,int a)]) (λa k=>[]) (λ_=>rfl) ⟨eD,?_⟩
  rintro n y5_1 _ hm h4
  replace h4:aRI a2 (n+1) y5_1=some _:=h4
  rw [aRI] at h4
  refine tc aN 2 (.mk ?_)
  refine nb aN h4 λx17 h4=>?_
  refine tr aN 2 (.mk ?_)
  cases x17
  replace h4:=cf h4
  refine tc aN 2 (.mk ?_)
  exact lfE h4 () eD
  replace h4:=ct h4
  refine tc aN 14 (.mk ?_)
  obtain ⟨x18,e18,h4⟩:=dJ h4
  refine sY (MU rfl Tryz.underlying22 fC rfl rfl e18) ?_
  refine tr aN 1 (.mk ?_)
  obtain ⟨x19,e19,h4⟩:=dJ h4
  refine sC Z7 (aZ8 _ e19) ?_
  refine tr aN 1 (.mk ?_)
  cases x19
  replace h4:=cf h4
  refine tc aN 4 (.mk ?_)
  refine ni aN h4 λx20 h4=>?_
  refine tr aN 2 (.mk ?_)
  exact bk x20 () h4 eD
  replace h4:=ct h4
  refine tc aN 6 (.mk ?_)
  obtain ⟨c21,hX,hj⟩:=O0 h4;subst hj;replace h3:=hX.trans (aTJ h3)
  obtain rfl:=eG h3
  refine iL (hret _ _ (hk []) (.tmp rfl .nil) (λ_ _ h=>nomatch h) ?_)
  exact ⟨y5_1,(),rfl,rfl,rfl⟩
  rintro _ _ h3
  refine tc aN 4 (.mk ?_)
  obtain rfl:=eG h3
  refine iL (hret _ _ (hk []) (.tmp rfl .nil) (λ_ _ h=>nomatch h) ?_)
  exact ⟨(-1),(),rfl,rfl,rfl⟩
  rintro y _ ⟨y8_1,_,rfl,hc,rfl⟩
  subst hc
  refine nb aN h2 λx22 h2=>?_
  refine tr aN 2 (.mk ?_)
  obtain rfl:=eG h2
  refine iL (hret _ _ (hk []) (.tmp rfl .nil) (λ_ _ h=>nomatch h) ?_)
  exact ⟨x22,(),rfl,rfl,rfl⟩
  rintro y _ ⟨y9_1,_,rfl,hc,rfl⟩
  subst hc
  refine nb aN h1 λx23 h1=>?_
  refine tr aN 2 (.mk ?_)
  exact lf h1 () eD
  replace h1:=ct h1
  refine tr aN 6 (.mk ?_)
  exact lf h1 () eD
  replace h1:=ct h1
  refine tr aN 11 (.mk ?_)
  exact lf h1 () eD
  rintro y10_1 _ h0
  cases y10_1
  replace h0:=cf h0
  refine tc aN 5 (.mk ?_)
  obtain ⟨x24,e24,h0⟩:=dJ h0
  refine sC IA (o5 _ e24) ?_
  refine tr aN 10 (.mk ?_)
  refine nb aN h0 λx25 h0=>?_
  refine tr aN 1 (.mk ?_)
  cases x25
  replace h0:=cf h0
  refine tc aN 3 (.mk ?_)
  refine OH [0,1,3,0,8,24,0,7,191,511] (λi k=>false) (λi=>bif Nat.beq i 2 then (some 1) else bif Nat.beq i 5 then (some 2) else none) mixed (by kernel_rfl) ?_;intro C K hK
  refine pV rfl (λH hH=>kV rfl rfl) ?_
  refine pV rfl (λH hH=>oU rfl Tryz.underlying22 rfl (F9 _)) ?_
  obtain ⟨p26,h0⟩:=aQH h0
  obtain ⟨x27,e27,h0⟩:=pM h0
  have lx27:x27.length=(Int.toNat (a2.length:Int)):=by rw [<- e27];exact List.length_replicate
  refine o7 rfl rfl (λH hH=>yP (uL 1 (g:=fI) (z0:=(0:Int)) (.one _) rfl Tryz.underlying22 fT kY rfl rfl rfl p26 (.cons (.sc _) .nil) e27)) ?_;generalize C+2=v28
  refine pV rfl (λH hH=>kV rfl rfl) ?_
  refine pV rfl (λH hH=>oU rfl Tryz.underlying22 rfl (F9 _)) ?_
  obtain ⟨p29,h0⟩:=aQH h0
  obtain ⟨x30,e30,h0⟩:=pM h0
  have lx30:x30.length=(Int.toNat (a2.length:Int)):=by rw [<- e30];exact List.length_replicate
  refine o7 rfl rfl (λH hH=>yP (uL 2 (g:=fI) (z0:=(0:Int)) (.one _) rfl Tryz.underlying22 fT kY rfl rfl rfl p29 (.cons (.sc _) .nil) e30)) ?_;generalize C+5=v31
  refine pV rfl (λH hH=>kV rfl rfl) ?_
  refine pV rfl (λH hH=>sD rfl rfl) ?_
  refine pV rfl (λH hH=>sD rfl rfl) ?_
  refine pV rfl (λH hH=>sD rfl rfl) ?_
  refine KV (hK _ ?_)
  refine tc aN 4 (.mk ?_)
  refine sY (oU rfl Tryz.underlying22 rfl (F9 _)) ?_
  refine tr aN 2 (.mk ?_)
  refine jn h0 [4,5] [] (λ(a:Int×(List Int)×(List Int)) (k:Unit)=>[(10,.sl 1 v28 0 a.2.1.length),(11,.sl 2 v31 0 a.2.2.length),(12,int a.1)]) (λa k=>[(1,⟨3,1,true,true,v28,a.2.1.map fI⟩),(2,⟨3,1,true,true,v31,a.2.2.map fI⟩)]) ⟨λj32 h1=>?_,?_⟩
  refine tc aN 1 (.mk ?_)
  refine lp (λn (a:Int×Int×(List Int)×(List Int))=>aRL a1 a2 x24 n a.1 a.2.1 a.2.2.1 a.2.2.2) ((a1:Int),(0:Int),(x27:List Int),(x30:List Int)) () h1 [0,4,5,8,46,47] [] (λ(a:Int×Int×(List Int)×(List Int)) (k:Unit)=>[(10,.sl 1 v28 0 a.2.2.1.length),(11,.sl 2 v31 0 a.2.2.2.length),(12,int a.1),(48,int a.2.1)]) (λa k=>[(1,⟨3,1,true,true,v28,a.2.2.1.map fI⟩),(2,⟨3,1,true,true,v31,a.2.2.2.map fI⟩)]) (λ_=>rfl) ⟨mQ ⟨⟨_,rfl,(nC (Eq.symm lx27))⟩,⟨_,rfl,(nC (Eq.symm lx30))⟩,⟨_,rfl,(.refl _)⟩,⟨_,rfl,(.refl _)⟩,⟨_,rfl,(.refl _)⟩,⟨_,rfl,(.refl _)⟩,⟨_,rfl,(.refl _)⟩,⟨_,rfl,(.refl _)⟩,⟨_,rfl,(.refl _)⟩,⟨_,rfl,(.refl _)⟩,trivial⟩ ⟨⟨_,rfl,(.refl _)⟩,⟨_,rfl,(.refl _)⟩,trivial⟩,?_⟩
  rintro n ⟨y11_1,y11_2,y11_3,y11_4⟩ _ hm h1
  replace h1:aRL a1 a2 x24 (n+1) y11_1 y11_2 y11_3 y11_4=some _:=h1
  rw [aRL] at h1
  refine tc aN 2 (.mk ?_)
  refine nb aN h1 λx33 h1=>?_
  refine tr aN 2 (.mk ?_)
  cases x33
  replace h1:=cf h1
  refine tc aN 2 (.mk ?_)
  exact lf h1 () eD
  replace h1:=ct h1
  refine tc aN 7 (.mk ?_)
  obtain ⟨x34,e34,h1⟩:=dJ h1
  refine sY (MU rfl Tryz.underlying22 fC rfl rfl e34) ?_
  refine tr aN 13 (.mk ?_)
  obtain ⟨x35,e35,h1⟩:=dJ h1
  refine sC aKR (xV _ e35) ?_
  refine tr aN 4 (.mk ?_)
  obtain ⟨x36,e36,h1⟩:=dJ h1
  refine sY (eB rfl Tryz.underlying22 fC rfl rfl rfl rfl rfl (Eq.symm rfl) (List.length_map _) e36) ?_
  obtain ⟨x37,e37,h1⟩:=pM h1
  have fx37:=fP e36 e37;have lx37:=fH e37 (rfl:y11_3.length=y11_3.length)
  refine O5 rfl rfl (eO (ob':=(⟨3,1,true,true,v28,x37.map fI⟩:bC)) (dZ rfl fC rfl rfl rfl rfl rfl (cZ e36) rfl rfl rfl) (eU (iI e37))) ?_
  obtain ⟨x38,e38,h1⟩:=dJ h1
  refine sY (eB rfl Tryz.underlying22 fC rfl rfl rfl rfl rfl (Eq.symm rfl) (List.length_map _) e38) ?_
  obtain ⟨x39,e39,h1⟩:=pM h1
  have fx39:=fP e38 e39;have lx39:=fH e39 (rfl:y11_4.length=y11_4.length)
  refine O5 rfl rfl (eO (ob':=(⟨3,1,true,true,v31,x39.map fI⟩:bC)) (dZ rfl fC rfl rfl rfl rfl rfl (cZ e38) rfl rfl rfl) (eU (iI e39))) ?_
  refine tr aN 5 (.mk ?_)
  refine sY (eB rfl Tryz.underlying22 fC rfl rfl rfl rfl rfl (Eq.symm lx37) (List.length_map _) fx37) ?_
  refine sY (dV rfl fC rfl (.pt rfl rfl (cZ fx37)) rfl) ?_
  refine ni aN h1 λx40 h1=>?_
  refine tr aN 4 (.mk ?_)
  refine ni aN h1 λx41 h1=>?_
  refine tr aN 2 (.mk ?_)
  exact bk (x40,x41,x37,x39) () h1 (mQ ⟨⟨_,rfl,(nC (Eq.symm lx37))⟩,⟨_,rfl,(nC (Eq.symm lx39))⟩,⟨_,rfl,(.refl _)⟩,⟨_,rfl,(.refl _)⟩,⟨_,rfl,(.refl _)⟩,⟨_,rfl,(.refl _)⟩,⟨_,rfl,(.refl _)⟩,⟨_,rfl,(.refl _)⟩,⟨_,rfl,(.refl _)⟩,⟨_,rfl,(.refl _)⟩,trivial⟩ ⟨⟨_,rfl,(.refl _)⟩,⟨_,rfl,(.refl _)⟩,trivial⟩)
  rintro ⟨y12_1,y12_2,y12_3⟩ _ h0
  replace h0:=uE h0
  replace h0:=uE h0
  refine tc aN 4 (.mk ?_)
  obtain ⟨j42,h1,h0⟩:=dJ h0
  refine gV (Out:=λy H'=>(∃ (a:(List Int)) (k:Nat),a=j42/\Cv H' y (.sl 5 k 0 a.length)/\H'=hk [(1,⟨3,1,true,true,v28,y12_2.map fI⟩),(2,⟨3,1,true,true,v31,y12_3.map fI⟩),(5,⟨3,1,true,true,k,a.map fI⟩)])) rfl rfl rfl (d9 rfl rfl (.cons rfl (.cons rfl .nil)) aB0 ?_) ?_
  refine gN (c:=_) Tryz.func157 rfl rfl ?_;intro Q hret hnorm
  refine tc aN 2 (.mk ?_)
  refine sB 3 λv43=>?_
  refine sB 4 λv44=>?_
  refine tr aN 5 (.mk ?_)
  refine sY (oU rfl Tryz.underlying22 rfl (.sl rfl rfl)) ?_
  obtain ⟨p45,h1⟩:=aQH h1
  obtain ⟨x46,e46,h1⟩:=pM h1
  have lx46:x46.length=(Int.toNat (y12_3.length:Int)):=by rw [<- e46];exact List.length_replicate
  refine gV rfl rfl rfl (uL 5 (g:=fI) (z0:=(0:Int)) .any rfl Tryz.underlying22 fT kY rfl rfl rfl p45 (.cons (.sc _) .nil) e46) ?_;rintro _ _ ⟨v47,-,rfl,rfl⟩
  refine tr aN 6 (.mk ?_)
  refine sY (oU rfl Tryz.underlying22 rfl (.sl rfl rfl)) ?_
  refine tr aN 2 (.mk ?_)
  refine jn h1 [2,3,4] [1,2,3,4] (λ(a:(List Int)) (k:Unit)=>[(5,.sl 5 v47 0 a.length)]) (λa k=>[(5,⟨3,1,true,true,v47,a.map fI⟩)]) ⟨λj48 h2=>?_,?_⟩
  refine tc aN 1 (.mk ?_)
  refine lp (λn (a:Int×(List Int))=>aRH y12_3 n a.1 a.2) ((0:Int),(x46:List Int)) () h2 [2,3,4,11] [1,2,3,4] (λ(a:Int×(List Int)) (k:Unit)=>[(5,.sl 5 v47 0 a.2.length),(12,int a.1)]) (λa k=>[(5,⟨3,1,true,true,v47,a.2.map fI⟩)]) (λ_=>rfl) ⟨mQ ⟨⟨_,rfl,(nC (Eq.symm lx46))⟩,⟨_,rfl,(.refl _)⟩,⟨_,rfl,(.refl _)⟩,⟨_,rfl,(.refl _)⟩,⟨_,rfl,(.refl _)⟩,⟨_,rfl,(.refl _)⟩,trivial⟩ ⟨⟨_,rfl,(.refl _)⟩,⟨_,rfl,(.refl _)⟩,⟨_,rfl,(.refl _)⟩,⟨_,rfl,(.refl _)⟩,⟨_,rfl,(.refl _)⟩,trivial⟩,?_⟩
  rintro n ⟨y13_1,y13_2⟩ _ hm h2
  replace h2:aRH y12_3 (n+1) y13_1 y13_2=some _:=h2
  rw [aRH] at h2
  refine tc aN 2 (.mk ?_)
  refine nb aN h2 λx49 h2=>?_
  refine tr aN 2 (.mk ?_)
  cases x49
  replace h2:=cf h2
  refine tc aN 2 (.mk ?_)
  exact lf h2 () eD
  replace h2:=ct h2
  refine tc aN 13 (.mk ?_)
  obtain ⟨x50,e50,h2⟩:=dJ h2
  refine sY (eB rfl Tryz.underlying22 fC rfl rfl rfl rfl rfl (Eq.symm rfl) (List.length_map _) e50) ?_
  obtain ⟨x51,e51,h2⟩:=pM h2
  have fx51:=fP e50 e51;have lx51:=fH e51 (rfl:y13_2.length=y13_2.length)
  refine O5 rfl rfl (eO (ob':=(⟨3,1,true,true,v47,x51.map fI⟩:bC)) (dZ rfl fC rfl rfl rfl rfl rfl (cZ e50) rfl rfl rfl) (eU (iI e51))) ?_
  refine tr aN 3 (.mk ?_)
  refine ni aN h2 λx52 h2=>?_
  refine tr aN 2 (.mk ?_)
  exact bk (x52,x51) () h2 (mQ ⟨⟨_,rfl,(nC (Eq.symm lx51))⟩,⟨_,rfl,(.refl _)⟩,⟨_,rfl,(.refl _)⟩,⟨_,rfl,(.refl _)⟩,⟨_,rfl,(.refl _)⟩,⟨_,rfl,(.refl _)⟩,trivial⟩ ⟨⟨_,rfl,(.refl _)⟩,⟨_,rfl,(.refl _)⟩,⟨_,rfl,(.refl _)⟩,⟨_,rfl,(.refl _)⟩,⟨_,rfl,(.refl _)⟩,trivial⟩)
  rintro y14_1 _ h1
  refine tc aN 4 (.mk ?_)
  obtain ⟨j53,h2,h1⟩:=dJ h1
  refine gV (Out:=λy H'=>(∃ (a:(List Int)) (k:Unit),a=j53/\y=.aU []/\H'=hk [(1,⟨3,1,true,true,v28,y12_2.map fI⟩),(2,⟨3,1,true,true,v31,y12_3.map fI⟩),(3,⟨22,1,true,true,v43,[[.sl 2 v31 0 y12_3.length]]⟩),(4,⟨187,1,true,true,v44,[[.fn (.func 158) [] []]]⟩),(5,⟨3,1,true,true,v47,a.map fI⟩)])) rfl rfl rfl (d9 rfl rfl (.cons rfl (.cons rfl .nil)) aA3 ?_) ?_
  refine gN (c:=_) Tryz.func216 rfl rfl ?_;intro Q hret hnorm
  refine tc aN 3 (.mk ?_)
  refine sY (oU rfl Tryz.underlying22 rfl (.sl rfl rfl)) ?_
  refine tr aN 1 (.mk ?_)
  obtain ⟨j54,h3,h2⟩:=dJ h2
  refine gV (Out:=λy H'=>(∃ (a:(List Int)) (k:Unit),a=j54/\y=.aU []/\H'=hk [(1,⟨3,1,true,true,v28,y12_2.map fI⟩),(2,⟨3,1,true,true,v31,y12_3.map fI⟩),(3,⟨22,1,true,true,v43,[[.sl 2 v31 0 y12_3.length]]⟩),(4,⟨187,1,true,true,v44,[[.fn (.func 158) [] []]]⟩),(5,⟨3,1,true,true,v47,a.map fI⟩)])) rfl rfl rfl (d9 rfl rfl (.cons rfl (.cons rfl (.cons rfl .nil))) aE5 ?_) ?_
  refine gN (c:=_) Tryz.func241 rfl rfl ?_;intro Q hret hnorm
  refine tc aN 11 (.mk ?_)
  refine jn h3 [0,1,2,6,7] [1,2,3,4,5] (λ(a:Unit) (k:Unit)=>[]) (λa k=>[]) ⟨λj55 h4=>?_,?_⟩
  refine tc aN 1 (.mk ?_)
  refine lp (λn (a:Unit)=>aSE y14_1 n) () () h4 [0,1,2,6,7,8] [1,2,3,4,5] (λ(a:Unit) (k:Unit)=>[]) (λa k=>[]) (λ_=>rfl) ⟨eD,?_⟩
  rintro n _ _ hm h4
  replace h4:aSE y14_1 (n+1)=some _:=h4
  rw [aSE] at h4
  refine tc aN 5 (.mk ?_)
  refine nb aN h4 λx56 h4=>?_
  refine tr aN 1 (.mk ?_)
  replace h4:=aQH h4
  obtain ⟨rfl,h4⟩:=h4
  refine tc aN 2 (.mk ?_)
  exact lf h4 () eD
  rintro _ _ h3
  refine tc aN 6 (.mk ?_)
  obtain ⟨j57,h4,h3⟩:=dJ h3
  refine gV (Out:=λy H'=>(∃ (a:(List Int)) (k:Unit),a=j57/\y=.aU []/\H'=hk [(1,⟨3,1,true,true,v28,y12_2.map fI⟩),(2,⟨3,1,true,true,v31,y12_3.map fI⟩),(3,⟨22,1,true,true,v43,[[.sl 2 v31 0 y12_3.length]]⟩),(4,⟨187,1,true,true,v44,[[.fn (.func 158) [] []]]⟩),(5,⟨3,1,true,true,v47,a.map fI⟩)])) rfl rfl rfl (d9 rfl rfl (.cons rfl (.cons rfl (.cons rfl (.cons rfl .nil)))) aFX ?_) ?_
  refine gN (c:=_) Tryz.func250 rfl rfl ?_;intro Q hret hnorm
  refine tc aN 3 (.mk ?_)
  refine sY (aL0 (r:=1) rfl rfl rfl (by decide)) ?_
  refine tr aN 2 (.mk ?_)
  refine jn h4 [] [1,2,3,4] (λ(a:(List Int)) (k:Unit)=>[]) (λa k=>[(5,⟨3,1,true,true,v47,a.map fI⟩)]) ⟨λj58 h5=>?_,?_⟩
  refine tc aN 1 (.mk ?_)
  refine lp (λn (a:Int×(List Int))=>aRM y12_3 y14_1 n a.1 a.2) ((1:Int),(y14_1:List Int)) () h5 [1,2,3] [1,2,3,4] (λ(a:Int×(List Int)) (k:Unit)=>[(0,.sl 5 v47 0 a.2.length),(8,int a.1)]) (λa k=>[(5,⟨3,1,true,true,v47,a.2.map fI⟩)]) (λ_=>rfl) ⟨eD,?_⟩
  rintro n ⟨y17_1,y17_2⟩ _ hm h5
  replace h5:aRM y12_3 y14_1 (n+1) y17_1 y17_2=some _:=h5
  rw [aRM] at h5
  refine tc aN 5 (.mk ?_)
  refine nb aN h5 λx59 h5=>?_
  refine tr aN 1 (.mk ?_)
  cases x59
  replace h5:=cf h5
  refine tc aN 2 (.mk ?_)
  exact lf h5 () eD
  replace h5:=ct h5
  refine tc aN 3 (.mk ?_)
  refine jn h5 [1,2,3,8] [1,2,3,4] (λ(a:(List Int)) (k:Unit)=>[(0,.sl 5 v47 0 a.length)]) (λa k=>[(5,⟨3,1,true,true,v47,a.map fI⟩)]) ⟨λj60 h6=>?_,?_⟩
  refine tc aN 6 (.mk ?_)
  refine jn h6 [1,2,3,8] [1,2,3,4] (λ(a:(List Int)) (k:Unit)=>[(0,.sl 5 v47 0 a.length)]) (λa k=>[(5,⟨3,1,true,true,v47,a.map fI⟩)]) ⟨λj61 h7=>?_,?_⟩
  refine tc aN 1 (.mk ?_)
  refine lp (λn (a:Int×(List Int))=>aRP y12_3 n a.1 a.2) ((y17_1:Int),(y17_2:List Int)) () h7 [1,2,3,8] [1,2,3,4] (λ(a:Int×(List Int)) (k:Unit)=>[(0,.sl 5 v47 0 a.2.length),(9,int a.1)]) (λa k=>[(5,⟨3,1,true,true,v47,a.2.map fI⟩)]) (λ_=>rfl) ⟨eD,?_⟩
  rintro n ⟨y18_1,y18_2⟩ _ hm h7
  replace h7:aRP y12_3 (n+1) y18_1 y18_2=some _:=h7
  rw [aRP] at h7
  refine tc aN 2 (.mk ?_)
  refine jn h7 [0,1,2,3,8,9] [1,2,3,4,5] (λ(a:Bool) (k:Unit)=>[(34,aF a)]) (λa k=>[]) ⟨λj62 h8=>?_,?_⟩
  refine K9 [0,0,3,7,15,15,15,111,239,15,15,1039,3599,7695,16383,32767,65535] (rl [(7,[5]),(8,[5]),(12,[5]),(13,[5])] []) (rl [(14,[])] [5]) (rl [(14,false)] true) [0,1,2,3,4,5,6,7,8,9,10,11,12,13,14,15,16] mixed (by kernel_rfl) ?_;intro K hK
  iterate 2 refine eM ?_
  obtain ⟨x63,e63,h8⟩:=pM h8
  refine eP (λH hH=>bX (y:=aF x63) (X0 rfl rfl rfl) (congrArg aF e63)) ?_
  refine eM ?_
  cases x63
  replace h8:=cf h8
  refine aQT rfl rfl rfl ?_
  refine aQT rfl rfl rfl ?_
  refine aQT rfl rfl rfl ?_
  refine aQT rfl rfl rfl ?_
  refine aQT rfl rfl rfl ?_
  refine aQT rfl rfl rfl ?_
  refine aQT rfl rfl rfl ?_
  refine aQT rfl rfl rfl ?_
  refine aQT rfl rfl rfl ?_
  refine aQT rfl rfl rfl ?_
  refine aQT rfl rfl rfl ?_
  refine aQT rfl rfl rfl ?_
  refine eP (λH hH=>U7 rfl rfl (λ_=>rfl) (λ_=>rfl) rfl) ?_
  refine N8 (hK _ ?_)
  exact lf h8 () eD
  replace h8:=ct h8
  iterate 3 refine eM ?_
  obtain ⟨x64,e64,h8⟩:=dJ h8
  refine BE rfl rfl rfl rfl (λH hH=>eB rfl Tryz.underlying22 fC rfl rfl ((hH _ (by decide)).trans rfl) rfl rfl (Eq.symm rfl) (List.length_map _) e64) ?_
  refine eL fC (hr:=cZ e64) ?_
  iterate 2 refine eM ?_
  obtain ⟨x65,e65,h8⟩:=pM h8
  refine eP (λH hH=>aJA rfl rfl rfl e65) ?_
  obtain ⟨x66,e66,h8⟩:=dJ h8
  refine BE rfl rfl rfl rfl (λH hH=>eB rfl Tryz.underlying22 fC rfl rfl ((hH _ (by decide)).trans rfl) rfl rfl (Eq.symm rfl) (List.length_map _) e66) ?_
  refine eL fC (hr:=cZ e66) ?_
  obtain ⟨j67,h9,h8⟩:=dJ h8
  refine aYN (Out:=λy H'=>(∃ (a:Int) (k:Unit),a=j67/\y=int a/\H'=hk [(1,⟨3,1,true,true,v28,y12_2.map fI⟩),(2,⟨3,1,true,true,v31,y12_3.map fI⟩),(3,⟨22,1,true,true,v43,[[.sl 2 v31 0 y12_3.length]]⟩),(4,⟨187,1,true,true,v44,[[.fn (.func 158) [] []]]⟩),(5,⟨3,1,true,true,v47,y18_2.map fI⟩)])) rfl rfl rfl rfl (d9 rfl rfl (.cons rfl (.cons rfl .nil)) aCS ?_) (by rintro y _ ⟨y19_1,_,rfl,hc,rfl⟩ <;> exact trivial) ?_
  refine gN (c:=_) Tryz.func217 rfl rfl ?_;intro Q hret hnorm
  refine tc aN 5 (.mk ?_)
  refine K9 [0,0,0,6,14,31,0,0,0,384,896,2047,4095,8191] (rl [(0,[4]),(1,[3]),(3,[2]),(4,[2]),(6,[4]),(7,[3]),(9,[2]),(10,[2])] []) (λi=>[2,3,4]) (λi=>true) [0,1,2,3,4,5,6,7,8,9,10,11,12,13] mixed (by kernel_rfl) ?_;intro K hK
  refine eL aUP ?_
  refine eL kC ?_
  refine eM ?_
  obtain ⟨x68,e68,h9⟩:=dJ h9
  refine BE rfl rfl rfl rfl (λH hH=>eB rfl Tryz.underlying22 fC rfl rfl ((hH _ (by decide)).trans rfl) rfl rfl (Eq.symm rfl) (List.length_map _) e68) ?_
  refine eL fC (hr:=cZ e68) ?_
  obtain ⟨x69,e69,h9⟩:=dJ h9
  refine eP (λH hH=>xQ rfl rfl (.cons rfl .nil) aDC (bK.refl _) (aUX _ e69)) ?_
  refine eL aUP ?_
  refine eL kC ?_
  refine eM ?_
  obtain ⟨x70,e70,h9⟩:=dJ h9
  refine BE rfl rfl rfl rfl (λH hH=>eB rfl Tryz.underlying22 fC rfl rfl ((hH _ (by decide)).trans rfl) rfl rfl (Eq.symm rfl) (List.length_map _) e70) ?_
  refine eL fC (hr:=cZ e70) ?_
  obtain ⟨x71,e71,h9⟩:=dJ h9
  refine eP (λH hH=>xQ rfl rfl (.cons rfl .nil) aDC (bK.refl _) (aUX _ e71)) ?_
  obtain ⟨x72,e72,h9⟩:=dJ h9
  refine eP (λH hH=>xQ rfl rfl (.cons rfl (.cons rfl .nil)) aLM (bK.refl _) (aO0 _ e72)) ?_
  refine eA ?_
  refine N8 (hK _ ?_)
  obtain rfl:=eG h9
  refine iL (hret _ _ (hk [(1,⟨3,1,true,true,v28,y12_2.map fI⟩),(2,⟨3,1,true,true,v31,y12_3.map fI⟩),(3,⟨22,1,true,true,v43,[[.sl 2 v31 0 y12_3.length]]⟩),(4,⟨187,1,true,true,v44,[[.fn (.func 158) [] []]]⟩),(5,⟨3,1,true,true,v47,y18_2.map fI⟩)]) (.tmp rfl .nil) (HK.le ⟨rfl,rfl,rfl,rfl,rfl,trivial⟩) ?_)
  exact ⟨x72,(),rfl,rfl,rfl⟩
  rintro y _ ⟨y19_1,_,rfl,hc,rfl⟩
  subst hc
  obtain ⟨x73,e73,h8⟩:=pM h8
  refine eP (λH hH=>bX (y:=aF x73) (qT rfl rfl rfl) (congrArg aF e73)) ?_
  refine eP (λH hH=>U7 rfl rfl (λ_=>rfl) (λ_=>rfl) rfl) ?_
  refine N8 (hK _ ?_)
  exact lf h8 () eD
  rintro y21_1 _ h7
  cases y21_1
  replace h7:=cf h7
  refine tc aN 2 (.mk ?_)
  exact lf h7 () eD
  replace h7:=ct h7
  refine tc aN 4 (.mk ?_)
  refine K9 [0,0,0,0,8,0,0,64,224,480,0,0,3072,7168,16355,32739,65535,131071] (rl [(8,[5]),(9,[5]),(12,[5]),(13,[5]),(14,[5]),(16,[5])] []) (rl [(15,[]),(17,[])] [5]) (rl [(15,false),(17,false)] true) [0,1,2,3,4,5,6,7,8,9,10,11,12,13,14,15,16,17] mixed (by kernel_rfl) ?_;intro K hK
  iterate 4 refine eM ?_
  obtain ⟨x74,e74,h7⟩:=pM h7
  refine eP (λH hH=>aJA rfl rfl rfl e74) ?_
  iterate 2 refine eM ?_
  obtain ⟨x75,e75,h7⟩:=pM h7
  refine eP (λH hH=>aJA rfl rfl rfl e75) ?_
  obtain ⟨x76,e76,h7⟩:=dJ h7
  refine BE rfl rfl rfl rfl (λH hH=>eB rfl Tryz.underlying22 fC rfl rfl ((hH _ (by decide)).trans rfl) rfl rfl (Eq.symm rfl) (List.length_map _) e76) ?_
  refine eL fC (hr:=cZ e76) ?_
  iterate 2 refine eM ?_
  obtain ⟨x77,e77,h7⟩:=dJ h7
  refine BE rfl rfl rfl rfl (λH hH=>eB rfl Tryz.underlying22 fC rfl rfl ((hH _ (by decide)).trans rfl) rfl rfl (Eq.symm rfl) (List.length_map _) e77) ?_
  refine eL fC (hr:=cZ e77) ?_
  refine BE rfl rfl rfl rfl (λH hH=>eB rfl Tryz.underlying22 fC rfl rfl ((hH _ (by decide)).trans rfl) rfl rfl (Eq.symm rfl) (List.length_map _) e77) ?_
  obtain ⟨x78,e78,h7⟩:=pM h7
  have fx78:=fP e77 e78;have lx78:=fH e78 (rfl:y18_2.length=y18_2.length)
  refine aVV rfl rfl rfl rfl (bQ.dM (eO (ob':=(⟨3,1,true,true,v47,x78.map fI⟩:bC)) (dZ rfl fC rfl rfl rfl rfl rfl (cZ e77) rfl rfl rfl) (eU (iI e78))) (λ_ h=>h) (λ_ _=>trivial)) (by rintro _ _ ⟨rfl,rfl⟩;exact trivial) ?_;rintro _ _ ⟨rfl,rfl⟩
  obtain ⟨x79,e79,h7⟩:=dJ h7
  refine BE rfl rfl rfl rfl (λH hH=>eB rfl Tryz.underlying22 fC rfl rfl ((hH _ (by decide)).trans rfl) rfl rfl (Eq.symm lx78) (List.length_map _) e79) ?_
  obtain ⟨x80,e80,h7⟩:=pM h7
  have fx80:=fP e79 e80;have lx80:=fH e80 lx78
  refine aVV rfl rfl rfl rfl (bQ.dM (eO (ob':=(⟨3,1,true,true,v47,x80.map fI⟩:bC)) (dZ rfl fC rfl rfl rfl rfl rfl (cZ e79) rfl rfl rfl) (eU (iI e80))) (λ_ h=>h) (λ_ _=>trivial)) (by rintro _ _ ⟨rfl,rfl⟩;exact trivial) ?_;rintro _ _ ⟨rfl,rfl⟩
  refine N8 (hK _ ?_)
  refine tc aN 3 (.mk ?_)
  refine ni aN h7 λx81 h7=>?_
  refine tr aN 2 (.mk ?_)
  exact bk (x81,x80) () h7 (mQ ⟨⟨_,rfl,(nC (Eq.symm lx80))⟩,⟨_,rfl,(.refl _)⟩,⟨_,rfl,(.refl _)⟩,⟨_,rfl,(.refl _)⟩,⟨_,rfl,(.refl _)⟩,⟨_,rfl,(.refl _)⟩,trivial⟩ ⟨⟨_,rfl,(.refl _)⟩,⟨_,rfl,(.refl _)⟩,⟨_,rfl,(.refl _)⟩,⟨_,rfl,(.refl _)⟩,⟨_,rfl,(.refl _)⟩,trivial⟩)
  rintro y22_1 _ h6
  refine tc aN 1 (.mk ?_)
  exact lf h6 () eD
  rintro y23_1 _ h5
  refine tc aN 2 (.mk ?_)
  refine ni aN h5 λx82 h5=>?_
  refine tr aN 2 (.mk ?_)
  exact bk (x82,y23_1) () h5 eD
  rintro y24_1 _ h4
  obtain rfl:=eG h4
  refine N5 (hnorm _ _ (hk [(1,⟨3,1,true,true,v28,y12_2.map fI⟩),(2,⟨3,1,true,true,v31,y12_3.map fI⟩),(3,⟨22,1,true,true,v43,[[.sl 2 v31 0 y12_3.length]]⟩),(4,⟨187,1,true,true,v44,[[.fn (.func 158) [] []]]⟩),(5,⟨3,1,true,true,v47,y24_1.map fI⟩)]) .nil (HK.le ⟨rfl,rfl,rfl,rfl,rfl,trivial⟩) ?_)
  exact ⟨y24_1,(),rfl,rfl,rfl⟩
  rintro y _ ⟨y26_1,_,rfl,hc,rfl⟩
  subst hc
  refine tr aN 1 (.mk ?_)
  obtain ⟨p83,h3⟩:=aQH h3
  refine jn h3 [] [1,2,3,4,5] (λ(a:Unit) (k:Unit)=>[]) (λa k=>[]) ⟨λj84 h4=>?_,?_⟩
  refine tc aN 1 (.mk ?_)
  refine lp (λn (a:Unit)=>aSH y14_1 n) () () h4 [0,1,2,6] [1,2,3,4,5] (λ(a:Unit) (k:Unit)=>[]) (λa k=>[]) (λ_=>rfl) ⟨eD,?_⟩
  rintro n _ _ hm h4
  replace h4:aSH y14_1 (n+1)=some _:=h4
  rw [aSH] at h4
  refine tc aN 5 (.mk ?_)
  refine nb aN h4 λx85 h4=>?_
  refine tr aN 1 (.mk ?_)
  replace h4:=aQH h4
  obtain ⟨rfl,h4⟩:=h4
  refine tc aN 2 (.mk ?_)
  exact lf h4 () eD
  rintro _ _ h3
  obtain rfl:=eG h3
  refine N5 (hnorm _ _ (hk [(1,⟨3,1,true,true,v28,y12_2.map fI⟩),(2,⟨3,1,true,true,v31,y12_3.map fI⟩),(3,⟨22,1,true,true,v43,[[.sl 2 v31 0 y12_3.length]]⟩),(4,⟨187,1,true,true,v44,[[.fn (.func 158) [] []]]⟩),(5,⟨3,1,true,true,v47,y26_1.map fI⟩)]) .nil (HK.le ⟨rfl,rfl,rfl,rfl,rfl,trivial⟩) ?_)
  exact ⟨y26_1,(),rfl,rfl,rfl⟩
  rintro y _ ⟨y30_1,_,rfl,hc,rfl⟩
  subst hc
  refine tr aN 1 (.mk ?_)
  obtain rfl:=eG h2
  refine a3B (hnorm _ _ (hk [(1,⟨3,1,true,true,v28,y12_2.map fI⟩),(2,⟨3,1,true,true,v31,y12_3.map fI⟩),(3,⟨22,1,true,true,v43,[[.sl 2 v31 0 y12_3.length]]⟩),(4,⟨187,1,true,true,v44,[[.fn (.func 158) [] []]]⟩),(5,⟨3,1,true,true,v47,y30_1.map fI⟩)]) .nil (HK.le ⟨rfl,rfl,rfl,rfl,rfl,trivial⟩) ?_)
  exact ⟨y30_1,(),rfl,rfl,rfl⟩
  rintro y _ ⟨y32_1,_,rfl,hc,rfl⟩
  subst hc
  refine tr aN 3 (.mk ?_)
  obtain ⟨p86,h1⟩:=aQH h1
  refine sY (kV rfl rfl) ?_
  refine tr aN 2 (.mk ?_)
  obtain rfl:=eG h1
  refine iL (hret _ _ (hk [(1,⟨3,1,true,true,v28,y12_2.map fI⟩),(2,⟨3,1,true,true,v31,y12_3.map fI⟩),(5,⟨3,1,true,true,v47,y32_1.map fI⟩)]) (.tmp rfl .nil) (HK.le ⟨rfl,rfl,rfl,trivial⟩) ?_)
  exact ⟨y32_1,v47,rfl,(nC (Eq.symm p86)),rfl⟩
  rintro y _ ⟨y33_2,w33_1,rfl,hc,rfl⟩
  refine a3M 75 (.sl 5 w33_1 0 y33_2.length) rfl hc ?_
  refine tr aN 2 (.mk ?_)
  refine sY (oU rfl Tryz.underlying22 rfl (.sl rfl rfl)) ?_
  obtain ⟨x87,e87,h0⟩:=pM h0
  refine sY (aQR rfl rfl rfl e87) ?_
  obtain ⟨p88,h0⟩:=aQH h0
  refine sY (I5 (len:=y33_2.length) (i:=0) (j:=x87.toNat) rfl Tryz.underlying22 fC rfl rfl rfl rfl .no (.yes rfl (by first | omega | (dsimp only;omega) | (dsimp only at *;omega))) (Nat.zero_le _) (by first | omega | (dsimp only;omega) | (dsimp only at *;omega)) (.inr rfl)) ?_
  refine sY (oU rfl Tryz.underlying22 rfl (.sl rfl rfl)) ?_
  refine tr aN 2 (.mk ?_)
  refine jn h0 [4,5] [] (λ(a:(List Int)) (k:Unit)=>[(10,.sl 1 v28 0 a.length)]) (λa k=>[(1,⟨3,1,true,true,v28,a.map fI⟩)]) ⟨λj89 h1=>?_,?_⟩
  refine tc aN 1 (.mk ?_)
  refine lp (λn (a:Int×(List Int))=>aRJ y33_2 x87 n a.1 a.2) ((0:Int),(y12_2:List Int)) () h1 [4,5,80,81] [5] (λ(a:Int×(List Int)) (k:Unit)=>[(10,.sl 1 v28 0 a.2.length),(82,int a.1)]) (λa k=>[(1,⟨3,1,true,true,v28,a.2.map fI⟩)]) (λ_=>rfl) ⟨eD,?_⟩
  rintro n ⟨y34_1,y34_2⟩ _ hm h1
  replace h1:aRJ y33_2 x87 (n+1) y34_1 y34_2=some _:=h1
  rw [aRJ] at h1
  refine tc aN 2 (.mk ?_)
  refine nb aN h1 λx90 h1=>?_
  refine tr aN 2 (.mk ?_)
  cases x90
  replace h1:=cf h1
  refine tc aN 2 (.mk ?_)
  exact lf h1 () eD
  replace h1:=ct h1
  refine tc aN 6 (.mk ?_)
  obtain ⟨p91,h1⟩:=aQH h1
  obtain ⟨x92,e92,h1⟩:=dJ h1
  refine sY (jF rfl Tryz.underlying22 fC rfl rfl rfl rfl rfl p91 (List.length_map _) e92) ?_
  refine sY (dV rfl fC rfl (.pt rfl rfl (cZ e92)) rfl) ?_
  refine tr aN 5 (.mk ?_)
  obtain ⟨x93,e93,h1⟩:=dJ h1
  refine sY (eB rfl Tryz.underlying22 fC rfl rfl rfl rfl rfl (Eq.symm rfl) (List.length_map _) e93) ?_
  refine sY (dV rfl fC rfl (.pt rfl rfl (cZ e93)) rfl) ?_
  refine ni aN h1 λx94 h1=>?_
  refine sY (eB rfl Tryz.underlying22 fC rfl rfl rfl rfl rfl (Eq.symm rfl) (List.length_map _) e93) ?_
  obtain ⟨x95,e95,h1⟩:=pM h1
  have fx95:=fP e93 e95;have lx95:=fH e95 (rfl:y34_2.length=y34_2.length)
  refine O5 rfl rfl (eO (ob':=(⟨3,1,true,true,v28,x95.map fI⟩:bC)) (dZ rfl fC rfl rfl rfl rfl rfl (cZ e93) rfl rfl rfl) (eU (iI e95))) ?_
  refine tr aN 3 (.mk ?_)
  refine ni aN h1 λx96 h1=>?_
  refine tr aN 2 (.mk ?_)
  exact bk (x96,x95) () h1 (mQ ⟨⟨_,rfl,(nC (Eq.symm lx95))⟩,⟨_,rfl,(.refl _)⟩,⟨_,rfl,(.refl _)⟩,⟨_,rfl,(.refl _)⟩,⟨_,rfl,(.refl _)⟩,⟨_,rfl,(.refl _)⟩,trivial⟩ ⟨⟨_,rfl,(.refl _)⟩,⟨_,rfl,(.refl _)⟩,trivial⟩)
  rintro y35_1 _ h0
  refine tc aN 6 (.mk ?_)
  obtain rfl:=eG h0
  refine wR hret (rT (rT .nil)) ?_
  exact bK.aU (.cons (dH rfl rfl rfl rfl rfl (Eq.symm rfl)) (.cons (.refl _) .nil))
  replace h0:=ct h0
  refine tc aN 7 (.mk ?_)
  obtain rfl:=eG h0
  refine wR hret (rT (rT .nil)) ?_
  exact bK.aU (.cons (.nil _) (.cons (.refl _) .nil))
  replace h0:=ct h0
  refine tc aN 6 (.mk ?_)
  obtain rfl:=eG h0
  refine wR hret (rT (rT .nil)) ?_
  exact bK.aU (.cons (.nil _) (.cons (.refl _) .nil))
def aXD (a1:Int) (a2:Int):WB (aH) :=
 .al 1<|.ret (((⟨a1,a2⟩:aH):aH))
def aR9 (a1:Int) (a2:Int):Option (aH):=(aXD a1 a2).run
theorem aTS {a1 a2}:PZ (aR9 a1 a2) 89 [int a1,int a2] (λr=>.agg (aH.av r)):=wq Tryz.func89
end
end Go.Pv
