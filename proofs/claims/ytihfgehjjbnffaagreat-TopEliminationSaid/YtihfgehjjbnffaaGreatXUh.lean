import Derived.Test.YtihfgehjjbnffaaGreatXUg
set_option linter.unusedVariables false
set_option linter.unusedSimpArgs false
namespace Go.Pv
open Go.Proofs
set_option maxRecDepth 100000
set_option maxHeartbeats 4000000
noncomputable section
def GV (a2:List Int):Nat->Int->Option ((Unit)⊕((Int)))
  | 0,_=>none
  | n+1,y0_1 =>
    bnd (decide (y0_1<(a2.length:Int))) λx8 =>
    cond x8 ((ix a2 y0_1).bind λx9 =>
    (RH x9).bind λx10 =>
    cond x10 (esc (some (y0_1:Int))) (bnd (bA (y0_1+1)) λx11 =>
    GV a2 n (x11:Int))) (brk ())
def HZ (a2:List Int):Nat->Int->Option ((Unit)⊕((Int)))
  | 0,_=>none
  | n+1,y5_1 =>
    bnd (decide (y5_1<(a2.length:Int))) λx17 =>
    cond x17 ((ix a2 y5_1).bind λx18 =>
    (aAM x18).bind λx19 =>
    cond x19 (esc (some (y5_1:Int))) (bnd (bA (y5_1+1)) λx20 =>
    HZ a2 n (x20:Int))) (brk ())
def ER (a1:Int) (a2:List Int) (x24:Int×Int):Nat->Int->Int->(List Int)->(List Int)->Option (Int×(List Int)×(List Int))
  | 0,_,_,_,_=>none
  | n+1,y11_1,y11_2,y11_3,y11_4 =>
    bnd (decide (y11_2<(a2.length:Int))) λx33 =>
    cond x33 ((ix a2 y11_2).bind λx34 =>
    (vJ n a1 x34 x24.1).bind λx35 =>
    (ix y11_3 y11_2).bind λx36 =>
    bnd (y11_3.set (Int.toNat y11_2) (x35.1:Int)) λx37 =>
    (ix y11_4 y11_2).bind λx38 =>
    bnd (y11_4.set (Int.toNat y11_2) (x35.2.1:Int)) λx39 =>
    bnd (bA (y11_1-(x35.1:Int))) λx40 =>
    bnd (bA (y11_2+1)) λx41 =>
    ER a1 a2 x24 n (x40:Int) (x41:Int) (x37:List Int) (x39:List Int)) (some ((y11_1:Int),(y11_3:List Int),(y11_4:List Int)))
def FD (y12_3:List Int):Nat->Int->(List Int)->Option ((List Int))
  | 0,_,_=>none
  | n+1,y13_1,y13_2 =>
    bnd (decide (y13_1<(y12_3.length:Int))) λx49 =>
    cond x49 ((ix y13_2 y13_1).bind λx50 =>
    bnd (y13_2.set (Int.toNat y13_1) (y13_1:Int)) λx51 =>
    bnd (bA (y13_1+1)) λx52 =>
    FD y12_3 n (x52:Int) (x51:List Int)) (some (y13_2:List Int))
def MG (y14_1:List Int):Nat->Option (Unit)
  | 0=>none
  | n+1 =>
    bnd (decide (20<=(y14_1.length:Int))) λx56 =>
    gZ (x56=false)<|
    some ()
def F7 (y12_3:List Int):Nat->Int->(List Int)->Option ((List Int))
  | 0,_,_=>none
  | n+1,y18_1,y18_2 =>
    (show Option (Bool) from
    bnd (decide (y18_1>0)) λx63 =>
    cond x63 ((ix y18_2 y18_1).bind λx64 =>
    bnd (bA (y18_1-1)) λx65 =>
    (ix y18_2 x65).bind λx66 =>
    (show Option ((Int)) from
    (ix y12_3 x66).bind λx68 =>
    (TR x68).bind λx69 =>
    (ix y12_3 x64).bind λx70 =>
    (TR x70).bind λx71 =>
    (EY x69 x71).bind λx72 =>
    some (x72:Int)).bind <| λy19_1 =>
    bnd (decide (y19_1<0)) λx73 =>
    some (x73:Bool)) (some (false:Bool))).bind <| λy21_1 =>
    cond y21_1 (bnd (bA (y18_1-1)) λx74 =>
    bnd (bA (y18_1-1)) λx75 =>
    (ix y18_2 x75).bind λx76 =>
    (ix y18_2 y18_1).bind λx77 =>
    bnd (y18_2.set (Int.toNat y18_1) (x76:Int)) λx78 =>
    (ix x78 x74).bind λx79 =>
    bnd (x78.set (Int.toNat x74) (x77:Int)) λx80 =>
    bnd (bA (y18_1-1)) λx81 =>
    F7 y12_3 n (x81:Int) (x80:List Int)) (some (y18_2:List Int))
def F4 (y12_3:List Int) (y14_1:List Int):Nat->Int->(List Int)->Option ((List Int))
  | 0,_,_=>none
  | n+1,y17_1,y17_2 =>
    bnd (decide (y17_1<(y14_1.length:Int))) λx59 =>
    cond x59 ((show Option ((List Int)) from
    (show Option ((List Int)) from
    F7 y12_3 n (y17_1:Int) (y17_2:List Int)).bind <| λy22_1 =>
    some (y22_1:List Int)).bind <| λy23_1 =>
    bnd (bA (y17_1+1)) λx82 =>
    F4 y12_3 y14_1 n (x82:Int) (y23_1:List Int)) (some (y17_2:List Int))
def IG (y14_1:List Int):Nat->Option (Unit)
  | 0=>none
  | n+1 =>
    bnd (decide (20<(y14_1.length:Int))) λx85 =>
    gZ (x85=false)<|
    some ()
def GX (y33_2:List Int) (x87:Int):Nat->Int->(List Int)->Option ((List Int))
  | 0,_,_=>none
  | n+1,y34_1,y34_2 =>
    bnd (decide (y34_1<(((x87.toNat-0):Nat):Int))) λx90 =>
    cond x90 (gZ ((0:Int)<=y34_1/\y34_1<(((x87.toNat-0):Nat):Int))<|
    (ix y33_2 ((((0+0):Nat):Int)+y34_1)).bind λx92 =>
    (ix y34_2 x92).bind λx93 =>
    bnd (bA (x93+1)) λx94 =>
    bnd (y34_2.set (Int.toNat x92) (x94:Int)) λx95 =>
    bnd (bA (y34_1+1)) λx96 =>
    GX y33_2 x87 n (x96:Int) (x95:List Int)) (some (y34_2:List Int))
def DZ (n:Nat) (a1:Int) (a2:List Int):Option ((List Int)×Int) :=
(show Option (Bool) from
(RH a1).bind λx4 =>
cond x4 (some (true:Bool)) ((show Option ((Bool)) from
(show Option ((Int)) from
(show Option ((Unit)⊕((Int))) from
GV a2 n (0:Int)).bind <| sel <| λ_ =>
some ((-1):Int)).bind <| λy3_1 =>
bnd (decide (y3_1>=0)) λx13 =>
some (x13:Bool)).bind <| λy4_1 =>
cond y4_1 (some (true:Bool)) ((show Option ((Bool)) from
(show Option ((Int)) from
(show Option ((Unit)⊕((Int))) from
HZ a2 n (0:Int)).bind <| sel <| λ_ =>
some ((-1):Int)).bind <| λy8_1 =>
bnd (decide (y8_1>=0)) λx22 =>
some (x22:Bool)).bind <| λy9_1 =>
bnd (!y9_1) λx23 =>
some (x23:Bool)))).bind <| λy10_1 =>
cond y10_1 (some (([]:List Int),(1:Int))) ((kN n a2).bind λx24 =>
bnd (decide (x24.2≠0)) λx25 =>
cond x25 (some (([]:List Int),(x24.2:Int))) (gZ ((0:Int)<=(a2.length:Int)/\((a2.length:Int):Int)<=1048576)<|
bnd (List.replicate (Int.toNat (a2.length:Int)) (0:Int)) λx27 =>
gZ ((0:Int)<=(a2.length:Int)/\((a2.length:Int):Int)<=1048576)<|
bnd (List.replicate (Int.toNat (a2.length:Int)) (0:Int)) λx30 =>
(show Option (Int×(List Int)×(List Int)) from
ER a1 a2 x24 n (a1:Int) (0:Int) (x27:List Int) (x30:List Int)).bind <| p2 λ(y12_1:Int) (q0:(List Int)×(List Int))=>(p2 λ(y12_2:List Int) (y12_3:List Int) =>
(show Option (((List Int))) from
gZ ((0:Int)<=(y12_3.length:Int)/\((y12_3.length:Int):Int)<=1048576)<|
bnd (List.replicate (Int.toNat (y12_3.length:Int)) (0:Int)) λx46 =>
(show Option ((List Int)) from
FD y12_3 n (0:Int) (x46:List Int)).bind <| λy14_1 =>
(show Option (((List Int))) from
(show Option (((List Int))) from
(show Option (Unit) from
MG y14_1 n).bind <| λ_ =>
(show Option (((List Int))) from
(show Option ((List Int)) from
F4 y12_3 y14_1 n (1:Int) (y14_1:List Int)).bind <| λy24_1 =>
some (y24_1:List Int)).bind <| λy26_1 =>
gZ (y26_1.length=y14_1.length)<|
(show Option (Unit) from
IG y14_1 n).bind <| λ_ =>
some (y26_1:List Int)).bind <| λy30_1 =>
some (y30_1:List Int)).bind <| λy32_1 =>
gZ (y32_1.length=y14_1.length)<|
some (y32_1:List Int)).bind <| λy33_2 =>
bnd (if (y12_3.length:Int)<y12_1 then (y12_3.length:Int) else y12_1) λx87 =>
gZ ((0:Int)<=x87/\x87<=(y33_2.length:Int))<|
(show Option ((List Int)) from
GX y33_2 x87 n (0:Int) (y12_2:List Int)).bind <| λy35_1 =>
some ((y35_1:List Int),(0:Int))) q0))
theorem U8 {n:Nat} {a1:Int} {a2:List Int} {r:(List Int)×Int} (h0:DZ n a1 a2=some r):PP Tryz.prog 101 [int a1,aH 1 fI a2] (λy=>y=.bD [aH 1 fI r.1,int r.2]):=by
  unfold DZ at h0
  refine rF (R0:=λy H=>Cv (l6 H) y (.bD [aH 1 fI r.1,int r.2])) ?_ (λy H hc=>⟨_,rfl,.bD (N6 ((qL wC) (r.1)) (vO (r.2))),hc⟩)
  refine iI (c:=_) Tryz.func101 rfl rfl ?_;intro Q hret hnorm
  refine tc aG 15 (.mk ?_)
  refine jn h0 [0,1,4,5] [] (λ(a:Bool) (k:Unit)=>[(30,aI a)]) (λa k=>[]) ⟨λj3 h1=>?_,?_⟩
  refine tc aG 3 (.mk ?_)
  obtain ⟨x4,e4,h1⟩:=dJ h1
  refine sC aGY (aAU _ e4) ?_
  refine tr aG 1 (.mk ?_)
  cases x4
  replace h1:=cf h1
  refine tr aG 2 (.mk ?_)
  obtain ⟨j5,h2,h1⟩:=dJ h1
  refine iP (Out:=λy H'=>(∃ (a:Bool) (k:Unit),a=j5/\y=aI a/\H'=hk [])) rfl rfl rfl (eO rfl rfl (.cons rfl (.cons rfl .nil)) DL ?_) ?_
  refine iI (c:=_) Tryz.func155 rfl rfl ?_;intro Q hret hnorm
  refine tc aG 8 (.mk ?_)
  obtain ⟨j6,h3,h2⟩:=dJ h2
  refine iP (Out:=λy H'=>(∃ (a:Int) (k:Unit),a=j6/\y=int a/\H'=hk [])) rfl rfl rfl (eO rfl rfl (.cons rfl (.cons rfl .nil)) DY ?_) ?_
  refine iI (c:=_) Tryz.func197 rfl rfl ?_;intro Q hret hnorm
  refine tc aG 8 (.mk ?_)
  refine sY (mP rfl Tryz.underlying22 rfl (uY _)) ?_
  refine tr aG 2 (.mk ?_)
  refine dU h3 [4] [] (λ(a:Unit) (k:Unit)=>[]) (λa k=>[]) ⟨λj7 h4 h3=>?_,?_⟩
  refine tc aG 1 (.mk ?_)
  refine lp (λn (a:Int)=>GV a2 n a) (0:Int) () h4 [0,1,4,7] [] (λ(a:Int) (k:Unit)=>[(8,int a)]) (λa k=>[]) (λ_=>rfl) ⟨dY,?_⟩
  rintro n y0_1 _ hm h4
  replace h4:GV a2 (n+1) y0_1=some _:=h4
  rw [GV] at h4
  refine tc aG 2 (.mk ?_)
  refine nb aG h4 λx8 h4=>?_
  refine tr aG 2 (.mk ?_)
  cases x8
  replace h4:=cf h4
  refine tc aG 2 (.mk ?_)
  exact lfE h4 () dY
  replace h4:=ct h4
  refine tc aG 14 (.mk ?_)
  obtain ⟨x9,e9,h4⟩:=dJ h4
  refine sY (C8 rfl Tryz.underlying22 dP rfl rfl e9) ?_
  refine tr aG 1 (.mk ?_)
  obtain ⟨x10,e10,h4⟩:=dJ h4
  refine sC aGY (aAU _ e10) ?_
  refine tr aG 1 (.mk ?_)
  cases x10
  replace h4:=cf h4
  refine tc aG 4 (.mk ?_)
  refine ni aG h4 λx11 h4=>?_
  refine tr aG 2 (.mk ?_)
  exact bk x11 () h4 dY
  replace h4:=ct h4
  refine tc aG 6 (.mk ?_)
  obtain ⟨c12,hX,hj⟩:=IJ h4;subst hj;replace h3:=hX.trans (II h3)
  obtain rfl:=eU h3
  refine iX (hret _ _ (hk []) (.tmp rfl .nil) (λ_ _ h=>nomatch h) ?_)
  exact ⟨y0_1,(),rfl,rfl,rfl⟩
  rintro _ _ h3
  refine tc aG 4 (.mk ?_)
  obtain rfl:=eU h3
  refine iX (hret _ _ (hk []) (.tmp rfl .nil) (λ_ _ h=>nomatch h) ?_)
  exact ⟨(-1),(),rfl,rfl,rfl⟩
  rintro y _ ⟨y3_1,_,rfl,hc,rfl⟩
  subst hc
  refine nb aG h2 λx13 h2=>?_
  refine tr aG 2 (.mk ?_)
  obtain rfl:=eU h2
  refine iX (hret _ _ (hk []) (.tmp rfl .nil) (λ_ _ h=>nomatch h) ?_)
  exact ⟨x13,(),rfl,rfl,rfl⟩
  rintro y _ ⟨y4_1,_,rfl,hc,rfl⟩
  subst hc
  refine tr aG 2 (.mk ?_)
  cases y4_1
  replace h1:=cf h1
  refine tr aG 2 (.mk ?_)
  obtain ⟨j14,h2,h1⟩:=dJ h1
  refine iP (Out:=λy H'=>(∃ (a:Bool) (k:Unit),a=j14/\y=aI a/\H'=hk [])) rfl rfl rfl (eO rfl rfl (.cons rfl (.cons rfl .nil)) DL ?_) ?_
  refine iI (c:=_) Tryz.func155 rfl rfl ?_;intro Q hret hnorm
  refine tc aG 8 (.mk ?_)
  obtain ⟨j15,h3,h2⟩:=dJ h2
  refine iP (Out:=λy H'=>(∃ (a:Int) (k:Unit),a=j15/\y=int a/\H'=hk [])) rfl rfl rfl (eO rfl rfl (.cons rfl (.cons rfl .nil)) DY ?_) ?_
  refine iI (c:=_) Tryz.func197 rfl rfl ?_;intro Q hret hnorm
  refine tc aG 8 (.mk ?_)
  refine sY (mP rfl Tryz.underlying22 rfl (uY _)) ?_
  refine tr aG 2 (.mk ?_)
  refine dU h3 [4] [] (λ(a:Unit) (k:Unit)=>[]) (λa k=>[]) ⟨λj16 h4 h3=>?_,?_⟩
  refine tc aG 1 (.mk ?_)
  refine lp (λn (a:Int)=>HZ a2 n a) (0:Int) () h4 [0,1,4,7] [] (λ(a:Int) (k:Unit)=>[(8,int a)]) (λa k=>[]) (λ_=>rfl) ⟨dY,?_⟩
  rintro n y5_1 _ hm h4
  replace h4:HZ a2 (n+1) y5_1=some _:=h4
  rw [HZ] at h4
  refine tc aG 2 (.mk ?_)
  refine nb aG h4 λx17 h4=>?_
  refine tr aG 2 (.mk ?_)
  cases x17
  replace h4:=cf h4
  refine tc aG 2 (.mk ?_)
  exact lfE h4 () dY
  replace h4:=ct h4
  refine tc aG 14 (.mk ?_)
  obtain ⟨x18,e18,h4⟩:=dJ h4
  refine sY (C8 rfl Tryz.underlying22 dP rfl rfl e18) ?_
  refine tr aG 1 (.mk ?_)
  obtain ⟨x19,e19,h4⟩:=dJ h4
  refine sC aKG (aXZ _ e19) ?_
  refine tr aG 1 (.mk ?_)
  cases x19
  replace h4:=cf h4
  refine tc aG 4 (.mk ?_)
  refine ni aG h4 λx20 h4=>?_
  refine tr aG 2 (.mk ?_)
  exact bk x20 () h4 dY
  replace h4:=ct h4
  refine tc aG 6 (.mk ?_)
  obtain ⟨c21,hX,hj⟩:=IJ h4;subst hj;replace h3:=hX.trans (II h3)
  obtain rfl:=eU h3
  refine iX (hret _ _ (hk []) (.tmp rfl .nil) (λ_ _ h=>nomatch h) ?_)
  exact ⟨y5_1,(),rfl,rfl,rfl⟩
  rintro _ _ h3
  refine tc aG 4 (.mk ?_)
  obtain rfl:=eU h3
  refine iX (hret _ _ (hk []) (.tmp rfl .nil) (λ_ _ h=>nomatch h) ?_)
  exact ⟨(-1),(),rfl,rfl,rfl⟩
  rintro y _ ⟨y8_1,_,rfl,hc,rfl⟩
  subst hc
  refine nb aG h2 λx22 h2=>?_
  refine tr aG 2 (.mk ?_)
  obtain rfl:=eU h2
  refine iX (hret _ _ (hk []) (.tmp rfl .nil) (λ_ _ h=>nomatch h) ?_)
  exact ⟨x22,(),rfl,rfl,rfl⟩
  rintro y _ ⟨y9_1,_,rfl,hc,rfl⟩
  subst hc
  refine nb aG h1 λx23 h1=>?_
  refine tr aG 2 (.mk ?_)
  exact lf h1 () dY
  replace h1:=ct h1
  refine tr aG 6 (.mk ?_)
  exact lf h1 () dY
  replace h1:=ct h1
  refine tr aG 11 (.mk ?_)
  exact lf h1 () dY
  rintro y10_1 _ h0
  cases y10_1
  replace h0:=cf h0
  refine tc aG 5 (.mk ?_)
  obtain ⟨x24,e24,h0⟩:=dJ h0
  refine sC nM (nO _ e24) ?_
  refine tr aG 10 (.mk ?_)
  refine nb aG h0 λx25 h0=>?_
  refine tr aG 1 (.mk ?_)
  cases x25
  replace h0:=cf h0
  refine tc aG 3 (.mk ?_)
  refine K4 [0,1,3,0,8,24,0,7,191,511] (λi k=>false) (λi=>bif Nat.beq i 2 then (some 1) else bif Nat.beq i 5 then (some 2) else none) mixed (by kernel_rfl) ?_;intro C K hK
  refine mX rfl (λH hH=>mK rfl rfl) ?_
  refine mX rfl (λH hH=>mP rfl Tryz.underlying22 rfl (uY _)) ?_
  obtain ⟨p26,h0⟩:=jQ h0
  obtain ⟨x27,e27,h0⟩:=iZ h0
  have lx27:x27.length=(Int.toNat (a2.length:Int)):=by rw [<- e27];exact List.length_replicate
  refine oU rfl rfl (λH hH=>qY (pO 1 (g:=fI) (z0:=(0:Int)) (.one _) rfl Tryz.underlying22 iH lT rfl rfl rfl p26 (.cons (.sc _) .nil) e27)) ?_;generalize C+2=v28
  refine mX rfl (λH hH=>mK rfl rfl) ?_
  refine mX rfl (λH hH=>mP rfl Tryz.underlying22 rfl (uY _)) ?_
  obtain ⟨p29,h0⟩:=jQ h0
  obtain ⟨x30,e30,h0⟩:=iZ h0
  have lx30:x30.length=(Int.toNat (a2.length:Int)):=by rw [<- e30];exact List.length_replicate
  refine oU rfl rfl (λH hH=>qY (pO 2 (g:=fI) (z0:=(0:Int)) (.one _) rfl Tryz.underlying22 iH lT rfl rfl rfl p29 (.cons (.sc _) .nil) e30)) ?_;generalize C+5=v31
  refine mX rfl (λH hH=>mK rfl rfl) ?_
  refine mX rfl (λH hH=>uK rfl rfl) ?_
  refine mX rfl (λH hH=>uK rfl rfl) ?_
  refine mX rfl (λH hH=>uK rfl rfl) ?_
  refine JM (hK _ ?_)
  refine tc aG 4 (.mk ?_)
  refine sY (mP rfl Tryz.underlying22 rfl (uY _)) ?_
  refine tr aG 2 (.mk ?_)
  refine jn h0 [4,5] [] (λ(a:Int×(List Int)×(List Int)) (k:Unit)=>[(10,.sl 1 v28 0 a.2.1.length),(11,.sl 2 v31 0 a.2.2.length),(12,int a.1)]) (λa k=>[(1,⟨3,1,true,true,v28,a.2.1.map fI⟩),(2,⟨3,1,true,true,v31,a.2.2.map fI⟩)]) ⟨λj32 h1=>?_,?_⟩
  refine tc aG 1 (.mk ?_)
  refine lp (λn (a:Int×Int×(List Int)×(List Int))=>ER a1 a2 x24 n a.1 a.2.1 a.2.2.1 a.2.2.2) ((a1:Int),(0:Int),(x27:List Int),(x30:List Int)) () h1 [0,4,5,8,46,47] [] (λ(a:Int×Int×(List Int)×(List Int)) (k:Unit)=>[(10,.sl 1 v28 0 a.2.2.1.length),(11,.sl 2 v31 0 a.2.2.2.length),(12,int a.1),(48,int a.2.1)]) (λa k=>[(1,⟨3,1,true,true,v28,a.2.2.1.map fI⟩),(2,⟨3,1,true,true,v31,a.2.2.2.map fI⟩)]) (λ_=>rfl) ⟨jX ⟨⟨_,rfl,(kJ (Eq.symm lx27))⟩,⟨_,rfl,(kJ (Eq.symm lx30))⟩,⟨_,rfl,(.refl _)⟩,⟨_,rfl,(.refl _)⟩,⟨_,rfl,(.refl _)⟩,⟨_,rfl,(.refl _)⟩,⟨_,rfl,(.refl _)⟩,⟨_,rfl,(.refl _)⟩,⟨_,rfl,(.refl _)⟩,⟨_,rfl,(.refl _)⟩,trivial⟩ ⟨⟨_,rfl,(.refl _)⟩,⟨_,rfl,(.refl _)⟩,trivial⟩,?_⟩
  rintro n ⟨y11_1,y11_2,y11_3,y11_4⟩ _ hm h1
  replace h1:ER a1 a2 x24 (n+1) y11_1 y11_2 y11_3 y11_4=some _:=h1
  rw [ER] at h1
  refine tc aG 2 (.mk ?_)
  refine nb aG h1 λx33 h1=>?_
  refine tr aG 2 (.mk ?_)
  cases x33
  replace h1:=cf h1
  refine tc aG 2 (.mk ?_)
  exact lf h1 () dY
  replace h1:=ct h1
  refine tc aG 7 (.mk ?_)
  obtain ⟨x34,e34,h1⟩:=dJ h1
  refine sY (C8 rfl Tryz.underlying22 dP rfl rfl e34) ?_
  refine tr aG 13 (.mk ?_)
  obtain ⟨x35,e35,h1⟩:=dJ h1
  refine sC BX (CU _ e35) ?_
  refine tr aG 4 (.mk ?_)
  obtain ⟨x36,e36,h1⟩:=dJ h1
  refine sY (eY rfl Tryz.underlying22 dP rfl rfl rfl rfl rfl (Eq.symm rfl) (List.length_map _) e36) ?_
  obtain ⟨x37,e37,h1⟩:=iZ h1
  have fx37:=iE e36 e37;have lx37:=iD e37 (rfl:y11_3.length=y11_3.length)
  refine y5 rfl rfl (fH (ob':=(⟨3,1,true,true,v28,x37.map fI⟩:bH)) (fC rfl dP rfl rfl rfl rfl rfl (dN e36) rfl rfl rfl) (iC (jB e37))) ?_
  obtain ⟨x38,e38,h1⟩:=dJ h1
  refine sY (eY rfl Tryz.underlying22 dP rfl rfl rfl rfl rfl (Eq.symm rfl) (List.length_map _) e38) ?_
  obtain ⟨x39,e39,h1⟩:=iZ h1
  have fx39:=iE e38 e39;have lx39:=iD e39 (rfl:y11_4.length=y11_4.length)
  refine y5 rfl rfl (fH (ob':=(⟨3,1,true,true,v31,x39.map fI⟩:bH)) (fC rfl dP rfl rfl rfl rfl rfl (dN e38) rfl rfl rfl) (iC (jB e39))) ?_
  refine tr aG 5 (.mk ?_)
  refine sY (eY rfl Tryz.underlying22 dP rfl rfl rfl rfl rfl (Eq.symm lx37) (List.length_map _) fx37) ?_
  refine sY (fU rfl dP rfl (.pt rfl rfl (dN fx37)) rfl) ?_
  refine ni aG h1 λx40 h1=>?_
  refine tr aG 4 (.mk ?_)
  refine ni aG h1 λx41 h1=>?_
  refine tr aG 2 (.mk ?_)
  exact bk (x40,x41,x37,x39) () h1 (jX ⟨⟨_,rfl,(kJ (Eq.symm lx37))⟩,⟨_,rfl,(kJ (Eq.symm lx39))⟩,⟨_,rfl,(.refl _)⟩,⟨_,rfl,(.refl _)⟩,⟨_,rfl,(.refl _)⟩,⟨_,rfl,(.refl _)⟩,⟨_,rfl,(.refl _)⟩,⟨_,rfl,(.refl _)⟩,⟨_,rfl,(.refl _)⟩,⟨_,rfl,(.refl _)⟩,trivial⟩ ⟨⟨_,rfl,(.refl _)⟩,⟨_,rfl,(.refl _)⟩,trivial⟩)
  rintro ⟨y12_1,y12_2,y12_3⟩ _ h0
  replace h0:=vP h0
  replace h0:=vP h0
  refine tc aG 4 (.mk ?_)
  obtain ⟨j42,h1,h0⟩:=dJ h0
  refine iP (Out:=λy H'=>(∃ (a:(List Int)) (k:Nat),a=j42/\Cv H' y (.sl 5 k 0 a.length)/\H'=hk [(1,⟨3,1,true,true,v28,y12_2.map fI⟩),(2,⟨3,1,true,true,v31,y12_3.map fI⟩),(5,⟨3,1,true,true,k,a.map fI⟩)])) rfl rfl rfl (eO rfl rfl (.cons rfl (.cons rfl .nil)) aRG ?_) ?_
  refine iI (c:=_) Tryz.func157 rfl rfl ?_;intro Q hret hnorm
  refine tc aG 2 (.mk ?_)
  refine sB 3 λv43=>?_
  refine sB 4 λv44=>?_
  refine tr aG 5 (.mk ?_)
  refine sY (mP rfl Tryz.underlying22 rfl (.sl rfl rfl)) ?_
  obtain ⟨p45,h1⟩:=jQ h1
  obtain ⟨x46,e46,h1⟩:=iZ h1
  have lx46:x46.length=(Int.toNat (y12_3.length:Int)):=by rw [<- e46];exact List.length_replicate
  refine iP rfl rfl rfl (pO 5 (g:=fI) (z0:=(0:Int)) .any rfl Tryz.underlying22 iH lT rfl rfl rfl p45 (.cons (.sc _) .nil) e46) ?_;rintro _ _ ⟨v47,-,rfl,rfl⟩
  refine tr aG 6 (.mk ?_)
  refine sY (mP rfl Tryz.underlying22 rfl (.sl rfl rfl)) ?_
  refine tr aG 2 (.mk ?_)
  refine jn h1 [2,3,4] [1,2,3,4] (λ(a:(List Int)) (k:Unit)=>[(5,.sl 5 v47 0 a.length)]) (λa k=>[(5,⟨3,1,true,true,v47,a.map fI⟩)]) ⟨λj48 h2=>?_,?_⟩
  refine tc aG 1 (.mk ?_)
  refine lp (λn (a:Int×(List Int))=>FD y12_3 n a.1 a.2) ((0:Int),(x46:List Int)) () h2 [2,3,4,11] [1,2,3,4] (λ(a:Int×(List Int)) (k:Unit)=>[(5,.sl 5 v47 0 a.2.length),(12,int a.1)]) (λa k=>[(5,⟨3,1,true,true,v47,a.2.map fI⟩)]) (λ_=>rfl) ⟨jX ⟨⟨_,rfl,(kJ (Eq.symm lx46))⟩,⟨_,rfl,(.refl _)⟩,⟨_,rfl,(.refl _)⟩,⟨_,rfl,(.refl _)⟩,⟨_,rfl,(.refl _)⟩,⟨_,rfl,(.refl _)⟩,trivial⟩ ⟨⟨_,rfl,(.refl _)⟩,⟨_,rfl,(.refl _)⟩,⟨_,rfl,(.refl _)⟩,⟨_,rfl,(.refl _)⟩,⟨_,rfl,(.refl _)⟩,trivial⟩,?_⟩
  rintro n ⟨y13_1,y13_2⟩ _ hm h2
  replace h2:FD y12_3 (n+1) y13_1 y13_2=some _:=h2
  rw [FD] at h2
  refine tc aG 2 (.mk ?_)
  refine nb aG h2 λx49 h2=>?_
  refine tr aG 2 (.mk ?_)
  cases x49
  replace h2:=cf h2
  refine tc aG 2 (.mk ?_)
  exact lf h2 () dY
  replace h2:=ct h2
  refine tc aG 13 (.mk ?_)
  obtain ⟨x50,e50,h2⟩:=dJ h2
  refine sY (eY rfl Tryz.underlying22 dP rfl rfl rfl rfl rfl (Eq.symm rfl) (List.length_map _) e50) ?_
  obtain ⟨x51,e51,h2⟩:=iZ h2
  have fx51:=iE e50 e51;have lx51:=iD e51 (rfl:y13_2.length=y13_2.length)
  refine y5 rfl rfl (fH (ob':=(⟨3,1,true,true,v47,x51.map fI⟩:bH)) (fC rfl dP rfl rfl rfl rfl rfl (dN e50) rfl rfl rfl) (iC (jB e51))) ?_
  refine tr aG 3 (.mk ?_)
  refine ni aG h2 λx52 h2=>?_
  refine tr aG 2 (.mk ?_)
  exact bk (x52,x51) () h2 (jX ⟨⟨_,rfl,(kJ (Eq.symm lx51))⟩,⟨_,rfl,(.refl _)⟩,⟨_,rfl,(.refl _)⟩,⟨_,rfl,(.refl _)⟩,⟨_,rfl,(.refl _)⟩,⟨_,rfl,(.refl _)⟩,trivial⟩ ⟨⟨_,rfl,(.refl _)⟩,⟨_,rfl,(.refl _)⟩,⟨_,rfl,(.refl _)⟩,⟨_,rfl,(.refl _)⟩,⟨_,rfl,(.refl _)⟩,trivial⟩)
  rintro y14_1 _ h1
  refine tc aG 4 (.mk ?_)
  obtain ⟨j53,h2,h1⟩:=dJ h1
  refine iP (Out:=λy H'=>(∃ (a:(List Int)) (k:Unit),a=j53/\y=.bD []/\H'=hk [(1,⟨3,1,true,true,v28,y12_2.map fI⟩),(2,⟨3,1,true,true,v31,y12_3.map fI⟩),(3,⟨22,1,true,true,v43,[[.sl 2 v31 0 y12_3.length]]⟩),(4,⟨133,1,true,true,v44,[[.fn (.func 158) [] []]]⟩),(5,⟨3,1,true,true,v47,a.map fI⟩)])) rfl rfl rfl (eO rfl rfl (.cons rfl (.cons rfl .nil)) aRT ?_) ?_
  refine iI (c:=_) Tryz.func199 rfl rfl ?_;intro Q hret hnorm
  refine tc aG 3 (.mk ?_)
  refine sY (mP rfl Tryz.underlying22 rfl (.sl rfl rfl)) ?_
  refine tr aG 1 (.mk ?_)
  obtain ⟨j54,h3,h2⟩:=dJ h2
  refine iP (Out:=λy H'=>(∃ (a:(List Int)) (k:Unit),a=j54/\y=.bD []/\H'=hk [(1,⟨3,1,true,true,v28,y12_2.map fI⟩),(2,⟨3,1,true,true,v31,y12_3.map fI⟩),(3,⟨22,1,true,true,v43,[[.sl 2 v31 0 y12_3.length]]⟩),(4,⟨133,1,true,true,v44,[[.fn (.func 158) [] []]]⟩),(5,⟨3,1,true,true,v47,a.map fI⟩)])) rfl rfl rfl (eO rfl rfl (.cons rfl (.cons rfl (.cons rfl .nil))) aU1 ?_) ?_
  refine iI (c:=_) Tryz.func216 rfl rfl ?_;intro Q hret hnorm
  refine tc aG 11 (.mk ?_)
  refine jn h3 [0,1,2,6,7] [1,2,3,4,5] (λ(a:Unit) (k:Unit)=>[]) (λa k=>[]) ⟨λj55 h4=>?_,?_⟩
  refine tc aG 1 (.mk ?_)
  refine lp (λn (a:Unit)=>MG y14_1 n) () () h4 [0,1,2,6,7,8] [1,2,3,4,5] (λ(a:Unit) (k:Unit)=>[]) (λa k=>[]) (λ_=>rfl) ⟨dY,?_⟩
  rintro n _ _ hm h4
  replace h4:MG y14_1 (n+1)=some _:=h4
  rw [MG] at h4
  refine tc aG 5 (.mk ?_)
  refine nb aG h4 λx56 h4=>?_
  refine tr aG 1 (.mk ?_)
  replace h4:=jQ h4
  obtain ⟨rfl,h4⟩:=h4
  refine tc aG 2 (.mk ?_)
  exact lf h4 () dY
  rintro _ _ h3
  refine tc aG 6 (.mk ?_)
  obtain ⟨j57,h4,h3⟩:=dJ h3
  refine iP (Out:=λy H'=>(∃ (a:(List Int)) (k:Unit),a=j57/\y=.bD []/\H'=hk [(1,⟨3,1,true,true,v28,y12_2.map fI⟩),(2,⟨3,1,true,true,v31,y12_3.map fI⟩),(3,⟨22,1,true,true,v43,[[.sl 2 v31 0 y12_3.length]]⟩),(4,⟨133,1,true,true,v44,[[.fn (.func 158) [] []]]⟩),(5,⟨3,1,true,true,v47,a.map fI⟩)])) rfl rfl rfl (eO rfl rfl (.cons rfl (.cons rfl (.cons rfl (.cons rfl .nil)))) aMF ?_) ?_
  refine iI (c:=_) Tryz.func226 rfl rfl ?_;intro Q hret hnorm
  refine tc aG 3 (.mk ?_)
  refine sY (XM (r:=1) rfl rfl rfl (by decide)) ?_
  refine tr aG 2 (.mk ?_)
  refine jn h4 [] [1,2,3,4] (λ(a:(List Int)) (k:Unit)=>[]) (λa k=>[(5,⟨3,1,true,true,v47,a.map fI⟩)]) ⟨λj58 h5=>?_,?_⟩
  refine tc aG 1 (.mk ?_)
  refine lp (λn (a:Int×(List Int))=>F4 y12_3 y14_1 n a.1 a.2) ((1:Int),(y14_1:List Int)) () h5 [1,2,3] [1,2,3,4] (λ(a:Int×(List Int)) (k:Unit)=>[(0,.sl 5 v47 0 a.2.length),(8,int a.1)]) (λa k=>[(5,⟨3,1,true,true,v47,a.2.map fI⟩)]) (λ_=>rfl) ⟨dY,?_⟩
  rintro n ⟨y17_1,y17_2⟩ _ hm h5
  replace h5:F4 y12_3 y14_1 (n+1) y17_1 y17_2=some _:=h5
  rw [F4] at h5
  refine tc aG 5 (.mk ?_)
  refine nb aG h5 λx59 h5=>?_
  refine tr aG 1 (.mk ?_)
  cases x59
  replace h5:=cf h5
  refine tc aG 2 (.mk ?_)
  exact lf h5 () dY
  replace h5:=ct h5
  refine tc aG 3 (.mk ?_)
  refine jn h5 [1,2,3,8] [1,2,3,4] (λ(a:(List Int)) (k:Unit)=>[(0,.sl 5 v47 0 a.length)]) (λa k=>[(5,⟨3,1,true,true,v47,a.map fI⟩)]) ⟨λj60 h6=>?_,?_⟩
  refine tc aG 6 (.mk ?_)
  refine jn h6 [1,2,3,8] [1,2,3,4] (λ(a:(List Int)) (k:Unit)=>[(0,.sl 5 v47 0 a.length)]) (λa k=>[(5,⟨3,1,true,true,v47,a.map fI⟩)]) ⟨λj61 h7=>?_,?_⟩
  refine tc aG 1 (.mk ?_)
  refine lp (λn (a:Int×(List Int))=>F7 y12_3 n a.1 a.2) ((y17_1:Int),(y17_2:List Int)) () h7 [1,2,3,8] [1,2,3,4] (λ(a:Int×(List Int)) (k:Unit)=>[(0,.sl 5 v47 0 a.2.length),(9,int a.1)]) (λa k=>[(5,⟨3,1,true,true,v47,a.2.map fI⟩)]) (λ_=>rfl) ⟨dY,?_⟩
  rintro n ⟨y18_1,y18_2⟩ _ hm h7
  replace h7:F7 y12_3 (n+1) y18_1 y18_2=some _:=h7
  rw [F7] at h7
  refine tc aG 2 (.mk ?_)
  refine jn h7 [0,1,2,3,8,9] [1,2,3,4,5] (λ(a:Bool) (k:Unit)=>[(34,aI a)]) (λa k=>[]) ⟨λj62 h8=>?_,?_⟩
  refine wZ [0,0,3,7,15,15,15,111,239,15,15,1039,3599,7695,16383,32767,65535] (rl [(7,[5]),(8,[5]),(12,[5]),(13,[5])] []) (rl [(14,[])] [5]) (rl [(14,false)] true) [0,1,2,3,4,5,6,7,8,9,10,11,12,13,14,15,16] mixed (by kernel_rfl) ?_;intro K hK
  iterate 2 refine eM ?_
  obtain ⟨x63,e63,h8⟩:=iZ h8
  refine eP (λH hH=>dK (y:=aI x63) (aBT rfl rfl rfl) (congrArg aI e63)) ?_
  refine eM ?_
  cases x63
  replace h8:=cf h8
  refine qV rfl rfl rfl ?_
  refine qV rfl rfl rfl ?_
  refine qV rfl rfl rfl ?_
  refine qV rfl rfl rfl ?_
  refine qV rfl rfl rfl ?_
  refine qV rfl rfl rfl ?_
  refine qV rfl rfl rfl ?_
  refine qV rfl rfl rfl ?_
  refine qV rfl rfl rfl ?_
  refine qV rfl rfl rfl ?_
  refine qV rfl rfl rfl ?_
  refine qV rfl rfl rfl ?_
  refine eP (λH hH=>JH rfl rfl (λ_=>rfl) (λ_=>rfl) rfl) ?_
  refine wU (hK _ ?_)
  exact lf h8 () dY
  replace h8:=ct h8
  iterate 3 refine eM ?_
  obtain ⟨x64,e64,h8⟩:=dJ h8
  refine qR rfl rfl rfl rfl (λH hH=>eY rfl Tryz.underlying22 dP rfl rfl ((hH _ (by decide)).trans rfl) rfl rfl (Eq.symm rfl) (List.length_map _) e64) ?_
  refine eL dP (hr:=dN e64) ?_
  iterate 2 refine eM ?_
  obtain ⟨x65,e65,h8⟩:=iZ h8
  refine eP (λH hH=>M4 rfl rfl rfl e65) ?_
  obtain ⟨x66,e66,h8⟩:=dJ h8
  refine qR rfl rfl rfl rfl (λH hH=>eY rfl Tryz.underlying22 dP rfl rfl ((hH _ (by decide)).trans rfl) rfl rfl (Eq.symm rfl) (List.length_map _) e66) ?_
  refine eL dP (hr:=dN e66) ?_
  obtain ⟨j67,h9,h8⟩:=dJ h8
  refine RY (Out:=λy H'=>(∃ (a:Int) (k:Unit),a=j67/\y=int a/\H'=hk [(1,⟨3,1,true,true,v28,y12_2.map fI⟩),(2,⟨3,1,true,true,v31,y12_3.map fI⟩),(3,⟨22,1,true,true,v43,[[.sl 2 v31 0 y12_3.length]]⟩),(4,⟨133,1,true,true,v44,[[.fn (.func 158) [] []]]⟩),(5,⟨3,1,true,true,v47,y18_2.map fI⟩)])) rfl rfl rfl rfl (eO rfl rfl (.cons rfl (.cons rfl .nil)) aIV ?_) (by rintro y _ ⟨y19_1,_,rfl,hc,rfl⟩ <;> exact trivial) ?_
  refine iI (c:=_) Tryz.func200 rfl rfl ?_;intro Q hret hnorm
  refine tc aG 5 (.mk ?_)
  refine wZ [0,0,0,6,14,31,0,0,0,384,896,2047,4095,8191] (rl [(0,[4]),(1,[3]),(3,[2]),(4,[2]),(6,[4]),(7,[3]),(9,[2]),(10,[2])] []) (λi=>[2,3,4]) (λi=>true) [0,1,2,3,4,5,6,7,8,9,10,11,12,13] mixed (by kernel_rfl) ?_;intro K hK
  refine eL XQ ?_
  refine eL tN ?_
  refine eM ?_
  obtain ⟨x68,e68,h9⟩:=dJ h9
  refine qR rfl rfl rfl rfl (λH hH=>eY rfl Tryz.underlying22 dP rfl rfl ((hH _ (by decide)).trans rfl) rfl rfl (Eq.symm rfl) (List.length_map _) e68) ?_
  refine eL dP (hr:=dN e68) ?_
  obtain ⟨x69,e69,h9⟩:=dJ h9
  refine eP (λH hH=>uN rfl rfl (.cons rfl .nil) XA (bT.refl _) (aFF _ e69)) ?_
  refine eL XQ ?_
  refine eL tN ?_
  refine eM ?_
  obtain ⟨x70,e70,h9⟩:=dJ h9
  refine qR rfl rfl rfl rfl (λH hH=>eY rfl Tryz.underlying22 dP rfl rfl ((hH _ (by decide)).trans rfl) rfl rfl (Eq.symm rfl) (List.length_map _) e70) ?_
  refine eL dP (hr:=dN e70) ?_
  obtain ⟨x71,e71,h9⟩:=dJ h9
  refine eP (λH hH=>uN rfl rfl (.cons rfl .nil) XA (bT.refl _) (aFF _ e71)) ?_
  obtain ⟨x72,e72,h9⟩:=dJ h9
  refine eP (λH hH=>uN rfl rfl (.cons rfl (.cons rfl .nil)) Y3 (bT.refl _) (XL _ e72)) ?_
  refine eA ?_
  refine wU (hK _ ?_)
  obtain rfl:=eU h9
  refine iX (hret _ _ (hk [(1,⟨3,1,true,true,v28,y12_2.map fI⟩),(2,⟨3,1,true,true,v31,y12_3.map fI⟩),(3,⟨22,1,true,true,v43,[[.sl 2 v31 0 y12_3.length]]⟩),(4,⟨133,1,true,true,v44,[[.fn (.func 158) [] []]]⟩),(5,⟨3,1,true,true,v47,y18_2.map fI⟩)]) (.tmp rfl .nil) (HK.le ⟨rfl,rfl,rfl,rfl,rfl,trivial⟩) ?_)
  exact ⟨x72,(),rfl,rfl,rfl⟩
  rintro y _ ⟨y19_1,_,rfl,hc,rfl⟩
  subst hc
  obtain ⟨x73,e73,h8⟩:=iZ h8
  refine eP (λH hH=>dK (y:=aI x73) (vS rfl rfl rfl) (congrArg aI e73)) ?_
  refine eP (λH hH=>JH rfl rfl (λ_=>rfl) (λ_=>rfl) rfl) ?_
  refine wU (hK _ ?_)
  exact lf h8 () dY
  rintro y21_1 _ h7
  cases y21_1
  replace h7:=cf h7
  refine tc aG 2 (.mk ?_)
  exact lf h7 () dY
  replace h7:=ct h7
  refine tc aG 4 (.mk ?_)
  refine wZ [0,0,0,0,8,0,0,64,224,480,0,0,3072,7168,16355,32739,65535,131071] (rl [(8,[5]),(9,[5]),(12,[5]),(13,[5]),(14,[5]),(16,[5])] []) (rl [(15,[]),(17,[])] [5]) (rl [(15,false),(17,false)] true) [0,1,2,3,4,5,6,7,8,9,10,11,12,13,14,15,16,17] mixed (by kernel_rfl) ?_;intro K hK
  iterate 4 refine eM ?_
  obtain ⟨x74,e74,h7⟩:=iZ h7
  refine eP (λH hH=>M4 rfl rfl rfl e74) ?_
  iterate 2 refine eM ?_
  obtain ⟨x75,e75,h7⟩:=iZ h7
  refine eP (λH hH=>M4 rfl rfl rfl e75) ?_
  obtain ⟨x76,e76,h7⟩:=dJ h7
  refine qR rfl rfl rfl rfl (λH hH=>eY rfl Tryz.underlying22 dP rfl rfl ((hH _ (by decide)).trans rfl) rfl rfl (Eq.symm rfl) (List.length_map _) e76) ?_
  refine eL dP (hr:=dN e76) ?_
  iterate 2 refine eM ?_
  obtain ⟨x77,e77,h7⟩:=dJ h7
  refine qR rfl rfl rfl rfl (λH hH=>eY rfl Tryz.underlying22 dP rfl rfl ((hH _ (by decide)).trans rfl) rfl rfl (Eq.symm rfl) (List.length_map _) e77) ?_
  refine eL dP (hr:=dN e77) ?_
  refine qR rfl rfl rfl rfl (λH hH=>eY rfl Tryz.underlying22 dP rfl rfl ((hH _ (by decide)).trans rfl) rfl rfl (Eq.symm rfl) (List.length_map _) e77) ?_
  obtain ⟨x78,e78,h7⟩:=iZ h7
  have fx78:=iE e77 e78;have lx78:=iD e78 (rfl:y18_2.length=y18_2.length)
  refine xN rfl rfl rfl rfl (bY.eX (fH (ob':=(⟨3,1,true,true,v47,x78.map fI⟩:bH)) (fC rfl dP rfl rfl rfl rfl rfl (dN e77) rfl rfl rfl) (iC (jB e78))) (λ_ h=>h) (λ_ _=>trivial)) (by rintro _ _ ⟨rfl,rfl⟩;exact trivial) ?_;rintro _ _ ⟨rfl,rfl⟩
  obtain ⟨x79,e79,h7⟩:=dJ h7
  refine qR rfl rfl rfl rfl (λH hH=>eY rfl Tryz.underlying22 dP rfl rfl ((hH _ (by decide)).trans rfl) rfl rfl (Eq.symm lx78) (List.length_map _) e79) ?_
  obtain ⟨x80,e80,h7⟩:=iZ h7
  have fx80:=iE e79 e80;have lx80:=iD e80 lx78
  refine xN rfl rfl rfl rfl (bY.eX (fH (ob':=(⟨3,1,true,true,v47,x80.map fI⟩:bH)) (fC rfl dP rfl rfl rfl rfl rfl (dN e79) rfl rfl rfl) (iC (jB e80))) (λ_ h=>h) (λ_ _=>trivial)) (by rintro _ _ ⟨rfl,rfl⟩;exact trivial) ?_;rintro _ _ ⟨rfl,rfl⟩
  refine wU (hK _ ?_)
  refine tc aG 3 (.mk ?_)
  refine ni aG h7 λx81 h7=>?_
  refine tr aG 2 (.mk ?_)
  exact bk (x81,x80) () h7 (jX ⟨⟨_,rfl,(kJ (Eq.symm lx80))⟩,⟨_,rfl,(.refl _)⟩,⟨_,rfl,(.refl _)⟩,⟨_,rfl,(.refl _)⟩,⟨_,rfl,(.refl _)⟩,⟨_,rfl,(.refl _)⟩,trivial⟩ ⟨⟨_,rfl,(.refl _)⟩,⟨_,rfl,(.refl _)⟩,⟨_,rfl,(.refl _)⟩,⟨_,rfl,(.refl _)⟩,⟨_,rfl,(.refl _)⟩,trivial⟩)
  rintro y22_1 _ h6
  refine tc aG 1 (.mk ?_)
  exact lf h6 () dY
  rintro y23_1 _ h5
  refine tc aG 2 (.mk ?_)
  refine ni aG h5 λx82 h5=>?_
  refine tr aG 2 (.mk ?_)
  exact bk (x82,y23_1) () h5 dY
  rintro y24_1 _ h4
  obtain rfl:=eU h4
  refine FP (hnorm _ _ (hk [(1,⟨3,1,true,true,v28,y12_2.map fI⟩),(2,⟨3,1,true,true,v31,y12_3.map fI⟩),(3,⟨22,1,true,true,v43,[[.sl 2 v31 0 y12_3.length]]⟩),(4,⟨133,1,true,true,v44,[[.fn (.func 158) [] []]]⟩),(5,⟨3,1,true,true,v47,y24_1.map fI⟩)]) .nil (HK.le ⟨rfl,rfl,rfl,rfl,rfl,trivial⟩) ?_)
  exact ⟨y24_1,(),rfl,rfl,rfl⟩
  rintro y _ ⟨y26_1,_,rfl,hc,rfl⟩
  subst hc
  refine tr aG 1 (.mk ?_)
  obtain ⟨p83,h3⟩:=jQ h3
  refine jn h3 [] [1,2,3,4,5] (λ(a:Unit) (k:Unit)=>[]) (λa k=>[]) ⟨λj84 h4=>?_,?_⟩
  refine tc aG 1 (.mk ?_)
  refine lp (λn (a:Unit)=>IG y14_1 n) () () h4 [0,1,2,6] [1,2,3,4,5] (λ(a:Unit) (k:Unit)=>[]) (λa k=>[]) (λ_=>rfl) ⟨dY,?_⟩
  rintro n _ _ hm h4
  replace h4:IG y14_1 (n+1)=some _:=h4
  rw [IG] at h4
  refine tc aG 5 (.mk ?_)
  refine nb aG h4 λx85 h4=>?_
  refine tr aG 1 (.mk ?_)
  replace h4:=jQ h4
  obtain ⟨rfl,h4⟩:=h4
  refine tc aG 2 (.mk ?_)
  exact lf h4 () dY
  rintro _ _ h3
  obtain rfl:=eU h3
  refine FP (hnorm _ _ (hk [(1,⟨3,1,true,true,v28,y12_2.map fI⟩),(2,⟨3,1,true,true,v31,y12_3.map fI⟩),(3,⟨22,1,true,true,v43,[[.sl 2 v31 0 y12_3.length]]⟩),(4,⟨133,1,true,true,v44,[[.fn (.func 158) [] []]]⟩),(5,⟨3,1,true,true,v47,y26_1.map fI⟩)]) .nil (HK.le ⟨rfl,rfl,rfl,rfl,rfl,trivial⟩) ?_)
  exact ⟨y26_1,(),rfl,rfl,rfl⟩
  rintro y _ ⟨y30_1,_,rfl,hc,rfl⟩
  subst hc
  refine tr aG 1 (.mk ?_)
  obtain rfl:=eU h2
  refine vK (hnorm _ _ (hk [(1,⟨3,1,true,true,v28,y12_2.map fI⟩),(2,⟨3,1,true,true,v31,y12_3.map fI⟩),(3,⟨22,1,true,true,v43,[[.sl 2 v31 0 y12_3.length]]⟩),(4,⟨133,1,true,true,v44,[[.fn (.func 158) [] []]]⟩),(5,⟨3,1,true,true,v47,y30_1.map fI⟩)]) .nil (HK.le ⟨rfl,rfl,rfl,rfl,rfl,trivial⟩) ?_)
  exact ⟨y30_1,(),rfl,rfl,rfl⟩
  rintro y _ ⟨y32_1,_,rfl,hc,rfl⟩
  subst hc
  refine tr aG 3 (.mk ?_)
  obtain ⟨p86,h1⟩:=jQ h1
  refine sY (mK rfl rfl) ?_
  refine tr aG 2 (.mk ?_)
  obtain rfl:=eU h1
  refine iX (hret _ _ (hk [(1,⟨3,1,true,true,v28,y12_2.map fI⟩),(2,⟨3,1,true,true,v31,y12_3.map fI⟩),(5,⟨3,1,true,true,v47,y32_1.map fI⟩)]) (.tmp rfl .nil) (HK.le ⟨rfl,rfl,rfl,trivial⟩) ?_)
  exact ⟨y32_1,v47,rfl,(kJ (Eq.symm p86)),rfl⟩
  rintro y _ ⟨y33_2,w33_1,rfl,hc,rfl⟩
  refine aW7 75 (.sl 5 w33_1 0 y33_2.length) rfl hc ?_
  refine tr aG 2 (.mk ?_)
  refine sY (mP rfl Tryz.underlying22 rfl (.sl rfl rfl)) ?_
  obtain ⟨x87,e87,h0⟩:=iZ h0
  refine sY (qN rfl rfl rfl e87) ?_
  obtain ⟨p88,h0⟩:=jQ h0
  refine sY (NQ (len:=y33_2.length) (i:=0) (j:=x87.toNat) rfl Tryz.underlying22 dP rfl rfl rfl rfl .no (.yes rfl (by first | omega | (dsimp only;omega) | (dsimp only at *;omega))) (Nat.zero_le _) (by first | omega | (dsimp only;omega) | (dsimp only at *;omega)) (.inr rfl)) ?_
  refine sY (mP rfl Tryz.underlying22 rfl (.sl rfl rfl)) ?_
  refine tr aG 2 (.mk ?_)
  refine jn h0 [4,5] [] (λ(a:(List Int)) (k:Unit)=>[(10,.sl 1 v28 0 a.length)]) (λa k=>[(1,⟨3,1,true,true,v28,a.map fI⟩)]) ⟨λj89 h1=>?_,?_⟩
  refine tc aG 1 (.mk ?_)
  refine lp (λn (a:Int×(List Int))=>GX y33_2 x87 n a.1 a.2) ((0:Int),(y12_2:List Int)) () h1 [4,5,80,81] [5] (λ(a:Int×(List Int)) (k:Unit)=>[(10,.sl 1 v28 0 a.2.length),(82,int a.1)]) (λa k=>[(1,⟨3,1,true,true,v28,a.2.map fI⟩)]) (λ_=>rfl) ⟨dY,?_⟩
  rintro n ⟨y34_1,y34_2⟩ _ hm h1
  replace h1:GX y33_2 x87 (n+1) y34_1 y34_2=some _:=h1
  rw [GX] at h1
  refine tc aG 2 (.mk ?_)
  refine nb aG h1 λx90 h1=>?_
  refine tr aG 2 (.mk ?_)
  cases x90
  replace h1:=cf h1
  refine tc aG 2 (.mk ?_)
  exact lf h1 () dY
  replace h1:=ct h1
  refine tc aG 6 (.mk ?_)
  obtain ⟨p91,h1⟩:=jQ h1
  obtain ⟨x92,e92,h1⟩:=dJ h1
  refine sY (nN rfl Tryz.underlying22 dP rfl rfl rfl rfl rfl p91 (List.length_map _) e92) ?_
  refine sY (fU rfl dP rfl (.pt rfl rfl (dN e92)) rfl) ?_
  refine tr aG 5 (.mk ?_)
  obtain ⟨x93,e93,h1⟩:=dJ h1
  refine sY (eY rfl Tryz.underlying22 dP rfl rfl rfl rfl rfl (Eq.symm rfl) (List.length_map _) e93) ?_
  refine sY (fU rfl dP rfl (.pt rfl rfl (dN e93)) rfl) ?_
  refine ni aG h1 λx94 h1=>?_
  refine sY (eY rfl Tryz.underlying22 dP rfl rfl rfl rfl rfl (Eq.symm rfl) (List.length_map _) e93) ?_
  obtain ⟨x95,e95,h1⟩:=iZ h1
  have fx95:=iE e93 e95;have lx95:=iD e95 (rfl:y34_2.length=y34_2.length)
  refine y5 rfl rfl (fH (ob':=(⟨3,1,true,true,v28,x95.map fI⟩:bH)) (fC rfl dP rfl rfl rfl rfl rfl (dN e93) rfl rfl rfl) (iC (jB e95))) ?_
  refine tr aG 3 (.mk ?_)
  refine ni aG h1 λx96 h1=>?_
  refine tr aG 2 (.mk ?_)
  exact bk (x96,x95) () h1 (jX ⟨⟨_,rfl,(kJ (Eq.symm lx95))⟩,⟨_,rfl,(.refl _)⟩,⟨_,rfl,(.refl _)⟩,⟨_,rfl,(.refl _)⟩,⟨_,rfl,(.refl _)⟩,⟨_,rfl,(.refl _)⟩,trivial⟩ ⟨⟨_,rfl,(.refl _)⟩,⟨_,rfl,(.refl _)⟩,trivial⟩)
  rintro y35_1 _ h0
  refine tc aG 6 (.mk ?_)
  obtain rfl:=eU h0
  refine wR hret (rT (rT .nil)) ?_
  exact bT.bD (.cons (dZ rfl rfl rfl rfl rfl (Eq.symm rfl)) (.cons (.refl _) .nil))
  replace h0:=ct h0
  refine tc aG 7 (.mk ?_)
  obtain rfl:=eU h0
  refine wR hret (rT (rT .nil)) ?_
  exact bT.bD (.cons (.nil _) (.cons (.refl _) .nil))
  replace h0:=ct h0
  refine tc aG 6 (.mk ?_)
  obtain rfl:=eU h0
  refine wR hret (rT (rT .nil)) ?_
  exact bT.bD (.cons (.nil _) (.cons (.refl _) .nil))
def aQB (n:Nat) (a1:aA) (a2:Int) (a3:Int) (a4:Int) (a5:aM):WB (aA×Int) :=
 .al 1<|.al 2<|.al 3<|.ln 25 dV.av a1.dO<|.jn 0 [5,9,10,11] [1,2,3] [7,8] (λu17 (a:Bool×(List Int)×(List Int))=>[(12,.sl 7 (u17 7) 0 a.2.1.length),(13,.sl 8 (u17 8) 0 a.2.2.length),(14,aI a.1)]) (λ_ a=>[.nw 7 3 1 (a.2.1.map fI),.nw 8 3 1 (a.2.2.map fI)]) (.no 12 7 3 1<|.no 13 8 3 1<|.lp [1,2,3,5,9,10,11,24,25] [1,2,3] [7,8] (λu22 (a:Bool×Int×(List Int)×(List Int))=>[(12,.sl 7 (u22 7) 0 a.2.2.1.length),(13,.sl 8 (u22 8) 0 a.2.2.2.length),(14,aI a.1),(26,int a.2.1)]) (λ_ a=>[.nw 7 3 1 (a.2.2.1.map fI),.nw 8 3 1 (a.2.2.2.map fI)]) n ((false:Bool),0,(([]:List Int):List Int),(([]:List Int):List Int)) (pw λy0_3 q0=>(pw λy0_4 q1=>(pw λy0_5 y0_6=>.bB 27 (decide (y0_4<(a1.dO.length:Int))) λx11=>.ifs [27] x11 (.jn 1 [1,2,3,5,9,10,11,24,25,26] [1,2,3] [7,8] (λu25 (a:Bool×(List Int)×(List Int))=>[(12,.sl 7 (u25 7) 0 a.2.1.length),(13,.sl 8 (u25 8) 0 a.2.2.length),(14,aI a.1)]) (λ_ a=>[.nw 7 3 1 (a.2.1.map fI),.nw 8 3 1 (a.2.2.map fI)]) (.ix 29 dV.av a1.dO y0_4 λx12=>.al 4<|.jn 0 [1,2,3,5,9,10,11,12,13,14,15,16,24,25,26] [1,2,3,4,7,8] [] (λ_ (a:Bool)=>[(51,aI a)]) (λ_ _=>[]) (.dr [(0,[4]),(2,[1]),(3,[1]),(10,[4]),(11,[4]),(16,[4]),(17,[4])] [] [1,4] [] [0,1,2,3,4,5,6,7,8,9,10,11,12,13,14,15,16,17,18,19,20] (.iF 36 aP.av gE aP.dA a1.aW a2 λx14=>.cl 39 (UB x12 a2 x14.fD) aER aEP λx15=>.ifs [39] x15 (.bB 44 (decide (x12.Item=a3)) λx16=>.ifs [44] x16 (.bB 50 (decide (x12.Loc=a4)) λx17=>.ret x17) (.ret false)) (.ret false))) (λy1_1=>.ifs [51] y1_1 (.dr [(5,[4]),(6,[4]),(7,[4]),(8,[4])] [(11,[])] [4] [3,11] [0,1,2,4,5,6,7,8,9,10,3,11,12,13] (.to 54 (aH 1 fI ([y0_4]:List Int))<|.bI 61 (bA (x12.aS-x12.jJ)) λx18=>.to 62 (aH 1 fI ([x18]:List Int))<|.bl (y0_5++([y0_4]:List Int):List Int) λx19=>.as (x19.length<=68719476736) inferInstance<|.ge 55 0<|.bl (y0_6++([x18]:List Int):List Int) λx22=>.as (x22.length<=68719476736) inferInstance<|.ge 63 0<|.jn 0 [1,2,3,5,9,10,11,12,13,24,25,26] [1,2,3,7,8] [] (λ_ (a:Bool)=>[(14,aI a)]) (λ_ _=>[]) (.ifs [14] y0_3 (.ret true) (.bB 70 (decide (x12.aS>x12.jJ)) λx25=>.ret x25)) (λy3_1=>.ret ((y3_1:Bool),x19,x22)))) (.ret ((y0_3:Bool),y0_5,y0_6)))) (pw λy2_3 q0=>(pw λy2_4 y2_5=>.bI 72 (bA (y0_4+1)) λx26=>.brk ((y2_3:Bool),x26,y2_4,y2_5)) q0)) (.esc (.ret ((y0_3:Bool),y0_5,y0_6)))) q1) q0)) (pw λy4_3 q0=>(pw λy4_4 y4_5=>.bB 74 (!y4_3) λx27=>.ifs [74] x27 (.ret ((a1:aA),0)) (.bB 78 (decide (a5.bE<0)) λx28=>.jn 0 [5,9,10,11,12,13] [1,2,3,7,8] [] (λ_ (a:Int)=>[(17,int a)]) (λ_ _=>[]) (.ifs [78] x28 (.ret (-1)) (.ret 1)) (λy5_1=>.jK 8<|.cl 83 (DZ n a5.Value y4_5) XY (λ_=>U8) λx29=>.bB 87 (decide (x29.2≠0)) λx30=>.ifs [87] x30 (.ret ((a1:aA),x29.2)) (.bI 94 (bA (y5_1*a5.bE)) λx31=>.cl 96 (DZ n x31 y4_5) XY (λ_=>U8) λx32=>.bB 100 (decide (x32.2≠0)) λx33=>.ifs [100] x33 (.ret ((a1:aA),x32.2)) (.as (a1.dO.length<=68719476736) inferInstance<|.ge 105 9<|.jn 1 [5,10,11] [3] [] (λ_ (a:(List dV))=>[]) (λu30 a=>[.kp 1 [[int a1.bF.fO,int a1.bF.iB,aH 1 fI a1.bF.bN,aH 1 (fL 1 fI) a1.bF.Methods,aH 1 (fL 1 fI) a1.bF.fM,aH 8 aP.av a1.aW,aH 8 dH.av a1.dG,.sl 9 (u30 9) 0 a.length,aH 6 dD.av a1.bL,int a1.Done]],.kp 9 (a.map dV.av)]) (.lp [5,10,11,17,18,20,107,108] [3,7] [] (λ_ (a:Int×(List dV))=>[(109,int a.1)]) (λu31 a=>[.kp 1 [[int a1.bF.fO,int a1.bF.iB,aH 1 fI a1.bF.bN,aH 1 (fL 1 fI) a1.bF.Methods,aH 1 (fL 1 fI) a1.bF.fM,aH 8 aP.av a1.aW,aH 8 dH.av a1.dG,.sl 9 (u31 9) 0 a.2.length,aH 6 dD.av a1.bL,int a1.Done]],.kp 9 (a.2.map dV.av)]) n ((0:Int),(a1.dO:List dV)) (pw λy6_1 y6_2=>.bB 110 (decide (y6_1<(y4_4.length:Int))) λx36=>.ifs [110] x36 (.bo (ix y4_4 y6_1) λx37=>.gv 112<|.gv 113<|.dr [(0,[1]),(1,[1]),(3,[1]),(4,[1]),(16,[9]),(17,[9]),(19,[9]),(20,[9])] [(18,[1]),(21,[])] [1,9] [18,21] [0,1,2,3,4,5,6,7,8,9,10,11,12,13,14,15,16,17,18,19,20,21] (.ix 122 fI x29.1 y6_1 λx38=>.ix 127 fI x32.1 y6_1 λx39=>.bI 129 (bA (y5_1*x39)) λx40=>.bo (ix y6_2 x37) λx41=>.gv 130<|.gv 131<|.bl (y6_2.set (Int.toNat x37) ((⟨x41.fG,x41.Item,x41.Loc,x41.aS,x41.jJ,x38,x41.bE,x41.qT,x41.qW⟩:dV):dV):List dV) λx42=>.ge 1025018 0<|.gv 132<|.gv 133<|.bl (x42.set (Int.toNat x37) ((⟨x41.fG,x41.Item,x41.Loc,x41.aS,x41.jJ,x38,x40,x41.qT,x41.qW⟩:dV):dV):List dV) λx43=>.ge 1025021 0<|.bI 134 (bA (y6_1+1)) λx44=>.brk ((x44:Int),x43))) (.esc (.ret y6_2)))) (λy7_1=>.ret (((⟨a1.bF,a1.aW,a1.dG,y7_1,a1.bL,a1.Done⟩:aA):aA),0))))))) q0)
def aG5 (n:Nat) (a1:aA) (a2:Int) (a3:Int) (a4:Int) (a5:aM):Option (aA×Int):=(aQB n a1 a2 a3 a4 a5).run
theorem aNO {n a1 a2 a3 a4 a5}:PZ (aG5 n a1 a2 a3 a4 a5) 52 [.agg (aA.av a1),int a2,int a3,int a4,.agg (aM.av a5)] (λr=>.bD [.agg (aA.av r.1),int r.2]):=wq Tryz.func52
def aOX (n:Nat) (a1:aA) (a2:Int) (a3:Int) (a4:Int) (a5:aT):WB (aA×Int) :=
 .al 1<|.al 2<|.al 3<|.cl 19 (aA2 n a5) aKH aVG λx9=>.al 4<|.as (a1.aW.length<=68719476736) inferInstance<|.ge 24 5<|.dr [(0,[1]),(1,[1]),(3,[1]),(4,[1]),(6,[5]),(7,[5]),(8,[5]),(10,[5]),(11,[5])] [(9,[1]),(12,[])] [1,5] [9,12] [0,1,2,3,4,5,6,7,8,9,10,11,12] (.bo (ix a1.aW a2) λx13=>.gv 32<|.gv 33<|.gv 34<|.as (x13.cK.length<=68719476736) inferInstance<|.ge 35 6<|.gv 36<|.gv 37<|.ge 1003012 0<|.dr [(0,[1]),(1,[1]),(3,[5]),(4,[5]),(5,[5]),(10,[2]),(11,[6])] [(12,[])] [1,2,5,6] [12] [0,1,2,3,4,5,6,7,8,9,10,11,12] (.gv 41<|.gv 42<|.gv 43<|.bI 45 (bA (a3*2)) λx16=>.bI 47 (bA (x16+a4)) λx17=>.bo (ix x13.cK x17) λx18=>.gv 49<|.bl (x13.cK.set (Int.toNat x17) x9.1:List aT) λx19=>.ge 1004012 0<|.dg [(0,[4]),(1,[4]),(2,[4]),(3,[4]),(4,[4]),(5,[4]),(9,[7]),(10,[8]),(11,[9])] [(6,7),(7,8),(8,9),(9,7),(10,8),(11,9)] (.gv 50<|.gv 52<|.gv 54<|.al 7<|.al 8<|.al 9<|.jK 5<|.jK 6<|.bI 70 (bA (0-x9.2.a0.Value)) λx29=>.bI 73 (bA (x29-x9.2.a1.Value)) λx30=>.bI 76 (bA (x30-x9.2.a2.Value)) λx31=>.to 78 (aH 2 aQ.av ([(⟨5,x9.2.a0.Value⟩:aQ),(⟨7,x9.2.a1.Value⟩:aQ),(⟨8,x9.2.a2.Value⟩:aQ),(⟨0,x31⟩:aQ)]:List aQ))<|.cl 79 (nP n (⟨a1.bF,(a1.aW.set (Int.toNat a2) (⟨x13.fD,x13.Closed,x19,x13.dM,x13.d9,x13.eH,x13.Down,x13.gK⟩:aP)),a1.dG,a1.dO,a1.bL,a1.Done⟩:aA) a2 ([(⟨5,x9.2.a0.Value⟩:aQ),(⟨7,x9.2.a1.Value⟩:aQ),(⟨8,x9.2.a2.Value⟩:aQ),(⟨0,x31⟩:aQ)]:List aQ)) vC tY λx32=>.bB 83 (decide (x32.2≠0)) λx33=>.ifs [83] x33 (.ret ((x32.1:aA),x32.2)) (.cl 97 (nZ x32.1 a2 a3 (⟨0,0,0,0,0,x9.2.a0.Value,0,0,x9.2.a1.Value,x9.2.a2.Value,0⟩:dL)) tJ tT λx34=>.bB 101 (decide (x34.2≠0)) λx35=>.ifs [101] x35 (.ret ((x34.1:aA),x34.2)) (.cl 109 (aG5 n x34.1 a2 a3 a4 x9.2.a0) aMO aNO λx36=>.ret ((x36.1:aA),x36.2))))))
def aDS (n:Nat) (a1:aA) (a2:Int) (a3:Int) (a4:Int) (a5:aT):Option (aA×Int):=(aOX n a1 a2 a3 a4 a5).run
theorem aK8 {n a1 a2 a3 a4 a5}:PZ (aDS n a1 a2 a3 a4 a5) 21 [.agg (aA.av a1),int a2,int a3,int a4,.agg (aT.av a5)] (λr=>.bD [.agg (aA.av r.1),int r.2]):=wq Tryz.func21
def aCI (n:Nat) (a1:aA) (a2:Int) (a3:Int):WB (aM) :=
 .al 1<|.al 2<|.cl 13 (AL n a1 a2 a3) aCG aD1 λx6=>.al 3<|.ret ((x6.1:aM))
def wM (n:Nat) (a1:aA) (a2:Int) (a3:Int):Option (aM):=(aCI n a1 a2 a3).run
theorem CW {n a1 a2 a3}:PZ (wM n a1 a2 a3) 47 [.agg (aA.av a1),int a2,int a3] (λr=>.agg (aM.av r)):=wq Tryz.func47
def aQF (a1:Int) (a2:Int) (a3:Int):WB (Int) :=
 .jn 1 [0,1,2,6] [] [] (λ_ (a:Bool)=>[(18,aI a)]) (λ_ _=>[]) (.bB 10 (decide (a1<0)) λx4=>.ifs [10] x4 (.ret true) (.bB 13 (decide (a2<0)) λx5=>.ifs [13] x5 (.ret true) (.bB 17 (decide (a3<0)) λx6=>.ret x6))) (λy0_1=>.ifs [18] y0_1 (.ret ((0:Int))) (.cl 22 (FM a2 a3) aE7 aAL λx7=>.jn 0 [0,6,8] [] [] (λ_ (a:Bool)=>[(32,aI a)]) (λ_ _=>[]) (.bB 26 (decide (x7.1>0)) λx8=>.ifs [26] x8 (.ret true) (.bI 30 (wu64 a1) λx9=>.bB 31 (decide (x7.2>=x9)) λx10=>.ret x10)) (λy1_1=>.ifs [32] y1_1 (.ret ((0:Int))) (.bI 35 (bA x7.2) λx11=>.bI 36 (bA (a1-x11)) λx12=>.ret ((x12:Int))))))
def X8 (a1:Int) (a2:Int) (a3:Int):Option (Int):=(aQF a1 a2 a3).run
theorem aJL {a1 a2 a3}:PZ (X8 a1 a2 a3) 55 [int a1,int a2,int a3] int:=wq Tryz.func55
def aDR (n:Nat) (a1:aA) (a2:Int):WB (aA×Int) :=
 .al 1<|.al 2<|.al 3<|.jn 0 [2,3,4,5] [1,2,3] [] (λ_ (a:Bool)=>[(23,aI a)]) (λ_ _=>[]) (.bB 16 (decide (a2<0)) λx6=>.ifs [16] x6 (.ret true) (.ln 21 aP.av a1.aW<|.bB 22 (decide (a2>=(a1.aW.length:Int))) λx7=>.ret x7)) (λy0_1=>.ifs [23] y0_1 (.ret ((a1:aA),4)) (.iF 28 aP.av gE aP.dA a1.aW a2 λx8=>.al 4<|.as (x8.Down.length<=68719476736) inferInstance<|.ge 32 5<|.ln 38 fI x8.eH<|.bl (if (x8.eH.length:Int)<(x8.Down.length:Int) then (x8.eH.length:Int) else (x8.Down.length:Int):Int) λx12=>.gv 39<|.jn 0 [2,3,4,5] [1,2,3] [8] (λu17 (a:(List Int)×(List aQ))=>[(7,.sl 5 (u17 5) 0 a.1.length),(8,.sl 8 (u17 8) 0 a.2.length)]) (λ_ a=>[.kp 5 (a.1.map fI),.nw 8 82 2 (a.2.map aQ.av)]) (.no 8 8 82 2<|.lp [2,3,4,5,6,9,39] [1,2,3,4] [8] (λu21 (a:Int×(List Int)×(List aQ))=>[(7,.sl 5 (u21 5) 0 a.2.1.length),(8,.sl 8 (u21 8) 0 a.2.2.length),(40,int a.1)]) (λ_ a=>[.kp 5 (a.2.1.map fI),.nw 8 82 2 (a.2.2.map aQ.av)]) n ((0:Int),(x8.Down:List Int),(([]:List aQ):List aQ)) (pw λy1_2 q0=>(pw λy1_3 y1_4=>.bB 41 (decide (y1_2<x12)) λx14=>.ifs [41] x14 (.jn 1 [2,3,4,5,6,9,39,40] [1,2,3,4] [8] (λu24 (a:(List Int)×(List aQ))=>[(7,.sl 5 (u24 5) 0 a.1.length),(8,.sl 8 (u24 8) 0 a.2.length)]) (λ_ a=>[.kp 5 (a.1.map fI),.nw 8 82 2 (a.2.map aQ.av)]) (.ix 46 fI x8.eH y1_2 λx15=>.bB 48 (decide (x15>=0)) λx16=>.ifs [48] x16 (.inl 51 aR0 Tryz.func54 [1,2,3,4,5,8] [] (λ_ (a:Int)=>int a) (λ_ _=>[]) (.cl 10 (wM n a1 a2 y1_2) B9 CW λx17=>.al 6<|.dr [(0,[6]),(1,[6]),(2,[6]),(3,[6]),(4,[4]),(5,[4])] [] [4,6] [] [0,1,2,3,4,5,6,7,8,9,10] (.ix 18 fI x8.eH y1_2 λx19=>.cl 20 (X8 x17.Value x17.aS x19) aW1 aJL λx20=>.ret x20)) (λy2_1=>.bo (ix y1_3 y1_2) λx21=>.gv 55<|.gv 56<|.bI 57 (bA (y2_1-x21)) λx22=>.bI 62 (bA (0-x22)) λx23=>.to 64 (aH 2 aQ.av ([(⟨10,x22⟩:aQ),(⟨11,x23⟩:aQ)]:List aQ))<|.bl (y1_4++([(⟨10,x22⟩:aQ),(⟨11,x23⟩:aQ)]:List aQ):List aQ) λx24=>.as (x24.length<=68719476736) inferInstance<|.ge 65 0<|.gv 69<|.bl (y1_3.set (Int.toNat y1_2) y2_1:List Int) λx27=>.ge 1014004 0<|.ret ((x27:List Int),x24))) (.ret ((y1_3:List Int),y1_4))) (pw λy3_2 y3_3=>.bI 70 (bA (y1_2+1)) λx28=>.brk ((x28:Int),y3_2,y3_3))) (.esc (.ret ((y1_3:List Int),y1_4)))) q0)) (pw λy4_2 y4_3=>.jK 8<|.cl 75 (nP n a1 a2 y4_3) vC tY λx29=>.al 9<|.bB 79 (decide (x29.2≠0)) λx31=>.ifs [79] x31 (.ret ((a1:aA),x29.2)) (.as (x29.1.aW.length<=68719476736) inferInstance<|.ge 84 10<|.bo (ix x29.1.aW a2) λx34=>.gv 90<|.gv 91<|.ge 1020006 0<|.ret (((⟨x29.1.bF,(x29.1.aW.set (Int.toNat a2) (⟨x34.fD,x34.Closed,x34.cK,x34.dM,x34.d9,x34.eH,y4_2,x34.gK⟩:aP)),x29.1.dG,x29.1.dO,x29.1.bL,x29.1.Done⟩:aA):aA),0)))))
def MZ (n:Nat) (a1:aA) (a2:Int):Option (aA×Int):=(aDR n a1 a2).run
theorem aTN {n a1 a2}:PZ (MZ n a1 a2) 22 [.agg (aA.av a1),int a2] (λr=>.bD [.agg (aA.av r.1),int r.2]):=wq Tryz.func22
end
end Go.Pv
