import Derived.Test.YtihfgehjjbnffaaGreatXUc
set_option linter.unusedVariables false
set_option linter.unusedSimpArgs false
namespace Go.Pv
open Go.Proofs
set_option maxRecDepth 100000
set_option maxHeartbeats 4000000
noncomputable section
def US (n:Nat) (a1:List aM) (a2:Int):WB ((List aM)×aM×Int) :=
 .al 1<|.as (a1.length<=68719476736) inferInstance<|.ge 10 2<|.bB 12 (decide (a2<1)) λx6=>.ifs [12] x6 (.ret ((a1:List aM),((⟨0,0,0⟩:aM):aM),(1:Int))) (.jF 17 (zT n a1 a2) aD8 YV (λ_=>rfl) λx7=>.bB 18 (!x7) λx8=>.ifs [18] x8 (.ret ((a1:List aM),((⟨0,0,0⟩:aM):aM),(5:Int))) (.al 3<|.jn 0 [4,5,6,7] [1] [] (λu11 (a:Nat×Nat×(List aM)×aM)=>[(0,.sl 2 (u11 2) a.1 a.2.1)]) (λ_ a=>[.kp 2 (a.2.2.1.map aM.av),.kp 3 [[int a.2.2.2.aS,int a.2.2.2.Value,int a.2.2.2.bE]]]) (.lp [4,5,6,7] [1] [] (λu16 (a:Nat×Nat×Int×(List aM)×aM)=>[(0,.sl 2 (u16 2) a.1 a.2.1),(1,int a.2.2.1)]) (λ_ a=>[.kp 2 (a.2.2.2.1.map aM.av),.kp 3 [[int a.2.2.2.2.aS,int a.2.2.2.2.Value,int a.2.2.2.2.bE]]]) n ((0:Nat),(a1.length:Nat),(a2:Int),a1,((⟨0,0,0⟩:aM):aM)) (pw λy0_1 q0=>(pw λy0_2 q1=>(pw λy0_3 q2=>(pw λy0_4 y0_5=>.jn 0 [0,1,4,5,6,7] [1,2,3] [] (λ_ (a:Bool)=>[(27,aI a)]) (λ_ _=>[]) (.bB 23 (decide ((y0_2:Int)>0)) λx10=>.ifs [23] x10 (.bB 26 (decide (y0_3>0)) λx11=>.ret x11) (.ret false)) (λy1_1=>.ifs [27] y1_1 (.as ((0:Int)<=0/\0<(y0_2:Int)) inferInstance<|.bo (ix y0_4 (((y0_1:Nat):Int)+0)) λx13=>.gv 29<|.gv 30<|.al 4<|.bB 34 (decide (x13.aS>y0_3)) λx15=>.jn 0 [1,4,5,6,7,8] [1,3] [] (λu19 (a:Nat×Nat×(List aM)×aM)=>[(0,.sl 2 (u19 2) a.1 a.2.1)]) (λ_ a=>[.kp 2 (a.2.2.1.map aM.av),.kp 4 [[int a.2.2.2.aS,int a.2.2.2.Value,int a.2.2.2.bE]]]) (.ifs [34] x15 (.dr [(1,[4]),(2,[4]),(4,[4]),(5,[4]),(7,[4]),(8,[4]),(10,[4]),(11,[4])] [(14,[])] [4] [14] [0,1,2,3,4,5,6,7,8,9,10,11,12,13,14] (.cl 41 (oO n x13.Value y0_3 x13.aS) qZ rR λx16=>.cl 47 (oO n x13.bE y0_3 x13.aS) qZ rR λx17=>.dr [(4,[2]),(5,[2]),(6,[2]),(7,[4]),(8,[4]),(11,[2]),(12,[2]),(13,[2]),(14,[4]),(15,[4]),(18,[2]),(19,[2]),(20,[2]),(21,[4]),(22,[4]),(24,[2]),(25,[2]),(27,[2]),(28,[2]),(30,[2]),(31,[2])] [(26,[4]),(29,[4]),(32,[])] [2,4] [26,29,32] [0,1,2,3,4,5,6,7,8,9,10,11,12,13,14,15,16,17,18,19,20,21,22,23,24,25,26,27,28,29,30,31,32] (.as ((0:Int)<=0/\0<(y0_2:Int)) inferInstance<|.gv 53<|.gv 54<|.gv 55<|.bI 58 (bA (x13.aS-y0_3)) λx19=>.as ((0:Int)<=0/\0<(y0_2:Int)) inferInstance<|.gv 60<|.gv 61<|.gv 62<|.bI 65 (bA (x13.Value-x16)) λx21=>.as ((0:Int)<=0/\0<(y0_2:Int)) inferInstance<|.gv 67<|.gv 68<|.gv 69<|.bI 72 (bA (x13.bE-x17)) λx23=>.as ((0:Int)<=0/\0<(y0_2:Int)) inferInstance<|.gv 73<|.gv 74<|.bl (y0_4.set (Int.toNat (((y0_1:Nat):Int)+0)) ((⟨x19,x13.Value,x13.bE⟩:aM):aM):List aM) λx25=>.ge 1011026 0<|.as ((0:Int)<=0/\0<(y0_2:Int)) inferInstance<|.gv 75<|.gv 76<|.bl (x25.set (Int.toNat (((y0_1:Nat):Int)+0)) ((⟨x19,x21,x13.bE⟩:aM):aM):List aM) λx27=>.ge 1011029 0<|.as ((0:Int)<=0/\0<(y0_2:Int)) inferInstance<|.gv 77<|.gv 78<|.bl (x27.set (Int.toNat (((y0_1:Nat):Int)+0)) ((⟨x19,x21,x23⟩:aM):aM):List aM) λx29=>.ge 1011032 0<|.ret ((y0_1:Nat),(y0_2:Nat),x29,((⟨y0_3,x16,x17⟩:aM):aM))))) (.as ((0:Int)<=1/\1<=(y0_2:Int)/\(y0_2:Int)<=(y0_2:Int)/\1<(y0_2+1:Int)) inferInstance<|.bl (if (Int.toNat (y0_2:Int))=1 then y0_1 else y0_1+1:Nat) λx31=>.gv 84<|.ret ((x31:Nat),(((Int.toNat (y0_2:Int))-1):Nat),y0_4,x13))) (pw λy2_1 q0=>(pw λy2_2 q1=>(pw λy2_3 y2_4=>.dr [(0,[3]),(1,[3]),(2,[4]),(3,[4]),(5,[3]),(6,[3]),(7,[4]),(8,[4]),(10,[3]),(11,[3]),(12,[4]),(13,[4]),(15,[3]),(17,[3]),(19,[3])] [(16,[4]),(18,[4]),(20,[])] [3,4] [16,18,20] [0,1,2,3,4,5,6,7,8,9,10,11,12,13,14,15,16,17,18,19,20] (.bI 89 (bA (y0_5.aS+y2_4.aS)) λx32=>.bI 94 (bA (y0_5.Value+y2_4.Value)) λx33=>.bI 99 (bA (y0_5.bE+y2_4.bE)) λx34=>.bI 106 (bA (y0_3-y2_4.aS)) λx35=>.brk ((y2_1:Nat),(y2_2:Nat),(x35:Int),y2_3,((⟨x32,x33,x34⟩:aM):aM)))) q1) q0)) (.esc (.ret ((y0_1:Nat),(y0_2:Nat),y0_4,y0_5))))) q2) q1) q0)) (pw λy3_1 q0=>(pw λy3_2 q1=>(pw λy3_3 y3_4=>.dr [(1,[3])] [(3,[])] [3] [3] [0,1,2,3,4] (.as (y3_1+y3_2<=y3_3.length) inferInstance<|.ret (((((y3_3).drop y3_1).take y3_2):List aM),y3_4,(0:Int)))) q1) q0)))
def xX (n:Nat) (a1:List aM) (a2:Int):Option ((List aM)×aM×Int):=(US n a1 a2).run
theorem ZH {n a1 a2}:PZ (xX n a1 a2) 194 [aH 3 aM.av a1,int a2] (λr=>.bD [aH 3 aM.av r.1,.agg (aM.av r.2.1),int r.2.2]):=by
 refine wm Tryz.func194 ?_
 intro v3
 refine .mk λp4=>?_
 refine .mk _ ⟨λ_=>eO rfl rfl (.cons rfl .nil) xI (jD (yA.pc (id:=2) (l:=a1) rfl p4) (.cons (.refl _) .nil)),λ_ _ _=>trivial⟩ ?_
 rintro _ _ ⟨v5,rfl,rfl⟩
 refine .mk λx6=>?_
 refine .mk ?_ ?_
 exact .mk (bT.bD (.cons (dZ rfl rfl rfl rfl rfl (Eq.symm rfl)) (.cons (.refl _) (.cons (.refl _) .nil))))
 refine .mk (λx7 e7=>?_) rfl (by rintro _ rfl;exact (.cons (dZ rfl rfl rfl rfl rfl (Eq.symm rfl)) (.cons (.refl _) .nil)))
 refine .mk λx8=>?_
 refine .mk ?_ ?_
 exact .mk (bT.bD (.cons (dZ rfl rfl rfl rfl rfl (Eq.symm rfl)) (.cons (.refl _) (.cons (.refl _) .nil))))
 intro v9
 refine .mk ?_ ?_
 refine .mk ?_
 rintro ⟨y0_1,y0_2,y0_3,y0_4,y0_5⟩ _
 refine .mk ?_ ?_
 refine .mk λx10=>?_
 refine .mk ?_ ?_
 refine .mk λx11=>?_
 exact .mk
 exact .mk
 intro _ _
 refine .mk ?_ ?_
 refine .mk λp12=>?_
 refine .mk λx13 e13=>?_
 refine .mk _ (bK (nN rfl Tryz.underlying57 kD rfl rfl rfl rfl rfl p12 (List.length_map _) e13)) ?_
 refine .mk _ (bK (fU rfl kD rfl (.pt rfl rfl (dN e13)) rfl)) ?_
 intro v14
 refine .mk λx15=>?_
 refine .mk ?_ ?_
 refine .mk ?_ ?_
 refine .mk ?_
 refine .mk λx16 e16=>?_
 refine .mk λx17 e17=>?_
 refine .mk ?_
 refine .mk λp18=>?_
 refine .mk _ (λH hH _=>nN rfl Tryz.underlying57 kD rfl rfl ((hH _ (by decide)).trans rfl) rfl rfl p18 (List.length_map _) e13) ?_
 refine .mk _ (λH hH _=>fZ rfl KW rfl (.pt ((hH _ (by decide)).trans rfl) rfl (dN e13)) (.pt _ _ _ _ _)) ?_
 refine .mk _ (λH hH _=>fU rfl dP rfl (.pt ((hH _ (by decide)).trans rfl) rfl (dN e13)) rfl) ?_
 refine .mk λx19=>?_
 refine .mk λp20=>?_
 refine .mk _ (λH hH _=>nN rfl Tryz.underlying57 kD rfl rfl ((hH _ (by decide)).trans rfl) rfl rfl p20 (List.length_map _) e13) ?_
 refine .mk _ (λH hH _=>fZ rfl xE rfl (.pt ((hH _ (by decide)).trans rfl) rfl (dN e13)) (.pt _ _ _ _ _)) ?_
 refine .mk _ (λH hH _=>fU rfl dP rfl (.pt ((hH _ (by decide)).trans rfl) rfl (dN e13)) rfl) ?_
 refine .mk λx21=>?_
 refine .mk λp22=>?_
 refine .mk _ (λH hH _=>nN rfl Tryz.underlying57 kD rfl rfl ((hH _ (by decide)).trans rfl) rfl rfl p22 (List.length_map _) e13) ?_
 refine .mk _ (λH hH _=>fZ rfl K6 rfl (.pt ((hH _ (by decide)).trans rfl) rfl (dN e13)) (.pt _ _ _ _ _)) ?_
 refine .mk _ (λH hH _=>fU rfl dP rfl (.pt ((hH _ (by decide)).trans rfl) rfl (dN e13)) rfl) ?_
 refine .mk λx23=>?_
 refine .mk λp24=>?_
 refine .mk _ (λH hH _=>nN rfl Tryz.underlying57 kD rfl rfl ((hH _ (by decide)).trans rfl) rfl rfl p24 (List.length_map _) e13) ?_
 refine .mk _ (λH hH _=>fZ rfl KW rfl (.pt ((hH _ (by decide)).trans rfl) rfl (dN e13)) (.pt _ _ _ _ _)) ?_
 refine .mk λx25 e25=>?_
 have fx25:=iE e13 e25;have lx25:=iD e25 (rfl:y0_4.length=y0_4.length)
 refine .mk _ ⟨λ_=>bY.eX (fH (ob':=(⟨38,3,true,true,_,x25.map aM.av⟩:bH)) (fC rfl dP rfl rfl rfl rfl rfl (dN e13) rfl rfl rfl) (iC (jB e25))) (λ_ h=>h) (λ_ _=>trivial),by rintro _ _ ⟨rfl,rfl⟩;exact ⟨rfl,trivial⟩⟩ ?_
 rintro _ _ ⟨rfl,rfl⟩
 refine .mk λp26=>?_
 refine .mk _ (λH hH _=>nN rfl Tryz.underlying57 kD rfl rfl ((hH _ (by decide)).trans rfl) rfl rfl p26 (List.length_map _) fx25) ?_
 refine .mk _ (λH hH _=>fZ rfl xE rfl (.pt ((hH _ (by decide)).trans rfl) rfl (dN fx25)) (.pt _ _ _ _ _)) ?_
 refine .mk λx27 e27=>?_
 have fx27:=iE fx25 e27;have lx27:=iD e27 lx25
 refine .mk _ ⟨λ_=>bY.eX (fH (ob':=(⟨38,3,true,true,_,x27.map aM.av⟩:bH)) (fC rfl dP rfl rfl rfl rfl rfl (dN fx25) rfl rfl rfl) (iC (jB e27))) (λ_ h=>h) (λ_ _=>trivial),by rintro _ _ ⟨rfl,rfl⟩;exact ⟨rfl,trivial⟩⟩ ?_
 rintro _ _ ⟨rfl,rfl⟩
 refine .mk λp28=>?_
 refine .mk _ (λH hH _=>nN rfl Tryz.underlying57 kD rfl rfl ((hH _ (by decide)).trans rfl) rfl rfl p28 (List.length_map _) fx27) ?_
 refine .mk _ (λH hH _=>fZ rfl K6 rfl (.pt ((hH _ (by decide)).trans rfl) rfl (dN fx27)) (.pt _ _ _ _ _)) ?_
 refine .mk λx29 e29=>?_
 have fx29:=iE fx27 e29;have lx29:=iD e29 lx27
 refine .mk _ ⟨λ_=>bY.eX (fH (ob':=(⟨38,3,true,true,_,x29.map aM.av⟩:bH)) (fC rfl dP rfl rfl rfl rfl rfl (dN fx27) rfl rfl rfl) (iC (jB e29))) (λ_ h=>h) (λ_ _=>trivial),by rintro _ _ ⟨rfl,rfl⟩;exact trivial⟩ ?_
 rintro _ _ ⟨rfl,rfl⟩
 exact .mk
 refine .mk λp30=>?_
 refine .mk λx31 e31=>?_
 refine .mk _ (bK (WW (len:=y0_2) (i:=1) (j:=(Int.toNat (y0_2:Int))) rfl Tryz.underlying57 kD rfl rfl rfl rfl (.yes rfl (by first | omega | (dsimp only;omega) | (dsimp only at *;omega))) (.yes rfl (by first | omega | (dsimp only;omega) | (dsimp only at *;omega))) (.yes rfl (by first | omega | (dsimp only;omega) | (dsimp only at *;omega))) (by first | omega | (dsimp only;omega) | (dsimp only at *;omega)) (by first | omega | (dsimp only;omega) | (dsimp only at *;omega)) e31)) ?_
 exact .mk
 intro _ _
 refine .mk ?_
 refine .mk λx32=>?_
 refine .mk λx33=>?_
 refine .mk λx34=>?_
 refine .mk λx35=>?_
 exact .mk
 exact .mk
 rintro ⟨y3_1,y3_2,y3_3,y3_4⟩ _
 refine .mk ?_
 refine .mk λp36=>?_
 exact .mk (bT.bD (.cons (KC (l:=y3_3) rfl rfl rfl rfl (iT.refl _) (by first | omega | (simp only [List.length_set];omega)) rfl) (.cons (.refl _) (.cons (.refl _) .nil))))
def VY (n:Nat) (a1:List aM) (a2:Int):WB ((List aM)×aM×Int) :=
 .al 1<|.inl 7 KY Tryz.func149 [1] [] (λ_ (a:Unit)=>.agg [.fn (.func 193) [] [],.fn (.func 194) [] [],.fn (.func 127) [] []]) (λ_ _=>[]) (.al 2<|.ret ()) (λ_=>.cl 11 (xX n a1 a2) TS ZH λx5=>.ret ((x5.1:List aM),x5.2.1,x5.2.2))
def uW (n:Nat) (a1:List aM) (a2:Int):Option ((List aM)×aM×Int):=(VY n a1 a2).run
theorem FJ {n a1 a2}:PZ (uW n a1 a2) 96 [aH 3 aM.av a1,int a2] (λr=>.bD [aH 3 aM.av r.1,.agg (aM.av r.2.1),int r.2.2]):=wq Tryz.func96
def VZ (a1:aT) (a2:List aM):WB (aT) :=
 .al 1<|.al 2<|.as (a2.length<=68719476736) inferInstance<|.ge 6 3<|.ret (((⟨a2,a1.bR⟩:aT):aT))
def rM (a1:aT) (a2:List aM):Option (aT):=(VZ a1 a2).run
theorem AB {a1 a2}:PZ (rM a1 a2) 82 [.agg (aT.av a1),aH 3 aM.av a2] (λr=>.agg (aT.av r)):=wq Tryz.func82
def YN (a1:Int):WB (Bool) :=
 .jn 1 [] [] [] (λ_ (a:Bool)=>[(2,aI a)]) (λ_ _=>[]) (.bB 4 (decide (a1>=0)) λx2=>.ifs [4] x2 (.bB 7 (decide (a1<3)) λx3=>.ret x3) (.ret false)) (λy0_1=>.ret ((y0_1:Bool)))
def FF (a1:Int):Option (Bool):=(YN a1).run
theorem aDB {a1}:PZ (FF a1) 83 [int a1] aI:=wq Tryz.func83
def aF3 (n:Nat) (a1:aT):WB (Int) :=
 .al 1<|.ln 10 aM.av a1.bJ<|.jn 0 [1,2] [1] [] (λ_ (a:Int)=>[(3,int a)]) (λ_ _=>[]) (.lp [1,2,9,10] [1] [] (λ_ (a:Int×Int)=>[(3,int a.1),(11,int a.2)]) (λ_ _=>[]) n ((0:Int),0) (pw λy0_1 y0_2=>.bB 12 (decide (y0_2<(a1.bJ.length:Int))) λx3=>.ifs [12] x3 (.ix 13 aM.av a1.bJ y0_2 λx4=>.al 2<|.bI 18 (bA (y0_1+x4.aS)) λx6=>.bI 19 (bA (y0_2+1)) λx7=>.brk ((x6:Int),x7)) (.esc (.ret y0_1)))) (λy1_1=>.jn 1 [2] [] [] (λ_ (a:Int)=>[(3,int a)]) (λ_ _=>[]) (.lp [2,21] [] [] (λ_ (a:Int×Int)=>[(3,int a.1),(22,int a.2)]) (λ_ _=>[]) n ((y1_1:Int),0) (pw λy2_1 y2_2=>.bB 23 (decide (y2_2<3)) λx8=>.ifs [23] x8 (.bo (ix ([a1.bR.a0,a1.bR.a1,a1.bR.a2]:List Int) y2_2) λx9=>.gv 24<|.bI 27 (bA (y2_1-x9)) λx10=>.bI 28 (bA (y2_2+1)) λx11=>.brk ((x10:Int),x11)) (.esc (.ret y2_1)))) (λy3_1=>.ret ((y3_1:Int))))
def BY (n:Nat) (a1:aT):Option (Int):=(aF3 n a1).run
theorem UX {n a1}:PZ (BY n a1) 84 [.agg (aT.av a1)] int:=by
 refine wm Tryz.func84 ?_
 intro v2
 refine .mk ?_
 refine .mk ?_ ?_
 refine .mk ?_
 intro _ _
 refine .mk λx3=>?_
 refine .mk ?_ ?_
 refine .mk λx4 e4=>?_
 intro v5
 refine .mk λx6=>?_
 refine .mk λx7=>?_
 exact .mk
 exact .mk
 intro _ _
 refine .mk ?_ ?_
 refine .mk ?_
 intro _ _
 refine .mk λx8=>?_
 refine .mk ?_ ?_
 refine .mk λx9 e9=>?_
 refine .mk _ (bK (xD (g:=fI) (l:=([a1.bR.a0,a1.bR.a1,a1.bR.a2]:List Int)) (v:=x9) (w:=int x9) rfl Tryz.underlying58 dP rfl rfl rfl e9 (λ_=>rfl) hw1)) ?_
 refine .mk λx10=>?_
 refine .mk λx11=>?_
 exact .mk
 exact .mk
 intro _ _
 exact .mk
def ZO (n:Nat) (a1:aT) (a2:Int) (a3:Int):WB (aT×Int) :=
 .al 1<|.al 2<|.cl 11 (rM a1 a1.bJ) zX AB λx6=>.jn 1 [1,2,3,6,7] [1,2] [] (λ_ (a:Bool)=>[(12,aI a)]) (λ_ _=>[]) (.cl 14 (FF a2) YT aDB λx7=>.bB 15 (!x7) λx8=>.ifs [15] x8 (.ret true) (.bB 18 (decide (a3<1)) λx9=>.ret x9)) (λy0_1=>.ifs [12] y0_1 (.ret ((x6:aT),1)) (.cl 24 (BY n x6) UP UX λx10=>.bB 25 (decide (a3>x10)) λx11=>.ifs [25] x11 (.ret ((x6:aT),5)) (.sp [1] a2 0 (.gv 29<|.bI 32 (bA (x6.bR.a0+a3)) λx14=>.gv 34<|.ret (((⟨x6.bJ,(⟨x14,x6.bR.a1,x6.bR.a2⟩:jE)⟩:aT):aT),0)) (.sp [1] a2 1 (.gv 29<|.bI 32 (bA (x6.bR.a1+a3)) λx13=>.gv 34<|.ret (((⟨x6.bJ,(⟨x6.bR.a0,x13,x6.bR.a2⟩:jE)⟩:aT):aT),0)) (.sa [1] a2 2 (.gv 29<|.bI 32 (bA (x6.bR.a2+a3)) λx12=>.gv 34<|.ret (((⟨x6.bJ,(⟨x6.bR.a0,x6.bR.a1,x12⟩:jE)⟩:aT):aT),0)))))))
def L6 (n:Nat) (a1:aT) (a2:Int) (a3:Int):Option (aT×Int):=(ZO n a1 a2 a3).run
theorem aML {n a1 a2 a3}:PZ (L6 n a1 a2 a3) 37 [.agg (aT.av a1),int a2,int a3] (λr=>.bD [.agg (aT.av r.1),int r.2]):=wq Tryz.func37
def aF6 (n:Nat) (a1:aT) (a2:Int):WB (aT×aM×Int) :=
 .al 1<|.al 2<|.al 3<|.bB 12 (decide (a2<1)) λx6=>.ifs [12] x6 (.cl 16 (rM a1 a1.bJ) zX AB λx7=>.ret ((x7:aT),((⟨0,0,0⟩:aM):aM),1)) (.cl 21 (BY n a1) UP UX λx8=>.bB 22 (decide (a2>x8)) λx9=>.ifs [22] x9 (.cl 26 (rM a1 a1.bJ) zX AB λx10=>.ret ((x10:aT),((⟨0,0,0⟩:aM):aM),5)) (.cl 32 (uW n a1.bJ a2) CL FJ λx11=>.al 4<|.dr [(0,[1]),(3,[4])] [(5,[4]),(6,[])] [1,4] [5,6] [0,1,2,3,4,5,6,7] (.cl 38 (rM a1 x11.1) zX AB λx13=>.ret ((x13:aT),x11.2.1,x11.2.2))))
def NU (n:Nat) (a1:aT) (a2:Int):Option (aT×aM×Int):=(aF6 n a1 a2).run
theorem aJV {n a1 a2}:PZ (NU n a1 a2) 256 [.agg (aT.av a1),int a2] (λr=>.bD [.agg (aT.av r.1),.agg (aM.av r.2.1),int r.2.2]):=wq Tryz.func256
def aFU (n:Nat) (a1:List aM) (a2:Int) (a3:Int):WB ((List aM)×aM×Int) :=
 .al 1<|.cl 15 (C6 a3) TA O0 λx5=>.bB 16 (!x5) λx6=>.ifs [16] x6 (.as (a1.length<=68719476736) inferInstance<|.ge 18 2<|.ret ((a1:List aM),((⟨0,0,0⟩:aM):aM),(1:Int))) (.inl 23 CL Tryz.func96 [1] [6] (λu17 (a:Nat×Nat×aM×Int×(List aM))=>.bD [.sl 6 (u17 6) a.1 a.2.1,.agg [int a.2.2.1.aS,int a.2.2.1.Value,int a.2.2.1.bE],int a.2.2.2.1]) (λ_ a=>[.nw 6 38 3 (a.2.2.2.2.map aM.av)]) (.al 3<|.inl 7 KY Tryz.func149 [1,3] [] (λ_ (a:Unit)=>.agg [.fn (.func 193) [] [],.fn (.func 194) [] [],.fn (.func 127) [] []]) (λ_ _=>[]) (.al 4<|.ret ()) (λ_=>.inl 11 TS Tryz.func194 [1,3] [6] (λu32 (a:Nat×Nat×aM×Int×(List aM))=>.bD [.sl 6 (u32 6) a.1 a.2.1,.agg [int a.2.2.1.aS,int a.2.2.1.Value,int a.2.2.1.bE],int a.2.2.2.1]) (λ_ a=>[.nw 6 38 3 (a.2.2.2.2.map aM.av)]) (.al 5<|.as (a1.length<=68719476736) inferInstance<|.ge 10 6<|.bB 12 (decide (a2<1)) λx14=>.ifs [12] x14 (.ret ((0:Nat),(a1.length:Nat),((⟨0,0,0⟩:aM):aM),(1:Int),a1)) (.jF 17 (zT n a1 a2) aD8 YV (λ_=>rfl) λx15=>.bB 18 (!x15) λx16=>.ifs [18] x16 (.ret ((0:Nat),(a1.length:Nat),((⟨0,0,0⟩:aM):aM),(5:Int),a1)) (.al 7<|.jn 0 [4,5,6,7] [1,3,5] [] (λu33 (a:Nat×Nat×(List aM)×aM)=>[(0,.sl 6 (u33 6) a.1 a.2.1)]) (λ_ a=>[.kp 6 (a.2.2.1.map aM.av),.kp 7 [[int a.2.2.2.aS,int a.2.2.2.Value,int a.2.2.2.bE]]]) (.lp [4,5,6,7] [1,3,5] [] (λu38 (a:Nat×Nat×Int×(List aM)×aM)=>[(0,.sl 6 (u38 6) a.1 a.2.1),(1,int a.2.2.1)]) (λ_ a=>[.kp 6 (a.2.2.2.1.map aM.av),.kp 7 [[int a.2.2.2.2.aS,int a.2.2.2.2.Value,int a.2.2.2.2.bE]]]) n ((0:Nat),(a1.length:Nat),(a2:Int),a1,((⟨0,0,0⟩:aM):aM)) (pw λy1_1 q0=>(pw λy1_2 q1=>(pw λy1_3 q2=>(pw λy1_4 y1_5=>.jn 0 [0,1,4,5,6,7] [1,3,5,6,7] [] (λ_ (a:Bool)=>[(27,aI a)]) (λ_ _=>[]) (.bB 23 (decide ((y1_2:Int)>0)) λx18=>.ifs [23] x18 (.bB 26 (decide (y1_3>0)) λx19=>.ret x19) (.ret false)) (λy2_1=>.ifs [27] y2_1 (.as ((0:Int)<=0/\0<(y1_2:Int)) inferInstance<|.bo (ix y1_4 (((y1_1:Nat):Int)+0)) λx21=>.gv 29<|.gv 30<|.al 8<|.bB 34 (decide (x21.aS>y1_3)) λx23=>.jn 0 [1,4,5,6,7,8] [1,3,5,7] [] (λu41 (a:Nat×Nat×(List aM)×aM)=>[(0,.sl 6 (u41 6) a.1 a.2.1)]) (λ_ a=>[.kp 6 (a.2.2.1.map aM.av),.kp 8 [[int a.2.2.2.aS,int a.2.2.2.Value,int a.2.2.2.bE]]]) (.ifs [34] x23 (.dr [(1,[8]),(2,[8]),(4,[8]),(5,[8]),(7,[8]),(8,[8]),(10,[8]),(11,[8])] [(14,[])] [8] [14] [0,1,2,3,4,5,6,7,8,9,10,11,12,13,14] (.cl 41 (oO n x21.Value y1_3 x21.aS) qZ rR λx24=>.cl 47 (oO n x21.bE y1_3 x21.aS) qZ rR λx25=>.dr [(4,[6]),(5,[6]),(6,[6]),(7,[8]),(8,[8]),(11,[6]),(12,[6]),(13,[6]),(14,[8]),(15,[8]),(18,[6]),(19,[6]),(20,[6]),(21,[8]),(22,[8]),(24,[6]),(25,[6]),(27,[6]),(28,[6]),(30,[6]),(31,[6])] [(26,[8]),(29,[8]),(32,[])] [6,8] [26,29,32] [0,1,2,3,4,5,6,7,8,9,10,11,12,13,14,15,16,17,18,19,20,21,22,23,24,25,26,27,28,29,30,31,32] (.as ((0:Int)<=0/\0<(y1_2:Int)) inferInstance<|.gv 53<|.gv 54<|.gv 55<|.bI 58 (bA (x21.aS-y1_3)) λx27=>.as ((0:Int)<=0/\0<(y1_2:Int)) inferInstance<|.gv 60<|.gv 61<|.gv 62<|.bI 65 (bA (x21.Value-x24)) λx29=>.as ((0:Int)<=0/\0<(y1_2:Int)) inferInstance<|.gv 67<|.gv 68<|.gv 69<|.bI 72 (bA (x21.bE-x25)) λx31=>.as ((0:Int)<=0/\0<(y1_2:Int)) inferInstance<|.gv 73<|.gv 74<|.bl (y1_4.set (Int.toNat (((y1_1:Nat):Int)+0)) ((⟨x27,x21.Value,x21.bE⟩:aM):aM):List aM) λx33=>.ge 1011026 0<|.as ((0:Int)<=0/\0<(y1_2:Int)) inferInstance<|.gv 75<|.gv 76<|.bl (x33.set (Int.toNat (((y1_1:Nat):Int)+0)) ((⟨x27,x29,x21.bE⟩:aM):aM):List aM) λx35=>.ge 1011029 0<|.as ((0:Int)<=0/\0<(y1_2:Int)) inferInstance<|.gv 77<|.gv 78<|.bl (x35.set (Int.toNat (((y1_1:Nat):Int)+0)) ((⟨x27,x29,x31⟩:aM):aM):List aM) λx37=>.ge 1011032 0<|.ret ((y1_1:Nat),(y1_2:Nat),x37,((⟨y1_3,x24,x25⟩:aM):aM))))) (.as ((0:Int)<=1/\1<=(y1_2:Int)/\(y1_2:Int)<=(y1_2:Int)/\1<(y1_2+1:Int)) inferInstance<|.bl (if (Int.toNat (y1_2:Int))=1 then y1_1 else y1_1+1:Nat) λx39=>.gv 84<|.ret ((x39:Nat),(((Int.toNat (y1_2:Int))-1):Nat),y1_4,x21))) (pw λy3_1 q0=>(pw λy3_2 q1=>(pw λy3_3 y3_4=>.dr [(0,[7]),(1,[7]),(2,[8]),(3,[8]),(5,[7]),(6,[7]),(7,[8]),(8,[8]),(10,[7]),(11,[7]),(12,[8]),(13,[8]),(15,[7]),(17,[7]),(19,[7])] [(16,[8]),(18,[8]),(20,[])] [7,8] [16,18,20] [0,1,2,3,4,5,6,7,8,9,10,11,12,13,14,15,16,17,18,19,20] (.bI 89 (bA (y1_5.aS+y3_4.aS)) λx40=>.bI 94 (bA (y1_5.Value+y3_4.Value)) λx41=>.bI 99 (bA (y1_5.bE+y3_4.bE)) λx42=>.bI 106 (bA (y1_3-y3_4.aS)) λx43=>.brk ((y3_1:Nat),(y3_2:Nat),(x43:Int),y3_3,((⟨x40,x41,x42⟩:aM):aM)))) q1) q0)) (.esc (.ret ((y1_1:Nat),(y1_2:Nat),y1_4,y1_5))))) q2) q1) q0)) (pw λy4_1 q0=>(pw λy4_2 q1=>(pw λy4_3 y4_4=>.dr [(1,[7])] [(3,[])] [7] [3] [0,1,2,3,4] (.ret ((y4_1:Nat),(y4_2:Nat),y4_4,(0:Int),y4_3))) q1) q0)))) (pw λy5_2 q0=>(pw λy5_3 q1=>(pw λy5_4 q2=>(pw λy5_5 y5_6=>.ret ((y5_2:Nat),(y5_3:Nat),y5_4,(y5_5:Int),y5_6)) q2) q1) q0))) (pw λy6_2 q0=>(pw λy6_3 q1=>(pw λy6_4 q2=>(pw λy6_5 y6_6=>.al 9<|.jn 0 [1,2,6,7,8,9,10,11] [1,6,9] [] (λ_ (a:Bool)=>[(33,aI a)]) (λ_ _=>[]) (.bB 28 (decide (y6_5≠0)) λx45=>.ifs [28] x45 (.ret true) (.bB 32 (decide ((y6_3:Int)=0)) λx46=>.ret x46)) (λy7_1=>.ifs [33] y7_1 (.dr [(1,[9])] [(4,[])] [9] [4] [0,1,2,3,4,5] (.as (y6_2+y6_3<=y6_6.length) inferInstance<|.ret (((((y6_6).drop y6_2).take y6_3):List aM),y6_4,(y6_5:Int)))) (.cl 40 (AU n a3 a2) VQ RJ λx48=>.dr [(1,[6]),(2,[6]),(3,[6]),(4,[9]),(5,[9])] [] [6,9] [] [0,1,2,3,4,5,6,7] (.as ((0:Int)<=0/\0<(y6_3:Int)) inferInstance<|.bo (ix y6_6 (((y6_2:Nat):Int)+0)) λx50=>.gv 44<|.gv 45<|.gv 46<|.bI 49 (bA (x50.Value+y6_4.Value)) λx51=>.jn 0 [6,7,8,9,10,12,13] [1,6,9] [] (λ_ (a:Bool)=>[(56,aI a)]) (λ_ _=>[]) (.bB 51 (decide (x48.2≠0)) λx52=>.ifs [51] x52 (.ret true) (.bB 55 (decide (x48.1>x51)) λx53=>.ret x53)) (λy8_1=>.jn 0 [6,7,8,9,10] [1,6,9] [] (λ_ (a:Int)=>[(12,int a)]) (λ_ _=>[]) (.ifs [56] y8_1 (.ret (x51:Int)) (.ret (x48.1:Int))) (λy9_1=>.dr [(1,[6]),(2,[6]),(3,[6]),(4,[9]),(5,[9]),(9,[6]),(10,[6])] [(11,[])] [6,9] [11] [0,1,2,3,4,5,6,7,8,9,10,11] (.as ((0:Int)<=0/\0<(y6_3:Int)) inferInstance<|.gv 59<|.gv 60<|.gv 61<|.bI 65 (bA (y6_4.Value-y9_1)) λx55=>.bI 66 (bA (x50.Value+x55)) λx56=>.as ((0:Int)<=0/\0<(y6_3:Int)) inferInstance<|.gv 67<|.gv 68<|.bl (y6_6.set (Int.toNat (((y6_2:Nat):Int)+0)) ((⟨x50.aS,x56,x50.bE⟩:aM):aM):List aM) λx58=>.ge 1010011 0<|.dr [(1,[9])] [(3,[])] [9] [3] [0,1,2,3,4] (.as (y6_2+y6_3<=x58.length) inferInstance<|.ret (((((x58).drop y6_2).take y6_3):List aM),((⟨y6_4.aS,y9_1,y6_4.bE⟩:aM):aM),(0:Int)))))))))) q2) q1) q0))
def MJ (n:Nat) (a1:List aM) (a2:Int) (a3:Int):Option ((List aM)×aM×Int):=(aFU n a1 a2 a3).run
theorem aWK {n a1 a2 a3}:PZ (MJ n a1 a2 a3) 260 [aH 3 aM.av a1,int a2,int a3] (λr=>.bD [aH 3 aM.av r.1,.agg (aM.av r.2.1),int r.2.2]):=by
 refine wm Tryz.func260 ?_
 intro v4
 refine .mk λx5 e5=>?_
 refine .mk λx6=>?_
 refine .mk ?_ ?_
 refine .mk λp7=>?_
 refine .mk _ ⟨λ_=>eO rfl rfl (.cons rfl .nil) xI (jD (yA.pc (id:=2) (l:=a1) rfl p7) (.cons (.refl _) .nil)),λ_ _ _=>trivial⟩ ?_
 rintro _ _ ⟨v8,rfl,rfl⟩
 exact .mk (bT.bD (.cons (dZ rfl rfl rfl rfl rfl (Eq.symm rfl)) (.cons (.refl _) (.cons (.refl _) .nil))))
 refine .mk ?_ ?_
 intro v9
 refine .mk ?_ ?_
 intro v10
 exact .mk
 intro _ _
 refine .mk trivial ?_
 refine .mk ?_ ?_
 intro v11
 refine .mk λp12=>?_
 refine .mk _ ⟨λ_=>eO rfl rfl (.cons rfl .nil) xI (jD (yA.pc (id:=6) (l:=a1) rfl p12) (.cons (.refl _) .nil)),λ_ _ _=>trivial⟩ ?_
 rintro _ _ ⟨v13,rfl,rfl⟩
 refine .mk λx14=>?_
 refine .mk .mk ?_
 refine .mk (λx15 e15=>?_) rfl (by rintro _ rfl;exact (.cons (dZ rfl rfl rfl rfl rfl (Eq.symm rfl)) (.cons (.refl _) .nil)))
 refine .mk λx16=>?_
 refine .mk .mk ?_
 intro v17
 refine .mk ?_ ?_
 refine .mk ?_
 rintro ⟨y1_1,y1_2,y1_3,y1_4,y1_5⟩ _
 refine .mk ?_ ?_
 refine .mk λx18=>?_
 refine .mk ?_ ?_
 refine .mk λx19=>?_
 exact .mk
 exact .mk
 intro _ _
 refine .mk ?_ ?_
 refine .mk λp20=>?_
 refine .mk λx21 e21=>?_
 refine .mk _ (bK (nN rfl Tryz.underlying57 kD rfl rfl rfl rfl rfl p20 (List.length_map _) e21)) ?_
 refine .mk _ (bK (fU rfl kD rfl (.pt rfl rfl (dN e21)) rfl)) ?_
 intro v22
 refine .mk λx23=>?_
 refine .mk ?_ ?_
 refine .mk ?_ ?_
 refine .mk ?_
 refine .mk λx24 e24=>?_
 refine .mk λx25 e25=>?_
 refine .mk ?_
 refine .mk λp26=>?_
 refine .mk _ (λH hH _=>nN rfl Tryz.underlying57 kD rfl rfl ((hH _ (by decide)).trans rfl) rfl rfl p26 (List.length_map _) e21) ?_
 refine .mk _ (λH hH _=>fZ rfl KW rfl (.pt ((hH _ (by decide)).trans rfl) rfl (dN e21)) (.pt _ _ _ _ _)) ?_
 refine .mk _ (λH hH _=>fU rfl dP rfl (.pt ((hH _ (by decide)).trans rfl) rfl (dN e21)) rfl) ?_
 refine .mk λx27=>?_
 refine .mk λp28=>?_
 refine .mk _ (λH hH _=>nN rfl Tryz.underlying57 kD rfl rfl ((hH _ (by decide)).trans rfl) rfl rfl p28 (List.length_map _) e21) ?_
 refine .mk _ (λH hH _=>fZ rfl xE rfl (.pt ((hH _ (by decide)).trans rfl) rfl (dN e21)) (.pt _ _ _ _ _)) ?_
 refine .mk _ (λH hH _=>fU rfl dP rfl (.pt ((hH _ (by decide)).trans rfl) rfl (dN e21)) rfl) ?_
 refine .mk λx29=>?_
 refine .mk λp30=>?_
 refine .mk _ (λH hH _=>nN rfl Tryz.underlying57 kD rfl rfl ((hH _ (by decide)).trans rfl) rfl rfl p30 (List.length_map _) e21) ?_
 refine .mk _ (λH hH _=>fZ rfl K6 rfl (.pt ((hH _ (by decide)).trans rfl) rfl (dN e21)) (.pt _ _ _ _ _)) ?_
 refine .mk _ (λH hH _=>fU rfl dP rfl (.pt ((hH _ (by decide)).trans rfl) rfl (dN e21)) rfl) ?_
 refine .mk λx31=>?_
 refine .mk λp32=>?_
 refine .mk _ (λH hH _=>nN rfl Tryz.underlying57 kD rfl rfl ((hH _ (by decide)).trans rfl) rfl rfl p32 (List.length_map _) e21) ?_
 refine .mk _ (λH hH _=>fZ rfl KW rfl (.pt ((hH _ (by decide)).trans rfl) rfl (dN e21)) (.pt _ _ _ _ _)) ?_
 refine .mk λx33 e33=>?_
 have fx33:=iE e21 e33;have lx33:=iD e33 (rfl:y1_4.length=y1_4.length)
 refine .mk _ ⟨λ_=>bY.eX (fH (ob':=(⟨38,3,true,true,_,x33.map aM.av⟩:bH)) (fC rfl dP rfl rfl rfl rfl rfl (dN e21) rfl rfl rfl) (iC (jB e33))) (λ_ h=>h) (λ_ _=>trivial),by rintro _ _ ⟨rfl,rfl⟩;exact ⟨rfl,trivial⟩⟩ ?_
 rintro _ _ ⟨rfl,rfl⟩
 refine .mk λp34=>?_
 refine .mk _ (λH hH _=>nN rfl Tryz.underlying57 kD rfl rfl ((hH _ (by decide)).trans rfl) rfl rfl p34 (List.length_map _) fx33) ?_
 refine .mk _ (λH hH _=>fZ rfl xE rfl (.pt ((hH _ (by decide)).trans rfl) rfl (dN fx33)) (.pt _ _ _ _ _)) ?_
 refine .mk λx35 e35=>?_
 have fx35:=iE fx33 e35;have lx35:=iD e35 lx33
 refine .mk _ ⟨λ_=>bY.eX (fH (ob':=(⟨38,3,true,true,_,x35.map aM.av⟩:bH)) (fC rfl dP rfl rfl rfl rfl rfl (dN fx33) rfl rfl rfl) (iC (jB e35))) (λ_ h=>h) (λ_ _=>trivial),by rintro _ _ ⟨rfl,rfl⟩;exact ⟨rfl,trivial⟩⟩ ?_
 rintro _ _ ⟨rfl,rfl⟩
 refine .mk λp36=>?_
 refine .mk _ (λH hH _=>nN rfl Tryz.underlying57 kD rfl rfl ((hH _ (by decide)).trans rfl) rfl rfl p36 (List.length_map _) fx35) ?_
 refine .mk _ (λH hH _=>fZ rfl K6 rfl (.pt ((hH _ (by decide)).trans rfl) rfl (dN fx35)) (.pt _ _ _ _ _)) ?_
 refine .mk λx37 e37=>?_
 have fx37:=iE fx35 e37;have lx37:=iD e37 lx35
 refine .mk _ ⟨λ_=>bY.eX (fH (ob':=(⟨38,3,true,true,_,x37.map aM.av⟩:bH)) (fC rfl dP rfl rfl rfl rfl rfl (dN fx35) rfl rfl rfl) (iC (jB e37))) (λ_ h=>h) (λ_ _=>trivial),by rintro _ _ ⟨rfl,rfl⟩;exact trivial⟩ ?_
 rintro _ _ ⟨rfl,rfl⟩
 exact .mk
 refine .mk λp38=>?_
 refine .mk λx39 e39=>?_
 refine .mk _ (bK (WW (len:=y1_2) (i:=1) (j:=(Int.toNat (y1_2:Int))) rfl Tryz.underlying57 kD rfl rfl rfl rfl (.yes rfl (by first | omega | (dsimp only;omega) | (dsimp only at *;omega))) (.yes rfl (by first | omega | (dsimp only;omega) | (dsimp only at *;omega))) (.yes rfl (by first | omega | (dsimp only;omega) | (dsimp only at *;omega))) (by first | omega | (dsimp only;omega) | (dsimp only at *;omega)) (by first | omega | (dsimp only;omega) | (dsimp only at *;omega)) e39)) ?_
 exact .mk
 intro _ _
 refine .mk ?_
 refine .mk λx40=>?_
 refine .mk λx41=>?_
 refine .mk λx42=>?_
 refine .mk λx43=>?_
 exact .mk
 exact .mk
 intro _ _
 refine .mk ?_
 exact .mk
 intro _ _
 refine .mk trivial ?_
 exact .mk
 rintro ⟨y6_2,y6_3,y6_4,y6_5,y6_6⟩ _
 refine .mk trivial ?_
 intro v44
 refine .mk ?_ ?_
 refine .mk λx45=>?_
 refine .mk .mk ?_
 refine .mk λx46=>?_
 exact .mk
 intro _ _
 refine .mk ?_ ?_
 refine .mk ?_
 refine .mk λp47=>?_
 exact .mk (bT.bD (.cons (KC (l:=y6_6) rfl rfl rfl rfl (iT.refl _) (by first | omega | (simp only [List.length_set];omega)) rfl) (.cons (.refl _) (.cons (.refl _) .nil))))
 refine .mk λx48 e48=>?_
 refine .mk ?_
 refine .mk λp49=>?_
 refine .mk λx50 e50=>?_
 refine .mk _ (λH hH _=>nN rfl Tryz.underlying57 kD rfl rfl ((hH _ (by decide)).trans rfl) rfl rfl p49 (List.length_map _) e50) ?_
 refine .mk _ (λH hH _=>fZ rfl xE rfl (.pt ((hH _ (by decide)).trans rfl) rfl (dN e50)) (.pt _ _ _ _ _)) ?_
 refine .mk _ (λH hH _=>fU rfl dP rfl (.pt ((hH _ (by decide)).trans rfl) rfl (dN e50)) rfl) ?_
 refine .mk λx51=>?_
 refine .mk ?_ ?_
 refine .mk λx52=>?_
 refine .mk .mk ?_
 refine .mk λx53=>?_
 exact .mk
 intro _ _
 refine .mk ?_ ?_
 refine .mk .mk ?_
 exact .mk
 intro _ _
 refine .mk ?_
 refine .mk λp54=>?_
 refine .mk _ (λH hH _=>nN rfl Tryz.underlying57 kD rfl rfl ((hH _ (by decide)).trans rfl) rfl rfl p54 (List.length_map _) e50) ?_
 refine .mk _ (λH hH _=>fZ rfl xE rfl (.pt ((hH _ (by decide)).trans rfl) rfl (dN e50)) (.pt _ _ _ _ _)) ?_
 refine .mk _ (λH hH _=>fU rfl dP rfl (.pt ((hH _ (by decide)).trans rfl) rfl (dN e50)) rfl) ?_
 refine .mk λx55=>?_
 refine .mk λx56=>?_
 refine .mk λp57=>?_
 refine .mk _ (λH hH _=>nN rfl Tryz.underlying57 kD rfl rfl ((hH _ (by decide)).trans rfl) rfl rfl p57 (List.length_map _) e50) ?_
 refine .mk _ (λH hH _=>fZ rfl xE rfl (.pt ((hH _ (by decide)).trans rfl) rfl (dN e50)) (.pt _ _ _ _ _)) ?_
 refine .mk λx58 e58=>?_
 have fx58:=iE e50 e58;have lx58:=iD e58 (rfl:y6_6.length=y6_6.length)
 refine .mk _ ⟨λ_=>bY.eX (fH (ob':=(⟨38,3,true,true,_,x58.map aM.av⟩:bH)) (fC rfl dP rfl rfl rfl rfl rfl (dN e50) rfl rfl rfl) (iC (jB e58))) (λ_ h=>h) (λ_ _=>trivial),by rintro _ _ ⟨rfl,rfl⟩;exact trivial⟩ ?_
 rintro _ _ ⟨rfl,rfl⟩
 refine .mk ?_
 refine .mk λp59=>?_
 exact .mk (bT.bD (.cons (KC (l:=x58) rfl rfl rfl rfl (iT.refl _) (by first | omega | (simp only [List.length_set];omega)) rfl) (.cons (.refl _) (.cons (.refl _) .nil))))
def QG (n:Nat) (a1:Int) (a2:Int) (a3:aT) (a4:Int) (a5:Int):WB (aT×aM×Bool×Int) :=
 .al 1<|.al 2<|.al 3<|.inl 21 V8 Tryz.func34 [1,2,3] [] (B:=(Unit)⊕(Unit)⊕(Unit)⊕(Unit)⊕(Unit)) (λu2=>Sum.elim (λa=>.gB 156 (.agg [])) (Sum.elim (λa=>.gB 157 (.agg [])) (Sum.elim (λa=>.gB 158 (.agg [])) (Sum.elim (λa=>.gB 160 (.agg [int a2])) (λa=>.sc .nilIface))))) (λu2=>Sum.elim (λa=>[]) (Sum.elim (λa=>[]) (Sum.elim (λa=>[]) (Sum.elim (λa=>[]) (λa=>[]))))) (.bB 7 (decide (a1=1)) λx9=>.ifs [7] x9 (.gv 9<|.ret (.inl ())) (.bB 11 (decide (a1=2)) λx10=>.ifs [11] x10 (.gv 13<|.ret (.inr (.inl ()))) (.bB 15 (decide (a1=3)) λx11=>.ifs [15] x11 (.gv 17<|.ret (.inr (.inr (.inl ())))) (.bB 19 (decide (a1=4)) λx12=>.ifs [19] x12 (.gv 22<|.ret (.inr (.inr (.inr (.inl ()))))) (.ret (.inr (.inr (.inr (.inr ()))))))))) (Sum.elim (λ_=>.gv 23<|.jn 1 [3,4,7,10,11,12,13,14] [1,2,3] [] (λ_ (a:Bool)=>[(32,aI a)]) (λ_ _=>[]) (.bB 28 (decide (a4<0)) λx13=>.ifs [28] x13 (.ret true) (.bB 31 (decide (a4>3)) λx14=>.ret x14)) (λy5_1=>.ifs [32] y5_1 (.cl 34 (mH a3) pF qK λx15=>.ret ((x15:aT),((⟨0,0,0⟩:aM):aM),false,1)) (.al 4<|.al 5<|.inl 37 xJ Tryz.func36 [1,2,3,4,5] [] (λ_ (a:Unit)=>aI false) (λ_ _=>[]) (.gv 7<|.al 6<|.ret ()) (λ_=>.iv 54 aO6 aPB Tryz.func249 [1,2,3,4,5] [] (λ_ (a:aT×aM×Int)=>.bD [.agg [aH 3 aM.av a.1.bJ,int a.1.bR.a0,int a.1.bR.a1,int a.1.bR.a2],.agg [int a.2.1.aS,int a.2.1.Value,int a.2.1.bE],int a.2.2]) (λ_ _=>[]) (.al 12<|.al 13<|.al 14<|.al 15<|.cl 16 (xX n a3.bJ a5) TS ZH λx23=>.al 16<|.dr [(0,[13]),(3,[16])] [(5,[16]),(6,[])] [13,16] [5,6] [0,1,2,3,4,5,6,7] (.cl 22 (sZ a3 x23.1) vL DT λx25=>.ret ((x25:aT),x23.2.1,x23.2.2))) (pw λy8_1 q0=>(pw λy8_2 y8_3=>.bB 59 (decide (y8_3≠0)) λx26=>.ifs [59] x26 (.cl 61 (mH a3) pF qK λx27=>.ret ((x27:aT),((⟨0,0,0⟩:aM):aM),false,y8_3)) (.dr [(0,[5]),(1,[4])] [(3,[4]),(4,[])] [4,5] [3,4] [0,1,2,3,4,5,6] (.ret ((y8_1:aT),y8_2,false,0)))) q0))))) (Sum.elim (λ_=>.gv 23<|.jn 1 [3,4,7,10,11,12,13,14] [1,2,3] [] (λ_ (a:Bool)=>[(32,aI a)]) (λ_ _=>[]) (.bB 28 (decide (a4<0)) λx28=>.ifs [28] x28 (.ret true) (.bB 31 (decide (a4>3)) λx29=>.ret x29)) (λy5_1=>.ifs [32] y5_1 (.cl 34 (mH a3) pF qK λx30=>.ret ((x30:aT),((⟨0,0,0⟩:aM):aM),false,1)) (.al 4<|.al 5<|.inl 37 xJ Tryz.func36 [1,2,3,4,5] [] (λ_ (a:Unit)=>aI false) (λ_ _=>[]) (.gv 7<|.al 6<|.ret ()) (λ_=>.iv 54 aSG aT1 Tryz.func251 [1,2,3,4,5] [] (λ_ (a:aT×aM×Int)=>.bD [.agg [aH 3 aM.av a.1.bJ,int a.1.bR.a0,int a.1.bR.a1,int a.1.bR.a2],.agg [int a.2.1.aS,int a.2.1.Value,int a.2.1.bE],int a.2.2]) (λ_ _=>[]) (.al 22<|.al 23<|.al 24<|.al 25<|.cl 16 (uW n a3.bJ a5) CL FJ λx38=>.al 26<|.dr [(0,[23]),(3,[26])] [(5,[26]),(6,[])] [23,26] [5,6] [0,1,2,3,4,5,6,7] (.cl 22 (sZ a3 x38.1) vL DT λx40=>.ret ((x40:aT),x38.2.1,x38.2.2))) (pw λy10_1 q0=>(pw λy10_2 y10_3=>.bB 59 (decide (y10_3≠0)) λx41=>.ifs [59] x41 (.cl 61 (mH a3) pF qK λx42=>.ret ((x42:aT),((⟨0,0,0⟩:aM):aM),false,y10_3)) (.dr [(0,[5]),(1,[4])] [(3,[4]),(4,[])] [4,5] [3,4] [0,1,2,3,4,5,6] (.ret ((y10_1:aT),y10_2,false,0)))) q0))))) (Sum.elim (λ_=>.gv 23<|.jn 1 [3,4,7,10,11,12,13,14] [1,2,3] [] (λ_ (a:Bool)=>[(32,aI a)]) (λ_ _=>[]) (.bB 28 (decide (a4<0)) λx43=>.ifs [28] x43 (.ret true) (.bB 31 (decide (a4>3)) λx44=>.ret x44)) (λy5_1=>.ifs [32] y5_1 (.cl 34 (mH a3) pF qK λx45=>.ret ((x45:aT),((⟨0,0,0⟩:aM):aM),false,1)) (.al 4<|.al 5<|.inl 37 xJ Tryz.func36 [1,2,3,4,5] [] (λ_ (a:Unit)=>aI true) (λ_ _=>[]) (.gv 7<|.al 6<|.ret ()) (λ_=>.bB 40 (decide (a4≠3)) λx49=>.jn 1 [7,10,11,12,13,15,16] [1,2,3] [] (λ_ (a:Int×Bool×aM×aT)=>[(17,int a.1),(18,aI a.2.1)]) (λ_ a=>[.kp 4 [[int a.2.2.1.aS,int a.2.2.1.Value,int a.2.2.1.bE]],.kp 5 [[aH 3 aM.av a.2.2.2.bJ,int a.2.2.2.bR.a0,int a.2.2.2.bR.a1,int a.2.2.2.bR.a2]]]) (.ifs [18,40,41,42] x49 (.cl 47 (L6 n a3 a4 a5) aTJ aML λx50=>.ret ((x50.2:Int),true,((⟨0,0,0⟩:aM):aM),x50.1)) (.iv 54 aKK aQ2 Tryz.func254 [1,2,3,4,5] [] (λ_ (a:aT×aM×Int)=>.bD [.agg [aH 3 aM.av a.1.bJ,int a.1.bR.a0,int a.1.bR.a1,int a.1.bR.a2],.agg [int a.2.1.aS,int a.2.1.Value,int a.2.1.bE],int a.2.2]) (λ_ _=>[]) (.al 39<|.al 40<|.al 41<|.al 42<|.cl 11 (NU n a3 a5) aL8 aJV λx55=>.ret ((x55.1:aT),x55.2.1,x55.2.2)) (pw λy15_1 q0=>(pw λy15_2 y15_3=>.ret ((y15_3:Int),false,y15_2,y15_1)) q0))) (pw λy13_1 q0=>(pw λy13_2 q1=>(pw λy13_3 y13_4=>.bB 59 (decide (y13_1≠0)) λx56=>.ifs [59] x56 (.cl 61 (mH a3) pF qK λx57=>.ret ((x57:aT),((⟨0,0,0⟩:aM):aM),false,y13_1)) (.dr [(0,[5]),(1,[4])] [(3,[4]),(4,[])] [4,5] [3,4] [0,1,2,3,4,5,6] (.ret ((y13_4:aT),y13_3,y13_2,0)))) q1) q0))))) (Sum.elim (λ_=>.gv 23<|.jn 1 [3,4,7,10,11,12,13,14] [1,2,3] [] (λ_ (a:Bool)=>[(32,aI a)]) (λ_ _=>[]) (.bB 28 (decide (a4<0)) λx58=>.ifs [28] x58 (.ret true) (.bB 31 (decide (a4>3)) λx59=>.ret x59)) (λy5_1=>.ifs [32] y5_1 (.cl 34 (mH a3) pF qK λx60=>.ret ((x60:aT),((⟨0,0,0⟩:aM):aM),false,1)) (.al 4<|.al 5<|.inl 37 xJ Tryz.func36 [1,2,3,4,5] [] (λ_ (a:Unit)=>aI false) (λ_ _=>[]) (.gv 7<|.al 6<|.ret ()) (λ_=>.iv 54 aJA aM8 Tryz.func258 [1,2,3,4,5] [] (λ_ (a:aT×aM×Int)=>.bD [.agg [aH 3 aM.av a.1.bJ,int a.1.bR.a0,int a.1.bR.a1,int a.1.bR.a2],.agg [int a.2.1.aS,int a.2.1.Value,int a.2.1.bE],int a.2.2]) (λ_ _=>[]) (.al 48<|.al 49<|.al 50<|.al 51<|.cl 18 (MJ n a3.bJ a5 a2) aTY aWK λx68=>.al 52<|.dr [(0,[49]),(3,[52])] [(5,[52]),(6,[])] [49,52] [5,6] [0,1,2,3,4,5,6,7] (.cl 24 (sZ a3 x68.1) vL DT λx70=>.ret ((x70:aT),x68.2.1,x68.2.2))) (pw λy17_1 q0=>(pw λy17_2 y17_3=>.bB 59 (decide (y17_3≠0)) λx71=>.ifs [59] x71 (.cl 61 (mH a3) pF qK λx72=>.ret ((x72:aT),((⟨0,0,0⟩:aM):aM),false,y17_3)) (.dr [(0,[5]),(1,[4])] [(3,[4]),(4,[])] [4,5] [3,4] [0,1,2,3,4,5,6] (.ret ((y17_1:aT),y17_2,false,0)))) q0))))) (λ_=>.gv 23<|.cl 25 (mH a3) pF qK λx73=>.ret ((x73:aT),((⟨0,0,0⟩:aM):aM),false,12))))))
def D4 (n:Nat) (a1:Int) (a2:Int) (a3:aT) (a4:Int) (a5:Int):Option (aT×aM×Bool×Int):=(QG n a1 a2 a3 a4 a5).run
theorem aX4 {n a1 a2 a3 a4 a5}:PZ (D4 n a1 a2 a3 a4 a5) 14 [int a1,int a2,.agg (aT.av a3),int a4,int a5] (λr=>.bD [.agg (aT.av r.1),.agg (aM.av r.2.1),aI r.2.2.1,int r.2.2.2]):=wq Tryz.func14
def SN (n:Nat) (a1:aA) (a2:Int) (a3:Int) (a4:Int) (a5:Int) (a6:Int):WB (aA×aM×Bool×Int) :=
 .al 1<|.al 2<|.al 3<|.cl 24 (xG a1 a2 a3 a4) SC QW λx10=>.bB 26 (decide (x10<0)) λx11=>.ifs [26] x11 (.ret ((a1:aA),((⟨0,0,0⟩:aM):aM),false,4)) (.dr [(0,[1]),(1,[1]),(2,[1]),(9,[1]),(10,[1]),(11,[1]),(18,[1]),(19,[1])] [(36,[]),(37,[])] [1] [35,36,37] [0,1,2,3,4,5,6,7,8,9,10,11,12,13,14,15,16,17,18,19,20,21,22,23,24,25,26,27,28,29,30,31,32,33,34,35,36,37,38,39] (.ix 34 (fL 1 fI) a1.bF.Methods a2 λx12=>.ix 37 fI x12 a3 λx13=>.ix 43 (fL 1 fI) a1.bF.fM a2 λx14=>.ix 46 fI x14 a3 λx15=>.iF 51 aP.av gE aP.dA a1.aW a2 λx16=>.ix 55 aT.av x16.cK x10 λx17=>.cl 59 (D4 n x13 x15 x17 a5 a6) aXL aX4 λx18=>.al 4<|.bB 14 (x18.2.2.1) λx20=>.bB 65 (decide (x18.2.2.2≠0)) λx21=>.ifs [65] x21 (.ret ((a1:aA),((⟨0,0,0⟩:aM):aM),false,x18.2.2.2)) (.al 5<|.inl 74 aBF Tryz.func15 [1,2,3,4] [7,8] (λ_ (a:Int×Bool×(List Int)×(List dL)×(List Int)×(List Int)×(List aP)×(List aT))=>.bD []) (λu4 a=>[.kp 5 [[int a1.bF.fO,int a1.bF.iB,aH 1 fI a1.bF.bN,aH 1 (fL 1 fI) a1.bF.Methods,aH 1 (fL 1 fI) a1.bF.fM,.sl 7 (u4 7) 0 a1.aW.length,aH 8 dH.av a1.dG,aH 9 dV.av a1.dO,aH 6 dD.av a1.bL,int a1.Done]],.nw 7 66 8 ((a1.aW.map aP.av).set (Int.toNat a2) [int a.1,aI a.2.1,.sl 8 (u4 8) 0 a.2.2.2.2.2.2.2.length,aH 1 fI a.2.2.1,aH 11 dL.av a.2.2.2.1,aH 1 fI a.2.2.2.2.1,aH 1 fI a.2.2.2.2.2.1,aH 8 aP.av a.2.2.2.2.2.2.1]),.nw 8 60 4 (a.2.2.2.2.2.2.2.map aT.av)]) (.al 6<|.inl 11 JA Tryz.func38 [1,2,3,4,6] [7] (λu6 (a:Unit)=>.pt 7 (u6 7) (Int.toNat a2) 0) (λu6 _=>[.kp 5 [[int a1.bF.fO,int a1.bF.iB,aH 1 fI a1.bF.bN,aH 1 (fL 1 fI) a1.bF.Methods,aH 1 (fL 1 fI) a1.bF.fM,.sl 7 (u6 7) 0 a1.aW.length,aH 8 dH.av a1.dG,aH 9 dV.av a1.dO,aH 6 dD.av a1.bL,int a1.Done]],.nw 7 66 8 (a1.aW.map aP.av)]) (.as (a1.aW.length<=68719476736) inferInstance<|.ge 11 7<|.bo (ix a1.aW a2) λx26=>.gv 21<|.ret ()) (λ_=>.bo (ix a1.aW a2) λx27=>.gv 14<|.gv 15<|.gv 16<|.as (x27.cK.length<=68719476736) inferInstance<|.ge 17 8<|.gv 18<|.gv 19<|.ge 1002008 0<|.dr [(1,[7]),(2,[7]),(3,[7]),(5,[6]),(6,[8])] [(7,[])] [6,7,8] [7] [0,1,2,3,4,5,6,7] (.gv 21<|.gv 22<|.gv 23<|.bo (ix x27.cK x10) λx30=>.gv 26<|.bl (x27.cK.set (Int.toNat x10) x18.1:List aT) λx31=>.ge 1003007 0<|.ret ((x27.fD:Int),(x27.Closed:Bool),(x27.dM:List Int),(x27.d9:List dL),(x27.eH:List Int),(x27.Down:List Int),(x27.gK:List aP),x31)))) (pw λy1_2 q0=>(pw λy1_3 q1=>(pw λy1_5 q2=>(pw λy1_6 q3=>(pw λy1_7 q4=>(pw λy1_8 q5=>(pw λy1_9 y1_10=>.bo (ix a1.aW a2) λx32=>.dr [(0,[5]),(1,[5]),(2,[3])] [(4,[3]),(5,[])] [3,5] [4,5] [0,1,2,3,4,5,6,7] (.ret (((⟨a1.bF,(a1.aW.set (Int.toNat a2) (⟨y1_2,y1_3,y1_10,y1_5,y1_6,y1_7,y1_8,y1_9⟩:aP)),a1.dG,a1.dO,a1.bL,a1.Done⟩:aA):aA),x18.2.1,x20,0))) q5) q4) q3) q2) q1) q0))))
def o5 (n:Nat) (a1:aA) (a2:Int) (a3:Int) (a4:Int) (a5:Int) (a6:Int):Option (aA×aM×Bool×Int):=(SN n a1 a2 a3 a4 a5 a6).run
theorem zU {n a1 a2 a3 a4 a5 a6}:PZ (o5 n a1 a2 a3 a4 a5 a6) 7 [.agg (aA.av a1),int a2,int a3,int a4,int a5,int a6] (λr=>.bD [.agg (aA.av r.1),.agg (aM.av r.2.1),aI r.2.2.1,int r.2.2.2]):=by
 refine wm Tryz.func7 ?_
 intro v7
 intro v8
 intro v9
 refine .mk λx10 e10=>?_
 refine .mk λx11=>?_
 refine .mk .mk ?_
 refine .mk ?_
 refine .mk λx12 e12=>?_
 refine .mk λx13 e13=>?_
 refine .mk λx14 e14=>?_
 refine .mk λx15 e15=>?_
 refine .mk λx16 e16=>?_
 refine .mk λx17 e17=>?_
 refine .mk λx18 e18=>?_
 intro v19
 refine .mk λx20=>?_
 refine .mk λx21=>?_
 refine .mk .mk ?_
 intro v22
 refine .mk ?_ ?_
 intro v23
 refine .mk ?_ ?_
 refine .mk λp24=>?_
 refine .mk _ ⟨λ_=>eO rfl rfl (.cons rfl .nil) wT (jD (wB.pc (id:=7) (l:=a1.aW) rfl p24) (.cons (.refl _) .nil)),λ_ _ _=>trivial⟩ ?_
 rintro _ _ ⟨v25,rfl,rfl⟩
 refine .mk λx26 e26=>?_
 refine .mk _ (bK (eY rfl Tryz.underlying28 o8 rfl rfl rfl rfl rfl (Eq.symm rfl) (List.length_map _) e26)) ?_
 exact .mk
 intro _ _
 refine .mk trivial ?_
 refine .mk λx27 e27=>?_
 refine .mk _ (bK (mY rfl rfl (.pt rfl rfl (gN e27 (aP.dA _))))) ?_
 refine .mk _ (bK (fZ rfl vV rfl (.pt rfl rfl (gN e27 (aP.dA _))) (.pt _ _ _ _ _))) ?_
 refine .mk _ (bK (fU rfl vZ rfl (.pt rfl rfl (gN e27 (aP.dA _))) rfl)) ?_
 refine .mk λp28=>?_
 refine .mk _ ⟨λ_=>eO rfl rfl (.cons rfl .nil) IN (jD (N7.pc (id:=8) (l:=x27.cK) rfl p28) (.cons (.refl _) .nil)),λ_ _ _=>trivial⟩ ?_
 rintro _ _ ⟨v29,rfl,rfl⟩
 refine .mk _ (bK (mY rfl rfl (.pt rfl rfl (gN e27 (aP.dA _))))) ?_
 refine .mk _ (bK (fZ rfl vV rfl (.pt rfl rfl (gN e27 (aP.dA _))) (.pt _ _ _ _ _))) ?_
 refine .mk _ ⟨λ_=>bY.eX (fH (ob':=(⟨66,8,true,true,_,(a1.aW.map aP.av).set (Int.toNat a2) [int x27.fD,aI x27.Closed,.sl 8 v29 0 x27.cK.length,aH 1 fI x27.dM,aH 11 dL.av x27.d9,aH 1 fI x27.eH,aH 1 fI x27.Down,aH 8 aP.av x27.gK]⟩:bH)) (fC rfl vZ rfl rfl rfl rfl rfl (gN e27 (aP.dA _)) rfl rfl rfl) (iC rfl)) (λ_ h=>h) (λ_ _=>trivial),λ_ _ _=>trivial⟩ ?_
 rintro _ _ ⟨rfl,rfl⟩
 refine .mk ?_
 refine .mk _ (λH hH _=>mY rfl rfl (.pt ((hH _ (by decide)).trans rfl) rfl (lD e27))) ?_
 refine .mk _ (λH hH _=>fZ rfl vV rfl (.pt ((hH _ (by decide)).trans rfl) rfl (lD e27)) (.pt _ _ _ _ _)) ?_
 refine .mk _ (λH hH _=>fU rfl vZ rfl (.pt ((hH _ (by decide)).trans rfl) rfl (lD e27)) rfl) ?_
 refine .mk λx30 e30=>?_
 refine .mk _ (λH hH _=>eY rfl Tryz.underlying63 wG rfl rfl ((hH _ (by decide)).trans rfl) rfl rfl (Eq.symm rfl) (List.length_map _) e30) ?_
 refine .mk λx31 e31=>?_
 have fx31:=iE e30 e31;have lx31:=iD e31 (rfl:x27.cK.length=x27.cK.length)
 refine .mk _ ⟨λ_=>bY.eX (fH (ob':=(⟨60,4,true,true,_,x31.map aT.av⟩:bH)) (fC rfl wG rfl rfl rfl rfl rfl (dN e30) rfl rfl rfl) (iC (jB e31))) (λ_ h=>h) (λ_ _=>trivial),by rintro _ _ ⟨rfl,rfl⟩;exact trivial⟩ ?_
 rintro _ _ ⟨rfl,rfl⟩
 exact .mk rfl ⟨rfl,(by first | rfl | exact lx31 ▸ rfl),rfl,rfl,rfl,rfl,rfl,trivial⟩
 intro _ _
 refine .mk trivial ?_
 refine .mk λx32 e32=>?_
 refine .mk ?_
 exact .mk (bT.bD (.cons (bT.agg (.cons (.refl _) (.cons (.refl _) (.cons (.refl _) (.cons (.refl _) (.cons (.refl _) (.cons (qI rfl rfl rfl rfl rfl (Eq.symm rfl) e32 (pZ (.cons (.refl _) (.cons (.refl _) (.cons (dZ rfl rfl rfl rfl rfl (Eq.symm rfl)) (.cons (.refl _) (.cons (.refl _) (.cons (.refl _) (.cons (.refl _) (.cons (.refl _) .nil)))))))) (aP.dA _))) (.cons (.refl _) (.cons (.refl _) (.cons (.refl _) (.cons (.refl _) .nil))))))))))) (.cons (.refl _) (.cons (.refl _) (.cons (.refl _) .nil)))))
def QV (a1:aM):WB (Bool) :=
 .al 1<|.jn 0 [] [] [] (λ_ (a:Bool)=>[(2,aI a)]) (λ_ _=>[]) (.bB 5 (decide (a1.aS<1)) λx3=>.ifs [5] x3 (.ret true) (.bB 9 (decide (a1.aS>288230376151711744)) λx4=>.ifs [9] x4 (.ret true) (.bB 14 (decide (a1.Value<0)) λx5=>.ifs [14] x5 (.ret true) (.bB 19 (decide (a1.Value>288230376151711744)) λx6=>.ifs [19] x6 (.ret true) (.bB 24 (decide (a1.bE<(-288230376151711744))) λx7=>.ifs [24] x7 (.ret true) (.bB 29 (decide (a1.bE>288230376151711744)) λx8=>.ret x8)))))) (λy0_1=>.ret ((y0_1:Bool)))
def CF (a1:aM):Option (Bool):=(QV a1).run
theorem aMP {a1}:PZ (CF a1) 221 [.agg (aM.av a1)] aI:=wq Tryz.func221
end
end Go.Pv
