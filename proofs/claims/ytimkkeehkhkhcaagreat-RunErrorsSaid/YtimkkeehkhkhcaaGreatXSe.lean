import Derived.Test.YtimkkeehkhkhcaaGreatXSd
set_option linter.unusedVariables false
set_option linter.unusedSimpArgs false
namespace Go.Pv
open Go.Proofs
set_option maxRecDepth 100000
set_option maxHeartbeats 4000000
noncomputable section
def aB6 (n:Nat) (a1:List dK):WB ((List dK)×Int) :=
 .inl 12 UH Tryz.func138 [] [] (λ_ (a:Bool)=>aA a) (λ_ _=>[]) (.inl 7 GH Tryz.func175 [] [] (λ_ (a:Int)=>int a) (λ_ _=>[]) (.ln 7 dK.av a1<|.jS 0 [4] [] [] (λ_ (a:Unit)=>[]) (λ_ _=>[]) (.lp [0,1,4,7] [] [] (λ_ (a:Int)=>[(8,int a)]) (λ_ _=>[]) n (0:Int) (λy0_1=>.bB 9 (decide (y0_1<(a1.length:Int))) λx2=>.ifs [9] x2 (.ix 14 dK.av a1 y0_1 λx3=>.cl 16 (NV x3) aEI aA1 λx4=>.ifs [16] x4 (.esc (.esc (.ret (y0_1:Int)))) (.bI 18 (bL (y0_1+1)) λx5=>.brk (x5:Int))) (.esc (.brk ())))) (λ_=>.ret ((-1):Int))) (λy2_1=>.bB 8 (decide (y2_1>=0)) λx6=>.ret x6)) (λy3_1=>.az [12] y3_1 (.as (a1.length<=68719476736) inferInstance<|.ge 14 1<|.inl 16 YU Tryz.func143 [] [] (λ_ (a:(List dK))=>.aM []) (λ_ a=>[.kp 1 (a.map dK.av)]) (.al 2<|.inl 6 aB8 Tryz.func176 [2] [] (λ_ (a:(List dK))=>.aM []) (λ_ a=>[.kp 1 (a.map dK.av)]) (.inl 8 aHR Tryz.func217 [2] [] (λ_ (a:(List dK))=>.aM []) (λ_ a=>[.kp 1 (a.map dK.av)]) (.jn 2 [0,1,2,6,7] [1,2] [] (λ_ (a:Unit)=>[]) (λ_ _=>[]) (.lp [0,1,2,6,7,8] [1,2] [] (λ_ (a:Unit)=>[]) (λ_ _=>[]) n () (λ_=>.bB 13 (decide (20<=(a1.length:Int))) λx10=>.az [13] x10 (.esc (.ret ())))) (λ_=>.inl 27 aKF Tryz.func250 [2] [] (λ_ (a:(List dK))=>.aM []) (λ_ a=>[.kp 1 (a.map dK.av)]) (.kI 11 1<|.jn 0 [] [2] [] (λ_ (a:(List dK))=>[]) (λ_ a=>[.kp 1 (a.map dK.av)]) (.lp [1,2,3] [2] [] (λu107 (a:Int×(List dK))=>[(0,.sl 1 (u107 1) 0 a.2.length),(8,int a.1)]) (λ_ a=>[.kp 1 (a.2.map dK.av)]) n ((1:Int),a1) (pw λy6_1 y6_2=>.bB 14 (decide (y6_1<(a1.length:Int))) λx11=>.ifs [14] x11 (.jn 1 [1,2,3,8] [2] [] (λu113 (a:(List dK))=>[(0,.sl 1 (u113 1) 0 a.length)]) (λ_ a=>[.kp 1 (a.map dK.av)]) (.jn 2 [1,2,3,8] [2] [] (λu118 (a:(List dK))=>[(0,.sl 1 (u118 1) 0 a.length)]) (λ_ a=>[.kp 1 (a.map dK.av)]) (.lp [1,2,3,8] [2] [] (λu121 (a:Int×(List dK))=>[(0,.sl 1 (u121 1) 0 a.2.length),(9,int a.1)]) (λ_ a=>[.kp 1 (a.2.map dK.av)]) n ((y6_1:Int),y6_2) (pw λy7_1 y7_2=>.jn 0 [0,1,2,3,8,9] [1,2] [] (λ_ (a:Bool)=>[(34,aA a)]) (λ_ _=>[]) (.dr [(7,[1]),(8,[1]),(12,[1]),(13,[1])] [(14,[])] [1] [14] [0,1,2,3,4,5,6,7,8,9,10,11,12,13,14,15,16] (.bB 20 (decide (y7_1>0)) λx12=>.ifs [20] x12 (.bo (ix y7_2 y7_1) λx13=>.gv 25<|.gv 26<|.bI 29 (bL (y7_1-1)) λx14=>.bo (ix y7_2 x14) λx15=>.gv 30<|.gv 31<|.inl 32 XL Tryz.func177 [1,2] [] (λ_ (a:Int)=>int a) (λ_ _=>[]) (.al 3<|.al 4<|.dr [(0,[2]),(1,[3]),(3,[2]),(4,[4])] [] [2,3,4] [] [0,1,2,3,4,5,6,7] (.cl 8 (K9 x13) L8 PT λx18=>.cl 11 (K9 x15) L8 PT λx19=>.cl 12 (Q8 x18 x19) aD4 aAT λx20=>.ret (x20:Int))) (λy8_1=>.bB 33 (decide (y8_1<0)) λx21=>.ret x21)) (.ret false))) (λy9_1=>.ifs [34] y9_1 (.dr [(8,[1]),(9,[1]),(12,[1]),(13,[1]),(14,[1]),(16,[1])] [(15,[]),(17,[])] [1] [15,17] [0,1,2,3,4,5,6,7,8,9,10,11,12,13,14,15,16,17] (.bI 41 (bL (y7_1-1)) λx22=>.bI 44 (bL (y7_1-1)) λx23=>.bo (ix y7_2 x23) λx24=>.gv 45<|.gv 46<|.bo (ix y7_2 y7_1) λx25=>.gv 49<|.gv 50<|.gv 51<|.bl (y7_2.set (Int.toNat y7_1) x24:List dK) λx26=>.ge 1006015 0<|.bo (ix x26 x22) λx27=>.gv 52<|.bl (x26.set (Int.toNat x22) x25:List dK) λx28=>.ge 1006017 0<|.bI 36 (bL (y7_1-1)) λx29=>.brk ((x29:Int),x28))) (.esc (.ret y7_2))))) (λy10_1=>.ret y10_1)) (λy11_1=>.bI 16 (bL (y6_1+1)) λx30=>.brk ((x30:Int),y11_1))) (.esc (.ret y6_2)))) (λy12_1=>.ret y12_1)) (λy13_1=>.as (y13_1.length=a1.length) inferInstance<|.jn 0 [] [1,2] [] (λ_ (a:Unit)=>[]) (λ_ _=>[]) (.lp [0,1,2,6] [1,2] [] (λ_ (a:Unit)=>[]) (λ_ _=>[]) n () (λ_=>.bB 30 (decide (20<(a1.length:Int))) λx32=>.az [30] x32 (.esc (.ret ())))) (λ_=>.ret y13_1)))) (λy16_1=>.ret y16_1)) (λy17_1=>.ret y17_1)) (λy18_1=>.as (y18_1.length=a1.length) inferInstance<|.gv 17<|.jn 0 [2,3] [] [7] (λu134 (a:(List dK))=>[(5,.sl 7 (u134 7) 0 a.length)]) (λ_ a=>[.nw 7 120 2 (a.map dK.av)]) (.no 5 7 120 2<|.lp [2,3,17,18] [1] [7] (λu137 (a:Int×(List dK))=>[(5,.sl 7 (u137 7) 0 a.2.length),(19,int a.1)]) (λ_ a=>[.nw 7 120 2 (a.2.map dK.av)]) n ((0:Int),(([]:List dK):List dK)) (pw λy19_2 y19_3=>.bB 20 (decide (y19_2<(a1.length:Int))) λx35=>.ifs [20] x35 (.bo (ix y18_1 y19_2) λx36=>.gv 21<|.gv 22<|.al 5<|.bI 25 (bL ((y19_3.length:Int)-1)) λx38=>.jn 0 [2,3,5,7,8,17,18,19] [1,5,7] [] (λ_ (a:Bool)=>[(37,aA a)]) (λ_ _=>[]) (.dr [(5,[7]),(6,[7]),(7,[7]),(8,[5]),(9,[5])] [] [5,7] [] [0,1,2,3,4,5,6,7,8,9,10,11] (.bB 27 (decide (x38>=0)) λx39=>.ifs [27] x39 (.bo (ix y19_3 x38) λx40=>.gv 31<|.gv 32<|.gv 33<|.bB 36 (decide (x40.sJ=x36.sJ)) λx41=>.ret x41) (.ret false))) (λy20_1=>.az [37] y20_1 (.to 59 (aG 2 dK.av ([x36]:List dK))<|.bl (y19_3++([x36]:List dK):List dK) λx42=>.as (x42.length<=68719476736) inferInstance<|.ge 60 0<|.bI 61 (bL (y19_2+1)) λx45=>.brk ((x45:Int),x42)))) (.esc (.ret y19_3)))) (λy21_2=>.inl 63 aFF Tryz.func145 [] [] (λu151 (a:Nat×Nat×(List dK))=>.sl 7 (u151 7) a.1 a.2.1) (λ_ a=>[.kp 7 (a.2.2.map dK.av)]) (.inl 10 GH Tryz.func175 [7] [] (λ_ (a:Int)=>int a) (λ_ _=>[]) (.jS 2 [4] [7] [] (λ_ (a:Unit)=>[]) (λ_ _=>[]) (.lp [0,1,4,7] [7] [] (λ_ (a:Int)=>[(8,int a)]) (λ_ _=>[]) n (0:Int) (λy22_1=>.bB 9 (decide (y22_1<(y21_2.length:Int))) λx46=>.ifs [9] x46 (.bo (ix y21_2 y22_1) λx47=>.gv 14<|.gv 15<|.cl 16 (E9 x47) VD R3 λx48=>.ifs [16] x48 (.esc (.esc (.ret (y22_1:Int)))) (.bI 18 (bL (y22_1+1)) λx49=>.brk (x49:Int))) (.esc (.brk ())))) (λ_=>.ret ((-1):Int))) (λy24_1=>.bB 12 (decide (y24_1=(-1))) λx50=>.ifs [12] x50 (.ret ((0:Nat),(y21_2.length:Nat),y21_2)) (.bI 15 (bL (y24_1+1)) λx51=>.jn 0 [4] [] [] (λu160 (a:Int×(List dK))=>[(0,.sl 7 (u160 7) 0 a.2.length),(5,int a.1)]) (λ_ a=>[.kp 7 (a.2.map dK.av)]) (.lp [1,4] [] [] (λu163 (a:Int×Int×(List dK))=>[(0,.sl 7 (u163 7) 0 a.2.2.length),(5,int a.1),(6,int a.2.1)]) (λ_ a=>[.kp 7 (a.2.2.map dK.av)]) n ((y24_1:Int),(x51:Int),y21_2) (pw λy25_1 q0=>(pw λy25_2 y25_3=>.bB 19 (decide (y25_2<(y25_3.length:Int))) λx52=>.ifs [19] x52 (.jn 1 [1,4,6] [] [] (λu164 (a:Int×(List dK))=>[(0,.sl 7 (u164 7) 0 a.2.length),(5,int a.1)]) (λ_ a=>[.kp 7 (a.2.map dK.av)]) (.bo (ix y25_3 y25_2) λx53=>.gv 24<|.gv 25<|.al 8<|.cl 28 (E9 x53) VD R3 λx55=>.bB 29 (!x55) λx56=>.ifs [29] x56 (.bo (ix y25_3 y25_1) λx57=>.gv 33<|.bl (y25_3.set (Int.toNat y25_1) x53:List dK) λx58=>.ge 1009004 0<|.bI 35 (bL (y25_1+1)) λx59=>.ret ((x59:Int),x58)) (.ret ((y25_1:Int),y25_3))) (pw λy26_1 y26_2=>.bI 21 (bL (y25_2+1)) λx60=>.brk ((y26_1:Int),(x60:Int),y26_2))) (.esc (.ret ((y25_1:Int),y25_3)))) q0)) (pw λy27_1 y27_2=>.as ((0:Int)<=y27_1/\y27_1<(y27_2.length:Int)) inferInstance<|.gv 38<|.bl (y27_2.take (0+y27_1.toNat):List dK) λx62=>.ge 1011003 0<|.as ((0:Int)<=y27_1/\y27_1<=(y27_2.length:Int)) inferInstance<|.gv 41<|.ret (((0+0):Nat),((y27_1.toNat-0):Nat),x62))))) (pw λy28_1 q0=>(pw λy28_2 y28_3=>.as (y28_1+y28_2<=y28_3.length) inferInstance<|.ret (((((y28_3).drop y28_1).take y28_2):List dK),(0:Int))) q0)))))
def EV (n:Nat) (a1:List dK):Option ((List dK)×Int):=(aB6 n a1).run
theorem OA {n a1}:PZ (EV n a1) 102 [aG 2 dK.av a1] (λr=>.aM [aG 2 dK.av r.1,int r.2]):=by
 refine wm Tryz.func102 ?_
 refine .mk ?_ ?_
 refine .mk ?_ ?_
 refine .mk ?_
 refine .mk ?_ ?_
 refine .mk ?_
 intro _ _
 refine .mk λx2=>?_
 refine .mk ?_ ?_
 refine .mk λx3 e3=>?_
 refine .mk λx4 e4=>?_
 refine .mk .mk ?_
 refine .mk λx5=>?_
 exact .mk
 exact .mk
 intro _ _
 exact .mk
 intro _ _
 refine .mk trivial ?_
 refine .mk λx6=>?_
 exact .mk
 intro _ _
 refine .mk trivial ?_
 refine .mk ?_
 refine .mk λp7=>?_
 refine .mk _ ⟨λ_=>aQ rfl rfl (.cons rfl .nil) RO (nU (PW.pc (id:=1) (l:=a1) rfl p7) (.cons (.refl _) .nil)),λ_ _ _=>trivial⟩ ?_
 rintro _ _ ⟨v8,rfl,rfl⟩
 refine .mk ?_ ?_
 intro v9
 refine .mk ?_ ?_
 refine .mk ?_ ?_
 refine .mk ?_ ?_
 refine .mk ?_
 intro _ _
 refine .mk λx10=>?_
 refine .mk ?_
 exact .mk
 intro _ _
 refine .mk ?_ ?_
 refine .mk ?_
 refine .mk ?_ ?_
 refine .mk ?_
 intro _ _
 refine .mk λx11=>?_
 refine .mk ?_ ?_
 refine .mk ?_ ?_
 refine .mk ?_ ?_
 refine .mk ?_
 rintro ⟨y7_1,y7_2⟩ _
 refine .mk ?_ ?_
 refine .mk ?_
 refine .mk λx12=>?_
 refine .mk ?_ ?_
 refine .mk λx13 e13=>?_
 refine .mk _ (λH hH _=>iY rfl Tryz.underlying39 kH rfl rfl ((hH _ (by decide)).trans rfl) rfl rfl (Eq.symm rfl) (List.length_map _) e13) ?_
 refine .mk _ (λH hH _=>fG rfl kH rfl (.pt ((hH _ (by decide)).trans rfl) rfl (bZ e13)) rfl) ?_
 refine .mk λx14=>?_
 refine .mk λx15 e15=>?_
 refine .mk _ (λH hH _=>iY rfl Tryz.underlying39 kH rfl rfl ((hH _ (by decide)).trans rfl) rfl rfl (Eq.symm rfl) (List.length_map _) e15) ?_
 refine .mk _ (λH hH _=>fG rfl kH rfl (.pt ((hH _ (by decide)).trans rfl) rfl (bZ e15)) rfl) ?_
 refine .mk ?_ ?_
 intro v16
 intro v17
 refine .mk ?_
 refine .mk λx18 e18=>?_
 refine .mk λx19 e19=>?_
 refine .mk λx20 e20=>?_
 exact .mk
 intro _ _
 refine .mk trivial ?_
 refine .mk λx21=>?_
 exact .mk
 exact .mk
 intro _ _
 refine .mk ?_ ?_
 refine .mk ?_
 refine .mk λx22=>?_
 refine .mk λx23=>?_
 refine .mk λx24 e24=>?_
 refine .mk _ (λH hH _=>iY rfl Tryz.underlying39 kH rfl rfl ((hH _ (by decide)).trans rfl) rfl rfl (Eq.symm rfl) (List.length_map _) e24) ?_
 refine .mk _ (λH hH _=>fG rfl kH rfl (.pt ((hH _ (by decide)).trans rfl) rfl (bZ e24)) rfl) ?_
 refine .mk λx25 e25=>?_
 refine .mk _ (λH hH _=>iY rfl Tryz.underlying39 kH rfl rfl ((hH _ (by decide)).trans rfl) rfl rfl (Eq.symm rfl) (List.length_map _) e25) ?_
 refine .mk _ (λH hH _=>fG rfl kH rfl (.pt ((hH _ (by decide)).trans rfl) rfl (bZ e25)) rfl) ?_
 refine .mk _ (λH hH _=>iY rfl Tryz.underlying39 kH rfl rfl ((hH _ (by decide)).trans rfl) rfl rfl (Eq.symm rfl) (List.length_map _) e25) ?_
 refine .mk λx26 e26=>?_
 have fx26:=gT e25 e26;have lx26:=gQ e26 (rfl:y7_2.length=y7_2.length)
 refine .mk _ ⟨λ_=>bW.d9 (fH (ob':=(⟨120,2,true,true,_,x26.map dK.av⟩:aW)) (dZ rfl kH rfl rfl rfl rfl rfl (bZ e25) rfl rfl rfl) (fQ (iE e26))) (λ_ h=>h) (λ_ _=>trivial),by rintro _ _ ⟨rfl,rfl⟩;exact trivial⟩ ?_
 rintro _ _ ⟨rfl,rfl⟩
 refine .mk λx27 e27=>?_
 refine .mk _ (λH hH _=>iY rfl Tryz.underlying39 kH rfl rfl ((hH _ (by decide)).trans rfl) rfl rfl (Eq.symm lx26) (List.length_map _) e27) ?_
 refine .mk λx28 e28=>?_
 have fx28:=gT e27 e28;have lx28:=gQ e28 lx26
 refine .mk _ ⟨λ_=>bW.d9 (fH (ob':=(⟨120,2,true,true,_,x28.map dK.av⟩:aW)) (dZ rfl kH rfl rfl rfl rfl rfl (bZ e27) rfl rfl rfl) (fQ (iE e28))) (λ_ h=>h) (λ_ _=>trivial),by rintro _ _ ⟨rfl,rfl⟩;exact trivial⟩ ?_
 rintro _ _ ⟨rfl,rfl⟩
 refine .mk λx29=>?_
 exact .mk ⟨⟨⟨_,rfl,(nL (Eq.symm lx28))⟩,⟨_,rfl,(.refl _)⟩,⟨_,rfl,(.refl _)⟩,⟨_,rfl,(.refl _)⟩,⟨_,rfl,(.refl _)⟩,⟨_,rfl,(.refl _)⟩,trivial⟩,⟨⟨_,rfl,(.refl _)⟩,⟨_,rfl,(.refl _)⟩,trivial⟩⟩
 exact .mk
 intro _ _
 exact .mk
 intro _ _
 refine .mk λx30=>?_
 exact .mk
 exact .mk
 intro _ _
 exact .mk
 intro _ _
 refine .mk trivial ?_
 refine .mk λp31=>?_
 refine .mk ?_ ?_
 refine .mk ?_
 intro _ _
 refine .mk λx32=>?_
 refine .mk ?_
 exact .mk
 intro _ _
 exact .mk
 intro _ _
 refine .mk trivial ?_
 exact .mk
 intro _ _
 refine .mk trivial ?_
 exact .mk
 intro _ _
 refine .mk trivial ?_
 refine .mk λp33=>?_
 refine .mk _ (aF (bM rfl rfl)) ?_
 refine .mk ?_ ?_
 intro v34
 refine .mk ?_
 rintro ⟨y19_2,y19_3⟩ _
 refine .mk λx35=>?_
 refine .mk ?_ ?_
 refine .mk λx36 e36=>?_
 refine .mk _ (aF (iY rfl Tryz.underlying39 kH rfl rfl rfl rfl rfl (Eq.symm p33) (List.length_map _) e36)) ?_
 refine .mk _ (aF (fG rfl kH rfl (.pt rfl rfl (bZ e36)) rfl)) ?_
 intro v37
 refine .mk λx38=>?_
 refine .mk ?_ ?_
 refine .mk ?_
 refine .mk λx39=>?_
 refine .mk ?_ ?_
 refine .mk λx40 e40=>?_
 refine .mk _ (λH hH _=>iY rfl Tryz.underlying39 kH rfl rfl ((hH _ (by decide)).trans rfl) rfl rfl (Eq.symm rfl) (List.length_map _) e40) ?_
 refine .mk _ (λH hH _=>dX rfl aAV rfl (.pt ((hH _ (by decide)).trans rfl) rfl (bZ e40)) (.pt _ _ _ _ _)) ?_
 refine .mk _ (λH hH _=>fG rfl bX rfl (.pt ((hH _ (by decide)).trans rfl) rfl (bZ e40)) rfl) ?_
 refine .mk λx41=>?_
 exact .mk
 exact .mk
 intro _ _
 refine .mk ?_
 refine .mk (aF (aN (y:=aG 2 dK.av ([x36]:List dK)) (dY (ps:=[(0,_)]) (rows:=[[int x36.sJ,int x36.fM]]) rfl Tryz.underlying39 yH (.cons rfl .nil) (by kernel_rfl) rfl rfl rfl) rfl)) ?_
 refine .mk λx42 e42=>?_
 refine .mk λp43=>?_
 refine .mk _ ⟨λ_=>iP (g:=dK.av) (l:=y19_3) (m:=([x36]:List dK)) .any rfl Tryz.underlying39 yH Q5 rfl rfl rfl rfl rfl rfl rfl rfl rfl rfl (Eq.symm rfl) (.refl _) (λ_=>rfl) e42 p43,λ_ _ _=>trivial⟩ ?_
 rintro _ _ ⟨v44,-,rfl,rfl⟩
 refine .mk λx45=>?_
 exact .mk
 exact .mk
 intro _ _
 refine .mk ?_ ?_
 refine .mk ?_ ?_
 refine .mk ?_ ?_
 refine .mk ?_
 intro _ _
 refine .mk λx46=>?_
 refine .mk ?_ ?_
 refine .mk λx47 e47=>?_
 refine .mk _ (aF (iY rfl Tryz.underlying39 kH rfl rfl rfl rfl rfl (Eq.symm rfl) (List.length_map _) e47)) ?_
 refine .mk _ (aF (fG rfl kH rfl (.pt rfl rfl (bZ e47)) rfl)) ?_
 refine .mk λx48 e48=>?_
 refine .mk .mk ?_
 refine .mk λx49=>?_
 exact .mk
 exact .mk
 intro _ _
 exact .mk
 intro _ _
 refine .mk trivial ?_
 refine .mk λx50=>?_
 refine .mk .mk ?_
 refine .mk λx51=>?_
 refine .mk ?_ ?_
 refine .mk ?_
 rintro ⟨y25_1,y25_2,y25_3⟩ _
 refine .mk λx52=>?_
 refine .mk ?_ ?_
 refine .mk ?_ ?_
 refine .mk λx53 e53=>?_
 refine .mk _ (aF (iY rfl Tryz.underlying39 kH rfl rfl rfl rfl rfl (Eq.symm rfl) (List.length_map _) e53)) ?_
 refine .mk _ (aF (fG rfl kH rfl (.pt rfl rfl (bZ e53)) rfl)) ?_
 intro v54
 refine .mk λx55 e55=>?_
 refine .mk λx56=>?_
 refine .mk ?_ ?_
 refine .mk λx57 e57=>?_
 refine .mk _ (aF (iY rfl Tryz.underlying39 kH rfl rfl rfl rfl rfl (Eq.symm rfl) (List.length_map _) e57)) ?_
 refine .mk λx58 e58=>?_
 have fx58:=gT e57 e58;have lx58:=gQ e58 (rfl:y25_3.length=y25_3.length)
 refine .mk _ ⟨λ_=>bW.d9 (fH (ob':=(⟨120,2,true,true,_,x58.map dK.av⟩:aW)) (dZ rfl kH rfl rfl rfl rfl rfl (bZ e57) rfl rfl rfl) (fQ (iE e58))) (λ_ h=>h) (λ_ _=>trivial),λ_ _ _=>trivial⟩ ?_
 rintro _ _ ⟨rfl,rfl⟩
 refine .mk λx59=>?_
 exact .mk ⟨⟨⟨_,rfl,(nL (Eq.symm lx58))⟩,⟨_,rfl,(.refl _)⟩,⟨_,rfl,(.refl _)⟩,⟨_,rfl,(.refl _)⟩,⟨_,rfl,(.refl _)⟩,trivial⟩,⟨⟨_,rfl,(.refl _)⟩,trivial⟩⟩
 exact .mk
 intro _ _
 refine .mk λx60=>?_
 exact .mk
 exact .mk
 rintro ⟨y27_1,y27_2⟩ _
 refine .mk λp61=>?_
 refine .mk _ (aF (IK (len:=y27_2.length) (i:=y27_1.toNat) (j:=y27_2.length) rfl Tryz.underlying39 kH rfl rfl rfl rfl (.yes rfl (by first | omega | (dsimp only;omega) | (dsimp only at *;omega))) .no (by first | omega | (dsimp only;omega) | (dsimp only at *;omega)) (Nat.le_refl _) (.inl (by first | omega | (dsimp only;omega) | (dsimp only at *;omega))))) ?_
 refine .mk λx62 e62=>?_
 refine .mk _ ⟨λ_=>bW.d9 (fH (ob':=(⟨120,2,true,true,_,x62.map dK.av⟩:aW)) (Y3 rfl Tryz.underlying39 yH rfl rfl rfl rfl rfl rfl e62) rfl) (λ_ h=>h) (λ_ _=>trivial),λ_ _ _=>trivial⟩ ?_
 rintro _ _ ⟨rfl,rfl⟩
 refine .mk λp63=>?_
 refine .mk _ (aF (IK (len:=y27_2.length) (i:=0) (j:=y27_1.toNat) rfl Tryz.underlying39 kH rfl rfl rfl rfl .no (.yes rfl (by first | omega | (dsimp only;omega) | (dsimp only at *;omega))) (Nat.zero_le _) (by first | omega | (dsimp only;omega) | (dsimp only at *;omega)) (.inr rfl))) ?_
 exact .mk
 rintro ⟨y28_1,y28_2,y28_3⟩ _
 refine .mk trivial ?_
 refine .mk λp64=>?_
 exact .mk (cO.aM (.cons (ZD (l:=y28_3) rfl rfl rfl rfl (gN.refl _) (by first | omega | (simp only [List.length_set];omega)) rfl) (.cons (.refl _) .nil)))
def aAL (a1:Int):WB (Bool) :=
 .jn 1 [] [] [] (λ_ (a:Bool)=>[(2,aA a)]) (λ_ _=>[]) (.bB 4 (decide (a1>=(-288230376151711744))) λx2=>.ifs [4] x2 (.bB 7 (decide (a1<=288230376151711744)) λx3=>.ret x3) (.ret false)) (λy0_1=>.ret ((y0_1:Bool)))
def A9 (a1:Int):Option (Bool):=(aAL a1).run
theorem GQ {a1}:PZ (A9 a1) 104 [int a1] aA:=wq Tryz.func104
def aBP (a1:Int) (a2:Int):WB (Int×Int) :=
 .jn 1 [0,1,4,5] [] [] (λ_ (a:Bool)=>[(20,aA a)]) (λ_ _=>[]) (.cl 7 (A9 a1) G6 GQ λx3=>.bB 8 (!x3) λx4=>.ifs [8] x4 (.ret true) (.cl 11 (A9 a2) G6 GQ λx5=>.bB 12 (!x5) λx6=>.ifs [12] x6 (.ret true) (.bI 17 (bL (a1+a2)) λx7=>.cl 18 (A9 x7) G6 GQ λx8=>.bB 19 (!x8) λx9=>.ret x9))) (λy0_1=>.az [20] y0_1 (.bI 23 (bL (a1+a2)) λx10=>.ret ((x10:Int),0)))
def nZ (a1:Int) (a2:Int):Option (Int×Int):=(aBP a1 a2).run
theorem oG {a1 a2}:PZ (nZ a1 a2) 52 [int a1,int a2] (λr=>.aM [int r.1,int r.2]):=wq Tryz.func52
def aF7 (n:Nat) (a1:List Int):WB (Int×Int) :=
 .ln 9 fI a1<|.jn 0 [2,3] [] [] (λ_ (a:Int)=>[(4,int a)]) (λ_ _=>[]) (.lp [2,3,8,9] [] [] (λ_ (a:Int×Int)=>[(4,int a.1),(10,int a.2)]) (λ_ _=>[]) n ((0:Int),0) (pw λy0_1 y0_2=>.bB 11 (decide (y0_2<(a1.length:Int))) λx2=>.ifs [11] x2 (.ix 12 fI a1 y0_2 λx3=>.cl 17 (nZ y0_1 x3) o5 oG λx4=>.bB 21 (decide (x4.2≠0)) λx5=>.az [21] x5 (.bI 23 (bL (y0_2+1)) λx6=>.brk ((x4.1:Int),x6))) (.esc (.ret y0_1)))) (λy1_1=>.ret ((y1_1:Int),0))
def rH (n:Nat) (a1:List Int):Option (Int×Int):=(aF7 n a1).run
theorem rM {n a1}:PZ (rH n a1) 97 [aG 1 fI a1] (λr=>.aM [int r.1,int r.2]):=wq Tryz.func97
def aHW (n:Nat) (a1:List dK):WB (Int×Int) :=
 .ln 8 dK.av a1<|.jn 0 [2,3] [] [3] (λu2 (a:(List Int))=>[(4,.sl 3 (u2 3) 0 a.length)]) (λ_ a=>[.nw 3 3 1 (a.map fI)]) (.no 4 3 3 1<|.lp [2,3,7,8] [] [3] (λu3 (a:Int×(List Int))=>[(4,.sl 3 (u3 3) 0 a.2.length),(9,int a.1)]) (λ_ a=>[.nw 3 3 1 (a.2.map fI)]) n ((0:Int),(([]:List Int):List Int)) (pw λy0_2 y0_3=>.bB 10 (decide (y0_2<(a1.length:Int))) λx3=>.ifs [10] x3 (.ix 11 dK.av a1 y0_2 λx4=>.al 1<|.to 16 (aG 1 fI ([x4.fM]:List Int))<|.bl (y0_3++([x4.fM]:List Int):List Int) λx6=>.as (x6.length<=68719476736) inferInstance<|.ge 17 0<|.bI 18 (bL (y0_2+1)) λx9=>.brk ((x9:Int),x6)) (.esc (.ret y0_3)))) (λy1_2=>.mW 20 (rH n y1_2) sO rM (λ_=>rfl) λx10=>.ret ((x10.1:Int),x10.2))
def V5 (n:Nat) (a1:List dK):Option (Int×Int):=(aHW n a1).run
theorem aGA {n a1}:PZ (V5 n a1) 255 [aG 2 dK.av a1] (λr=>.aM [int r.1,int r.2]):=wq Tryz.func255
def aL4 (a1:dK):WB (Bool) :=
 .al 1<|.jn 0 [] [] [] (λ_ (a:Bool)=>[(2,aA a)]) (λ_ _=>[]) (.cl 5 (E8 a1.sJ) O1 LV λx3=>.bB 6 (!x3) λx4=>.ifs [6] x4 (.ret true) (.bB 10 (decide (a1.fM=0)) λx5=>.ifs [10] x5 (.ret true) (.cl 15 (G7 a1.fM) QL P6 λx6=>.bB 16 (!x6) λx7=>.ret x7))) (λy0_1=>.ret ((y0_1:Bool)))
def MS (a1:dK):Option (Bool):=(aL4 a1).run
theorem aH3 {a1}:PZ (MS a1) 254 [.agg (dK.av a1)] aA:=wq Tryz.func254
def aFM (n:Nat) (a1:List dK):WB (Bool) :=
 .jn 1 [0,2] [] [] (λ_ (a:Bool)=>[(13,aA a)]) (λ_ _=>[]) (.ln 7 dK.av a1<|.bB 8 (decide ((a1.length:Int)<1)) λx2=>.ifs [8] x2 (.ret true) (.ln 11 dK.av a1<|.bB 12 (decide ((a1.length:Int)>12)) λx3=>.ret x3)) (λy0_1=>.az [13] y0_1 (.cl 16 (V5 n a1) X6 aGA λx4=>.jn 0 [] [] [] (λ_ (a:Bool)=>[(2,aA a)]) (λ_ _=>[]) (.inl 21 UH Tryz.func138 [] [] (λ_ (a:Bool)=>aA a) (λ_ _=>[]) (.inl 7 GH Tryz.func175 [] [] (λ_ (a:Int)=>int a) (λ_ _=>[]) (.ln 7 dK.av a1<|.jS 0 [4] [] [] (λ_ (a:Unit)=>[]) (λ_ _=>[]) (.lp [0,1,4,7] [] [] (λ_ (a:Int)=>[(8,int a)]) (λ_ _=>[]) n 0 (λy1_1=>.bB 9 (decide (y1_1<(a1.length:Int))) λx5=>.ifs [9] x5 (.ix 14 dK.av a1 y1_1 λx6=>.cl 16 (MS x6) aH7 aH3 λx7=>.ifs [16] x7 (.esc (.esc (.ret y1_1))) (.bI 18 (bL (y1_1+1)) λx8=>.brk x8)) (.esc (.brk ())))) (λ_=>.ret (-1))) (λy3_1=>.bB 8 (decide (y3_1>=0)) λx9=>.ret x9)) (λy4_1=>.bB 22 (!y4_1) λx10=>.ifs [22] x10 (.bB 25 (decide (x4.1=0)) λx11=>.ifs [25] x11 (.bB 29 (decide (x4.2=0)) λx12=>.ret x12) (.ret false)) (.ret false))) (λy5_1=>.ret ((y5_1:Bool)))))
def SS (n:Nat) (a1:List dK):Option (Bool):=(aFM n a1).run
theorem aL7 {n a1}:PZ (SS n a1) 224 [aG 2 dK.av a1] aA:=wq Tryz.func224
def aCE (n:Nat) (a1:List Int) (a2:List dK):WB ((List Int)×Int) :=
 .al 1<|.ln 7 fI a1<|.bB 8 (decide ((a1.length:Int)≠17)) λx4=>.az [8] x4 (.inl 11 aH6 Tryz.func222 [1] [2] (λu7 (a:(List Int))=>.aM [.sl 2 (u7 2) 0 a.length,int 0]) (λ_ a=>[.nw 2 3 1 (a.map fI)]) (.as (a1.length<=68719476736) inferInstance<|.ge 9 2<|.inl 12 aKD Tryz.func223 [1] [] (λ_ (a:(List Int))=>int 0) (λ_ a=>[.kp 2 (a.map fI)]) (.cl 10 (EV n a2) PI OA λx7=>.jn 0 [0,3,4] [1,2] [] (λ_ (a:Bool)=>[(24,aA a)]) (λ_ _=>[]) (.bB 14 (decide (x7.2≠0)) λx8=>.ifs [14] x8 (.ret true) (.ln 17 dK.av x7.1<|.bB 18 (decide ((x7.1.length:Int)>0)) λx9=>.ifs [18] x9 (.cl 21 (SS n x7.1) aDR aL7 λx10=>.bB 22 (!x10) λx11=>.ret x11) (.ret false))) (λy0_1=>.az [24] y0_1 (.ln 26 dK.av x7.1<|.jn 0 [3] [1] [] (λ_ (a:(List Int))=>[]) (λ_ a=>[.kp 2 (a.map fI)]) (.lp [3,25,26] [1] [] (λu13 (a:Int×(List Int))=>[(0,.sl 2 (u13 2) 0 a.2.length),(27,int a.1)]) (λ_ a=>[.kp 2 (a.2.map fI)]) n ((0:Int),a1) (pw λy1_1 y1_2=>.bB 28 (decide (y1_1<(x7.1.length:Int))) λx12=>.ifs [28] x12 (.ix 29 dK.av x7.1 y1_1 λx13=>.al 3<|.dr [(1,[3]),(2,[3]),(4,[3]),(5,[3]),(6,[2]),(7,[2]),(8,[3]),(9,[3]),(14,[2])] [(15,[])] [2,3] [15] [0,1,2,3,4,5,6,7,8,9,10,11,12,13,14,15,16] (.bo (ix y1_2 x13.sJ) λx15=>.gv 38<|.gv 39<|.cl 42 (nZ x15 x13.fM) o5 oG λx16=>.gv 45<|.bl (y1_2.set (Int.toNat x13.sJ) x16.1:List Int) λx17=>.ge 1007015 0<|.bB 47 (decide (x16.2≠0)) λx18=>.az [47] x18 (.bI 49 (bL (y1_1+1)) λx19=>.brk ((x19:Int),x17)))) (.esc (.ret y1_2)))) (λy2_1=>.ret y2_1)))) (λy3_1=>.kB 14 false<|.as (y3_1.length=a1.length) inferInstance<|.gv 18<|.ret y3_1)) (λy4_2=>.ret ((y4_2:List Int),0)))
def OW (n:Nat) (a1:List Int) (a2:List dK):Option ((List Int)×Int):=(aCE n a1 a2).run
theorem aE8 {n a1 a2}:PZ (OW n a1 a2) 188 [aG 1 fI a1,aG 2 dK.av a2] (λr=>.aM [aG 1 fI r.1,int r.2]):=by
 refine wm Tryz.func188 ?_
 intro v3
 refine .mk ?_
 refine .mk λx4=>?_
 refine .mk ?_
 refine .mk ?_ ?_
 refine .mk λp5=>?_
 refine .mk _ ⟨λ_=>aQ rfl rfl (.cons rfl .nil) BR (nU (CE.pc (id:=2) (l:=a1) rfl p5) (.cons (.refl _) .nil)),λ_ _ _=>trivial⟩ ?_
 rintro _ _ ⟨v6,rfl,rfl⟩
 refine .mk ?_ ?_
 refine .mk λx7 e7=>?_
 refine .mk ?_ ?_
 refine .mk λx8=>?_
 refine .mk .mk ?_
 refine .mk ?_
 refine .mk λx9=>?_
 refine .mk ?_ ?_
 refine .mk λx10 e10=>?_
 refine .mk λx11=>?_
 exact .mk
 exact .mk
 intro _ _
 refine .mk ?_
 refine .mk ?_
 refine .mk ?_ ?_
 refine .mk ?_
 rintro ⟨y1_1,y1_2⟩ _
 refine .mk λx12=>?_
 refine .mk ?_ ?_
 refine .mk λx13 e13=>?_
 intro v14
 refine .mk ?_
 refine .mk λx15 e15=>?_
 refine .mk _ (λH hH _=>iY rfl Tryz.underlying23 bX rfl rfl ((hH _ (by decide)).trans rfl) rfl rfl (Eq.symm rfl) (List.length_map _) e15) ?_
 refine .mk _ (λH hH _=>fG rfl bX rfl (.pt ((hH _ (by decide)).trans rfl) rfl (bZ e15)) rfl) ?_
 refine .mk λx16 e16=>?_
 refine .mk _ (λH hH _=>iY rfl Tryz.underlying23 bX rfl rfl ((hH _ (by decide)).trans rfl) rfl rfl (Eq.symm rfl) (List.length_map _) e15) ?_
 refine .mk λx17 e17=>?_
 have fx17:=gT e15 e17;have lx17:=gQ e17 (rfl:y1_2.length=y1_2.length)
 refine .mk _ ⟨λ_=>bW.d9 (fH (ob':=(⟨3,1,true,true,_,x17.map fI⟩:aW)) (dZ rfl bX rfl rfl rfl rfl rfl (bZ e15) rfl rfl rfl) (fQ (iE e17))) (λ_ h=>h) (λ_ _=>trivial),by rintro _ _ ⟨rfl,rfl⟩;exact trivial⟩ ?_
 rintro _ _ ⟨rfl,rfl⟩
 refine .mk λx18=>?_
 refine .mk ?_
 refine .mk λx19=>?_
 exact .mk ⟨⟨⟨_,rfl,(nL (Eq.symm lx17))⟩,⟨_,rfl,(.refl _)⟩,⟨_,rfl,(.refl _)⟩,⟨_,rfl,(.refl _)⟩,⟨_,rfl,(.refl _)⟩,trivial⟩,⟨⟨_,rfl,(.refl _)⟩,⟨_,rfl,(.refl _)⟩,trivial⟩⟩
 exact .mk
 intro _ _
 exact .mk
 intro _ _
 refine .mk trivial ?_
 refine .mk ?_
 refine .mk λp20=>?_
 refine .mk _ (aF (bM rfl rfl)) ?_
 exact .mk (QT (Eq.symm p20)) ⟨rfl,rfl,trivial⟩
 intro _ _
 refine .mk trivial ?_
 exact .mk (cO.aM (.cons (gB rfl rfl rfl rfl rfl (Eq.symm rfl)) (.cons (.refl _) .nil)))
def XP (n:Nat) (a1:bF) (a2:Int) (a3:List dK):WB (bF×Int) :=
 .al 1<|.al 2<|.jn 0 [1,2,3,6,7] [1,2] [] (λ_ (a:Bool)=>[(20,aA a)]) (λ_ _=>[]) (.bB 13 (decide (a2<0)) λx6=>.ifs [13] x6 (.ret true) (.ln 18 aH.av a1.fO<|.bB 19 (decide (a2>=(a1.fO.length:Int))) λx7=>.ret x7)) (λy0_1=>.az [20] y0_1 (.cl 24 (EV n a3) PI OA λx8=>.bB 28 (decide (x8.2≠0)) λx9=>.az [28] x9 (.lV 35 aH.av gE aH.gI a1.fO a2 λx10=>.cl 39 (OW n x10.jB x8.1) aEH aE8 λx11=>.bB 43 (decide (x11.2≠0)) λx12=>.az [43] x12 (.al 3<|.inl 49 J2 Tryz.func189 [1,2] [4] (λu3 (a:Unit)=>.pt 4 (u3 4) (Int.toNat a2) 0) (λu3 _=>[.kp 3 [[int a1.fJ.fT,int a1.fJ.iX,aG 1 fI a1.fJ.bC,aG 1 (fL 1 fI) a1.fJ.Methods,aG 1 (fL 1 fI) a1.fJ.iF,.sl 4 (u3 4) 0 a1.fO.length,aG 8 fP.av a1.jD,aG 9 gV.av a1.jP,aG 6 iD.av a1.jW,int a1.Done]],.nw 4 110 8 (a1.fO.map aH.av)]) (.as (a1.fO.length<=68719476736) inferInstance<|.ge 11 4<|.bo (ix a1.fO a2) λx16=>.gv 21<|.ret ()) (λ_=>.bo (ix a1.fO a2) λx17=>.gv 51<|.gv 52<|.bl (a1.fO.set (Int.toNat a2) ((⟨x17.jR,x17.Closed,x17.gY,x11.1,x17.iI,x17.iL,x17.Down,x17.iQ⟩:aH):aH):List aH) λx18=>.ge 1010005 0<|.ret (((⟨a1.fJ,x18,a1.jD,a1.jP,a1.jW,a1.Done⟩:bF):bF),0))))))
def IL (n:Nat) (a1:bF) (a2:Int) (a3:List dK):Option (bF×Int):=(XP n a1 a2 a3).run
theorem NE {n a1 a2 a3}:PZ (IL n a1 a2 a3) 161 [.agg (bF.av a1),int a2,aG 2 dK.av a3] (λr=>.aM [.agg (bF.av r.1),int r.2]):=by
 refine wm Tryz.func161 ?_
 intro v4
 intro v5
 refine .mk ?_ ?_
 refine .mk λx6=>?_
 refine .mk .mk ?_
 refine .mk ?_
 refine .mk λx7=>?_
 exact .mk
 intro _ _
 refine .mk ?_
 refine .mk λx8 e8=>?_
 refine .mk λx9=>?_
 refine .mk ?_
 refine .mk λx10 e10=>?_
 refine .mk λx11 e11=>?_
 refine .mk λx12=>?_
 refine .mk ?_
 intro v13
 refine .mk ?_ ?_
 refine .mk λp14=>?_
 refine .mk _ ⟨λ_=>aQ rfl rfl (.cons rfl .nil) zM (nU (yC.pc (id:=4) (l:=a1.fO) rfl p14) (.cons (.refl _) .nil)),λ_ _ _=>trivial⟩ ?_
 rintro _ _ ⟨v15,rfl,rfl⟩
 refine .mk λx16 e16=>?_
 refine .mk _ (aF (iY rfl Tryz.underlying55 sQ rfl rfl rfl rfl rfl (Eq.symm rfl) (List.length_map _) e16)) ?_
 exact .mk
 intro _ _
 refine .mk trivial ?_
 refine .mk λx17 e17=>?_
 refine .mk _ (aF (bK rfl rfl (.pt rfl rfl (kG e17 (aH.gI _))))) ?_
 refine .mk _ (aF (dX rfl F4 rfl (.pt rfl rfl (kG e17 (aH.gI _))) (.pt _ _ _ _ _))) ?_
 refine .mk λx18 e18=>?_
 have fx18:=gT e17 e18;have lx18:=gQ e18 (rfl:a1.fO.length=a1.fO.length)
 refine .mk _ ⟨λ_=>bW.d9 (fH (ob':=(⟨110,8,true,true,_,x18.map aH.av⟩:aW)) (dZ rfl kV rfl rfl rfl rfl rfl (kG e17 (aH.gI _)) rfl rfl rfl) (fQ (KO e18 (aH.gI _)))) (λ_ h=>h) (λ_ _=>trivial),λ_ _ _=>trivial⟩ ?_
 rintro _ _ ⟨rfl,rfl⟩
 exact .mk (cO.aM (.cons (cO.agg (.cons (.refl _) (.cons (.refl _) (.cons (.refl _) (.cons (.refl _) (.cons (.refl _) (.cons (gB rfl rfl rfl rfl rfl (Eq.symm lx18)) (.cons (.refl _) (.cons (.refl _) (.cons (.refl _) (.cons (.refl _) .nil))))))))))) (.cons (.refl _) .nil)))
def YF (n:Nat) (a1:bF) (a2:Int):WB (bF×Int) :=
 .al 1<|.al 2<|.al 3<|.jn 0 [2,3,4,5] [1,2,3] [] (λ_ (a:Bool)=>[(23,aA a)]) (λ_ _=>[]) (.bB 16 (decide (a2<0)) λx6=>.ifs [16] x6 (.ret true) (.ln 21 aH.av a1.fO<|.bB 22 (decide (a2>=(a1.fO.length:Int))) λx7=>.ret x7)) (λy0_1=>.az [23] y0_1 (.lV 28 aH.av gE aH.gI a1.fO a2 λx8=>.al 4<|.as (x8.Down.length<=68719476736) inferInstance<|.ge 32 5<|.ln 38 fI x8.iL<|.bl (if (x8.iL.length:Int)<(x8.Down.length:Int) then (x8.iL.length:Int) else (x8.Down.length:Int):Int) λx12=>.gv 39<|.jn 0 [2,3,4,5,7,8] [1,2,3,5] [] (λ_ (a:Unit)=>[]) (λ_ _=>[]) (.lp [2,3,4,5,6,7,8,9,39] [1,2,3,4,5] [] (λ_ (a:Int)=>[(40,int a)]) (λ_ _=>[]) n 0 (λy1_1=>.bB 41 (decide (y1_1<x12)) λx13=>.ifs [41] x13 (.ix 46 fI x8.iL y1_1 λx14=>.bB 48 (decide (x14>=0)) λx15=>.az [48] x15 (.bI 70 (bL (y1_1+1)) λx16=>.brk x16)) (.esc (.ret ())))) (λ_=>.cl 75 (IL n a1 a2 []) OF NE λx17=>.al 6<|.bB 79 (decide (x17.2≠0)) λx19=>.az [79] x19 (.as (x17.1.fO.length<=68719476736) inferInstance<|.ge 84 7<|.bo (ix x17.1.fO a2) λx22=>.gv 90<|.gv 91<|.ge 1020006 0<|.ret (((⟨x17.1.fJ,(x17.1.fO.set (Int.toNat a2) (⟨x22.jR,x22.Closed,x22.gY,x22.jB,x22.iI,x22.iL,x8.Down,x22.iQ⟩:aH)),x17.1.jD,x17.1.jP,x17.1.jW,x17.1.Done⟩:bF):bF),0)))))
def OQ (n:Nat) (a1:bF) (a2:Int):Option (bF×Int):=(YF n a1 a2).run
theorem ZI {n a1 a2}:PZ (OQ n a1 a2) 131 [.agg (bF.av a1),int a2] (λr=>.aM [.agg (bF.av r.1),int r.2]):=wq Tryz.func131
def aD1 (n:Nat) (a1:bF) (a2:Int):WB (bF×Int) :=
 .al 1<|.al 2<|.cl 17 (OY a1 a2) aJU aKT λx5=>.bB 18 (!x5) λx6=>.az [18] x6 (.lV 24 aH.av gE aH.gI a1.fO a2 λx7=>.wt 20 <|.az [20] x7.Closed (.al 3<|.ix 33 (fL 1 fI) a1.fJ.Methods a2 λx9=>.ln 35 fI x9<|.jn 0 [1,2,4,5,6] [1,2,3] [] (λ_ (a:Unit)=>[]) (λ_ _=>[]) (.lp [1,2,4,5,6,34,35] [1,2,3] [] (λ_ (a:Int)=>[(36,int a)]) (λ_ _=>[]) n 0 (λy0_1=>.bB 37 (decide (y0_1<(x9.length:Int))) λx10=>.ifs [37] x10 (.jn 1 [1,2,4,5,6,34,35,36] [1,2,3] [] (λ_ (a:Unit)=>[]) (λ_ _=>[]) (.ix 39 fI x9 y0_1 λx11=>.jn 0 [1,2,4,5,6,7,34,35,36] [1,2,3] [] (λ_ (a:Bool)=>[(55,aA a)]) (λ_ _=>[]) (.bB 42 (decide (x11≠3)) λx12=>.ifs [42] x12 (.ret true) (.bI 45 (bL (y0_1+1)) λx13=>.bI 46 (bL (x13*2)) λx14=>.lV 50 aH.av gE aH.gI a1.fO a2 λx15=>.ln 53 aT.av x15.gY<|.bB 54 (decide (x14>(x15.gY.length:Int))) λx16=>.ret x16)) (λy1_1=>.ifs [55] y1_1 (.ret ()) (.lV 59 aH.av gE aH.gI a1.fO a2 λx17=>.bI 63 (bL (y0_1*2)) λx18=>.bI 65 (bL (y0_1+1)) λx19=>.bI 66 (bL (x19*2)) λx20=>.bI 68 (bL (y0_1+1)) λx21=>.bI 69 (bL (x21*2)) λx22=>.as ((0:Int)<=x18/\x18<=x20/\x20<=(x17.gY.length:Int)/\x22=x20) inferInstance<|.bl ((x17.gY.take x20.toNat).drop x18.toNat:List aT) λx24=>.gv 70<|.ln 72 aT.av x24<|.jn 0 [1,2,4,5,6,34,35,36] [1,2,3] [] (λ_ (a:Unit)=>[]) (λ_ _=>[]) (.lp [1,2,4,5,6,7,34,35,36,71,72] [1,2,3] [] (λ_ (a:Int)=>[(73,int a)]) (λ_ _=>[]) n 0 (λy2_1=>.bB 74 (decide (y2_1<(x24.length:Int))) λx25=>.ifs [74] x25 (.ix 76 aT.av x24 y2_1 λx26=>.al 4<|.gv 80<|.bl (decide ((x26.dU:jN)=((⟨0,0,0⟩:jN):jN)):Bool) λx28=>.gv 81<|.an [81] x28 (.bI 95 (bL (y2_1+1)) λx29=>.brk x29)) (.esc (.ret ())))) (λ_=>.ret ())))) (λ_=>.bI 96 (bL (y0_1+1)) λx30=>.brk x30)) (.esc (.ret ())))) (λ_=>.cl 100 (OQ n a1 a2) XU ZI λx31=>.bB 104 (decide (x31.2≠0)) λx32=>.az [104] x32 (.as (x31.1.fO.length<=68719476736) inferInstance<|.ge 109 5<|.dr [(0,[3]),(1,[3]),(3,[3]),(4,[3]),(6,[1]),(7,[1]),(12,[5]),(13,[5]),(15,[5]),(16,[5])] [(14,[3]),(17,[])] [1,3,5] [14,17] [0,1,2,3,4,5,6,7,8,9,10,11,12,13,14,15,16,17] (.lV 120 aH.av gE aH.gI a1.fO a2 λx35=>.to 122 (aG 8 aH.av ([x35]:List aH))<|.bo (ix x31.1.fO a2) λx36=>.gv 123<|.gv 124<|.bl (x31.1.fO.set (Int.toNat a2) ((⟨x36.jR,x36.Closed,x36.gY,x36.jB,x36.iI,x36.iL,x36.Down,([x35]:List aH)⟩:aH):aH):List aH) λx37=>.ge 1025014 0<|.gv 125<|.gv 126<|.bl (x37.set (Int.toNat a2) ((⟨x36.jR,true,x36.gY,x36.jB,x36.iI,x36.iL,x36.Down,([x35]:List aH)⟩:aH):aH):List aH) λx38=>.ge 1025017 0<|.ret (((⟨x31.1.fJ,x38,x31.1.jD,x31.1.jP,x31.1.jW,x31.1.Done⟩:bF):bF),0))))))
def MY (n:Nat) (a1:bF) (a2:Int):Option (bF×Int):=(aD1 n a1 a2).run
theorem aFQ {n a1 a2}:PZ (MY n a1 a2) 87 [.agg (bF.av a1),int a2] (λr=>.aM [.agg (bF.av r.1),int r.2]):=by
 refine wm Tryz.func87 ?_
 intro v3
 intro v4
 refine .mk λx5 e5=>?_
 refine .mk λx6=>?_
 refine .mk ?_
 refine .mk λx7 e7=>?_
 refine .mk ?_
 intro v8
 refine .mk λx9 e9=>?_
 refine .mk ?_
 refine .mk ?_ ?_
 refine .mk ?_
 intro _ _
 refine .mk λx10=>?_
 refine .mk ?_ ?_
 refine .mk ?_ ?_
 refine .mk λx11 e11=>?_
 refine .mk ?_ ?_
 refine .mk λx12=>?_
 refine .mk .mk ?_
 refine .mk λx13=>?_
 refine .mk λx14=>?_
 refine .mk λx15 e15=>?_
 refine .mk ?_
 refine .mk λx16=>?_
 exact .mk
 intro _ _
 refine .mk .mk ?_
 refine .mk λx17 e17=>?_
 refine .mk λx18=>?_
 refine .mk λx19=>?_
 refine .mk λx20=>?_
 refine .mk λx21=>?_
 refine .mk λx22=>?_
 refine .mk λp23=>?_
 refine .mk λx24 e24=>?_
 refine .mk _ (aF (aJ9 (i:=x18.toNat) (j:=x20.toNat) rfl Tryz.underlying107 yM rfl (.yes rfl (by omega)) (.yes rfl (by omega)) (.yes rfl (by omega)) (by omega) (by omega) e24)) ?_
 refine .mk ?_
 refine .mk ?_ ?_
 refine .mk ?_
 intro _ _
 refine .mk λx25=>?_
 refine .mk ?_ ?_
 refine .mk λx26 e26=>?_
 intro v27
 refine .mk _ (aF (LU (cs:=[int 0,int 0,int 0]) (ps:=[]) rfl Tryz.underlying188 bX aI6 rfl .nil (by kernel_rfl))) ?_
 refine .mk λx28 e28=>?_
 refine .mk _ (aF (aCN (r':=x28) rfl Tryz.underlying188 sz3 c3 (by decide) rfl rfl (.cons (.int Tryz.underlying3) bX (.cons (.int Tryz.underlying3) bX (.cons (.int Tryz.underlying3) bX (.nil _)))) ((jN.eqv (x26.dU:jN) ((⟨0,0,0⟩:jN):jN)).trans e28))) ?_
 refine .mk ?_
 refine .mk λx29=>?_
 exact .mk
 exact .mk
 intro _ _
 exact .mk
 intro _ _
 refine .mk λx30=>?_
 exact .mk
 exact .mk
 intro _ _
 refine .mk λx31 e31=>?_
 refine .mk λx32=>?_
 refine .mk ?_
 refine .mk λp33=>?_
 refine .mk _ ⟨λ_=>aQ rfl rfl (.cons rfl .nil) zM (nU (yC.pc (id:=5) (l:=x31.1.fO) rfl p33) (.cons (.refl _) .nil)),λ_ _ _=>trivial⟩ ?_
 rintro _ _ ⟨v34,rfl,rfl⟩
 refine .mk ?_
 refine .mk λx35 e35=>?_
 refine .mk (λH hH _=>aN (y:=aG 8 aH.av ([x35]:List aH)) (dY (ps:=[(0,_)]) (rows:=[[int x35.jR,aA x35.Closed,aG 4 aT.av x35.gY,aG 1 fI x35.jB,aG 11 bA.av x35.iI,aG 1 fI x35.iL,aG 1 fI x35.Down,aG 8 aH.av x35.iQ]]) rfl Tryz.underlying55 wK (.cons rfl .nil) (by kernel_rfl) rfl rfl rfl) (congrArg (AV.list 8) (by simp only [List.map_cons,List.map_nil,aH.gI]))) ?_
 refine .mk λx36 e36=>?_
 refine .mk _ (λH hH _=>iY rfl Tryz.underlying55 sQ rfl rfl ((hH _ (by decide)).trans rfl) rfl rfl (Eq.symm rfl) (List.length_map _) e36) ?_
 refine .mk _ (λH hH _=>dX rfl G4 rfl (.pt ((hH _ (by decide)).trans rfl) rfl (kG e36 (aH.gI _))) (.pt _ _ _ _ _)) ?_
 refine .mk λx37 e37=>?_
 have fx37:=gT e36 e37;have lx37:=gQ e37 (rfl:x31.1.fO.length=x31.1.fO.length)
 refine .mk _ ⟨λ_=>bW.d9 (fH (ob':=(⟨110,8,true,true,_,x37.map aH.av⟩:aW)) (dZ rfl sP rfl rfl rfl rfl rfl (kG e36 (aH.gI _)) rfl rfl rfl) (fQ (KO e37 (aH.gI _)))) (λ_ h=>h) (λ_ _=>trivial),by rintro _ _ ⟨rfl,rfl⟩;exact ⟨rfl,trivial⟩⟩ ?_
 rintro _ _ ⟨rfl,rfl⟩
 refine .mk _ (λH hH _=>iY rfl Tryz.underlying55 sQ rfl rfl ((hH _ (by decide)).trans rfl) rfl rfl (Eq.symm lx37) (List.length_map _) fx37) ?_
 refine .mk _ (λH hH _=>dX rfl E5 rfl (.pt ((hH _ (by decide)).trans rfl) rfl (kG fx37 (aH.gI _))) (.pt _ _ _ _ _)) ?_
 refine .mk λx38 e38=>?_
 have fx38:=gT fx37 e38;have lx38:=gQ e38 lx37
 refine .mk _ ⟨λ_=>bW.d9 (fH (ob':=(⟨110,8,true,true,_,x38.map aH.av⟩:aW)) (dZ rfl uH rfl rfl rfl rfl rfl (kG fx37 (aH.gI _)) rfl rfl rfl) (fQ (KO e38 (aH.gI _)))) (λ_ h=>h) (λ_ _=>trivial),by rintro _ _ ⟨rfl,rfl⟩;exact trivial⟩ ?_
 rintro _ _ ⟨rfl,rfl⟩
 exact .mk (cO.aM (.cons (cO.agg (.cons (.refl _) (.cons (.refl _) (.cons (.refl _) (.cons (.refl _) (.cons (.refl _) (.cons (gB rfl rfl rfl rfl rfl (Eq.symm lx38)) (.cons (.refl _) (.cons (.refl _) (.cons (.refl _) (.cons (.refl _) .nil))))))))))) (.cons (.refl _) .nil)))
def aGT (a1:bF) (a2:Int) (a3:Int):WB (Bool) :=
 .al 1<|.jn 0 [1,3,6] [1] [] (λ_ (a:Bool)=>[(29,aA a)]) (λ_ _=>[]) (.bB 10 (decide (a2<0)) λx5=>.ifs [10] x5 (.ret true) (.ln 15 aH.av a1.fO<|.bB 16 (decide (a2>=(a1.fO.length:Int))) λx6=>.ifs [16] x6 (.ret true) (.bB 20 (decide (a3<0)) λx7=>.ifs [20] x7 (.ret true) (.ln 27 fI a1.fJ.bC<|.bB 28 (decide (a3>=(a1.fJ.bC.length:Int))) λx8=>.ret x8)))) (λy0_1=>.az [29] y0_1 (.dr [(0,[1]),(1,[1]),(5,[1]),(6,[1]),(7,[1])] [] [1] [9,10] [0,1,2,3,4,5,6,7,8,9,10,11] (.lV 33 aH.av gE aH.gI a1.fO a2 λx9=>.ln 38 fI a1.fJ.bC<|.al 2<|.jn 0 [] [] [] (λ_ (a:Bool)=>[(6,aA a)]) (λ_ _=>[]) (.ln 41 aT.av x9.gY<|.bI 43 (bL ((a1.fJ.bC.length:Int)*2)) λx11=>.bB 44 (decide ((x9.gY.length:Int)>=x11)) λx12=>.ifs [44] x12 (.ln 48 bA.av x9.iI<|.bB 50 (decide ((x9.iI.length:Int)>=(a1.fJ.bC.length:Int))) λx13=>.ifs [50] x13 (.ln 57 (fL 1 fI) a1.fJ.Methods<|.bB 58 (decide (a2<(a1.fJ.Methods.length:Int))) λx14=>.ifs [58] x14 (.ln 65 (fL 1 fI) a1.fJ.iF<|.bB 66 (decide (a2<(a1.fJ.iF.length:Int))) λx15=>.ifs [66] x15 (.ix 73 (fL 1 fI) a1.fJ.Methods a2 λx16=>.ln 75 fI x16<|.bB 77 (decide ((x16.length:Int)>=(a1.fJ.bC.length:Int))) λx17=>.ifs [77] x17 (.ix 84 (fL 1 fI) a1.fJ.iF a2 λx18=>.ln 86 fI x18<|.bB 88 (decide ((x18.length:Int)>=(a1.fJ.bC.length:Int))) λx19=>.ret x19) (.ret false)) (.ret false)) (.ret false)) (.ret false)) (.ret false)) (λy1_1=>.ret ((y1_1:Bool))))))
def AN (a1:bF) (a2:Int) (a3:Int):Option (Bool):=(aGT a1 a2 a3).run
theorem FX {a1 a2 a3}:PZ (AN a1 a2 a3) 190 [.agg (bF.av a1),int a2,int a3] aA:=wq Tryz.func190
def aIP (a1:bF) (a2:Int) (a3:Int):WB (Int) :=
 .al 1<|.cl 11 (AN a1 a2 a3) II FX λx5=>.bB 12 (!x5) λx6=>.az [12] x6 (.lV 17 aH.av gE aH.gI a1.fO a2 λx7=>.wt 13 <|.az [13] x7.Closed (.ret ((0:Int))))
def TG (a1:bF) (a2:Int) (a3:Int):Option (Int):=(aIP a1 a2 a3).run
theorem aCH {a1 a2 a3}:PZ (TG a1 a2 a3) 196 [.agg (bF.av a1),int a2,int a3] int:=wq Tryz.func196
def aF2 (a1:Int) (a2:Int) (a3:Int):WB (Bool) :=
 .jn 1 [] [] [] (λ_ (a:Bool)=>[(6,aA a)]) (λ_ _=>[]) (.bB 9 (decide (a1>=a2)) λx4=>.ifs [9] x4 (.bB 13 (decide (a1<=a3)) λx5=>.ret x5) (.ret false)) (λy0_1=>.ret ((y0_1:Bool)))
def lG (a1:Int) (a2:Int) (a3:Int):Option (Bool):=(aF2 a1 a2 a3).run
theorem lU {a1 a2 a3}:PZ (lG a1 a2 a3) 73 [int a1,int a2,int a3] aA:=wq Tryz.func73
def aLC (a1:bF) (a2:Int) (a3:Int) (a4:Int):WB (Int) :=
 .al 1<|.jn 0 [2,3,8] [] [] (λ_ (a:Bool)=>[(18,aA a)]) (λ_ _=>[]) (.cl 12 (AN a1 a2 a3) II FX λx6=>.bB 13 (!x6) λx7=>.ifs [13] x7 (.ret true) (.cl 16 (lG a4 0 1) lN lU λx8=>.bB 17 (!x8) λx9=>.ret x9)) (λy0_1=>.az [18] y0_1 (.bI 20 (bL (a3*2)) λx10=>.bI 22 (bL (x10+a4)) λx11=>.ret ((x11:Int))))
def IM (a1:bF) (a2:Int) (a3:Int) (a4:Int):Option (Int):=(aLC a1 a2 a3 a4).run
theorem TL {a1 a2 a3 a4}:PZ (IM a1 a2 a3 a4) 215 [.agg (bF.av a1),int a2,int a3,int a4] int:=wq Tryz.func215
def aJ2 (a1:bQ):WB (Bool) :=
 .al 1<|.jn 0 [] [] [] (λ_ (a:Bool)=>[(2,aA a)]) (λ_ _=>[]) (.bB 5 (decide (a1.dJ<1)) λx3=>.ifs [5] x3 (.ret true) (.bB 9 (decide (a1.dJ>288230376151711744)) λx4=>.ifs [9] x4 (.ret true) (.bB 14 (decide (a1.Value<0)) λx5=>.ifs [14] x5 (.ret true) (.bB 19 (decide (a1.Value>288230376151711744)) λx6=>.ifs [19] x6 (.ret true) (.bB 24 (decide (a1.gP<(-288230376151711744))) λx7=>.ifs [24] x7 (.ret true) (.bB 29 (decide (a1.gP>288230376151711744)) λx8=>.ret x8)))))) (λy0_1=>.ret ((y0_1:Bool)))
def PS (a1:bQ):Option (Bool):=(aJ2 a1).run
theorem YI {a1}:PZ (PS a1) 181 [.agg (bQ.av a1)] aA:=wq Tryz.func181
end
end Go.Pv
