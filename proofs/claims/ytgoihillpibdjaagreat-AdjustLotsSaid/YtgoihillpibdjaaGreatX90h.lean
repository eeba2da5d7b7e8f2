import Derived.Test.YtgoihillpibdjaaGreatX90g
set_option linter.unusedVariables false
set_option linter.unusedSimpArgs false
namespace Go.Pv
open Go.Proofs
set_option maxRecDepth 100000
set_option maxHeartbeats 4000000
noncomputable section
def ZH (n:Nat) (a1:List aS):WB ((List aS)×Int) :=
 .inl 12 XV Tryz.func185 [] [] (λ_ (a:Bool)=>bD a) (λ_ _=>[]) (.inl 7 PS Tryz.func199 [] [] (λ_ (a:Int)=>int a) (λ_ _=>[]) (.ln 7 aS.av a1<|.eZ 0 [4] [] [] (λ_ (a:Unit)=>[]) (λ_ _=>[]) (.lp [0,1,4,7] [] [] (λ_ (a:Int)=>[(8,int a)]) (λ_ _=>[]) n (0:Int) (λy0_1=>.bB 9 (decide (y0_1<(a1.length:Int))) λx2=>.ifs [9] x2 (.ix 14 aS.av a1 y0_1 λx3=>.cl 16 (ML x3) aTZ aVY λx4=>.ifs [16] x4 (.esc (.esc (.ret (y0_1:Int)))) (.bI 18 (aW (y0_1+1)) λx5=>.brk (x5:Int))) (.esc (.brk ())))) (λ_=>.ret ((-1):Int))) (λy2_1=>.bB 8 (decide (y2_1>=0)) λx6=>.ret x6)) (λy3_1=>.ifs [12] y3_1 (.ret (([]:List aS),(1:Int))) (.as (a1.length<=68719476736) inferInstance<|.ge 14 1<|.inl 16 aWV Tryz.func190 [] [] (λ_ (a:(List aS))=>.bT []) (λ_ a=>[.kp 1 (a.map aS.av)]) (.al 2<|.inl 6 aPF Tryz.func200 [2] [] (λ_ (a:(List aS))=>.bT []) (λ_ a=>[.kp 1 (a.map aS.av)]) (.inl 8 aUU Tryz.func205 [2] [] (λ_ (a:(List aS))=>.bT []) (λ_ a=>[.kp 1 (a.map aS.av)]) (.jn 2 [0,1,2,6,7] [1,2] [] (λ_ (a:Unit)=>[]) (λ_ _=>[]) (.lp [0,1,2,6,7,8] [1,2] [] (λ_ (a:Unit)=>[]) (λ_ _=>[]) n () (λ_=>.bB 13 (decide (20<=(a1.length:Int))) λx10=>.az [13] x10 (.esc (.ret ())))) (λ_=>.inl 27 aR1 Tryz.func207 [2] [] (λ_ (a:(List aS))=>.bT []) (λ_ a=>[.kp 1 (a.map aS.av)]) (.kI 11 1<|.jn 0 [] [2] [] (λ_ (a:(List aS))=>[]) (λ_ a=>[.kp 1 (a.map aS.av)]) (.lp [1,2,3] [2] [] (λu107 (a:Int×(List aS))=>[(0,.sl 1 (u107 1) 0 a.2.length),(8,int a.1)]) (λ_ a=>[.kp 1 (a.2.map aS.av)]) n ((1:Int),a1) (pw λy6_1 y6_2=>.bB 14 (decide (y6_1<(a1.length:Int))) λx11=>.ifs [14] x11 (.jn 1 [1,2,3,8] [2] [] (λu113 (a:(List aS))=>[(0,.sl 1 (u113 1) 0 a.length)]) (λ_ a=>[.kp 1 (a.map aS.av)]) (.jn 2 [1,2,3,8] [2] [] (λu118 (a:(List aS))=>[(0,.sl 1 (u118 1) 0 a.length)]) (λ_ a=>[.kp 1 (a.map aS.av)]) (.lp [1,2,3,8] [2] [] (λu121 (a:Int×(List aS))=>[(0,.sl 1 (u121 1) 0 a.2.length),(9,int a.1)]) (λ_ a=>[.kp 1 (a.2.map aS.av)]) n ((y6_1:Int),y6_2) (pw λy7_1 y7_2=>.jn 0 [0,1,2,3,8,9] [1,2] [] (λ_ (a:Bool)=>[(34,bD a)]) (λ_ _=>[]) (.dr [(7,[1]),(8,[1]),(12,[1]),(13,[1])] [(14,[])] [1] [14] [0,1,2,3,4,5,6,7,8,9,10,11,12,13,14,15,16] (.bB 20 (decide (y7_1>0)) λx12=>.ifs [20] x12 (.bo (ix y7_2 y7_1) λx13=>.gv 25<|.gv 26<|.bI 29 (aW (y7_1-1)) λx14=>.bo (ix y7_2 x14) λx15=>.gv 30<|.gv 31<|.inl 32 aRW Tryz.func201 [1,2] [] (λ_ (a:Int)=>int a) (λ_ _=>[]) (.al 3<|.al 4<|.dr [(0,[2]),(1,[3]),(3,[2]),(4,[4])] [] [2,3,4] [] [0,1,2,3,4,5,6,7] (.cl 8 (TG x13) aGR aIY λx18=>.cl 11 (TG x15) aGR aIY λx19=>.cl 12 (OD x18 x19) aQZ aOA λx20=>.ret (x20:Int))) (λy8_1=>.bB 33 (decide (y8_1<0)) λx21=>.ret x21)) (.ret false))) (λy9_1=>.ifs [34] y9_1 (.dr [(8,[1]),(9,[1]),(12,[1]),(13,[1]),(14,[1]),(16,[1])] [(15,[]),(17,[])] [1] [15,17] [0,1,2,3,4,5,6,7,8,9,10,11,12,13,14,15,16,17] (.bI 41 (aW (y7_1-1)) λx22=>.bI 44 (aW (y7_1-1)) λx23=>.bo (ix y7_2 x23) λx24=>.gv 45<|.gv 46<|.bo (ix y7_2 y7_1) λx25=>.gv 49<|.gv 50<|.gv 51<|.bl (y7_2.set (Int.toNat y7_1) x24:List aS) λx26=>.ge 1006015 0<|.bo (ix x26 x22) λx27=>.gv 52<|.bl (x26.set (Int.toNat x22) x25:List aS) λx28=>.ge 1006017 0<|.bI 36 (aW (y7_1-1)) λx29=>.brk ((x29:Int),x28))) (.esc (.ret y7_2))))) (λy10_1=>.ret y10_1)) (λy11_1=>.bI 16 (aW (y6_1+1)) λx30=>.brk ((x30:Int),y11_1))) (.esc (.ret y6_2)))) (λy12_1=>.ret y12_1)) (λy13_1=>.as (y13_1.length=a1.length) inferInstance<|.jn 0 [] [1,2] [] (λ_ (a:Unit)=>[]) (λ_ _=>[]) (.lp [0,1,2,6] [1,2] [] (λ_ (a:Unit)=>[]) (λ_ _=>[]) n () (λ_=>.bB 30 (decide (20<(a1.length:Int))) λx32=>.az [30] x32 (.esc (.ret ())))) (λ_=>.ret y13_1)))) (λy16_1=>.ret y16_1)) (λy17_1=>.ret y17_1)) (λy18_1=>.as (y18_1.length=a1.length) inferInstance<|.gv 17<|.eZ 0 [2,3] [] [7] (λu137 (a:(List aS))=>[(5,.sl 7 (u137 7) 0 a.length)]) (λ_ a=>[.nw 7 95 2 (a.map aS.av)]) (.no 5 7 95 2<|.lp [2,3,17,18] [1] [7] (λu142 (a:Int×(List aS))=>[(5,.sl 7 (u142 7) 0 a.2.length),(19,int a.1)]) (λ_ a=>[.nw 7 95 2 (a.2.map aS.av)]) n ((0:Int),(([]:List aS):List aS)) (pw λy19_2 y19_3=>.bB 20 (decide (y19_2<(a1.length:Int))) λx35=>.ifs [20] x35 (.eZ 1 [2,3,17,18,19] [1] [7] (λu144 (a:(List aS))=>[(5,.sl 7 (u144 7) 0 a.length)]) (λ_ a=>[.nw 7 95 2 (a.map aS.av)]) (.bo (ix y18_1 y19_2) λx36=>.gv 21<|.gv 22<|.al 5<|.bI 25 (aW ((y19_3.length:Int)-1)) λx38=>.jn 0 [2,3,5,7,8,17,18,19] [1,5,7] [] (λ_ (a:Bool)=>[(37,bD a)]) (λ_ _=>[]) (.dr [(5,[7]),(6,[7]),(7,[7]),(8,[5]),(9,[5])] [] [5,7] [] [0,1,2,3,4,5,6,7,8,9,10,11] (.bB 27 (decide (x38>=0)) λx39=>.ifs [27] x39 (.bo (ix y19_3 x38) λx40=>.gv 31<|.gv 32<|.gv 33<|.bB 36 (decide (x40.dM=x36.dM)) λx41=>.ret x41) (.ret false))) (λy20_1=>.ifs [37] y20_1 (.dr [(2,[7]),(3,[7]),(4,[7]),(5,[5]),(6,[5])] [] [5,7] [] [0,1,2,3,4,5,6,7,8,9,10,11,12] (.bo (ix y19_3 x38) λx42=>.gv 41<|.gv 42<|.gv 43<|.cl 46 (nG x42.bO x36.bO) oW oO λx43=>.bB 50 (decide (x43.2≠0)) λx44=>.ifs [50] x44 (.esc (.esc (.esc (.ret (([]:List aS),(x43.2:Int)))))) (.gv 55<|.gv 56<|.bl (y19_3.set (Int.toNat x38) ((⟨x42.dM,x43.1⟩:aS):aS):List aS) λx45=>.ge 1014005 0<|.brk x45))) (.to 59 (aN 2 aS.av ([x36]:List aS))<|.bl (y19_3++([x36]:List aS):List aS) λx46=>.as (x46.length<=68719476736) inferInstance<|.ge 60 0<|.brk x46))) (λy21_2=>.bI 61 (aW (y19_2+1)) λx49=>.brk ((x49:Int),y21_2))) (.esc (.brk y19_3)))) (λy22_2=>.inl 63 aSC Tryz.func192 [] [] (λu157 (a:Nat×Nat×(List aS))=>.sl 7 (u157 7) a.1 a.2.1) (λ_ a=>[.kp 7 (a.2.2.map aS.av)]) (.inl 10 PS Tryz.func199 [7] [] (λ_ (a:Int)=>int a) (λ_ _=>[]) (.eZ 2 [4] [7] [] (λ_ (a:Unit)=>[]) (λ_ _=>[]) (.lp [0,1,4,7] [7] [] (λ_ (a:Int)=>[(8,int a)]) (λ_ _=>[]) n (0:Int) (λy23_1=>.bB 9 (decide (y23_1<(y22_2.length:Int))) λx50=>.ifs [9] x50 (.bo (ix y22_2 y23_1) λx51=>.gv 14<|.gv 15<|.cl 16 (PI x51) aF8 aID λx52=>.ifs [16] x52 (.esc (.esc (.ret (y23_1:Int)))) (.bI 18 (aW (y23_1+1)) λx53=>.brk (x53:Int))) (.esc (.brk ())))) (λ_=>.ret ((-1):Int))) (λy25_1=>.bB 12 (decide (y25_1=(-1))) λx54=>.ifs [12] x54 (.ret ((0:Nat),(y22_2.length:Nat),y22_2)) (.bI 15 (aW (y25_1+1)) λx55=>.jn 0 [4] [] [] (λu166 (a:Int×(List aS))=>[(0,.sl 7 (u166 7) 0 a.2.length),(5,int a.1)]) (λ_ a=>[.kp 7 (a.2.map aS.av)]) (.lp [1,4] [] [] (λu169 (a:Int×Int×(List aS))=>[(0,.sl 7 (u169 7) 0 a.2.2.length),(5,int a.1),(6,int a.2.1)]) (λ_ a=>[.kp 7 (a.2.2.map aS.av)]) n ((y25_1:Int),(x55:Int),y22_2) (pw λy26_1 q0=>(pw λy26_2 y26_3=>.bB 19 (decide (y26_2<(y26_3.length:Int))) λx56=>.ifs [19] x56 (.jn 1 [1,4,6] [] [] (λu170 (a:Int×(List aS))=>[(0,.sl 7 (u170 7) 0 a.2.length),(5,int a.1)]) (λ_ a=>[.kp 7 (a.2.map aS.av)]) (.bo (ix y26_3 y26_2) λx57=>.gv 24<|.gv 25<|.al 8<|.cl 28 (PI x57) aF8 aID λx59=>.bB 29 (!x59) λx60=>.ifs [29] x60 (.bo (ix y26_3 y26_1) λx61=>.gv 33<|.bl (y26_3.set (Int.toNat y26_1) x57:List aS) λx62=>.ge 1009004 0<|.bI 35 (aW (y26_1+1)) λx63=>.ret ((x63:Int),x62)) (.ret ((y26_1:Int),y26_3))) (pw λy27_1 y27_2=>.bI 21 (aW (y26_2+1)) λx64=>.brk ((y27_1:Int),(x64:Int),y27_2))) (.esc (.ret ((y26_1:Int),y26_3)))) q0)) (pw λy28_1 y28_2=>.as ((0:Int)<=y28_1/\y28_1<(y28_2.length:Int)) inferInstance<|.gv 38<|.bl (y28_2.take (0+y28_1.toNat):List aS) λx66=>.ge 1011003 0<|.as ((0:Int)<=y28_1/\y28_1<=(y28_2.length:Int)) inferInstance<|.gv 41<|.ret (((0+0):Nat),((y28_1.toNat-0):Nat),x66))))) (pw λy29_1 q0=>(pw λy29_2 y29_3=>.as (y29_1+y29_2<=y29_3.length) inferInstance<|.ret (((((y29_3).drop y29_1).take y29_2):List aS),(0:Int))) q0)))))
def vS (n:Nat) (a1:List aS):Option ((List aS)×Int):=(ZH n a1).run
theorem aFA {n a1}:PZ (vS n a1) 174 [aN 2 aS.av a1] (λr=>.bT [aN 2 aS.av r.1,int r.2]):=by
 refine wm Tryz.func174 ?_
 refine .mk ?_ ?_
 refine .mk ?_ ?_
 refine .mk ?_
 refine .mk ?_ ?_
 refine .mk ?_
 intro _ _
 refine .mk λx2=>?_
 refine .mk ?_ ?_
 refine .mk λx3 e3=>?_
 refine .mk λx4 e4=>?_
 refine .mk .mk ?_
 refine .mk λx5=>?_
 exact .mk
 exact .mk
 intro _ _
 exact .mk
 intro _ _
 refine .mk trivial ?_
 refine .mk λx6=>?_
 exact .mk
 intro _ _
 refine .mk trivial ?_
 refine .mk ?_ ?_
 exact .mk (dX.bT (.cons (.nil _) (.cons (.refl _) .nil)))
 refine .mk λp7=>?_
 refine .mk _ ⟨λ_=>kZ rfl rfl (.cons rfl .nil) ZD (lT (aHF.pc (id:=1) (l:=a1) rfl p7) (.cons (.refl _) .nil)),λ_ _ _=>trivial⟩ ?_
 rintro _ _ ⟨v8,rfl,rfl⟩
 refine .mk ?_ ?_
 intro v9
 refine .mk ?_ ?_
 refine .mk ?_ ?_
 refine .mk ?_ ?_
 refine .mk ?_
 intro _ _
 refine .mk λx10=>?_
 refine .mk ?_
 exact .mk
 intro _ _
 refine .mk ?_ ?_
 refine .mk ?_
 refine .mk ?_ ?_
 refine .mk ?_
 intro _ _
 refine .mk λx11=>?_
 refine .mk ?_ ?_
 refine .mk ?_ ?_
 refine .mk ?_ ?_
 refine .mk ?_
 rintro ⟨y7_1,y7_2⟩ _
 refine .mk ?_ ?_
 refine .mk ?_
 refine .mk λx12=>?_
 refine .mk ?_ ?_
 refine .mk λx13 e13=>?_
 refine .mk _ (λH hH _=>iJ rfl Tryz.underlying96 kK rfl rfl ((hH _ (by decide)).trans rfl) rfl rfl (Eq.symm rfl) (List.length_map _) e13) ?_
 refine .mk _ (λH hH _=>iB rfl kK rfl (.pt ((hH _ (by decide)).trans rfl) rfl (fV e13)) rfl) ?_
 refine .mk λx14=>?_
 refine .mk λx15 e15=>?_
 refine .mk _ (λH hH _=>iJ rfl Tryz.underlying96 kK rfl rfl ((hH _ (by decide)).trans rfl) rfl rfl (Eq.symm rfl) (List.length_map _) e15) ?_
 refine .mk _ (λH hH _=>iB rfl kK rfl (.pt ((hH _ (by decide)).trans rfl) rfl (fV e15)) rfl) ?_
 refine .mk ?_ ?_
 intro v16
 intro v17
 refine .mk ?_
 refine .mk λx18 e18=>?_
 refine .mk λx19 e19=>?_
 refine .mk λx20 e20=>?_
 exact .mk
 intro _ _
 refine .mk trivial ?_
 refine .mk λx21=>?_
 exact .mk
 exact .mk
 intro _ _
 refine .mk ?_ ?_
 refine .mk ?_
 refine .mk λx22=>?_
 refine .mk λx23=>?_
 refine .mk λx24 e24=>?_
 refine .mk _ (λH hH _=>iJ rfl Tryz.underlying96 kK rfl rfl ((hH _ (by decide)).trans rfl) rfl rfl (Eq.symm rfl) (List.length_map _) e24) ?_
 refine .mk _ (λH hH _=>iB rfl kK rfl (.pt ((hH _ (by decide)).trans rfl) rfl (fV e24)) rfl) ?_
 refine .mk λx25 e25=>?_
 refine .mk _ (λH hH _=>iJ rfl Tryz.underlying96 kK rfl rfl ((hH _ (by decide)).trans rfl) rfl rfl (Eq.symm rfl) (List.length_map _) e25) ?_
 refine .mk _ (λH hH _=>iB rfl kK rfl (.pt ((hH _ (by decide)).trans rfl) rfl (fV e25)) rfl) ?_
 refine .mk _ (λH hH _=>iJ rfl Tryz.underlying96 kK rfl rfl ((hH _ (by decide)).trans rfl) rfl rfl (Eq.symm rfl) (List.length_map _) e25) ?_
 refine .mk λx26 e26=>?_
 have fx26:=jW e25 e26;have lx26:=jU e26 (rfl:y7_2.length=y7_2.length)
 refine .mk _ ⟨λ_=>eG.gV (iR (ob':=(⟨95,2,true,true,_,x26.map aS.av⟩:bZ)) (iH rfl kK rfl rfl rfl rfl rfl (fV e25) rfl rfl rfl) (jJ (kU e26))) (λ_ h=>h) (λ_ _=>trivial),by rintro _ _ ⟨rfl,rfl⟩;exact trivial⟩ ?_
 rintro _ _ ⟨rfl,rfl⟩
 refine .mk λx27 e27=>?_
 refine .mk _ (λH hH _=>iJ rfl Tryz.underlying96 kK rfl rfl ((hH _ (by decide)).trans rfl) rfl rfl (Eq.symm lx26) (List.length_map _) e27) ?_
 refine .mk λx28 e28=>?_
 have fx28:=jW e27 e28;have lx28:=jU e28 lx26
 refine .mk _ ⟨λ_=>eG.gV (iR (ob':=(⟨95,2,true,true,_,x28.map aS.av⟩:bZ)) (iH rfl kK rfl rfl rfl rfl rfl (fV e27) rfl rfl rfl) (jJ (kU e28))) (λ_ h=>h) (λ_ _=>trivial),by rintro _ _ ⟨rfl,rfl⟩;exact trivial⟩ ?_
 rintro _ _ ⟨rfl,rfl⟩
 refine .mk λx29=>?_
 exact .mk ⟨⟨⟨_,rfl,(sM (Eq.symm lx28))⟩,⟨_,rfl,(.refl _)⟩,⟨_,rfl,(.refl _)⟩,⟨_,rfl,(.refl _)⟩,⟨_,rfl,(.refl _)⟩,⟨_,rfl,(.refl _)⟩,trivial⟩,⟨⟨_,rfl,(.refl _)⟩,⟨_,rfl,(.refl _)⟩,trivial⟩⟩
 exact .mk
 intro _ _
 exact .mk
 intro _ _
 refine .mk λx30=>?_
 exact .mk
 exact .mk
 intro _ _
 exact .mk
 intro _ _
 refine .mk trivial ?_
 refine .mk λp31=>?_
 refine .mk ?_ ?_
 refine .mk ?_
 intro _ _
 refine .mk λx32=>?_
 refine .mk ?_
 exact .mk
 intro _ _
 exact .mk
 intro _ _
 refine .mk trivial ?_
 exact .mk
 intro _ _
 refine .mk trivial ?_
 exact .mk
 intro _ _
 refine .mk trivial ?_
 refine .mk λp33=>?_
 refine .mk _ (fD (vO rfl rfl)) ?_
 refine .mk ?_ ?_
 intro v34
 refine .mk ?_
 rintro ⟨y19_2,y19_3⟩ _
 refine .mk λx35=>?_
 refine .mk ?_ ?_
 refine .mk ?_ ?_
 refine .mk λx36 e36=>?_
 refine .mk _ (fD (iJ rfl Tryz.underlying96 kK rfl rfl rfl rfl rfl (Eq.symm p33) (List.length_map _) e36)) ?_
 refine .mk _ (fD (iB rfl kK rfl (.pt rfl rfl (fV e36)) rfl)) ?_
 intro v37
 refine .mk λx38=>?_
 refine .mk ?_ ?_
 refine .mk ?_
 refine .mk λx39=>?_
 refine .mk ?_ ?_
 refine .mk λx40 e40=>?_
 refine .mk _ (λH hH _=>iJ rfl Tryz.underlying96 kK rfl rfl ((hH _ (by decide)).trans rfl) rfl rfl (Eq.symm rfl) (List.length_map _) e40) ?_
 refine .mk _ (λH hH _=>gT rfl aZ1 rfl (.pt ((hH _ (by decide)).trans rfl) rfl (fV e40)) (.pt _ _ _ _ _)) ?_
 refine .mk _ (λH hH _=>iB rfl gI rfl (.pt ((hH _ (by decide)).trans rfl) rfl (fV e40)) rfl) ?_
 refine .mk λx41=>?_
 exact .mk
 exact .mk
 intro _ _
 refine .mk ?_ ?_
 refine .mk ?_
 refine .mk λx42 e42=>?_
 refine .mk _ (λH hH _=>iJ rfl Tryz.underlying96 kK rfl rfl ((hH _ (by decide)).trans rfl) rfl rfl (Eq.symm rfl) (List.length_map _) e42) ?_
 refine .mk _ (λH hH _=>gT rfl aJB rfl (.pt ((hH _ (by decide)).trans rfl) rfl (fV e42)) (.pt _ _ _ _ _)) ?_
 refine .mk _ (λH hH _=>iB rfl gI rfl (.pt ((hH _ (by decide)).trans rfl) rfl (fV e42)) rfl) ?_
 refine .mk λx43 e43=>?_
 refine .mk λx44=>?_
 refine .mk ?_ ?_
 exact .mk (dX.bT (.cons (.nil _) (.cons (.refl _) .nil)))
 refine .mk _ (fD (iJ rfl Tryz.underlying96 kK rfl rfl rfl rfl rfl (Eq.symm rfl) (List.length_map _) e42)) ?_
 refine .mk _ (fD (gT rfl aJB rfl (.pt rfl rfl (fV e42)) (.pt _ _ _ _ _))) ?_
 refine .mk λx45 e45=>?_
 have fx45:=jW e42 e45;have lx45:=jU e45 (rfl:y19_3.length=y19_3.length)
 refine .mk _ ⟨λ_=>eG.gV (iR (ob':=(⟨95,2,true,true,_,x45.map aS.av⟩:bZ)) (iH rfl gI rfl rfl rfl rfl rfl (fV e42) rfl rfl rfl) (jJ (kU e45))) (λ_ h=>h) (λ_ _=>trivial),λ_ _ _=>trivial⟩ ?_
 rintro _ _ ⟨rfl,rfl⟩
 exact .mk ⟨⟨⟨_,rfl,(sM (Eq.symm lx45))⟩,⟨_,rfl,(.refl _)⟩,⟨_,rfl,(.refl _)⟩,⟨_,rfl,(.refl _)⟩,⟨_,rfl,(.refl _)⟩,⟨_,rfl,(.refl _)⟩,trivial⟩,⟨⟨_,rfl,(.refl _)⟩,⟨_,rfl,(.refl _)⟩,trivial⟩⟩
 refine .mk (fD (jY (y:=aN 2 aS.av ([x36]:List aS)) (jM (ps:=[(0,_)]) (rows:=[[int x36.dM,int x36.bO]]) rfl Tryz.underlying96 xA (.cons rfl .nil) (by kernel_rfl) rfl rfl rfl) rfl)) ?_
 refine .mk λx46 e46=>?_
 refine .mk λp47=>?_
 refine .mk _ ⟨λ_=>oH (g:=aS.av) (l:=y19_3) (m:=([x36]:List aS)) .any rfl Tryz.underlying96 xA TP rfl rfl rfl rfl rfl rfl rfl rfl rfl rfl (Eq.symm rfl) (.refl _) (λ_=>rfl) e46 p47,λ_ _ _=>trivial⟩ ?_
 rintro _ _ ⟨v48,-,rfl,rfl⟩
 exact .mk
 intro _ _
 refine .mk λx49=>?_
 exact .mk
 exact .mk
 intro _ _
 refine .mk ?_ ?_
 refine .mk ?_ ?_
 refine .mk ?_ ?_
 refine .mk ?_
 intro _ _
 refine .mk λx50=>?_
 refine .mk ?_ ?_
 refine .mk λx51 e51=>?_
 refine .mk _ (fD (iJ rfl Tryz.underlying96 kK rfl rfl rfl rfl rfl (Eq.symm rfl) (List.length_map _) e51)) ?_
 refine .mk _ (fD (iB rfl kK rfl (.pt rfl rfl (fV e51)) rfl)) ?_
 refine .mk λx52 e52=>?_
 refine .mk .mk ?_
 refine .mk λx53=>?_
 exact .mk
 exact .mk
 intro _ _
 exact .mk
 intro _ _
 refine .mk trivial ?_
 refine .mk λx54=>?_
 refine .mk .mk ?_
 refine .mk λx55=>?_
 refine .mk ?_ ?_
 refine .mk ?_
 rintro ⟨y26_1,y26_2,y26_3⟩ _
 refine .mk λx56=>?_
 refine .mk ?_ ?_
 refine .mk ?_ ?_
 refine .mk λx57 e57=>?_
 refine .mk _ (fD (iJ rfl Tryz.underlying96 kK rfl rfl rfl rfl rfl (Eq.symm rfl) (List.length_map _) e57)) ?_
 refine .mk _ (fD (iB rfl kK rfl (.pt rfl rfl (fV e57)) rfl)) ?_
 intro v58
 refine .mk λx59 e59=>?_
 refine .mk λx60=>?_
 refine .mk ?_ ?_
 refine .mk λx61 e61=>?_
 refine .mk _ (fD (iJ rfl Tryz.underlying96 kK rfl rfl rfl rfl rfl (Eq.symm rfl) (List.length_map _) e61)) ?_
 refine .mk λx62 e62=>?_
 have fx62:=jW e61 e62;have lx62:=jU e62 (rfl:y26_3.length=y26_3.length)
 refine .mk _ ⟨λ_=>eG.gV (iR (ob':=(⟨95,2,true,true,_,x62.map aS.av⟩:bZ)) (iH rfl kK rfl rfl rfl rfl rfl (fV e61) rfl rfl rfl) (jJ (kU e62))) (λ_ h=>h) (λ_ _=>trivial),λ_ _ _=>trivial⟩ ?_
 rintro _ _ ⟨rfl,rfl⟩
 refine .mk λx63=>?_
 exact .mk ⟨⟨⟨_,rfl,(sM (Eq.symm lx62))⟩,⟨_,rfl,(.refl _)⟩,⟨_,rfl,(.refl _)⟩,⟨_,rfl,(.refl _)⟩,⟨_,rfl,(.refl _)⟩,trivial⟩,⟨⟨_,rfl,(.refl _)⟩,trivial⟩⟩
 exact .mk
 intro _ _
 refine .mk λx64=>?_
 exact .mk
 exact .mk
 rintro ⟨y28_1,y28_2⟩ _
 refine .mk λp65=>?_
 refine .mk _ (fD (SA (len:=y28_2.length) (i:=y28_1.toNat) (j:=y28_2.length) rfl Tryz.underlying96 kK rfl rfl rfl rfl (.yes rfl (by first | omega | (dsimp only;omega) | (dsimp only at *;omega))) .no (by first | omega | (dsimp only;omega) | (dsimp only at *;omega)) (Nat.le_refl _) (.inl (by first | omega | (dsimp only;omega) | (dsimp only at *;omega))))) ?_
 refine .mk λx66 e66=>?_
 refine .mk _ ⟨λ_=>eG.gV (iR (ob':=(⟨95,2,true,true,_,x66.map aS.av⟩:bZ)) (aQT rfl Tryz.underlying96 xA rfl rfl rfl rfl rfl rfl e66) rfl) (λ_ h=>h) (λ_ _=>trivial),λ_ _ _=>trivial⟩ ?_
 rintro _ _ ⟨rfl,rfl⟩
 refine .mk λp67=>?_
 refine .mk _ (fD (SA (len:=y28_2.length) (i:=0) (j:=y28_1.toNat) rfl Tryz.underlying96 kK rfl rfl rfl rfl .no (.yes rfl (by first | omega | (dsimp only;omega) | (dsimp only at *;omega))) (Nat.zero_le _) (by first | omega | (dsimp only;omega) | (dsimp only at *;omega)) (.inr rfl))) ?_
 exact .mk
 rintro ⟨y29_1,y29_2,y29_3⟩ _
 refine .mk trivial ?_
 refine .mk λp68=>?_
 exact .mk (dX.bT (.cons (OI (l:=y29_3) rfl rfl rfl rfl (jN.refl _) (by first | omega | (simp only [List.length_set];omega)) rfl) (.cons (.refl _) .nil)))
def X3 (n:Nat) (a1:List Int):WB (Int×Int) :=
 .ln 9 fI a1<|.eZ 0 [2,3] [] [] (λ_ (a:Int)=>[(4,int a)]) (λ_ _=>[]) (.lp [2,3,8,9] [] [] (λ_ (a:Int×Int)=>[(4,int a.1),(10,int a.2)]) (λ_ _=>[]) n ((0:Int),0) (pw λy0_1 y0_2=>.bB 11 (decide (y0_2<(a1.length:Int))) λx2=>.ifs [11] x2 (.ix 12 fI a1 y0_2 λx3=>.cl 17 (nG y0_1 x3) oW oO λx4=>.bB 21 (decide (x4.2≠0)) λx5=>.ifs [21] x5 (.esc (.esc (.ret ((0:Int),x4.2)))) (.bI 23 (aW (y0_2+1)) λx6=>.brk ((x4.1:Int),x6))) (.esc (.brk y0_1)))) (λy1_1=>.ret ((y1_1:Int),0))
def pX (n:Nat) (a1:List Int):Option (Int×Int):=(X3 n a1).run
theorem vL {n a1}:PZ (pX n a1) 180 [aN 1 fI a1] (λr=>.bT [int r.1,int r.2]):=wq Tryz.func180
def aI9 (n:Nat) (a1:List aS):WB (Int×Int) :=
 .ln 8 aS.av a1<|.jn 0 [2,3] [] [3] (λu2 (a:(List Int))=>[(4,.sl 3 (u2 3) 0 a.length)]) (λ_ a=>[.nw 3 3 1 (a.map fI)]) (.no 4 3 3 1<|.lp [2,3,7,8] [] [3] (λu3 (a:Int×(List Int))=>[(4,.sl 3 (u3 3) 0 a.2.length),(9,int a.1)]) (λ_ a=>[.nw 3 3 1 (a.2.map fI)]) n ((0:Int),(([]:List Int):List Int)) (pw λy0_2 y0_3=>.bB 10 (decide (y0_2<(a1.length:Int))) λx3=>.ifs [10] x3 (.ix 11 aS.av a1 y0_2 λx4=>.al 1<|.to 16 (aN 1 fI ([x4.bO]:List Int))<|.bl (y0_3++([x4.bO]:List Int):List Int) λx6=>.as (x6.length<=68719476736) inferInstance<|.ge 17 0<|.bI 18 (aW (y0_2+1)) λx9=>.brk ((x9:Int),x6)) (.esc (.ret y0_3)))) (λy1_2=>.jV 20 (pX n y1_2) vM vL (λ_=>rfl) λx10=>.ret ((x10.1:Int),x10.2))
def N6 (n:Nat) (a1:List aS):Option (Int×Int):=(aI9 n a1).run
theorem aLV {n a1}:PZ (N6 n a1) 204 [aN 2 aS.av a1] (λr=>.bT [int r.1,int r.2]):=wq Tryz.func204
def YR (a1:aS):WB (Bool) :=
 .al 1<|.jn 0 [] [] [] (λ_ (a:Bool)=>[(2,bD a)]) (λ_ _=>[]) (.cl 5 (FN a1.dM) aBT aE5 λx3=>.bB 6 (!x3) λx4=>.ifs [6] x4 (.ret true) (.bB 10 (decide (a1.bO=0)) λx5=>.ifs [10] x5 (.ret true) (.cl 15 (FR a1.bO) aGF aB0 λx6=>.bB 16 (!x6) λx7=>.ret x7))) (λy0_1=>.ret ((y0_1:Bool)))
def IZ (a1:aS):Option (Bool):=(YR a1).run
theorem aKF {a1}:PZ (IZ a1) 203 [.agg (aS.av a1)] bD:=wq Tryz.func203
def aCA (n:Nat) (a1:List aS):WB (Bool) :=
 .jn 1 [0,2] [] [] (λ_ (a:Bool)=>[(13,bD a)]) (λ_ _=>[]) (.ln 7 aS.av a1<|.bB 8 (decide ((a1.length:Int)<1)) λx2=>.ifs [8] x2 (.ret true) (.ln 11 aS.av a1<|.bB 12 (decide ((a1.length:Int)>12)) λx3=>.ret x3)) (λy0_1=>.ifs [13] y0_1 (.ret ((false:Bool))) (.cl 16 (N6 n a1) aJT aLV λx4=>.jn 0 [] [] [] (λ_ (a:Bool)=>[(2,bD a)]) (λ_ _=>[]) (.inl 21 XV Tryz.func185 [] [] (λ_ (a:Bool)=>bD a) (λ_ _=>[]) (.inl 7 PS Tryz.func199 [] [] (λ_ (a:Int)=>int a) (λ_ _=>[]) (.ln 7 aS.av a1<|.eZ 0 [4] [] [] (λ_ (a:Unit)=>[]) (λ_ _=>[]) (.lp [0,1,4,7] [] [] (λ_ (a:Int)=>[(8,int a)]) (λ_ _=>[]) n 0 (λy1_1=>.bB 9 (decide (y1_1<(a1.length:Int))) λx5=>.ifs [9] x5 (.ix 14 aS.av a1 y1_1 λx6=>.cl 16 (IZ x6) aY6 aKF λx7=>.ifs [16] x7 (.esc (.esc (.ret y1_1))) (.bI 18 (aW (y1_1+1)) λx8=>.brk x8)) (.esc (.brk ())))) (λ_=>.ret (-1))) (λy3_1=>.bB 8 (decide (y3_1>=0)) λx9=>.ret x9)) (λy4_1=>.bB 22 (!y4_1) λx10=>.ifs [22] x10 (.bB 25 (decide (x4.1=0)) λx11=>.ifs [25] x11 (.bB 29 (decide (x4.2=0)) λx12=>.ret x12) (.ret false)) (.ret false))) (λy5_1=>.ret ((y5_1:Bool)))))
def OC (n:Nat) (a1:List aS):Option (Bool):=(aCA n a1).run
theorem aQC {n a1}:PZ (OC n a1) 196 [aN 2 aS.av a1] bD:=wq Tryz.func196
def YX (n:Nat) (a1:List Int) (a2:List aS):WB ((List Int)×Int) :=
 .al 1<|.ln 7 fI a1<|.bB 8 (decide ((a1.length:Int)≠17)) λx4=>.ifs [8] x4 (.ret (([]:List Int),1)) (.inl 11 aRV Tryz.func194 [1] [2,4] (B:=(Int)⊕((List Int))) (λu8=>Sum.elim (λa=>.bT [.sl 4 (u8 4) 0 a1.length,int a]) (λa=>.bT [.sl 2 (u8 2) 0 a.length,int 0])) (λu8=>Sum.elim (λa=>[.nw 4 3 1 (a1.map fI)]) (λa=>[.nw 2 3 1 (a.map fI)])) (.as (a1.length<=68719476736) inferInstance<|.ge 9 2<|.inl 12 aRU Tryz.func195 [1] [] (λ_ (a:Int×(List Int))=>int a.1) (λ_ a=>[.kp 2 (a.2.map fI)]) (.cl 10 (vS n a2) aB5 aFA λx7=>.jn 0 [0,3,4] [1,2] [] (λ_ (a:Bool)=>[(24,bD a)]) (λ_ _=>[]) (.bB 14 (decide (x7.2≠0)) λx8=>.ifs [14] x8 (.ret true) (.ln 17 aS.av x7.1<|.bB 18 (decide ((x7.1.length:Int)>0)) λx9=>.ifs [18] x9 (.cl 21 (OC n x7.1) aW8 aQC λx10=>.bB 22 (!x10) λx11=>.ret x11) (.ret false))) (λy0_1=>.ifs [24] y0_1 (.ret ((10:Int),a1)) (.ln 26 aS.av x7.1<|.eZ 0 [3] [1] [] (λ_ (a:(List Int))=>[]) (λ_ a=>[.kp 2 (a.map fI)]) (.lp [3,25,26] [1] [] (λu14 (a:Int×(List Int))=>[(0,.sl 2 (u14 2) 0 a.2.length),(27,int a.1)]) (λ_ a=>[.kp 2 (a.2.map fI)]) n ((0:Int),a1) (pw λy1_1 y1_2=>.bB 28 (decide (y1_1<(x7.1.length:Int))) λx12=>.ifs [28] x12 (.ix 29 aS.av x7.1 y1_1 λx13=>.al 3<|.dr [(1,[3]),(2,[3]),(4,[3]),(5,[3]),(6,[2]),(7,[2]),(8,[3]),(9,[3]),(14,[2])] [(15,[])] [2,3] [15] [0,1,2,3,4,5,6,7,8,9,10,11,12,13,14,15,16] (.bo (ix y1_2 x13.dM) λx15=>.gv 38<|.gv 39<|.cl 42 (nG x15 x13.bO) oW oO λx16=>.gv 45<|.bl (y1_2.set (Int.toNat x13.dM) x16.1:List Int) λx17=>.ge 1007015 0<|.bB 47 (decide (x16.2≠0)) λx18=>.ifs [47] x18 (.esc (.esc (.ret ((x16.2:Int),x17)))) (.bI 49 (aW (y1_1+1)) λx19=>.brk ((x19:Int),x17)))) (.esc (.brk y1_2)))) (λy2_1=>.ret ((0:Int),y2_1))))) (pw λy3_1 y3_2=>.bB 14 (decide (y3_1≠0)) λx20=>.ifs [14] x20 (.as (a1.length<=68719476736) inferInstance<|.ge 16 4<|.ret (.inl y3_1)) (.as (y3_2.length=a1.length) inferInstance<|.gv 18<|.ret (.inr y3_2)))) (Sum.elim (λy4_2=>.ret ((a1:List Int),y4_2)) (λy5_2=>.ret ((y5_2:List Int),0))))
def OR (n:Nat) (a1:List Int) (a2:List aS):Option ((List Int)×Int):=(YX n a1 a2).run
theorem aOS {n a1 a2}:PZ (OR n a1 a2) 175 [aN 1 fI a1,aN 2 aS.av a2] (λr=>.bT [aN 1 fI r.1,int r.2]):=by
 refine wm Tryz.func175 ?_
 intro v3
 refine .mk ?_
 refine .mk λx4=>?_
 refine .mk ?_ ?_
 exact .mk (dX.bT (.cons (.nil _) (.cons (.refl _) .nil)))
 refine .mk ?_ ?_
 refine .mk λp5=>?_
 refine .mk _ ⟨λ_=>kZ rfl rfl (.cons rfl .nil) J5 (lT (L8.pc (id:=2) (l:=a1) rfl p5) (.cons (.refl _) .nil)),λ_ _ _=>trivial⟩ ?_
 rintro _ _ ⟨v6,rfl,rfl⟩
 refine .mk ?_ ?_
 refine .mk λx7 e7=>?_
 refine .mk ?_ ?_
 refine .mk λx8=>?_
 refine .mk .mk ?_
 refine .mk ?_
 refine .mk λx9=>?_
 refine .mk ?_ ?_
 refine .mk λx10 e10=>?_
 refine .mk λx11=>?_
 exact .mk
 exact .mk
 intro _ _
 refine .mk .mk ?_
 refine .mk ?_
 refine .mk ?_ ?_
 refine .mk ?_
 rintro ⟨y1_1,y1_2⟩ _
 refine .mk λx12=>?_
 refine .mk ?_ ?_
 refine .mk λx13 e13=>?_
 intro v14
 refine .mk ?_
 refine .mk λx15 e15=>?_
 refine .mk _ (λH hH _=>iJ rfl Tryz.underlying22 gI rfl rfl ((hH _ (by decide)).trans rfl) rfl rfl (Eq.symm rfl) (List.length_map _) e15) ?_
 refine .mk _ (λH hH _=>iB rfl gI rfl (.pt ((hH _ (by decide)).trans rfl) rfl (fV e15)) rfl) ?_
 refine .mk λx16 e16=>?_
 refine .mk _ (λH hH _=>iJ rfl Tryz.underlying22 gI rfl rfl ((hH _ (by decide)).trans rfl) rfl rfl (Eq.symm rfl) (List.length_map _) e15) ?_
 refine .mk λx17 e17=>?_
 have fx17:=jW e15 e17;have lx17:=jU e17 (rfl:y1_2.length=y1_2.length)
 refine .mk _ ⟨λ_=>eG.gV (iR (ob':=(⟨3,1,true,true,_,x17.map fI⟩:bZ)) (iH rfl gI rfl rfl rfl rfl rfl (fV e15) rfl rfl rfl) (jJ (kU e17))) (λ_ h=>h) (λ_ _=>trivial),by rintro _ _ ⟨rfl,rfl⟩;exact trivial⟩ ?_
 rintro _ _ ⟨rfl,rfl⟩
 refine .mk λx18=>?_
 refine .mk .mk ?_
 refine .mk λx19=>?_
 exact .mk ⟨⟨⟨_,rfl,(sM (Eq.symm lx17))⟩,⟨_,rfl,(.refl _)⟩,⟨_,rfl,(.refl _)⟩,⟨_,rfl,(.refl _)⟩,⟨_,rfl,(.refl _)⟩,trivial⟩,⟨⟨_,rfl,(.refl _)⟩,⟨_,rfl,(.refl _)⟩,trivial⟩⟩
 exact .mk
 intro _ _
 exact .mk
 intro _ _
 refine .mk trivial ?_
 refine .mk λx20=>?_
 refine .mk ?_ ?_
 refine .mk λp21=>?_
 refine .mk _ ⟨λ_=>kZ rfl rfl (.cons rfl .nil) J5 (lT (L8.pc (id:=4) (l:=a1) rfl p21) (.cons (.refl _) .nil)),λ_ _ _=>trivial⟩ ?_
 rintro _ _ ⟨v22,rfl,rfl⟩
 exact .mk
 refine .mk λp23=>?_
 refine .mk _ (fD (vO rfl rfl)) ?_
 exact .mk (aFG (Eq.symm p23)) ⟨rfl,rfl,trivial⟩
 rintro (y4_2 | y5_2) _
 refine .mk trivial ?_
 exact .mk (dX.bT (.cons (gQ rfl rfl rfl rfl rfl (Eq.symm rfl)) (.cons (.refl _) .nil)))
 refine .mk trivial ?_
 exact .mk (dX.bT (.cons (gQ rfl rfl rfl rfl rfl (Eq.symm rfl)) (.cons (.refl _) .nil)))
def G8 (n:Nat) (a1:aA) (a2:Int) (a3:List aS):WB (aA×Int) :=
 .al 1<|.al 2<|.jn 0 [1,2,3,6,7] [1,2] [] (λ_ (a:Bool)=>[(20,bD a)]) (λ_ _=>[]) (.bB 13 (decide (a2<0)) λx6=>.ifs [13] x6 (.ret true) (.ln 18 aP.av a1.bC<|.bB 19 (decide (a2>=(a1.bC.length:Int))) λx7=>.ret x7)) (λy0_1=>.ifs [20] y0_1 (.ret ((a1:aA),4)) (.cl 24 (vS n a3) aB5 aFA λx8=>.bB 28 (decide (x8.2≠0)) λx9=>.ifs [28] x9 (.ret ((a1:aA),x8.2)) (.iG 35 aP.av gE aP.eP a1.bC a2 λx10=>.cl 39 (OR n x10.dK x8.1) aO0 aOS λx11=>.bB 43 (decide (x11.2≠0)) λx12=>.ifs [43] x12 (.ret ((a1:aA),x11.2)) (.al 3<|.inl 49 IK Tryz.func173 [1,2] [4] (λu3 (a:Unit)=>.pt 4 (u3 4) (Int.toNat a2) 0) (λu3 _=>[.kp 3 [[int a1.bJ.gD,int a1.bJ.gP,aN 1 fI a1.bJ.cB,aN 1 (fL 1 fI) a1.bJ.Methods,aN 1 (fL 1 fI) a1.bJ.gB,.sl 4 (u3 4) 0 a1.bC.length,aN 8 eU.av a1.cZ,aN 9 eH.av a1.dY,aN 6 fU.av a1.dJ,int a1.Done]],.nw 4 60 8 (a1.bC.map aP.av)]) (.as (a1.bC.length<=68719476736) inferInstance<|.ge 11 4<|.bo (ix a1.bC a2) λx16=>.gv 21<|.ret ()) (λ_=>.bo (ix a1.bC a2) λx17=>.gv 51<|.gv 52<|.bl (a1.bC.set (Int.toNat a2) ((⟨x17.fO,x17.Closed,x17.bS,x11.1,x17.dH,x17.fZ,x17.Down,x17.fP⟩:aP):aP):List aP) λx18=>.ge 1010005 0<|.ret (((⟨a1.bJ,x18,a1.cZ,a1.dY,a1.dJ,a1.Done⟩:aA):aA),0))))))
def uP (n:Nat) (a1:aA) (a2:Int) (a3:List aS):Option (aA×Int):=(G8 n a1 a2 a3).run
theorem aYW {n a1 a2 a3}:PZ (uP n a1 a2 a3) 138 [.agg (aA.av a1),int a2,aN 2 aS.av a3] (λr=>.bT [.agg (aA.av r.1),int r.2]):=by
 refine wm Tryz.func138 ?_
 intro v4
 intro v5
 refine .mk ?_ ?_
 refine .mk λx6=>?_
 refine .mk .mk ?_
 refine .mk ?_
 refine .mk λx7=>?_
 exact .mk
 intro _ _
 refine .mk .mk ?_
 refine .mk λx8 e8=>?_
 refine .mk λx9=>?_
 refine .mk .mk ?_
 refine .mk λx10 e10=>?_
 refine .mk λx11 e11=>?_
 refine .mk λx12=>?_
 refine .mk .mk ?_
 intro v13
 refine .mk ?_ ?_
 refine .mk λp14=>?_
 refine .mk _ ⟨λ_=>kZ rfl rfl (.cons rfl .nil) zX (lT (CX.pc (id:=4) (l:=a1.bC) rfl p14) (.cons (.refl _) .nil)),λ_ _ _=>trivial⟩ ?_
 rintro _ _ ⟨v15,rfl,rfl⟩
 refine .mk λx16 e16=>?_
 refine .mk _ (fD (iJ rfl Tryz.underlying27 nY rfl rfl rfl rfl rfl (Eq.symm rfl) (List.length_map _) e16)) ?_
 exact .mk
 intro _ _
 refine .mk trivial ?_
 refine .mk λx17 e17=>?_
 refine .mk _ (fD (kR rfl rfl (.pt rfl rfl (iE e17 (aP.eP _))))) ?_
 refine .mk _ (fD (gT rfl O3 rfl (.pt rfl rfl (iE e17 (aP.eP _))) (.pt _ _ _ _ _))) ?_
 refine .mk λx18 e18=>?_
 have fx18:=jW e17 e18;have lx18:=jU e18 (rfl:a1.bC.length=a1.bC.length)
 refine .mk _ ⟨λ_=>eG.gV (iR (ob':=(⟨60,8,true,true,_,x18.map aP.av⟩:bZ)) (iH rfl oJ rfl rfl rfl rfl rfl (iE e17 (aP.eP _)) rfl rfl rfl) (jJ (aGT e18 (aP.eP _)))) (λ_ h=>h) (λ_ _=>trivial),λ_ _ _=>trivial⟩ ?_
 rintro _ _ ⟨rfl,rfl⟩
 exact .mk (dX.bT (.cons (dX.agg (.cons (.refl _) (.cons (.refl _) (.cons (.refl _) (.cons (.refl _) (.cons (.refl _) (.cons (gQ rfl rfl rfl rfl rfl (Eq.symm lx18)) (.cons (.refl _) (.cons (.refl _) (.cons (.refl _) (.cons (.refl _) .nil))))))))))) (.cons (.refl _) .nil)))
end
end Go.Pv
