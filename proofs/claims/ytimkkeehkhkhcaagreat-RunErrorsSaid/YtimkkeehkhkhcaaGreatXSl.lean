import Derived.Test.YtimkkeehkhkhcaaGreatXSk
set_option linter.unusedVariables false
set_option linter.unusedSimpArgs false
namespace Go.Pv
open Go.Proofs
set_option maxRecDepth 100000
set_option maxHeartbeats 4000000
noncomputable section
def U1 (n:Nat) (a1:List UInt8) (a2:List UInt8):WB ((List UInt8)×(List Int)×Int) :=
 .cl 13 (oD n a1) OL NQ λx3=>.al 1<|.bB 17 (decide (x3.2≠0)) λx5=>.an [17] x5 (.ret ((([]:List UInt8):List UInt8),([]:List Int),x3.2))
def vF (n:Nat) (a1:List UInt8) (a2:List UInt8):Option ((List UInt8)×(List Int)×Int):=(U1 n a1 a2).run
theorem VX {n a1 a2}:PZ (vF n a1 a2) 9 [str a1,str a2] (λr=>.aM [str r.1,aG 1 fI r.2.1,int r.2.2]):=wq Tryz.func9
def VT (n:Nat) (a1:List UInt8):WB (qL×Int) :=
 .al 1<|.cl 8 (oD n a1) OL NQ λx3=>.al 2<|.bB 12 (decide (x3.2≠0)) λx5=>.an [12] x5 (.ret (((⟨0,[],[],[]⟩:qL):qL),x3.2))
def B9 (n:Nat) (a1:List UInt8):Option (qL×Int):=(VT n a1).run
theorem aLU {n a1}:PZ (B9 n a1) 10 [str a1] (λr=>.aM [.agg (qL.av r.1),int r.2]):=wq Tryz.func10
def VZ (a1:Int) (a2:Int):WB (Int) :=
 .as (a2≠0) inferInstance<|.bl (a1.tmod a2:Int) λx4=>.gv 8<|.bB 10 (decide (x4<0)) λx5=>.jn 0 [4] [] [] (λ_ (a:Int)=>[(5,int a)]) (λ_ _=>[]) (.ifs [10] x5 (.bI 13 (bL (x4+a2)) λx6=>.ret x6) (.ret x4)) (λy0_1=>.ret ((y0_1:Int)))
def wW (a1:Int) (a2:Int):Option (Int):=(VZ a1 a2).run
theorem JH {a1 a2}:PZ (wW a1 a2) 8 [int a1,int a2] int:=wq Tryz.func8
def aFK (n:Nat) (a1:Int):WB (dB) :=
 .al 1<|.cl 13 (wW a1 1073741824) KS JH λx3=>.bI 15 (x3.tmod 2) λx4=>.bI 16 (bL (2+x4)) λx5=>.bI 18 (bL (x3.tdiv 2)) λx6=>.bI 19 (x6.tmod 3) λx7=>.bI 20 (bL (2+x7)) λx8=>.bI 23 (bL (x3.tdiv 6)) λx9=>.bI 24 (x9.tmod 4) λx10=>.bI 25 (bL (1+x10)) λx11=>.al 2<|.jn 1 [2,3,4,5,6] [1] [4] (λ_ (a:(List Int))=>[]) (λu2 a=>[.kp 2 [[int x5,int x11,.sl 4 (u2 4) 0 a.length,.sc (.slice none 0 0),.sc (.slice none 0 0)]],.nw 4 3 1 (a.map fI)]) (.nc 2 0 2 4 3 1<|.lp [2,3,4,5,6] [1] [4] (λ_ (a:Int×(List Int))=>[(7,int a.1)]) (λu3 a=>[.kp 2 [[int x5,int x11,.sl 4 (u3 4) 0 a.2.length,.sc (.slice none 0 0),.sc (.slice none 0 0)]],.nw 4 3 1 (a.2.map fI)]) n ((0:Int),(([]:List Int):List Int)) (pw λy0_1 y0_3=>.bB 29 (decide (y0_1<x8)) λx14=>.ifs [29] x14 (.bI 35 (bL (x3.tdiv 24)) λx15=>.bI 36 (x15.tmod 7) λx16=>.bI 38 (bL (x16+y0_1)) λx17=>.to 39 (aG 1 fI ([x17]:List Int))<|.bl (y0_3++([x17]:List Int):List Int) λx18=>.as (x18.length<=68719476736) inferInstance<|.ge 40 0<|.bI 31 (bL (y0_1+1)) λx21=>.brk ((x21:Int),x18)) (.esc (.ret y0_3)))) (λy1_2=>.jn 1 [2,6] [1,4] [11,12] (λ_ (a:(List (List Int))×(List (List Int)))=>[]) (λu20 a=>[.kp 2 [[int x5,int x11,.sl 4 (u20 4) 0 y1_2.length,.sl 11 (u20 11) 0 a.1.length,.sl 12 (u20 12) 0 a.2.length]],.nw 11 23 1 (a.1.map (fL 1 fI)),.nw 12 23 1 (a.2.map (fL 1 fI))]) (.nc 2 0 3 11 23 1<|.nc 2 0 4 12 23 1<|.lp [2,3,4,5,6] [1,4] [11,12] (λ_ (a:Int×(List (List Int))×(List (List Int)))=>[(8,int a.1)]) (λu25 a=>[.kp 2 [[int x5,int x11,.sl 4 (u25 4) 0 y1_2.length,.sl 11 (u25 11) 0 a.2.1.length,.sl 12 (u25 12) 0 a.2.2.length]],.nw 11 23 1 (a.2.1.map (fL 1 fI)),.nw 12 23 1 (a.2.2.map (fL 1 fI))]) n ((0:Int),(([]:List (List Int)):List (List Int)),(([]:List (List Int)):List (List Int))) (pw λy2_1 q0=>(pw λy2_4 y2_5=>.bB 44 (decide (y2_1<x5)) λx24=>.ifs [44] x24 (.jn 1 [2,3,4,5,6,8] [1,4] [11,12] (λ_ (a:(List (List Int))×(List (List Int)))=>[]) (λu28 a=>[.kp 2 [[int x5,int x11,.sl 4 (u28 4) 0 y1_2.length,.sl 11 (u28 11) 0 a.1.length,.sl 12 (u28 12) 0 a.2.length]],.nw 11 23 1 (a.1.map (fL 1 fI)),.nw 12 23 1 (a.2.map (fL 1 fI))]) (.jn 3 [2,3,4,5,6,8] [1,2,4,11,12] [7,8] (λu30 (a:(List Int)×(List Int))=>[(9,.sl 7 (u30 7) 0 a.1.length),(10,.sl 8 (u30 8) 0 a.2.length)]) (λ_ a=>[.nw 7 3 1 (a.1.map fI),.nw 8 3 1 (a.2.map fI)]) (.no 9 7 3 1<|.no 10 8 3 1<|.lp [2,3,4,5,6,8] [1,2,4,11,12] [7,8] (λu31 (a:Int×(List Int)×(List Int))=>[(9,.sl 7 (u31 7) 0 a.2.1.length),(10,.sl 8 (u31 8) 0 a.2.2.length),(11,int a.1)]) (λ_ a=>[.nw 7 3 1 (a.2.1.map fI),.nw 8 3 1 (a.2.2.map fI)]) n ((0:Int),(([]:List Int):List Int),(([]:List Int):List Int)) (pw λy3_3 q0=>(pw λy3_4 y3_5=>.bB 49 (decide (y3_3<x8)) λx27=>.ifs [49] x27 (.bI 54 (bL (x3.tdiv 168)) λx28=>.bI 56 (bL (x28+y3_3)) λx29=>.bI 59 (bL (x3.tdiv 672)) λx30=>.bI 60 (x30.tmod 4) λx31=>.bI 61 (bL (y2_1*x31)) λx32=>.bI 62 (bL (x29+x32)) λx33=>.bI 63 (x33.tmod 4) λx34=>.bI 64 (bL (1+x34)) λx35=>.to 65 (aG 1 fI ([x35]:List Int))<|.bl (y3_4++([x35]:List Int):List Int) λx36=>.as (x36.length<=68719476736) inferInstance<|.ge 66 0<|.bI 69 (bL (x3.tdiv 2688)) λx39=>.bI 71 (bL (7*y3_3)) λx40=>.bI 72 (bL (x39+x40)) λx41=>.bI 74 (bL (x41+y2_1)) λx42=>.bI 75 (x42.tmod 40) λx43=>.to 76 (aG 1 fI ([x43]:List Int))<|.bl (y3_5++([x43]:List Int):List Int) λx44=>.as (x44.length<=68719476736) inferInstance<|.ge 77 0<|.bI 51 (bL (y3_3+1)) λx47=>.brk ((x47:Int),x36,x44)) (.esc (.ret ((y3_4:List Int),y3_5)))) q0)) (pw λy4_3 y4_4=>.dr [(0,[2]),(1,[2]),(5,[2]),(6,[2]),(10,[2]),(12,[2])] [(11,[]),(13,[])] [2] [4,9,11,13] [0,1,2,3,5,6,7,8,4,10,9,11,12,13] (.gv 81<|.gv 86<|.bl (y2_4++[y4_3]:List (List Int)) λx48=>.as (x48.length<=68719476736) inferInstance<|.ge 82 0<|.bl (y2_5++[y4_4]:List (List Int)) λx51=>.as (x51.length<=68719476736) inferInstance<|.ge 87 0<|.ret ((x48:List (List Int)),(x51:List (List Int)))))) (pw λy5_3 y5_4=>.bI 46 (bL (y2_1+1)) λx54=>.brk ((x54:Int),(y5_3:List (List Int)),(y5_4:List (List Int))))) (.esc (.ret ((y2_4:List (List Int)),(y2_5:List (List Int)))))) q0)) (pw λy6_3 y6_4=>.ret (((⟨x5,x11,y1_2,y6_3,y6_4⟩:dB):dB))))
def D8 (n:Nat) (a1:Int):Option (dB):=(aFK n a1).run
theorem VC {n a1}:PZ (D8 n a1) 5 [int a1] (λr=>.agg (dB.av r)):=by
 refine wm Tryz.func5 ?_
 intro v2
 refine .mk λx3 e3=>?_
 refine .mk λx4=>?_
 refine .mk λx5=>?_
 refine .mk λx6=>?_
 refine .mk λx7=>?_
 refine .mk λx8=>?_
 refine .mk λx9=>?_
 refine .mk λx10=>?_
 refine .mk λx11=>?_
 intro v12
 refine .mk ?_ ?_
 intro v13
 refine .mk ?_
 rintro ⟨y0_1,y0_3⟩ _
 refine .mk λx14=>?_
 refine .mk ?_ ?_
 refine .mk λx15=>?_
 refine .mk λx16=>?_
 refine .mk λx17=>?_
 refine .mk (aF (aN (y:=aG 1 fI ([x17]:List Int)) (dY (ps:=[(0,_)]) (rows:=[[int x17]]) rfl Tryz.underlying23 kR (.cons rfl .nil) (by kernel_rfl) rfl rfl rfl) rfl)) ?_
 refine .mk λx18 e18=>?_
 refine .mk λp19=>?_
 refine .mk _ ⟨λ_=>iP (g:=fI) (l:=y0_3) (m:=([x17]:List Int)) .any rfl Tryz.underlying23 kR oP rfl rfl rfl rfl rfl rfl rfl rfl rfl rfl (Eq.symm rfl) (.refl _) (λ_=>rfl) e18 p19,λ_ _ _=>trivial⟩ ?_
 rintro _ _ ⟨v20,-,rfl,rfl⟩
 refine .mk λx21=>?_
 exact .mk
 exact .mk
 intro _ _
 refine .mk ?_ ?_
 intro v22
 intro v23
 refine .mk ?_
 rintro ⟨y2_1,y2_4,y2_5⟩ _
 refine .mk λx24=>?_
 refine .mk ?_ ?_
 refine .mk ?_ ?_
 refine .mk ?_ ?_
 intro v25
 intro v26
 refine .mk ?_
 rintro ⟨y3_3,y3_4,y3_5⟩ _
 refine .mk λx27=>?_
 refine .mk ?_ ?_
 refine .mk λx28=>?_
 refine .mk λx29=>?_
 refine .mk λx30=>?_
 refine .mk λx31=>?_
 refine .mk λx32=>?_
 refine .mk λx33=>?_
 refine .mk λx34=>?_
 refine .mk λx35=>?_
 refine .mk (aF (aN (y:=aG 1 fI ([x35]:List Int)) (dY (ps:=[(0,_)]) (rows:=[[int x35]]) rfl Tryz.underlying23 kR (.cons rfl .nil) (by kernel_rfl) rfl rfl rfl) rfl)) ?_
 refine .mk λx36 e36=>?_
 refine .mk λp37=>?_
 refine .mk _ ⟨λ_=>iP (g:=fI) (l:=y3_4) (m:=([x35]:List Int)) .any rfl Tryz.underlying23 kR oP rfl rfl rfl rfl rfl rfl rfl rfl rfl rfl (Eq.symm rfl) (.refl _) (λ_=>rfl) e36 p37,λ_ _ _=>trivial⟩ ?_
 rintro _ _ ⟨v38,-,rfl,rfl⟩
 refine .mk λx39=>?_
 refine .mk λx40=>?_
 refine .mk λx41=>?_
 refine .mk λx42=>?_
 refine .mk λx43=>?_
 refine .mk (aF (aN (y:=aG 1 fI ([x43]:List Int)) (dY (ps:=[(0,_)]) (rows:=[[int x43]]) rfl Tryz.underlying23 kR (.cons rfl .nil) (by kernel_rfl) rfl rfl rfl) rfl)) ?_
 refine .mk λx44 e44=>?_
 refine .mk λp45=>?_
 refine .mk _ ⟨λ_=>iP (g:=fI) (l:=y3_5) (m:=([x43]:List Int)) .any rfl Tryz.underlying23 kR oP rfl rfl rfl rfl rfl rfl rfl rfl rfl rfl (Eq.symm rfl) (.refl _) (λ_=>rfl) e44 p45,λ_ _ _=>trivial⟩ ?_
 rintro _ _ ⟨v46,-,rfl,rfl⟩
 refine .mk λx47=>?_
 exact .mk
 exact .mk
 rintro ⟨y4_3,y4_4⟩ u30
 refine .mk ?_
 refine .mk _ (λH hH _=>dY (ps:=[(0,_)]) (rows:=[[.sl 7 (u30 7) 0 y4_3.length]]) rfl Tryz.underlying24 pP (.cons rfl .nil) (by kernel_rfl) rfl rfl rfl) ?_
 refine .mk _ (λH hH _=>dY (ps:=[(0,_)]) (rows:=[[.sl 8 (u30 8) 0 y4_4.length]]) rfl Tryz.underlying24 pP (.cons rfl .nil) (by kernel_rfl) rfl rfl rfl) ?_
 refine .mk λx48 e48=>?_
 refine .mk λp49=>?_
 refine .mk _ ⟨λ_=>bW.jJ 7 rfl (iP (g:=(fL 1 fI)) (l:=y2_4) (m:=[y4_3]) .any rfl Tryz.underlying24 pP uO rfl rfl rfl rfl rfl rfl rfl rfl rfl rfl (Eq.symm rfl) (gN.list (.cons (.cons (gB rfl rfl rfl rfl rfl (Eq.symm rfl)) .nil) .nil)) (λ_=>rfl) e48 p49),by rintro _ _ ⟨v50,-,rfl,rfl⟩;exact ⟨rfl,trivial⟩⟩ ?_
 rintro _ _ ⟨v50,-,rfl,rfl⟩
 refine .mk λx51 e51=>?_
 refine .mk λp52=>?_
 refine .mk _ ⟨λ_=>bW.jJ 8 rfl (iP (g:=(fL 1 fI)) (l:=y2_5) (m:=[y4_4]) .any rfl Tryz.underlying24 pP uO rfl rfl rfl rfl rfl rfl rfl rfl rfl rfl (Eq.symm rfl) (gN.list (.cons (.cons (gB rfl rfl rfl rfl rfl (Eq.symm rfl)) .nil) .nil)) (λ_=>rfl) e51 p52),by rintro _ _ ⟨v53,-,rfl,rfl⟩;exact ⟨rfl,trivial⟩⟩ ?_
 rintro _ _ ⟨v53,-,rfl,rfl⟩
 exact .mk
 intro _ _
 refine .mk λx54=>?_
 exact .mk
 exact .mk
 intro _ _
 exact .mk (cO.agg (.cons (.refl _) (.cons (.refl _) (.cons (gB rfl rfl rfl rfl rfl (Eq.symm rfl)) (.cons (gB rfl rfl rfl rfl rfl (Eq.symm rfl)) (.cons (gB rfl rfl rfl rfl rfl (Eq.symm rfl)) .nil))))))
def WY (n:Nat) :WB (Bool) :=
 .cl 11 (D8 n 0) ON VC λx1=>.al 1<|.gv 15<|.cl 16 (KC n x1 [(⟨1,0,0,0,0,5,50,0,[]⟩:aP)]) QK UN λx3=>.al 2<|.cl 22 (AI n x1) TA T4 λx5=>.cl 23 (DU n []) OP QE λx6=>.cl 24 (oH n x5 x6) xE vO λx7=>.cl 29 (oH n ([]:List UInt8) ([]:List UInt8)) xE vO λx8=>.jn 0 [] [] [] (λ_ (a:Bool)=>[(0,aA a)]) (λ_ _=>[]) (.bB 34 (decide (x3.2.2=0)) λx9=>.ifs [34] x9 (.ln 37 fI x3.2.1<|.bB 38 (decide ((x3.2.1.length:Int)=1)) λx10=>.ifs [38] x10 (.ix 42 fI x3.2.1 0 λx11=>.bB 44 (decide (x11=0)) λx12=>.ifs [44] x12 (.bB 49 (decide (x3.1.Done=1)) λx13=>.ifs [49] x13 (.bB 53 (decide (x7.2.2=0)) λx14=>.ifs [53] x14 (.ln 57 fI x7.2.1<|.bB 58 (decide ((x7.2.1.length:Int)=0)) λx15=>.ifs [58] x15 (.gv 62<|.bB 63 (decide ((x7.1.length:Int)>50)) λx16=>.ifs [63] x16 (.bB 67 (decide (x8.2.2=3)) λx17=>.ret x17) (.ret false)) (.ret false)) (.ret false)) (.ret false)) (.ret false)) (.ret false)) (.ret false)) (λy0_1=>.ret ((y0_1:Bool)))
def AO (n:Nat) :Option (Bool):=(WY n ).run
theorem aKU {n}:PZ (AO n ) 11 [] aA:=by
 refine wm Tryz.func11 ?_
 refine .mk λx1 e1=>?_
 intro v2
 refine .mk _ (aF (dY (ps:=[(0,_)]) (rows:=[[int 1,int 0,int 0,int 0,int 0,int 5,int 50,int 0,.sc (.slice none 0 0)]]) rfl Tryz.underlying31 iU (.cons rfl .nil) (by kernel_rfl) rfl rfl rfl)) ?_
 refine .mk (λx3 e3=>?_) rfl (by rintro _ rfl;exact (.cons (.refl _) (.cons (gN.list (.cons (.cons (.refl _) (.cons (.refl _) (.cons (.refl _) (.cons (.refl _) (.cons (.refl _) (.cons (.refl _) (.cons (.refl _) (.cons (.refl _) (.cons (.nil _) .nil))))))))) .nil)) .nil)))
 intro v4
 refine .mk λx5 e5=>?_
 refine .mk (λx6 e6=>?_) rfl (by rintro _ rfl;exact (.cons (.nil _) .nil))
 refine .mk λx7 e7=>?_
 refine .mk λx8 e8=>?_
 refine .mk ?_ ?_
 refine .mk λx9=>?_
 refine .mk ?_ ?_
 refine .mk ?_
 refine .mk λx10=>?_
 refine .mk ?_ ?_
 refine .mk λx11 e11=>?_
 refine .mk λx12=>?_
 refine .mk ?_ ?_
 refine .mk λx13=>?_
 refine .mk ?_ ?_
 refine .mk λx14=>?_
 refine .mk ?_ ?_
 refine .mk ?_
 refine .mk λx15=>?_
 refine .mk ?_ ?_
 refine .mk _ (aF (nX rfl Tryz.underlying9 rfl)) ?_
 refine .mk λx16=>?_
 refine .mk ?_ ?_
 refine .mk λx17=>?_
 exact .mk
 exact .mk
 exact .mk
 exact .mk
 exact .mk
 exact .mk
 exact .mk
 exact .mk
 intro _ _
 exact .mk
def O0 (n:Nat) (a1:Int) (a2:Int):WB (Bool) :=
 .cl 15 (D8 n 3) ON VC λx3=>.cl 16 (AI n x3) TA T4 λx4=>.gv 18<|.cl 19 (DU n [(⟨14,0,0,0,0,0,0,0,[]⟩:aP)]) OP QE λx5=>.cl 23 (oH n x4 x5) xE vO λx6=>.jn 0 [0,1,4,5,6,7] [] [] (λ_ (a:Bool)=>[(32,aA a)]) (λ_ _=>[]) (.bB 28 (decide (x6.2.2≠0)) λx7=>.ifs [28] x7 (.ret true) (.bl (decide (x6.1=([]:List UInt8)):Bool) λx8=>.gv 31<|.ret x8)) (λy0_1=>.az [32] y0_1 (.cl 34 (wW a2 1000) KS JH λx9=>.bI 36 (bL (131073+x9)) λx10=>.as ((0:Int)<=x10/\x10<=1048576) inferInstance<|.bl (List.replicate (Int.toNat x10) 0:List Int) λx12=>.ge 37 0<|.as (∀ v∈x12,0<=v/\v<=255) inferInstance<|.gv 38<|.cl 40 (wW a1 6) KS JH λx15=>.jn 0 [4] [] [] (λ_ (a:Int×Int×(List UInt8))=>[(12,int a.1),(13,int a.2.1),(14,str a.2.2)]) (λ_ _=>[]) (.bB 48 (decide (x15=0)) λx16=>.ifs [48] x16 (.as ((0:Int)<=1/\1<=(x4.length:Int)/\(x4.length:Int)<=(x4.length:Int)) inferInstance<|.bl ((x4.take x4.length).drop 1:List UInt8) λx18=>.gv 51<|.cl 53 (oH n x18 x5) xE vO λx19=>.ret ((x19.2.2:Int),3,x19.1)) (.bB 58 (decide (x15=1)) λx20=>.ifs [58] x20 (.as (x5.length+([120]:List UInt8).length<=9223372036854775807) inferInstance<|.bl (x5++([120]:List UInt8):List UInt8) λx22=>.gv 62<|.cl 63 (oH n x4 x22) xE vO λx23=>.ret ((x23.2.2:Int),3,x23.1)) (.bB 68 (decide (x15=2)) λx24=>.ifs [68] x24 (.cl 72 (oH n x4 (x12.map λv=>UInt8.ofNat v.toNat)) xE vO λx25=>.ret ((x25.2.2:Int),2,x25.1)) (.bB 77 (decide (x15=3)) λx26=>.ifs [77] x26 (.gv 82<|.as ((x6.1.length:Int)≠0) inferInstance<|.bl (x9.tmod (x6.1.length:Int):Int) λx28=>.gv 83<|.as ((0:Int)<=0/\0<=x28/\x28<=(x6.1.length:Int)) inferInstance<|.bl ((x6.1.take x28.toNat).drop 0:List UInt8) λx30=>.gv 84<|.cl 86 (vF n x30 x5) VU VX λx31=>.ret ((x31.2.2:Int),3,x31.1)) (.bB 91 (decide (x15=4)) λx32=>.ifs [91] x32 (.cl 95 (vF n (x12.map λv=>UInt8.ofNat v.toNat) x5) VU VX λx33=>.ret ((x33.2.2:Int),2,x33.1)) (.as (x6.1.length+([1]:List UInt8).length<=9223372036854775807) inferInstance<|.bl (x6.1++([1]:List UInt8):List UInt8) λx35=>.gv 43<|.cl 44 (B9 n x35) aEO aLU λx36=>.ret ((x36.2:Int),3,(([]:List UInt8):List UInt8)))))))) (pw λy1_1 q0=>(pw λy1_2 y1_3=>.jn 0 [] [] [] (λ_ (a:Bool)=>[(4,aA a)]) (λ_ _=>[]) (.bB 101 (decide (y1_1=y1_2)) λx37=>.ifs [101] x37 (.bl (decide (y1_3=([]:List UInt8)):Bool) λx38=>.gv 104<|.ifs [104] x38 (.cl 107 (AO n) Z7 aKU λx39=>.ret x39) (.ret false)) (.ret false)) (λy2_1=>.ret ((y2_1:Bool)))) q0)))
def LC (n:Nat) (a1:Int) (a2:Int):Option (Bool):=(O0 n a1 a2).run
theorem YJ {n a1 a2}:PZ (LC n a1 a2) 3 [int a1,int a2] aA:=by
 refine wm Tryz.func3 ?_
 refine .mk λx3 e3=>?_
 refine .mk λx4 e4=>?_
 refine .mk _ (aF (dY (ps:=[(0,_)]) (rows:=[[int 14,int 0,int 0,int 0,int 0,int 0,int 0,int 0,.sc (.slice none 0 0)]]) rfl Tryz.underlying31 iU (.cons rfl .nil) (by kernel_rfl) rfl rfl rfl)) ?_
 refine .mk (λx5 e5=>?_) rfl (by rintro _ rfl;exact (.cons (gN.list (.cons (.cons (.refl _) (.cons (.refl _) (.cons (.refl _) (.cons (.refl _) (.cons (.refl _) (.cons (.refl _) (.cons (.refl _) (.cons (.refl _) (.cons (.nil _) .nil))))))))) .nil)) .nil))
 refine .mk λx6 e6=>?_
 refine .mk ?_ ?_
 refine .mk λx7=>?_
 refine .mk .mk ?_
 refine .mk λx8 e8=>?_
 refine .mk _ (aF (aN (y:=aA x8) (OX rfl rfl rfl) (congrArg aA e8))) ?_
 exact .mk
 intro _ _
 refine .mk ?_
 refine .mk λx9 e9=>?_
 refine .mk λx10=>?_
 refine .mk λp11=>?_
 refine .mk λx12 e12=>?_
 have lx12:x12.length=(Int.toNat x10):=by rw [<- e12];exact List.length_replicate
 refine .mk _ ⟨λ_=>oW 1 (g:=(fK .u8)) (z0:=(0:Int)) .any rfl Tryz.underlying37 lT pM rfl rfl rfl p11 (.cons (.sc _) .nil) e12,λ_ _ _=>trivial⟩ ?_
 rintro _ _ ⟨v13,-,rfl,rfl⟩
 refine .mk λp14=>?_
 refine .mk _ (aF (CY (l:=(x12.map λv=>UInt8.ofNat v.toNat)) rfl Tryz.underlying37 Tryz.underlying5 Tryz.underlying9 rfl rfl rfl rfl (T6 p14) (lx12.symm.trans (List.length_map _).symm))) ?_
 refine .mk λx15 e15=>?_
 refine .mk ?_ ?_
 refine .mk λx16=>?_
 refine .mk ?_ ?_
 refine .mk λp17=>?_
 refine .mk λx18 e18=>?_
 refine .mk _ (aF (aN (y:=str x18) (vP (i:=1) (j:=x4.length) rfl Tryz.underlying9 rfl (.yes rfl (by omega)) .no (by omega) (by omega)) (congrArg str e18))) ?_
 refine .mk λx19 e19=>?_
 exact .mk
 refine .mk λx20=>?_
 refine .mk ?_ ?_
 refine .mk λp21=>?_
 refine .mk λx22 e22=>?_
 refine .mk _ (aF (aN (y:=str x22) (qJ rfl rfl rfl p21) (congrArg str e22))) ?_
 refine .mk λx23 e23=>?_
 exact .mk
 refine .mk λx24=>?_
 refine .mk ?_ ?_
 refine .mk λx25 e25=>?_
 exact .mk
 refine .mk λx26=>?_
 refine .mk ?_ ?_
 refine .mk _ (aF (nX rfl Tryz.underlying9 rfl)) ?_
 refine .mk λp27=>?_
 refine .mk λx28 e28=>?_
 refine .mk _ (aF (uT rfl rfl rfl p27 e28)) ?_
 refine .mk λp29=>?_
 refine .mk λx30 e30=>?_
 refine .mk _ (aF (aN (y:=str x30) (vP (i:=0) (j:=x28.toNat) rfl Tryz.underlying9 rfl .no (.yes rfl (by omega)) (by omega) (by omega)) (congrArg str e30))) ?_
 refine .mk λx31 e31=>?_
 exact .mk
 refine .mk λx32=>?_
 refine .mk ?_ ?_
 refine .mk λx33 e33=>?_
 exact .mk
 refine .mk λp34=>?_
 refine .mk λx35 e35=>?_
 refine .mk _ (aF (aN (y:=str x35) (qJ rfl rfl rfl p34) (congrArg str e35))) ?_
 refine .mk λx36 e36=>?_
 exact .mk
 intro _ _
 refine .mk ?_ ?_
 refine .mk λx37=>?_
 refine .mk ?_ ?_
 refine .mk λx38 e38=>?_
 refine .mk _ (aF (aN (y:=aA x38) (OX rfl rfl rfl) (congrArg aA e38))) ?_
 refine .mk ?_ ?_
 refine .mk λx39 e39=>?_
 exact .mk
 exact .mk
 exact .mk
 intro _ _
 exact .mk
end
end Go.Pv
