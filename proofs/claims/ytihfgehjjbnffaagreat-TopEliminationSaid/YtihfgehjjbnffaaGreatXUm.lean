import Derived.Test.YtihfgehjjbnffaaGreatXUl
set_option linter.unusedVariables false
set_option linter.unusedSimpArgs false
namespace Go.Pv
open Go.Proofs
set_option maxRecDepth 100000
set_option maxHeartbeats 4000000
noncomputable section
def aBS (n:Nat) (a1:aA):WB ((List aQ)×Int) :=
 .al 1<|.to 16 (aH 1 fI ([14,13,15,16]:List Int))<|.dU 0 [1,2,3] [1] [3] (λu2 (a:(List aQ))=>[(4,.sl 3 (u2 3) 0 a.length)]) (λ_ a=>[.nw 3 82 2 (a.map aQ.av)]) (.no 4 3 82 2<|.lp [1,2,3,16,17] [1] [3] (λu3 (a:Int×(List aQ))=>[(4,.sl 3 (u3 3) 0 a.2.length),(18,int a.1)]) (λ_ a=>[.nw 3 82 2 (a.2.map aQ.av)]) n ((0:Int),(([]:List aQ):List aQ)) (pw λy0_2 y0_3=>.bB 19 (decide (y0_2<4)) λx4=>.ifs [19] x4 (.ix 20 fI ([14,13,15,16]:List Int) y0_2 λx5=>.cl 25 (G5 n a1 x5) aE8 aC0 λx6=>.bB 29 (decide (x6.2≠0)) λx7=>.ifs [29] x7 (.esc (.esc (.ret (([]:List aQ),x6.2)))) (.bI 34 (bA (0-x6.1)) λx8=>.to 36 (aH 2 aQ.av ([(⟨x5,x8⟩:aQ)]:List aQ))<|.bl (y0_3++([(⟨x5,x8⟩:aQ)]:List aQ):List aQ) λx9=>.as (x9.length<=68719476736) inferInstance<|.ge 37 0<|.bI 38 (bA (y0_2+1)) λx12=>.brk ((x12:Int),x9))) (.esc (.brk y0_3)))) (λy1_2=>.ln 41 aP.av a1.aW<|.jn 0 [1,2,3,4] [1,3] [5] (λu17 (a:(List Int))=>[(9,.sl 5 (u17 5) 0 a.length)]) (λ_ a=>[.nw 5 3 1 (a.map fI)]) (.no 9 5 3 1<|.lp [1,2,3,4,41] [1,3] [5] (λu21 (a:Int×(List Int))=>[(9,.sl 5 (u21 5) 0 a.2.length),(42,int a.1)]) (λ_ a=>[.nw 5 3 1 (a.2.map fI)]) n ((0:Int),(([]:List Int):List Int)) (pw λy2_2 y2_3=>.bB 43 (decide (y2_2<(a1.aW.length:Int))) λx14=>.ifs [43] x14 (.jn 1 [1,2,3,4,41,42] [1,3] [5] (λu24 (a:(List Int))=>[(9,.sl 5 (u24 5) 0 a.length)]) (λ_ a=>[.nw 5 3 1 (a.map fI)]) (.ln 48 fI a1.bF.bN<|.jn 0 [1,2,3,4,41,42] [1,3] [5] (λu26 (a:(List Int))=>[(9,.sl 5 (u26 5) 0 a.length)]) (λ_ a=>[.nw 5 3 1 (a.map fI)]) (.lp [1,2,3,4,10,41,42,48] [1,3] [5] (λu27 (a:Int×(List Int))=>[(9,.sl 5 (u27 5) 0 a.2.length),(49,int a.1)]) (λ_ a=>[.nw 5 3 1 (a.2.map fI)]) n ((0:Int),y2_3) (pw λy3_2 y3_3=>.bB 50 (decide (y3_2<(a1.bF.bN.length:Int))) λx15=>.ifs [50] x15 (.cl 56 (wM n a1 y2_2 y3_2) B9 CW λx16=>.to 58 (aH 1 fI ([x16.bE]:List Int))<|.bl (y3_3++([x16.bE]:List Int):List Int) λx17=>.as (x17.length<=68719476736) inferInstance<|.ge 59 0<|.bI 60 (bA (y3_2+1)) λx20=>.brk ((x20:Int),x17)) (.esc (.ret y3_3)))) (λy4_2=>.ret y4_2)) (λy5_2=>.bI 61 (bA (y2_2+1)) λx21=>.brk ((x21:Int),y5_2))) (.esc (.ret y2_3)))) (λy6_2=>.jF 64 (kN n y6_2) nM nO (λ_=>rfl) λx22=>.bB 68 (decide (x22.2≠0)) λx23=>.ifs [68] x23 (.ret (([]:List aQ),x22.2)) (.inl 73 aWM Tryz.func62 [1,3,5] [] (λ_ (a:Int×Int)=>.bD [int a.1,int a.2]) (λ_ _=>[]) (.ln 10 dD.av a1.bL<|.jn 0 [4,5] [1,3,5] [8] (λu32 (a:(List Int))=>[(6,.sl 8 (u32 8) 0 a.length)]) (λ_ a=>[.nw 8 3 1 (a.map fI)]) (.no 6 8 3 1<|.lp [1,4,5,9,10] [1,3,5] [8] (λu33 (a:Int×(List Int))=>[(6,.sl 8 (u33 8) 0 a.2.length),(11,int a.1)]) (λ_ a=>[.nw 8 3 1 (a.2.map fI)]) n ((0:Int),(([]:List Int):List Int)) (pw λy7_2 y7_3=>.bB 12 (decide (y7_2<(a1.bL.length:Int))) λx25=>.ifs [12] x25 (.ix 14 dD.av a1.bL y7_2 λx26=>.al 6<|.cl 20 (WE y7_2 x26) aS5 aUB λx28=>.to 21 (aH 1 fI ([x28]:List Int))<|.bl (y7_3++([x28]:List Int):List Int) λx29=>.as (x29.length<=68719476736) inferInstance<|.ge 22 0<|.bI 23 (bA (y7_2+1)) λx32=>.brk ((x32:Int),x29)) (.esc (.ret y7_3)))) (λy8_2=>.jF 25 (kN n y8_2) nM nO (λ_=>rfl) λx33=>.ret ((x33.1:Int),x33.2))) (pw λy9_1 y9_2=>.bB 77 (decide (y9_2≠0)) λx34=>.ifs [77] x34 (.ret (([]:List aQ),y9_2)) (.bI 81 (bA (0-x22.1)) λx35=>.bI 84 (bA (0-y9_1)) λx36=>.to 86 (aH 2 aQ.av ([(⟨0,x35⟩:aQ),(⟨12,x36⟩:aQ)]:List aQ))<|.bl (y1_2++([(⟨0,x35⟩:aQ),(⟨12,x36⟩:aQ)]:List aQ):List aQ) λx37=>.as (x37.length<=68719476736) inferInstance<|.ge 87 0<|.inl 90 aSC Tryz.func64 [1,3,5] [] (λ_ (a:Int×Int)=>.bD [int a.1,int a.2]) (λ_ _=>[]) (.jn 3 [4,5] [1,3,5] [11] (λu38 (a:(List Int))=>[(6,.sl 11 (u38 11) 0 a.length)]) (λ_ a=>[.nw 11 3 1 (a.map fI)]) (.no 6 11 3 1<|.lp [1,4,5,9,10] [1,3,5] [11] (λu39 (a:Int×(List Int))=>[(6,.sl 11 (u39 11) 0 a.2.length),(11,int a.1)]) (λ_ a=>[.nw 11 3 1 (a.2.map fI)]) n ((0:Int),(([]:List Int):List Int)) (pw λy10_2 y10_3=>.bB 12 (decide (y10_2<(x37.length:Int))) λx41=>.ifs [12] x41 (.bo (ix x37 y10_2) λx42=>.gv 14<|.gv 15<|.al 9<|.cl 20 (RD y10_2 x42) aWV aRX λx44=>.to 21 (aH 1 fI ([x44]:List Int))<|.bl (y10_3++([x44]:List Int):List Int) λx45=>.as (x45.length<=68719476736) inferInstance<|.ge 22 0<|.bI 23 (bA (y10_2+1)) λx48=>.brk ((x48:Int),x45)) (.esc (.ret y10_3)))) (λy11_2=>.jF 25 (kN n y11_2) nM nO (λ_=>rfl) λx49=>.ret ((x49.1:Int),x49.2))) (pw λy12_1 y12_2=>.bB 94 (decide (y12_2≠0)) λx50=>.ifs [94] x50 (.ret (([]:List aQ),y12_2)) (.bI 98 (bA (0-y12_1)) λx55=>.to 100 (aH 2 aQ.av ([(⟨5,x55⟩:aQ)]:List aQ))<|.bl (x37++([(⟨5,x55⟩:aQ)]:List aQ):List aQ) λx56=>.as (x56.length<=68719476736) inferInstance<|.ge 101 0<|.bo (xC n x56) λx59=>.ge 102 0<|.ret ((x59.1:List aQ),x59.2))))))))
def M9 (n:Nat) (a1:aA):Option ((List aQ)×Int):=(aBS n a1).run
theorem aPK {n a1}:PZ (M9 n a1) 26 [.agg (aA.av a1)] (λr=>.bD [aH 2 aQ.av r.1,int r.2]):=by
 refine wm Tryz.func26 ?_
 intro v2
 refine .mk (bK (dK (y:=aH 1 fI ([14,13,15,16]:List Int)) (gM (ps:=[(0,_),(1,_),(2,_),(3,_)]) (rows:=[[int 14],[int 13],[int 15],[int 16]]) rfl Tryz.underlying22 iH (.cons rfl (.cons rfl (.cons rfl (.cons rfl .nil)))) (by kernel_rfl) rfl rfl rfl) rfl)) ?_
 refine .mk ?_ ?_
 intro v3
 refine .mk ?_
 rintro ⟨y0_2,y0_3⟩ _
 refine .mk λx4=>?_
 refine .mk ?_ ?_
 refine .mk λx5 e5=>?_
 refine .mk λx6 e6=>?_
 refine .mk λx7=>?_
 refine .mk ?_ ?_
 exact .mk (bT.bD (.cons (.nil _) (.cons (.refl _) .nil)))
 refine .mk λx8=>?_
 refine .mk (bK (dK (y:=aH 2 aQ.av ([(⟨x5,x8⟩:aQ)]:List aQ)) (gM (ps:=[(0,_)]) (rows:=[[int x5,int x8]]) rfl Tryz.underlying46 qD (.cons rfl .nil) (by kernel_rfl) rfl rfl rfl) rfl)) ?_
 refine .mk λx9 e9=>?_
 refine .mk λp10=>?_
 refine .mk _ ⟨λ_=>kQ (g:=aQ.av) (l:=y0_3) (m:=([(⟨x5,x8⟩:aQ)]:List aQ)) .any rfl Tryz.underlying46 qD GD rfl rfl rfl rfl rfl rfl rfl rfl rfl rfl (Eq.symm rfl) (.refl _) (λ_=>rfl) e9 p10,λ_ _ _=>trivial⟩ ?_
 rintro _ _ ⟨v11,-,rfl,rfl⟩
 refine .mk λx12=>?_
 exact .mk
 exact .mk
 intro y1_2 _
 refine .mk ?_
 refine .mk ?_ ?_
 intro v13
 refine .mk ?_
 intro _ _
 refine .mk λx14=>?_
 refine .mk ?_ ?_
 refine .mk ?_ ?_
 refine .mk ?_
 refine .mk ?_ ?_
 refine .mk ?_
 rintro ⟨y3_2,y3_3⟩ _
 refine .mk λx15=>?_
 refine .mk ?_ ?_
 refine .mk λx16 e16=>?_
 refine .mk (bK (dK (y:=aH 1 fI ([x16.bE]:List Int)) (gM (ps:=[(0,_)]) (rows:=[[int x16.bE]]) rfl Tryz.underlying22 iH (.cons rfl .nil) (by kernel_rfl) rfl rfl rfl) rfl)) ?_
 refine .mk λx17 e17=>?_
 refine .mk λp18=>?_
 refine .mk _ ⟨λ_=>kQ (g:=fI) (l:=y3_3) (m:=([x16.bE]:List Int)) .any rfl Tryz.underlying22 iH lT rfl rfl rfl rfl rfl rfl rfl rfl rfl rfl (Eq.symm rfl) (.refl _) (λ_=>rfl) e17 p18,λ_ _ _=>trivial⟩ ?_
 rintro _ _ ⟨v19,-,rfl,rfl⟩
 refine .mk λx20=>?_
 exact .mk
 exact .mk
 intro _ _
 exact .mk
 intro _ _
 refine .mk λx21=>?_
 exact .mk
 exact .mk
 intro _ _
 refine .mk (λx22 e22=>?_) rfl (by rintro _ rfl;exact (.cons (dZ rfl rfl rfl rfl rfl (Eq.symm rfl)) .nil))
 refine .mk λx23=>?_
 refine .mk ?_ ?_
 exact .mk (bT.bD (.cons (.nil _) (.cons (.refl _) .nil)))
 refine .mk ?_ ?_
 refine .mk ?_
 refine .mk ?_ ?_
 intro v24
 refine .mk ?_
 rintro ⟨y7_2,y7_3⟩ _
 refine .mk λx25=>?_
 refine .mk ?_ ?_
 refine .mk λx26 e26=>?_
 intro v27
 refine .mk λx28 e28=>?_
 refine .mk (bK (dK (y:=aH 1 fI ([x28]:List Int)) (gM (ps:=[(0,_)]) (rows:=[[int x28]]) rfl Tryz.underlying22 iH (.cons rfl .nil) (by kernel_rfl) rfl rfl rfl) rfl)) ?_
 refine .mk λx29 e29=>?_
 refine .mk λp30=>?_
 refine .mk _ ⟨λ_=>kQ (g:=fI) (l:=y7_3) (m:=([x28]:List Int)) .any rfl Tryz.underlying22 iH lT rfl rfl rfl rfl rfl rfl rfl rfl rfl rfl (Eq.symm rfl) (.refl _) (λ_=>rfl) e29 p30,λ_ _ _=>trivial⟩ ?_
 rintro _ _ ⟨v31,-,rfl,rfl⟩
 refine .mk λx32=>?_
 exact .mk
 exact .mk
 intro _ _
 refine .mk (λx33 e33=>?_) rfl (by rintro _ rfl;exact (.cons (dZ rfl rfl rfl rfl rfl (Eq.symm rfl)) .nil))
 exact .mk
 intro _ _
 refine .mk trivial ?_
 refine .mk λx34=>?_
 refine .mk ?_ ?_
 exact .mk (bT.bD (.cons (.nil _) (.cons (.refl _) .nil)))
 refine .mk λx35=>?_
 refine .mk λx36=>?_
 refine .mk (bK (dK (y:=aH 2 aQ.av ([(⟨0,x35⟩:aQ),(⟨12,x36⟩:aQ)]:List aQ)) (gM (ps:=[(0,_),(1,_)]) (rows:=[[int 0,int x35],[int 12,int x36]]) rfl Tryz.underlying46 qD (.cons rfl (.cons rfl .nil)) (by kernel_rfl) rfl rfl rfl) rfl)) ?_
 refine .mk λx37 e37=>?_
 refine .mk λp38=>?_
 refine .mk _ ⟨λ_=>kQ (g:=aQ.av) (l:=y1_2) (m:=([(⟨0,x35⟩:aQ),(⟨12,x36⟩:aQ)]:List aQ)) .any rfl Tryz.underlying46 qD GD rfl rfl rfl rfl rfl rfl rfl rfl rfl rfl (Eq.symm rfl) (.refl _) (λ_=>rfl) e37 p38,λ_ _ _=>trivial⟩ ?_
 rintro _ _ ⟨v39,-,rfl,rfl⟩
 refine .mk ?_ ?_
 refine .mk ?_ ?_
 intro v40
 refine .mk ?_
 rintro ⟨y10_2,y10_3⟩ _
 refine .mk λx41=>?_
 refine .mk ?_ ?_
 refine .mk λx42 e42=>?_
 refine .mk _ (bK (eY rfl Tryz.underlying46 kK rfl rfl rfl rfl rfl (Eq.symm rfl) (List.length_map _) e42)) ?_
 refine .mk _ (bK (fU rfl kK rfl (.pt rfl rfl (dN e42)) rfl)) ?_
 intro v43
 refine .mk λx44 e44=>?_
 refine .mk (bK (dK (y:=aH 1 fI ([x44]:List Int)) (gM (ps:=[(0,_)]) (rows:=[[int x44]]) rfl Tryz.underlying22 iH (.cons rfl .nil) (by kernel_rfl) rfl rfl rfl) rfl)) ?_
 refine .mk λx45 e45=>?_
 refine .mk λp46=>?_
 refine .mk _ ⟨λ_=>kQ (g:=fI) (l:=y10_3) (m:=([x44]:List Int)) .any rfl Tryz.underlying22 iH lT rfl rfl rfl rfl rfl rfl rfl rfl rfl rfl (Eq.symm rfl) (.refl _) (λ_=>rfl) e45 p46,λ_ _ _=>trivial⟩ ?_
 rintro _ _ ⟨v47,-,rfl,rfl⟩
 refine .mk λx48=>?_
 exact .mk
 exact .mk
 intro _ _
 refine .mk (λx49 e49=>?_) rfl (by rintro _ rfl;exact (.cons (dZ rfl rfl rfl rfl rfl (Eq.symm rfl)) .nil))
 exact .mk
 intro _ _
 refine .mk trivial ?_
 refine .mk λx50=>?_
 refine .mk ?_ ?_
 exact .mk (bT.bD (.cons (.nil _) (.cons (.refl _) .nil)))
 refine .mk λx55=>?_
 refine .mk (bK (dK (y:=aH 2 aQ.av ([(⟨5,x55⟩:aQ)]:List aQ)) (gM (ps:=[(0,_)]) (rows:=[[int 5,int x55]]) rfl Tryz.underlying46 qD (.cons rfl .nil) (by kernel_rfl) rfl rfl rfl) rfl)) ?_
 refine .mk λx56 e56=>?_
 refine .mk λp57=>?_
 refine .mk _ ⟨λ_=>kQ (g:=aQ.av) (l:=x37) (m:=([(⟨5,x55⟩:aQ)]:List aQ)) .any rfl Tryz.underlying46 qD GD rfl rfl rfl rfl rfl rfl rfl rfl rfl rfl (Eq.symm rfl) (.refl _) (λ_=>rfl) e56 p57,λ_ _ _=>trivial⟩ ?_
 rintro _ _ ⟨v58,-,rfl,rfl⟩
 refine .mk λx59 e59=>?_
 refine .mk _ ⟨λ_=>bY.jK 3 rfl (bY.eX (uN rfl rfl (.cons rfl .nil) PR (.cons (dZ rfl rfl rfl rfl rfl (Eq.symm rfl)) .nil) (SA _ e59)) (λ_ h=>h) (λ_ h=>h.elim)),λ_ _ _=>trivial⟩ ?_
 rintro _ _ ⟨rfl,rfl⟩
 exact .mk
def aD0 (n:Nat) (a1:aA):WB (nG×Int) :=
 .al 1<|.al 2<|.cl 17 (MM n a1) aPU aUP λx4=>.bB 19 (decide (x4≠0)) λx5=>.ifs [19] x5 (.ret (((⟨0,[],[],[]⟩:nG):nG),x4)) (.al 3<|.ln 24 aP.av a1.aW<|.bB 25 (decide ((a1.aW.length:Int)>0)) λx7=>.jn 0 [1,2,3,5] [1,2] [] (λ_ (a:Int)=>[]) (λ_ a=>[.kp 3 [[int a,.sc (.slice none 0 0),.sc (.slice none 0 0),.sc (.slice none 0 0)]]]) (.ifs [25] x7 (.iF 28 aP.av gE aP.dA a1.aW 0 λx8=>.ret (x8.fD:Int)) (.ret 0)) (λy0_1=>.ln 35 fI a1.bF.bN<|.dU 0 [1,2,3,5] [1,2] [6] (λ_ (a:(List jG))=>[]) (λu3 a=>[.kp 3 [[int y0_1,.sl 6 (u3 6) 0 a.length,.sc (.slice none 0 0),.sc (.slice none 0 0)]],.nw 6 52 4 (a.map jG.av)]) (.nc 3 0 1 6 52 4<|.lp [1,2,3,5,35] [1,2] [6] (λ_ (a:Int×(List jG))=>[(36,int a.1)]) (λu4 a=>[.kp 3 [[int y0_1,.sl 6 (u4 6) 0 a.2.length,.sc (.slice none 0 0),.sc (.slice none 0 0)]],.nw 6 52 4 (a.2.map jG.av)]) n ((0:Int),(([]:List jG):List jG)) (pw λy1_1 y1_3=>.bB 37 (decide (y1_1<(a1.bF.bN.length:Int))) λx10=>.ifs [37] x10 (.cl 42 (IE n a1 y1_1) aVN aXQ λx11=>.al 4<|.bB 46 (decide (x11.2≠0)) λx13=>.ifs [46] x13 (.esc (.esc (.ret (((⟨0,[],[],[]⟩:nG):nG),x11.2)))) (.to 52 (aH 4 jG.av ([x11.1]:List jG))<|.bl (y1_3++([x11.1]:List jG):List jG) λx14=>.as (x14.length<=68719476736) inferInstance<|.ge 53 0<|.bI 55 (bA (y1_1+1)) λx17=>.brk ((x17:Int),x14))) (.esc (.brk y1_3)))) (λy2_2=>.cl 58 (M9 n a1) aVJ aPK λx18=>.bB 62 (decide (x18.2≠0)) λx19=>.ifs [62] x19 (.ret (((⟨0,[],[],[]⟩:nG):nG),x18.2)) (.dU 3 [2,3,5] [2,6] [9] (λ_ (a:(List Int))=>[]) (λu82 a=>[.kp 3 [[int y0_1,.sl 6 (u82 6) 0 y2_2.length,aH 2 aQ.av x18.1,.sl 9 (u82 9) 0 a.length]],.nw 9 3 1 (a.map fI)]) (.nc 3 0 3 9 3 1<|.lp [1,2,3,5,9] [1,2,6] [9] (λ_ (a:Int×(List Int))=>[(67,int a.1)]) (λu95 a=>[.kp 3 [[int y0_1,.sl 6 (u95 6) 0 y2_2.length,aH 2 aQ.av x18.1,.sl 9 (u95 9) 0 a.2.length]],.nw 9 3 1 (a.2.map fI)]) n ((0:Int),(([]:List Int):List Int)) (pw λy3_1 y3_3=>.bB 68 (decide (y3_1<17)) λx21=>.ifs [68] x21 (.dU 1 [1,2,3,5,9,67] [1,2,6] [9] (λ_ (a:(List Int))=>[]) (λu105 a=>[.kp 3 [[int y0_1,.sl 6 (u105 6) 0 y2_2.length,aH 2 aQ.av x18.1,.sl 9 (u105 9) 0 a.length]],.nw 9 3 1 (a.map fI)]) (.cl 73 (G5 n a1 y3_1) aE8 aC0 λx22=>.bB 77 (decide (x22.2≠0)) λx23=>.ifs [77] x23 (.esc (.esc (.esc (.ret (((⟨0,[],[],[]⟩:nG):nG),x22.2))))) (.ln 81 aQ.av x18.1<|.dU 0 [1,2,3,5,9,67] [1,2,3,6,9] [] (λ_ (a:Int)=>[(12,int a)]) (λ_ _=>[]) (.lp [1,2,3,5,9,11,67,80,81] [1,2,3,6,9] [] (λ_ (a:Int×Int)=>[(12,int a.1),(82,int a.2)]) (λ_ _=>[]) n ((x22.1:Int),0) (pw λy4_1 y4_2=>.bB 83 (decide (y4_2<(x18.1.length:Int))) λx24=>.ifs [83] x24 (.dU 1 [1,2,3,5,9,11,67,80,81,82] [1,2,3,6,9] [] (λ_ (a:Int)=>[(12,int a)]) (λ_ _=>[]) (.ix 84 aQ.av x18.1 y4_2 λx25=>.al 7<|.bB 89 (decide (x25.jH=y3_1)) λx27=>.ifs [89] x27 (.cl 94 (mG y4_1 x25.bO) pP oW λx28=>.bB 98 (decide (x28.2≠0)) λx29=>.ifs [98] x29 (.esc (.esc (.esc (.esc (.esc (.esc (.ret (((⟨0,[],[],[]⟩:nG):nG),x28.2)))))))) (.brk x28.1)) (.brk y4_1)) (λy5_1=>.bI 101 (bA (y4_2+1)) λx30=>.brk ((y5_1:Int),x30))) (.esc (.brk y4_1)))) (λy6_1=>.to 105 (aH 1 fI ([y6_1]:List Int))<|.bl (y3_3++([y6_1]:List Int):List Int) λx31=>.as (x31.length<=68719476736) inferInstance<|.ge 106 0<|.brk x31))) (λy7_2=>.bI 108 (bA (y3_1+1)) λx34=>.brk ((x34:Int),y7_2))) (.esc (.brk y3_3)))) (λy8_2=>.ret (((⟨y0_1,y2_2,x18.1,y8_2⟩:nG):nG),0))))))
def MH (n:Nat) (a1:aA):Option (nG×Int):=(aD0 n a1).run
theorem aU7 {n a1}:PZ (MH n a1) 10 [.agg (aA.av a1)] (λr=>.bD [.agg (nG.av r.1),int r.2]):=wq Tryz.func10
def aKU (a1:Int) (a2:Int) (a3:Int):WB (Bool) :=
 .jn 1 [] [] [] (λ_ (a:Bool)=>[(6,aI a)]) (λ_ _=>[]) (.bB 9 (decide (a1>=a2)) λx4=>.ifs [9] x4 (.bB 13 (decide (a1<=a3)) λx5=>.ret x5) (.ret false)) (λy0_1=>.ret ((y0_1:Bool)))
def BF (a1:Int) (a2:Int) (a3:Int):Option (Bool):=(aKU a1 a2 a3).run
theorem G4 {a1 a2 a3}:PZ (BF a1 a2 a3) 164 [int a1,int a2,int a3] aI:=wq Tryz.func164
def aPA (a1:Int):WB (Bool) :=
 .cl 4 (BF a1 0 1073741824) FN G4 λx2=>.ret ((x2:Bool))
def RZ (a1:Int):Option (Bool):=(aPA a1).run
theorem aEG {a1}:PZ (RZ a1) 163 [int a1] aI:=wq Tryz.func163
def aKD (a1:Int):WB (Bool) :=
 .cl 4 (BF a1 1 4) FN G4 λx2=>.ret ((x2:Bool))
def aGG (a1:Int):Option (Bool):=(aKD a1).run
theorem aR6 {a1}:PZ (aGG a1) 167 [int a1] aI:=wq Tryz.func167
def aUF (n:Nat) (a1:gD):WB (Bool) :=
 .al 1<|.ln 9 fI a1.bN<|.al 2<|.al 3<|.jn 2 [] [] [] (λ_ (a:Bool)=>[(2,aI a)]) (λ_ _=>[]) (.cl 14 (BF a1.fO 1 4) FN G4 λx5=>.ifs [14] x5 (.cl 18 (BF a1.iB 1 12) FN G4 λx6=>.ifs [18] x6 (.cl 22 (BF (a1.bN.length:Int) 1 5) FN G4 λx7=>.ifs [22] x7 (.inl 29 QU Tryz.func166 [1,2,3] [] (λ_ (a:Bool)=>aI a) (λ_ _=>[]) (.al 4<|.jn 0 [] [1,2,3] [] (λ_ (a:Bool)=>[(6,aI a)]) (λ_ _=>[]) (.ln 8 fI a1.bN<|.bB 10 (decide ((a1.bN.length:Int)=(a1.bN.length:Int))) λx9=>.ifs [10] x9 (.inl 14 DL Tryz.func155 [1,2,3,4] [] (λ_ (a:Bool)=>aI a) (λ_ _=>[]) (.inl 7 DY Tryz.func197 [1,2,3,4] [] (λ_ (a:Int)=>int a) (λ_ _=>[]) (.ln 7 fI a1.bN<|.dU 0 [4] [1,2,3,4] [] (λ_ (a:Unit)=>[]) (λ_ _=>[]) (.lp [0,1,4,7] [1,2,3,4] [] (λ_ (a:Int)=>[(8,int a)]) (λ_ _=>[]) n 0 (λy0_1=>.bB 9 (decide (y0_1<(a1.bN.length:Int))) λx10=>.ifs [9] x10 (.ix 14 fI a1.bN y0_1 λx11=>.inl 16 UT Tryz.func203 [1,2,3,4] [] (λ_ (a:Bool)=>aI a) (λ_ _=>[]) (.cl 6 (RZ x11) aCX aEG λx12=>.bB 7 (!x12) λx13=>.ret x13) (λy1_1=>.ifs [16] y1_1 (.esc (.esc (.ret y0_1))) (.bI 18 (bA (y0_1+1)) λx14=>.brk x14))) (.esc (.brk ())))) (λ_=>.ret (-1))) (λy3_1=>.bB 8 (decide (y3_1>=0)) λx15=>.ret x15)) (λy4_1=>.bB 15 (!y4_1) λx16=>.ret x16)) (.ret false)) (λy5_1=>.ret y5_1)) (λy6_1=>.ifs [29] y6_1 (.inl 37 XZ Tryz.func169 [1,2,3] [] (λ_ (a:Bool)=>aI a) (λ_ _=>[]) (.al 5<|.jn 0 [] [1,2,3] [] (λ_ (a:Bool)=>[(6,aI a)]) (λ_ _=>[]) (.ln 8 (fL 1 fI) a1.Methods<|.bB 10 (decide ((a1.Methods.length:Int)=a1.fO)) λx18=>.ifs [10] x18 (.inl 14 aHA Tryz.func204 [1,2,3,5] [] (λ_ (a:Bool)=>aI a) (λ_ _=>[]) (.inl 7 aFE Tryz.func219 [1,2,3,5] [] (λ_ (a:Int)=>int a) (λ_ _=>[]) (.ln 7 (fL 1 fI) a1.Methods<|.dU 0 [4] [1,2,3,5] [] (λ_ (a:Unit)=>[]) (λ_ _=>[]) (.lp [0,1,4,7] [1,2,3,5] [] (λ_ (a:Int)=>[(8,int a)]) (λ_ _=>[]) n 0 (λy7_1=>.bB 9 (decide (y7_1<(a1.Methods.length:Int))) λx19=>.ifs [9] x19 (.ix 14 (fL 1 fI) a1.Methods y7_1 λx20=>.inl 16 aCR Tryz.func205 [1,2,3,5] [] (λ_ (a:Bool)=>aI a) (λ_ _=>[]) (.inl 6 aLK Tryz.func165 [1,2,3,5] [] (λ_ (a:Bool)=>aI a) (λ_ _=>[]) (.inl 6 QU Tryz.func166 [1,2,3,5] [] (λ_ (a:Bool)=>aI a) (λ_ _=>[]) (.al 6<|.jn 0 [] [1,2,3,5] [] (λ_ (a:Bool)=>[(6,aI a)]) (λ_ _=>[]) (.ln 8 fI x20<|.bB 10 (decide ((x20.length:Int)=(a1.bN.length:Int))) λx22=>.ifs [10] x22 (.inl 14 DL Tryz.func155 [1,2,3,5,6] [] (λ_ (a:Bool)=>aI a) (λ_ _=>[]) (.inl 7 DY Tryz.func197 [1,2,3,5,6] [] (λ_ (a:Int)=>int a) (λ_ _=>[]) (.ln 7 fI x20<|.dU 0 [4] [1,2,3,5,6] [] (λ_ (a:Unit)=>[]) (λ_ _=>[]) (.lp [0,1,4,7] [1,2,3,5,6] [] (λ_ (a:Int)=>[(8,int a)]) (λ_ _=>[]) n 0 (λy8_1=>.bB 9 (decide (y8_1<(x20.length:Int))) λx23=>.ifs [9] x23 (.ix 14 fI x20 y8_1 λx24=>.inl 16 UT Tryz.func203 [1,2,3,5,6] [] (λ_ (a:Bool)=>aI a) (λ_ _=>[]) (.cl 6 (aGG x24) aVR aR6 λx25=>.bB 7 (!x25) λx26=>.ret x26) (λy9_1=>.ifs [16] y9_1 (.esc (.esc (.ret y8_1))) (.bI 18 (bA (y8_1+1)) λx27=>.brk x27))) (.esc (.brk ())))) (λ_=>.ret (-1))) (λy11_1=>.bB 8 (decide (y11_1>=0)) λx28=>.ret x28)) (λy12_1=>.bB 15 (!y12_1) λx29=>.ret x29)) (.ret false)) (λy13_1=>.ret y13_1)) (λy14_1=>.ret y14_1)) (λy15_1=>.bB 7 (!y15_1) λx30=>.ret x30)) (λy16_1=>.ifs [16] y16_1 (.esc (.esc (.ret y7_1))) (.bI 18 (bA (y7_1+1)) λx31=>.brk x31))) (.esc (.brk ())))) (λ_=>.ret (-1))) (λy18_1=>.bB 8 (decide (y18_1>=0)) λx32=>.ret x32)) (λy19_1=>.bB 15 (!y19_1) λx33=>.ret x33)) (.ret false)) (λy20_1=>.ret y20_1)) (λy21_1=>.ifs [37] y21_1 (.inl 45 XZ Tryz.func169 [1,2,3] [] (λ_ (a:Bool)=>aI a) (λ_ _=>[]) (.al 7<|.jn 0 [] [1,2,3] [] (λ_ (a:Bool)=>[(6,aI a)]) (λ_ _=>[]) (.ln 8 (fL 1 fI) a1.fM<|.bB 10 (decide ((a1.fM.length:Int)=a1.fO)) λx35=>.ifs [10] x35 (.inl 14 aHA Tryz.func204 [1,2,3,7] [] (λ_ (a:Bool)=>aI a) (λ_ _=>[]) (.inl 7 aFE Tryz.func219 [1,2,3,7] [] (λ_ (a:Int)=>int a) (λ_ _=>[]) (.ln 7 (fL 1 fI) a1.fM<|.dU 0 [4] [1,2,3,7] [] (λ_ (a:Unit)=>[]) (λ_ _=>[]) (.lp [0,1,4,7] [1,2,3,7] [] (λ_ (a:Int)=>[(8,int a)]) (λ_ _=>[]) n 0 (λy22_1=>.bB 9 (decide (y22_1<(a1.fM.length:Int))) λx36=>.ifs [9] x36 (.ix 14 (fL 1 fI) a1.fM y22_1 λx37=>.inl 16 aCR Tryz.func205 [1,2,3,7] [] (λ_ (a:Bool)=>aI a) (λ_ _=>[]) (.inl 6 aNH Tryz.func168 [1,2,3,7] [] (λ_ (a:Bool)=>aI a) (λ_ _=>[]) (.inl 8 QU Tryz.func166 [1,2,3,7] [] (λ_ (a:Bool)=>aI a) (λ_ _=>[]) (.al 8<|.jn 0 [] [1,2,3,7] [] (λ_ (a:Bool)=>[(6,aI a)]) (λ_ _=>[]) (.ln 8 fI x37<|.bB 10 (decide ((x37.length:Int)=(a1.bN.length:Int))) λx39=>.ifs [10] x39 (.inl 14 DL Tryz.func155 [1,2,3,7,8] [] (λ_ (a:Bool)=>aI a) (λ_ _=>[]) (.inl 7 DY Tryz.func197 [1,2,3,7,8] [] (λ_ (a:Int)=>int a) (λ_ _=>[]) (.ln 7 fI x37<|.dU 0 [4] [1,2,3,7,8] [] (λ_ (a:Unit)=>[]) (λ_ _=>[]) (.lp [0,1,4,7] [1,2,3,7,8] [] (λ_ (a:Int)=>[(8,int a)]) (λ_ _=>[]) n 0 (λy23_1=>.bB 9 (decide (y23_1<(x37.length:Int))) λx40=>.ifs [9] x40 (.ix 14 fI x37 y23_1 λx41=>.inl 16 UT Tryz.func203 [1,2,3,7,8] [] (λ_ (a:Bool)=>aI a) (λ_ _=>[]) (.cl 6 (RZ x41) aCX aEG λx42=>.bB 7 (!x42) λx43=>.ret x43) (λy24_1=>.ifs [16] y24_1 (.esc (.esc (.ret y23_1))) (.bI 18 (bA (y23_1+1)) λx44=>.brk x44))) (.esc (.brk ())))) (λ_=>.ret (-1))) (λy26_1=>.bB 8 (decide (y26_1>=0)) λx45=>.ret x45)) (λy27_1=>.bB 15 (!y27_1) λx46=>.ret x46)) (.ret false)) (λy28_1=>.ret y28_1)) (λy29_1=>.ret y29_1)) (λy30_1=>.bB 7 (!y30_1) λx47=>.ret x47)) (λy31_1=>.ifs [16] y31_1 (.esc (.esc (.ret y22_1))) (.bI 18 (bA (y22_1+1)) λx48=>.brk x48))) (.esc (.brk ())))) (λ_=>.ret (-1))) (λy33_1=>.bB 8 (decide (y33_1>=0)) λx49=>.ret x49)) (λy34_1=>.bB 15 (!y34_1) λx50=>.ret x50)) (.ret false)) (λy35_1=>.ret y35_1)) (λy36_1=>.ret y36_1)) (.ret false))) (.ret false))) (.ret false)) (.ret false)) (.ret false)) (λy37_1=>.ret ((y37_1:Bool)))
def V4 (n:Nat) (a1:gD):Option (Bool):=(aUF n a1).run
theorem YW {n a1}:PZ (V4 n a1) 113 [.agg (gD.av a1)] aI:=wq Tryz.func113
def aV0 (n:Nat) (a1:List (List Int)):WB ((List (List Int))) :=
 .ln 7 (fL 1 fI) a1<|.jn 0 [2] [] [3] (λu2 (a:(List (List Int)))=>[(3,.sl 3 (u2 3) 0 a.length)]) (λ_ a=>[.nw 3 22 1 (a.map (fL 1 fI))]) (.no 3 3 22 1<|.lp [2,6,7] [] [3] (λu3 (a:Int×(List (List Int)))=>[(3,.sl 3 (u3 3) 0 a.2.length),(8,int a.1)]) (λ_ a=>[.nw 3 22 1 (a.2.map (fL 1 fI))]) n ((0:Int),(([]:List (List Int)):List (List Int))) (pw λy0_2 y0_3=>.bB 9 (decide (y0_2<(a1.length:Int))) λx3=>.ifs [9] x3 (.ix 10 (fL 1 fI) a1 y0_2 λx4=>.as (x4.length<=68719476736) inferInstance<|.ge 14 1<|.gv 15<|.bl (y0_3++[x4]:List (List Int)) λx7=>.as (x7.length<=68719476736) inferInstance<|.ge 16 0<|.bI 17 (bA (y0_2+1)) λx10=>.brk ((x10:Int),(x7:List (List Int)))) (.esc (.ret (y0_3:List (List Int)))))) (λy1_2=>.ret ((y1_2:List (List Int))))
def QF (n:Nat) (a1:List (List Int)):Option ((List (List Int))):=(aV0 n a1).run
theorem aAT {n a1}:PZ (QF n a1) 114 [aH 1 (fL 1 fI) a1] (λr=>aH 1 (fL 1 fI) r):=by
 refine wm Tryz.func114 ?_
 refine .mk ?_
 refine .mk ?_ ?_
 intro v2
 refine .mk ?_
 rintro ⟨y0_2,y0_3⟩ _
 refine .mk λx3=>?_
 refine .mk ?_ ?_
 refine .mk λx4 e4=>?_
 refine .mk λp5=>?_
 refine .mk _ ⟨λ_=>eO rfl rfl (.cons rfl .nil) DX (jD (A9.pc (id:=1) (l:=x4) rfl p5) (.cons (.refl _) .nil)),λ_ _ _=>trivial⟩ ?_
 rintro _ _ ⟨v6,rfl,rfl⟩
 refine .mk _ (bK (gM (ps:=[(0,_)]) (rows:=[[.sl 1 v6 0 x4.length]]) rfl Tryz.underlying23 SS (.cons rfl .nil) (by kernel_rfl) rfl rfl rfl)) ?_
 refine .mk λx7 e7=>?_
 refine .mk λp8=>?_
 refine .mk _ ⟨λ_=>bY.jK 1 rfl (kQ (g:=(fL 1 fI)) (l:=y0_3) (m:=[x4]) .any rfl Tryz.underlying23 SS aAI rfl rfl rfl rfl rfl rfl rfl rfl rfl rfl (Eq.symm rfl) (iT.list (.cons (.cons (dZ rfl rfl rfl rfl rfl (Eq.symm rfl)) .nil) .nil)) (λ_=>rfl) e7 p8),λ_ _ _=>trivial⟩ ?_
 rintro _ _ ⟨v9,-,rfl,rfl⟩
 refine .mk λx10=>?_
 exact .mk
 exact .mk
 intro _ _
 exact .mk (dZ rfl rfl rfl rfl rfl (Eq.symm rfl))
def FZ (a1:gD):Nat->Int->(List Int)->Option ((List Int))
  | 0,_,_=>none
  | n+1,y1_1,y1_2 =>
    bnd (decide (y1_1<((Int.toNat (a1.bN.length:Int)):Int))) λx33 =>
    cond x33 ((ix y1_2 y1_1).bind λx34 =>
    bnd (y1_2.set (Int.toNat y1_1) ((-1):Int)) λx35 =>
    bnd (bA (y1_1+1)) λx36 =>
    FZ a1 n (x36:Int) (x35:List Int)) (some (y1_2:List Int))
def EG (a1:gD):Nat->Int->(List aP)->Option ((List aP))
  | 0,_,_=>none
  | n+1,y0_1,y0_3 =>
    bnd (decide (y0_1<a1.fO)) λx13 =>
    cond x13 ((show Option ((List aP)) from
    bnd (bA ((a1.bN.length:Int)*2)) λx15 =>
    gZ ((0:Int)<=x15/\(x15:Int)<=1048576)<|
    bnd (List.replicate (Int.toNat x15) ((⟨[],(⟨0,0,0⟩:jE)⟩:aT):aT)) λx17 =>
    gZ ((0:Int)<=17/\(17:Int)<=1048576)<|
    bnd (List.replicate (Int.toNat 17) (0:Int)) λx20 =>
    gZ ((0:Int)<=(a1.bN.length:Int)/\((a1.bN.length:Int):Int)<=1048576)<|
    bnd (List.replicate (Int.toNat (a1.bN.length:Int)) ((⟨0,0,0,0,0,0,0,0,0,0,0⟩:dL):dL)) λx23 =>
    gZ ((0:Int)<=(a1.bN.length:Int)/\((a1.bN.length:Int):Int)<=1048576)<|
    bnd (List.replicate (Int.toNat (a1.bN.length:Int)) (0:Int)) λx26 =>
    gZ ((0:Int)<=(a1.bN.length:Int)/\((a1.bN.length:Int):Int)<=1048576)<|
    bnd (List.replicate (Int.toNat (a1.bN.length:Int)) (0:Int)) λx29 =>
    (show Option ((List Int)) from
    FZ a1 n (0:Int) (x26:List Int)).bind <| λy2_1 =>
    bnd (y0_3++[(⟨1,false,x17,x20,x23,y2_1,x29,[]⟩:aP)]) λx37 =>
    gZ (x37.length<=68719476736)<|
    some (x37:List aP)).bind <| λy3_2 =>
    bnd (bA (y0_1+1)) λx40 =>
    EG a1 n (x40:Int) (y3_2:List aP)) (some (y0_3:List aP))
def UH (n:Nat) (a1:gD):Option (aA×Int) :=
(V4 n a1).bind λx4 =>
bnd (!x4) λx5 =>
cond x5 (some (((⟨(⟨0,0,[],[],[]⟩:gD),[],[],[],[],0⟩:aA):aA),(1:Int))) (gZ (a1.bN.length<=68719476736)<|
(QF n a1.Methods).bind λx8 =>
(QF n a1.fM).bind λx9 =>
(show Option ((List aP)) from
EG a1 n (0:Int) (([]:List aP):List aP)).bind <| λy4_2 =>
some (((⟨(⟨a1.fO,a1.iB,a1.bN,x8,x9⟩:gD),y4_2,[],[],[],0⟩:aA):aA),(0:Int)))
theorem aII {n:Nat} {a1:gD} {r:aA×Int} (h0:UH n a1=some r):PP Tryz.prog 69 [.agg (gD.av a1)] (λy=>y=.bD [.agg (aA.av r.1),int r.2]):=by
  unfold UH at h0
  refine rF (R0:=λy H=>Cv (l6 H) y (.bD [.agg (aA.av r.1),int r.2])) ?_ (λy H hc=>⟨_,rfl,.bD (N6 ((λ(a:aA)=>PV.agg (aA.dX a)) (r.1)) (vO (r.2))),hc⟩)
  refine iI (c:=_) Tryz.func69 rfl rfl ?_;intro Q hret hnorm
  refine tc aG 2 (.mk ?_)
  refine sB 1 λv2=>?_
  refine sA 2 z33 λv3=>?_
  refine tr aG 6 (.mk ?_)
  obtain ⟨x4,e4,h0⟩:=dJ h0
  refine sC aCQ (YW _ e4) ?_
  refine nb aG h0 λx5 h0=>?_
  refine tr aG 1 (.mk ?_)
  cases x5
  replace h0:=cf h0
  refine tc aG 3 (.mk ?_)
  refine wZ [0,1,3,0,8,31,0,64,255,223,1023,2047,4095,8191,16383] (rl [(0,[1]),(1,[1]),(3,[1]),(4,[1]),(6,[1]),(7,[1]),(9,[1]),(11,[1]),(13,[1])] []) (rl [(10,[]),(12,[]),(14,[])] [1]) (rl [(2,false),(10,false),(12,false),(14,false)] true) [0,1,3,4,6,7,2,5,8,9,10,11,12,13,14] mixed (by kernel_rfl) ?_;intro K hK
  refine eF aFP ?_
  refine eL tN ?_
  refine eF aH0 ?_
  refine eL NV ?_
  refine eF aCS ?_
  refine eL NV ?_
  obtain ⟨p6,h0⟩:=jQ h0
  refine RY rfl rfl rfl rfl (eO rfl rfl (.cons rfl .nil) DX (jD (A9.pc (id:=3) (l:=a1.bN) rfl p6) (.cons (.refl _) .nil))) (by rintro _ _ ⟨v7,rfl,rfl⟩;exact ⟨rfl,trivial⟩) ?_;rintro _ _ ⟨v7,rfl,rfl⟩
  obtain ⟨x8,e8,h0⟩:=dJ h0
  refine eP (λH hH=>uN rfl rfl (.cons rfl .nil) aFL (bT.refl _) (aAT _ e8)) ?_
  obtain ⟨x9,e9,h0⟩:=dJ h0
  refine eP (λH hH=>uN rfl rfl (.cons rfl .nil) aFL (bT.refl _) (aAT _ e9)) ?_
  refine eF aFP ?_
  refine xN rfl rfl rfl rfl (bY.eX (fH (ob':=(⟨25,5,true,true,v2,[[int a1.fO,int a1.iB,.sl 3 v7 0 a1.bN.length,aH 1 (fL 1 fI) a1.Methods,aH 1 (fL 1 fI) a1.fM]]⟩:bH)) (fC rfl tN rfl rfl rfl rfl rfl rfl rfl rfl rfl) rfl) (λ_ h=>h) (λ_ _=>trivial)) (by rintro _ _ ⟨rfl,rfl⟩;exact trivial) ?_;rintro _ _ ⟨rfl,rfl⟩
  refine eF aH0 ?_
  refine xN rfl rfl rfl rfl (bY.eX (fH (ob':=(⟨25,5,true,true,v2,[[int a1.fO,int a1.iB,.sl 3 v7 0 a1.bN.length,aH 1 (fL 1 fI) x8,aH 1 (fL 1 fI) a1.fM]]⟩:bH)) (fC rfl NV rfl rfl rfl rfl rfl rfl rfl rfl rfl) rfl) (λ_ h=>h) (λ_ _=>trivial)) (by rintro _ _ ⟨rfl,rfl⟩;exact trivial) ?_;rintro _ _ ⟨rfl,rfl⟩
  refine eF aCS ?_
  refine xN rfl rfl rfl rfl (bY.eX (fH (ob':=(⟨25,5,true,true,v2,[[int a1.fO,int a1.iB,.sl 3 v7 0 a1.bN.length,aH 1 (fL 1 fI) x8,aH 1 (fL 1 fI) x9]]⟩:bH)) (fC rfl NV rfl rfl rfl rfl rfl rfl rfl rfl rfl) rfl) (λ_ h=>h) (λ_ _=>trivial)) (by rintro _ _ ⟨rfl,rfl⟩;exact trivial) ?_;rintro _ _ ⟨rfl,rfl⟩
  refine wU (hK _ ?_)
  refine tc aG 3 (.mk ?_)
  refine sY (tF (cs:=[int a1.fO,int a1.iB,.sl 3 v7 0 a1.bN.length,aH 1 (fL 1 fI) x8,aH 1 (fL 1 fI) x9,.sc (.slice none 0 0),.sc (.slice none 0 0),.sc (.slice none 0 0),.sc (.slice none 0 0),int 0]) (ps:=[(0,_)]) rfl L5 z33 rfl (.cons rfl .nil) (by kernel_rfl)) ?_
  refine sA 4 z33 λv10=>?_
  refine sS ⟨33,10,true,true,v10,[[int a1.fO,int a1.iB,.sl 3 v7 0 a1.bN.length,aH 1 (fL 1 fI) x8,aH 1 (fL 1 fI) x9,.sc (.slice none 0 0),.sc (.slice none 0 0),.sc (.slice none 0 0),.sc (.slice none 0 0),int 0]]⟩ oP ?_
  refine tr aG 5 (.mk ?_)
  refine sY (mP rfl Tryz.underlying22 rfl (.sl rfl rfl)) ?_
  refine tr aG 9 (.mk ?_)
  refine jn h0 [2,3,4] [2,3] (λ(a:(List aP)) (k:Nat)=>[]) (λa k=>[(4,⟨33,10,true,true,v10,[[int a1.fO,int a1.iB,.sl 3 v7 0 a1.bN.length,aH 1 (fL 1 fI) x8,aH 1 (fL 1 fI) x9,.sl 12 k 0 a.length,.sc (.slice none 0 0),.sc (.slice none 0 0),.sc (.slice none 0 0),int 0]]⟩),(12,⟨66,8,true,true,k,a.map aP.av⟩)]) ⟨λj11 h1=>?_,?_⟩
  refine tc aG 1 (.mk ?_)
  refine P9 4 0 5 12 66 8 (rows:=λv12=>[[int a1.fO,int a1.iB,.sl 3 v7 0 a1.bN.length,aH 1 (fL 1 fI) x8,aH 1 (fL 1 fI) x9,.sl 12 v12 0 0,.sc (.slice none 0 0),.sc (.slice none 0 0),.sc (.slice none 0 0),int 0]]) rfl rfl rfl rfl (λ_=>rfl) ?_;intro v12
  refine lp (λn (a:Int×(List aP))=>EG a1 n a.1 a.2) ((0:Int),(([]:List aP):List aP)) v12 h1 [2,3,4,5,30] [2,3] (λ(a:Int×(List aP)) (k:Nat)=>[(31,int a.1)]) (λa k=>[(4,⟨33,10,true,true,v10,[[int a1.fO,int a1.iB,.sl 3 v7 0 a1.bN.length,aH 1 (fL 1 fI) x8,aH 1 (fL 1 fI) x9,.sl 12 k 0 a.2.length,.sc (.slice none 0 0),.sc (.slice none 0 0),.sc (.slice none 0 0),int 0]]⟩),(12,⟨66,8,true,true,k,a.2.map aP.av⟩)]) (λ_=>rfl) ⟨dY,?_⟩
  rintro n ⟨y0_1,y0_3⟩ w0_2 hm h1
  replace h1:EG a1 (n+1) y0_1 y0_3=some _:=h1
  rw [EG] at h1
  refine tc aG 2 (.mk ?_)
  refine nb aG h1 λx13 h1=>?_
  refine tr aG 2 (.mk ?_)
  cases x13
  replace h1:=cf h1
  refine tc aG 2 (.mk ?_)
  exact lf h1 w0_2 dY
  replace h1:=ct h1
  refine tc aG 3 (.mk ?_)
  refine jn h1 [2,3,4,5,30,31] [2,3] (λ(a:(List aP)) (k:Nat)=>[]) (λa k=>[(4,⟨33,10,true,true,v10,[[int a1.fO,int a1.iB,.sl 3 v7 0 a1.bN.length,aH 1 (fL 1 fI) x8,aH 1 (fL 1 fI) x9,.sl 12 k 0 a.length,.sc (.slice none 0 0),.sc (.slice none 0 0),.sc (.slice none 0 0),int 0]]⟩),(12,⟨66,8,true,true,k,a.map aP.av⟩)]) ⟨λj14 h2=>?_,?_⟩
  refine tc aG 2 (.mk ?_)
  refine K4 [0,1,3,0,0,16,0,64,0,256,1023,0,4095] (λi k=>bif Nat.beq i 12 then (Nat.beq k 5 || Nat.beq k 6 || Nat.beq k 7 || Nat.beq k 8 || Nat.beq k 9 || Nat.beq k 10) else false) (λi=>bif Nat.beq i 2 then (some 5) else bif Nat.beq i 3 then (some 6) else bif Nat.beq i 5 then (some 7) else bif Nat.beq i 7 then (some 8) else bif Nat.beq i 9 then (some 9) else bif Nat.beq i 11 then (some 10) else bif Nat.beq i 12 then (some 10) else none) mixed (by kernel_rfl) ?_;intro C K hK
  refine mX rfl (λH hH=>mK rfl rfl) ?_
  obtain ⟨x15,e15,h2⟩:=iZ h2
  refine mX rfl (λH hH=>TC rfl rfl rfl e15) ?_
  obtain ⟨p16,h2⟩:=jQ h2
  obtain ⟨x17,e17,h2⟩:=iZ h2
  have lx17:x17.length=(Int.toNat x15):=by rw [<- e17];exact List.length_replicate
  refine oU rfl rfl (λH hH=>qY (pO 5 (g:=aT.av) (z0:=((⟨[],(⟨0,0,0⟩:jE)⟩:aT):aT)) (.one _) rfl Tryz.underlying63 PT OG rfl rfl rfl p16 (.cons (.nil _) (.cons (.sc _) (.cons (.sc _) (.cons (.sc _) .nil)))) e17)) ?_;generalize C+2=v18
  obtain ⟨p19,h2⟩:=jQ h2
  obtain ⟨x20,e20,h2⟩:=iZ h2
  have lx20:x20.length=(Int.toNat 17):=by rw [<- e20];exact List.length_replicate
  refine oU rfl rfl (λH hH=>qY (pO 6 (g:=fI) (z0:=(0:Int)) (.one _) rfl Tryz.underlying22 iH lT rfl rfl rfl p19 (.cons (.sc _) .nil) e20)) ?_;generalize C+3=v21
  refine mX rfl (λH hH=>mK rfl rfl) ?_
  obtain ⟨p22,h2⟩:=jQ h2
  obtain ⟨x23,e23,h2⟩:=iZ h2
  have lx23:x23.length=(Int.toNat (a1.bN.length:Int)):=by rw [<- e23];exact List.length_replicate
  refine oU rfl rfl (λH hH=>qY (pO 7 (g:=dL.av) (z0:=((⟨0,0,0,0,0,0,0,0,0,0,0⟩:dL):dL)) (.one _) rfl Tryz.underlying64 NC JD rfl rfl rfl p22 (.cons (.sc _) (.cons (.sc _) (.cons (.sc _) (.cons (.sc _) (.cons (.sc _) (.cons (.sc _) (.cons (.sc _) (.cons (.sc _) (.cons (.sc _) (.cons (.sc _) (.cons (.sc _) .nil))))))))))) e23)) ?_;generalize C+5=v24
  refine mX rfl (λH hH=>mK rfl rfl) ?_
  obtain ⟨p25,h2⟩:=jQ h2
  obtain ⟨x26,e26,h2⟩:=iZ h2
  have lx26:x26.length=(Int.toNat (a1.bN.length:Int)):=by rw [<- e26];exact List.length_replicate
  refine oU rfl rfl (λH hH=>qY (pO 8 (g:=fI) (z0:=(0:Int)) (.one _) rfl Tryz.underlying22 iH lT rfl rfl rfl p25 (.cons (.sc _) .nil) e26)) ?_;generalize C+7=v27
  refine mX rfl (λH hH=>mK rfl rfl) ?_
  obtain ⟨p28,h2⟩:=jQ h2
  obtain ⟨x29,e29,h2⟩:=iZ h2
  have lx29:x29.length=(Int.toNat (a1.bN.length:Int)):=by rw [<- e29];exact List.length_replicate
  refine oU rfl rfl (λH hH=>qY (pO 9 (g:=fI) (z0:=(0:Int)) (.one _) rfl Tryz.underlying22 iH lT rfl rfl rfl p28 (.cons (.sc _) .nil) e29)) ?_;generalize C+9=v30
  refine mX rfl (λH hH=>tF (cs:=[int 1,aI false,.sl 5 v18 0 (Int.toNat x15),.sl 6 v21 0 (Int.toNat 17),.sl 7 v24 0 (Int.toNat (a1.bN.length:Int)),.sl 8 v27 0 (Int.toNat (a1.bN.length:Int)),.sl 9 v30 0 (Int.toNat (a1.bN.length:Int)),.sc (.slice none 0 0)]) (ps:=[(0,_),(2,_),(3,_),(4,_),(5,_),(6,_)]) rfl Y9 z66 rfl (.cons rfl (.cons rfl (.cons rfl (.cons rfl (.cons rfl (.cons rfl .nil)))))) (by kernel_rfl)) ?_
  refine oU rfl rfl (λH hH=>V3 10 rfl z66 rfl) ?_;generalize C+11=v31
  refine aEU rfl rfl rfl (λH hH=>fH (ob':=(⟨66,8,true,true,v31,[[int 1,aI false,.sl 5 v18 0 (Int.toNat x15),.sl 6 v21 0 (Int.toNat 17),.sl 7 v24 0 (Int.toNat (a1.bN.length:Int)),.sl 8 v27 0 (Int.toNat (a1.bN.length:Int)),.sl 9 v30 0 (Int.toNat (a1.bN.length:Int)),.sc (.slice none 0 0)]]⟩:bH)) (fC rfl o8 rfl rfl ((hH _ rfl).trans rfl) rfl rfl rfl rfl rfl rfl) rfl) ?_
  refine JM (hK _ ?_)
  refine tc aG 5 (.mk ?_)
  refine sY (mP rfl Tryz.underlying22 rfl (.sl rfl rfl)) ?_
  refine tr aG 2 (.mk ?_)
  refine jn h2 [2,3,4,5,6,30,31] [2,3,4,5,6,7,9,12] (λ(a:(List Int)) (k:Unit)=>[]) (λa k=>[(8,⟨3,1,true,true,v27,a.map fI⟩),(10,⟨66,8,true,true,v31,[[int 1,aI false,.sl 5 v18 0 (Int.toNat x15),.sl 6 v21 0 (Int.toNat 17),.sl 7 v24 0 (Int.toNat (a1.bN.length:Int)),.sl 8 v27 0 a.length,.sl 9 v30 0 (Int.toNat (a1.bN.length:Int)),.sc (.slice none 0 0)]]⟩)]) ⟨λj32 h3=>?_,?_⟩
  refine tc aG 1 (.mk ?_)
  refine lp (λn (a:Int×(List Int))=>FZ a1 n a.1 a.2) ((0:Int),(x26:List Int)) () h3 [2,3,4,5,6,30,31,46] [2,3,4,5,6,7,9,12] (λ(a:Int×(List Int)) (k:Unit)=>[(47,int a.1)]) (λa k=>[(8,⟨3,1,true,true,v27,a.2.map fI⟩),(10,⟨66,8,true,true,v31,[[int 1,aI false,.sl 5 v18 0 (Int.toNat x15),.sl 6 v21 0 (Int.toNat 17),.sl 7 v24 0 (Int.toNat (a1.bN.length:Int)),.sl 8 v27 0 a.2.length,.sl 9 v30 0 (Int.toNat (a1.bN.length:Int)),.sc (.slice none 0 0)]]⟩)]) (λ_=>rfl) ⟨jX ⟨⟨_,rfl,(.refl _)⟩,⟨_,rfl,(.refl _)⟩,⟨_,rfl,(.refl _)⟩,⟨_,rfl,(.refl _)⟩,⟨_,rfl,(.refl _)⟩,⟨_,rfl,(.refl _)⟩,⟨_,rfl,(.refl _)⟩,⟨_,rfl,(.refl _)⟩,⟨_,rfl,(.refl _)⟩,trivial⟩ ⟨⟨_,rfl,(.refl _)⟩,⟨_,rfl,⟨rfl,(.cons (.cons (.refl _) (.cons (.refl _) (.cons (.refl _) (.cons (.refl _) (.cons (.refl _) (.cons (kJ (Eq.symm lx26)) (.cons (.refl _) (.cons (.refl _) .nil)))))))) .nil)⟩⟩,⟨_,rfl,(.refl _)⟩,⟨_,rfl,(.refl _)⟩,⟨_,rfl,(.refl _)⟩,⟨_,rfl,(.refl _)⟩,⟨_,rfl,(.refl _)⟩,⟨_,rfl,(.refl _)⟩,⟨_,rfl,(.refl _)⟩,⟨_,rfl,(.refl _)⟩,trivial⟩,?_⟩
  rintro n ⟨y1_1,y1_2⟩ _ hm h3
  replace h3:FZ a1 (n+1) y1_1 y1_2=some _:=h3
  rw [FZ] at h3
  refine tc aG 2 (.mk ?_)
  refine nb aG h3 λx33 h3=>?_
  refine tr aG 2 (.mk ?_)
  cases x33
  replace h3:=cf h3
  refine tc aG 2 (.mk ?_)
  exact lf h3 () dY
  replace h3:=ct h3
  refine tc aG 13 (.mk ?_)
  obtain ⟨x34,e34,h3⟩:=dJ h3
  refine sY (eY rfl Tryz.underlying22 dP rfl rfl rfl rfl rfl (Eq.symm rfl) (List.length_map _) e34) ?_
  obtain ⟨x35,e35,h3⟩:=iZ h3
  have fx35:=iE e34 e35;have lx35:=iD e35 (rfl:y1_2.length=y1_2.length)
  refine y5 rfl rfl (fH (ob':=(⟨3,1,true,true,v27,x35.map fI⟩:bH)) (fC rfl dP rfl rfl rfl rfl rfl (dN e34) rfl rfl rfl) (iC (jB e35))) ?_
  refine tr aG 3 (.mk ?_)
  refine ni aG h3 λx36 h3=>?_
  refine tr aG 2 (.mk ?_)
  exact bk (x36,x35) () h3 (jX ⟨⟨_,rfl,(.refl _)⟩,⟨_,rfl,(.refl _)⟩,⟨_,rfl,(.refl _)⟩,⟨_,rfl,(.refl _)⟩,⟨_,rfl,(.refl _)⟩,⟨_,rfl,(.refl _)⟩,⟨_,rfl,(.refl _)⟩,⟨_,rfl,(.refl _)⟩,⟨_,rfl,(.refl _)⟩,trivial⟩ ⟨⟨_,rfl,(.refl _)⟩,⟨_,rfl,⟨rfl,(.cons (.cons (.refl _) (.cons (.refl _) (.cons (.refl _) (.cons (.refl _) (.cons (.refl _) (.cons (kJ (Eq.symm lx35)) (.cons (.refl _) (.cons (.refl _) .nil)))))))) .nil)⟩⟩,⟨_,rfl,(.refl _)⟩,⟨_,rfl,(.refl _)⟩,⟨_,rfl,(.refl _)⟩,⟨_,rfl,(.refl _)⟩,⟨_,rfl,(.refl _)⟩,⟨_,rfl,(.refl _)⟩,⟨_,rfl,(.refl _)⟩,⟨_,rfl,(.refl _)⟩,trivial⟩)
  rintro y2_1 _ h2
  refine tc aG 4 (.mk ?_)
  refine sY (gM (ps:=[(0,_)]) (rows:=[[int 1,aI false,.sl 5 v18 0 (Int.toNat x15),.sl 6 v21 0 (Int.toNat 17),.sl 7 v24 0 (Int.toNat (a1.bN.length:Int)),.sl 8 v27 0 y2_1.length,.sl 9 v30 0 (Int.toNat (a1.bN.length:Int)),.sc (.slice none 0 0)]]) rfl Tryz.underlying28 BU (.cons rfl .nil) (by kernel_rfl) rfl rfl rfl) ?_
  obtain ⟨x37,e37,h2⟩:=iZ h2
  obtain ⟨p38,h2⟩:=jQ h2
  refine iP rfl rfl rfl (bY.jK 5 rfl (bY.jK 6 rfl (bY.jK 7 rfl (bY.jK 8 rfl (bY.jK 9 rfl (kQ (g:=aP.av) (l:=y0_3) (m:=[(⟨1,false,x17,x20,x23,y2_1,x29,[]⟩:aP)]) .any rfl Tryz.underlying28 BU O5 rfl rfl rfl rfl rfl rfl rfl rfl rfl rfl (Eq.symm rfl) (iT.list (ys:=[aP.av (⟨1,false,x17,x20,x23,y2_1,x29,[]⟩:aP)]) (.cons (pZ (.cons (.refl _) (.cons (.refl _) (.cons (dZ rfl rfl rfl rfl rfl (Eq.symm lx17)) (.cons (dZ rfl rfl rfl rfl rfl (Eq.symm lx20)) (.cons (dZ rfl rfl rfl rfl rfl (Eq.symm lx23)) (.cons (dZ rfl rfl rfl rfl rfl (Eq.symm rfl)) (.cons (dZ rfl rfl rfl rfl rfl (Eq.symm lx29)) (.cons (.nil _) .nil)))))))) (aP.dA _)) .nil)) aP.one e37 p38)))))) ?_;rintro _ _ ⟨v39,-,rfl,rfl⟩
  refine tr aG 1 (.mk ?_)
  refine sS ⟨33,10,true,true,v10,[[int a1.fO,int a1.iB,.sl 3 v7 0 a1.bN.length,aH 1 (fL 1 fI) x8,aH 1 (fL 1 fI) x9,.sl 12 v39 0 x37.length,.sc (.slice none 0 0),.sc (.slice none 0 0),.sc (.slice none 0 0),int 0]]⟩ EV ?_
  refine tr aG 2 (.mk ?_)
  exact lf h2 v39 dY
  rintro y3_2 w3_1 h1
  refine tc aG 1 (.mk ?_)
  refine ni aG h1 λx40 h1=>?_
  refine tr aG 2 (.mk ?_)
  exact bk (x40,y3_2) w3_1 h1 dY
  rintro y4_2 w4_1 h0
  refine tc aG 3 (.mk ?_)
  refine sS ⟨33,10,true,true,v3,[[int a1.fO,int a1.iB,.sl 3 v7 0 a1.bN.length,aH 1 (fL 1 fI) x8,aH 1 (fL 1 fI) x9,.sl 12 w4_1 0 y4_2.length,.sc (.slice none 0 0),.sc (.slice none 0 0),.sc (.slice none 0 0),int 0]]⟩ oP ?_
  refine tr aG 2 (.mk ?_)
  obtain rfl:=eU h0
  refine wR hret (rC oP (rT .nil)) ?_
  exact bT.bD (.cons (bT.agg (.cons (.refl _) (.cons (.refl _) (.cons (dZ rfl rfl rfl rfl rfl (Eq.symm rfl)) (.cons (.refl _) (.cons (.refl _) (.cons (dZ rfl rfl rfl rfl rfl (Eq.symm rfl)) (.cons (.nil _) (.cons (.nil _) (.cons (.nil _) (.cons (.refl _) .nil))))))))))) (.cons (.refl _) .nil))
  replace h0:=ct h0
  refine tc aG 3 (.mk ?_)
  refine sY (tF (cs:=[int 0,int 0,.sc (.slice none 0 0),.sc (.slice none 0 0),.sc (.slice none 0 0),.sc (.slice none 0 0),.sc (.slice none 0 0),.sc (.slice none 0 0),.sc (.slice none 0 0),int 0]) (ps:=[]) rfl L5 z33 rfl .nil (by kernel_rfl)) ?_
  refine sS ⟨33,10,true,true,v3,[[int 0,int 0,.sc (.slice none 0 0),.sc (.slice none 0 0),.sc (.slice none 0 0),.sc (.slice none 0 0),.sc (.slice none 0 0),.sc (.slice none 0 0),.sc (.slice none 0 0),int 0]]⟩ oP ?_
  refine tr aG 2 (.mk ?_)
  obtain rfl:=eU h0
  refine wR hret (rC oP (rT .nil)) ?_
  exact bT.bD (.cons (bT.agg (.cons (.refl _) (.cons (.refl _) (.cons (.nil _) (.cons (.nil _) (.cons (.nil _) (.cons (.nil _) (.cons (.nil _) (.cons (.nil _) (.cons (.nil _) (.cons (.refl _) .nil))))))))))) (.cons (.refl _) .nil))
end
end Go.Pv
