import Derived.Test.YtkgnickfdedbmabGreatXCm
import Derived.Test.YtkgnickfdedbmabGreatPvAE
import Derived.Test.YtkgnickfdedbmabGreatPwE
set_option linter.unusedVariables false
set_option linter.unusedSimpArgs false
namespace Go.Pv
open Go.Proofs
set_option maxRecDepth 100000
set_option maxHeartbeats 4000000
noncomputable section
def P7 (n:Nat) (a1:Int) (a2:Int):WB (Bool) :=
 .to 19 (aD 1 fI ([1]:List Int))<|.to 20 (aD 1 fI ([4]:List Int))<|.to 21 (aD 1 fI ([4]:List Int))<|.to 22 (aD 1 (fL 1 fI) ([([4]:List Int),([4]:List Int)]:List (List Int)))<|.to 23 (aD 1 fI ([5]:List Int))<|.to 24 (aD 1 fI ([5]:List Int))<|.to 25 (aD 1 (fL 1 fI) ([([5]:List Int),([5]:List Int)]:List (List Int)))<|.al 1<|.cl 28 (AO n (⟨2,1,([1]:List Int),([([4]:List Int),([4]:List Int)]:List (List Int)),([([5]:List Int),([5]:List Int)]:List (List Int))⟩:eZ) []) SE NF λx4=>.al 2<|.gv 33<|.dF 0 [0,1,4,6] [] [] (λ_ (a:aA)=>[]) (λ_ a=>[.kp 2 [(aA.av a)]]) (.lp [0,1,4,6] [] [] (λ_ (a:Int×aA)=>[(33,.agg [int 1,int 0,int 0,int 0,int 0,int 9,int 45,int 0,aD 1 fI [],int 4,int 0,int 0,int 0,int 0,int 1,int 0,int 0,aD 1 fI [],int 1,int 1,int 0,int 0,int 0,int 9,int 0,int 0,aD 1 fI [],int 12,int 1,int 0,int 0,int 0,int 2,int 3,int 0,aD 1 fI []]),(34,int a.1)]) (λ_ a=>[.kp 2 [(aA.av a.2)]]) n ((0:Int),x4) (pw λy0_1 y0_2=>.bB 35 (decide (y0_1<4)) λx6=>.ifs [35] x6 (.bo (ix ([(⟨1,0,0,0,0,9,45,0,[]⟩:aS),(⟨4,0,0,0,0,1,0,0,[]⟩:aS),(⟨1,1,0,0,0,9,0,0,[]⟩:aS),(⟨12,1,0,0,0,2,3,0,[]⟩:aS)]:List aS) y0_1) λx7=>.gv 36<|.al 3<|.cl 40 (lF n y0_2 x7) xZ xR λx9=>.al 4<|.bB 44 (decide (x9.2≠0)) λx11=>.ifs [44] x11 (.esc (.esc (.ret ((false:Bool))))) (.bI 46 (aI (y0_1+1)) λx12=>.brk ((x12:Int),x9.1))) (.esc (.brk y0_2)))) (λy1_1=>.ln 49 aP.av y1_1.aW<|.bB 50 (decide ((y1_1.aW.length:Int)≠2)) λx13=>.ifs [50] x13 (.ret ((false:Bool))) (.as (y1_1.aW.length<=68719476736) inferInstance<|.ge 53 5<|.bo (ix y1_1.aW 0) λx16=>.gv 57<|.gv 58<|.al 6<|.dr [(0,[2]),(1,[2]),(2,[2]),(3,[2]),(4,[6]),(6,[5]),(7,[5]),(9,[5]),(10,[5])] [(8,[2,6]),(11,[])] [2,5,6] [8,11] [0,1,2,3,4,5,6,7,8,9,10,11] (.to 64 (aD 8 aP.av ([x16]:List aP))<|.gv 65<|.gv 66<|.bl (y1_1.aW.set (Int.toNat 0) ((⟨x16.dS,true,x16.dD,x16.dU,x16.dI,x16.dO,x16.Down,x16.eT⟩:aP):aP):List aP) λx18=>.ge 1015008 0<|.gv 67<|.gv 68<|.bl (x18.set (Int.toNat 0) ((⟨x16.dS,true,x16.dD,x16.dU,x16.dI,x16.dO,x16.Down,([x16]:List aP)⟩:aP):aP):List aP) λx19=>.ge 1015011 0<|.to 79 (aD 1 fI ([0]:List Int))<|.gv 83<|.cv 83 (.agg [int 1,int 0,int 0,int 0,int 0,int 1,int 0,int 0,aD 1 fI ([]:List Int),int 2,int 0,int 0,int 0,int 0,int 1,int 0,int 0,aD 1 fI ([]:List Int),int 3,int 0,int 0,int 0,int 0,int 1,int 0,int 0,aD 1 fI ([]:List Int),int 4,int 0,int 0,int 0,int 0,int 1,int 0,int 0,aD 1 fI ([]:List Int),int 5,int 0,int 0,int 0,int 0,int 1,int 0,int 0,aD 1 fI ([]:List Int),int 6,int 0,int 0,int 0,int 0,int 1,int 0,int 0,aD 1 fI ([]:List Int),int 7,int 0,int 0,int 0,int 0,int 0,int 0,int 0,aD 1 fI ([]:List Int),int 8,int 0,int 0,int 0,int 1,int 1,int 0,int 0,aD 1 fI ([]:List Int),int 9,int 0,int 0,int 0,int 0,int 0,int 0,int 0,aD 1 fI ([]:List Int),int 10,int 0,int 0,int 0,int 0,int 0,int 0,int 0,aD 1 fI ([]:List Int),int 11,int 0,int 0,int 0,int 0,int 0,int 1,int 0,aD 1 fI ([0]:List Int),int 12,int 0,int 0,int 0,int 1,int 1,int 0,int 0,aD 1 fI ([]:List Int),int 13,int 0,int 0,int 0,int 0,int 1,int 0,int 0,aD 1 fI ([]:List Int)])<|.cl 85 (rQ a1 13) BK AY λx20=>.bo (ix ([(⟨1,0,0,0,0,1,0,0,[]⟩:aS),(⟨2,0,0,0,0,1,0,0,[]⟩:aS),(⟨3,0,0,0,0,1,0,0,[]⟩:aS),(⟨4,0,0,0,0,1,0,0,[]⟩:aS),(⟨5,0,0,0,0,1,0,0,[]⟩:aS),(⟨6,0,0,0,0,1,0,0,[]⟩:aS),(⟨7,0,0,0,0,0,0,0,[]⟩:aS),(⟨8,0,0,0,1,1,0,0,[]⟩:aS),(⟨9,0,0,0,0,0,0,0,[]⟩:aS),(⟨10,0,0,0,0,0,0,0,[]⟩:aS),(⟨11,0,0,0,0,0,1,0,([0]:List Int)⟩:aS),(⟨12,0,0,0,1,1,0,0,[]⟩:aS),(⟨13,0,0,0,0,1,0,0,[]⟩:aS)]:List aS) x20) λx21=>.gv 86<|.al 7<|.fO 5<|.cl 90 (lF n (⟨y1_1.bA,x19,y1_1.bP,y1_1.bU,y1_1.bY,y1_1.Done⟩:aA) x21) xZ xR λx23=>.al 8<|.dr [(0,[2]),(5,[5])] [(10,[])] [2,5] [9,10] [0,1,2,3,4,5,6,7,8,9,10,11] (.cl 96 (rQ a2 7) BK AY λx25=>.bI 97 (aI (1+x25)) λx26=>.cl 99 (lF n (⟨y1_1.bA,x19,y1_1.bP,y1_1.bU,y1_1.bY,y1_1.Done⟩:aA) (⟨12,1,0,0,0,x26,0,0,[]⟩:aS)) xZ xR λx27=>.al 9<|.cl 105 (lF n (⟨y1_1.bA,x19,y1_1.bP,y1_1.bU,y1_1.bY,y1_1.Done⟩:aA) (⟨1,1,0,0,0,1,0,0,[]⟩:aS)) xZ xR λx29=>.al 10<|.jn 0 [] [] [] (λ_ (a:Bool)=>[(4,aF a)]) (λ_ _=>[]) (.bB 109 (decide (x23.2=7)) λx31=>.ifs [109] x31 (.bB 112 (decide (x27.2=7)) λx32=>.ifs [112] x32 (.bB 116 (decide (x29.2=0)) λx33=>.ifs [116] x33 (.cl 119 (IM n) aAW aKT λx34=>.ret x34) (.ret false)) (.ret false)) (.ret false)) (λy2_1=>.ret ((y2_1:Bool)))))))
def GR (n:Nat) (a1:Int) (a2:Int):Option (Bool):=(P7 n a1 a2).run
theorem aFA {n a1 a2}:PZ (GR n a1 a2) 3 [int a1,int a2] aF:=by
 refine wm Tryz.func3 ?_
 refine .mk (bE (bX (y:=aD 1 fI ([1]:List Int)) (dQ (ps:=[(0,_)]) (rows:=[[int 1]]) rfl Tryz.underlying22 fT (.cons rfl .nil) (by kernel_rfl) rfl rfl rfl) rfl)) ?_
 refine .mk (bE (bX (y:=aD 1 fI ([4]:List Int)) (dQ (ps:=[(0,_)]) (rows:=[[int 4]]) rfl Tryz.underlying22 fT (.cons rfl .nil) (by kernel_rfl) rfl rfl rfl) rfl)) ?_
 refine .mk (bE (bX (y:=aD 1 fI ([4]:List Int)) (dQ (ps:=[(0,_)]) (rows:=[[int 4]]) rfl Tryz.underlying22 fT (.cons rfl .nil) (by kernel_rfl) rfl rfl rfl) rfl)) ?_
 refine .mk (bE (bX (y:=aD 1 (fL 1 fI) ([([4]:List Int),([4]:List Int)]:List (List Int))) (dQ (ps:=[(0,_),(1,_)]) (rows:=[[aD 1 fI ([4]:List Int)],[aD 1 fI ([4]:List Int)]]) rfl Tryz.underlying23 rM (.cons rfl (.cons rfl .nil)) (by kernel_rfl) rfl rfl rfl) rfl)) ?_
 refine .mk (bE (bX (y:=aD 1 fI ([5]:List Int)) (dQ (ps:=[(0,_)]) (rows:=[[int 5]]) rfl Tryz.underlying22 fT (.cons rfl .nil) (by kernel_rfl) rfl rfl rfl) rfl)) ?_
 refine .mk (bE (bX (y:=aD 1 fI ([5]:List Int)) (dQ (ps:=[(0,_)]) (rows:=[[int 5]]) rfl Tryz.underlying22 fT (.cons rfl .nil) (by kernel_rfl) rfl rfl rfl) rfl)) ?_
 refine .mk (bE (bX (y:=aD 1 (fL 1 fI) ([([5]:List Int),([5]:List Int)]:List (List Int))) (dQ (ps:=[(0,_),(1,_)]) (rows:=[[aD 1 fI ([5]:List Int)],[aD 1 fI ([5]:List Int)]]) rfl Tryz.underlying23 rM (.cons rfl (.cons rfl .nil)) (by kernel_rfl) rfl rfl rfl) rfl)) ?_
 intro v3
 refine .mk (λx4 e4=>?_) rfl (by rintro _ rfl;exact (.cons (.refl _) (.cons (.nil _) .nil)))
 intro v5
 refine .mk _ (bE (qJ (cs:=[int 1,int 0,int 0,int 0,int 0,int 9,int 45,int 0,.sc (.slice none 0 0),int 4,int 0,int 0,int 0,int 0,int 1,int 0,int 0,.sc (.slice none 0 0),int 1,int 1,int 0,int 0,int 0,int 9,int 0,int 0,.sc (.slice none 0 0),int 12,int 1,int 0,int 0,int 0,int 2,int 3,int 0,.sc (.slice none 0 0)]) (ps:=[(0,_),(1,_),(2,_),(3,_)]) rfl Tryz.underlying35 AL z35 rfl (.cons rfl (.cons rfl (.cons rfl (.cons rfl .nil)))) (by kernel_rfl))) ?_
 refine .mk ?_ ?_
 refine .mk ?_ ⟨⟨⟨_,rfl,(bK.agg (.cons (.refl _) (.cons (.refl _) (.cons (.refl _) (.cons (.refl _) (.cons (.refl _) (.cons (.refl _) (.cons (.refl _) (.cons (.refl _) (.cons (.nil _) (.cons (.refl _) (.cons (.refl _) (.cons (.refl _) (.cons (.refl _) (.cons (.refl _) (.cons (.refl _) (.cons (.refl _) (.cons (.refl _) (.cons (.nil _) (.cons (.refl _) (.cons (.refl _) (.cons (.refl _) (.cons (.refl _) (.cons (.refl _) (.cons (.refl _) (.cons (.refl _) (.cons (.refl _) (.cons (.nil _) (.cons (.refl _) (.cons (.refl _) (.cons (.refl _) (.cons (.refl _) (.cons (.refl _) (.cons (.refl _) (.cons (.refl _) (.cons (.refl _) (.cons (.nil _) .nil)))))))))))))))))))))))))))))))))))))⟩,⟨_,rfl,(.refl _)⟩,⟨_,rfl,(.refl _)⟩,⟨_,rfl,(.refl _)⟩,⟨_,rfl,(.refl _)⟩,⟨_,rfl,(.refl _)⟩,trivial⟩,⟨⟨_,rfl,(.refl _)⟩,trivial⟩⟩
 intro _ _
 refine .mk λx6=>?_
 refine .mk ?_ ?_
 refine .mk λx7 e7=>?_
 refine .mk _ (bE (uR (g:=aS.av) (l:=([(⟨1,0,0,0,0,9,45,0,[]⟩:aS),(⟨4,0,0,0,0,1,0,0,[]⟩:aS),(⟨1,1,0,0,0,9,0,0,[]⟩:aS),(⟨12,1,0,0,0,2,3,0,[]⟩:aS)]:List aS)) (v:=x7) (w:=.agg [int x7.Kind,int x7.E,int x7.Item,int x7.Loc,int x7.To,int x7.aQ,int x7.bD,int x7.Ref,aD 1 fI x7.bT]) rfl Tryz.underlying35 AL rfl rfl rfl e7 (λ_=>rfl) (hwn rfl))) ?_
 intro v8
 refine .mk λx9 e9=>?_
 intro v10
 refine .mk λx11=>?_
 refine .mk .mk ?_
 refine .mk λx12=>?_
 exact .mk
 exact .mk
 intro y1_1 _
 refine .mk ?_
 refine .mk λx13=>?_
 refine .mk .mk ?_
 refine .mk λp14=>?_
 refine .mk _ ⟨λ_=>nW (g:=aP.av) (m:=y1_1.aW) 5 rfl Tryz.underlying26 qW yE rfl rfl rfl rfl (.refl _) aP.one p14,λ_ _ _=>trivial⟩ ?_
 rintro _ _ ⟨v15,rfl,rfl⟩
 refine .mk λx16 e16=>?_
 refine .mk _ (bE (eB rfl Tryz.underlying26 jE rfl rfl rfl rfl rfl (Eq.symm rfl) (List.length_map _) e16)) ?_
 refine .mk _ (bE (dV rfl jE rfl (.pt rfl rfl (dR e16 (aP.bW _))) rfl)) ?_
 intro v17
 refine .mk ?_
 refine .mk (λH hH _=>bX (y:=aD 8 aP.av ([x16]:List aP)) (dQ (ps:=[(0,_)]) (rows:=[[int x16.dS,aF x16.Closed,aD 4 aM.av x16.dD,aD 1 fI x16.dU,aD 11 bM.av x16.dI,aD 1 fI x16.dO,aD 1 fI x16.Down,aD 8 aP.av x16.eT]]) rfl Tryz.underlying26 qW (.cons rfl .nil) (by kernel_rfl) rfl rfl rfl) (congrArg (AV.list 8) (by simp only [List.map_cons,List.map_nil,aP.bW]))) ?_
 refine .mk _ (λH hH _=>eB rfl Tryz.underlying26 jE rfl rfl ((hH _ (by decide)).trans rfl) rfl rfl (Eq.symm rfl) (List.length_map _) e16) ?_
 refine .mk _ (λH hH _=>dK rfl TZ rfl (.pt ((hH _ (by decide)).trans rfl) rfl (dR e16 (aP.bW _))) (.pt _ _ _ _ _)) ?_
 refine .mk λx18 e18=>?_
 have fx18:=fP e16 e18;have lx18:=fH e18 (rfl:y1_1.aW.length=y1_1.aW.length)
 refine .mk _ ⟨λ_=>bQ.dM (eO (ob':=(⟨42,8,true,true,_,x18.map aP.av⟩:bC)) (dZ rfl rE rfl rfl rfl rfl rfl (dR e16 (aP.bW _)) rfl rfl rfl) (eU (C5 e18 (aP.bW _)))) (λ_ h=>h) (λ_ _=>trivial),by rintro _ _ ⟨rfl,rfl⟩;exact ⟨rfl,rfl,trivial⟩⟩ ?_
 rintro _ _ ⟨rfl,rfl⟩
 refine .mk _ (λH hH _=>eB rfl Tryz.underlying26 jE rfl rfl ((hH _ (by decide)).trans rfl) rfl rfl (Eq.symm lx18) (List.length_map _) fx18) ?_
 refine .mk _ (λH hH _=>dK rfl ED rfl (.pt ((hH _ (by decide)).trans rfl) rfl (dR fx18 (aP.bW _))) (.pt _ _ _ _ _)) ?_
 refine .mk λx19 e19=>?_
 have fx19:=fP fx18 e19;have lx19:=fH e19 lx18
 refine .mk _ ⟨λ_=>bQ.dM (eO (ob':=(⟨42,8,true,true,_,x19.map aP.av⟩:bC)) (dZ rfl zH rfl rfl rfl rfl rfl (dR fx18 (aP.bW _)) rfl rfl rfl) (eU (C5 e19 (aP.bW _)))) (λ_ h=>h) (λ_ _=>trivial),by rintro _ _ ⟨rfl,rfl⟩;exact trivial⟩ ?_
 rintro _ _ ⟨rfl,rfl⟩
 refine .mk (bE (bX (y:=aD 1 fI ([0]:List Int)) (dQ (ps:=[(0,_)]) (rows:=[[int 0]]) rfl Tryz.underlying22 fT (.cons rfl .nil) (by kernel_rfl) rfl rfl rfl) rfl)) ?_
 refine .mk _ (bE (qJ (cs:=[int 1,int 0,int 0,int 0,int 0,int 1,int 0,int 0,.sc (.slice none 0 0),int 2,int 0,int 0,int 0,int 0,int 1,int 0,int 0,.sc (.slice none 0 0),int 3,int 0,int 0,int 0,int 0,int 1,int 0,int 0,.sc (.slice none 0 0),int 4,int 0,int 0,int 0,int 0,int 1,int 0,int 0,.sc (.slice none 0 0),int 5,int 0,int 0,int 0,int 0,int 1,int 0,int 0,.sc (.slice none 0 0),int 6,int 0,int 0,int 0,int 0,int 1,int 0,int 0,.sc (.slice none 0 0),int 7,int 0,int 0,int 0,int 0,int 0,int 0,int 0,.sc (.slice none 0 0),int 8,int 0,int 0,int 0,int 1,int 1,int 0,int 0,.sc (.slice none 0 0),int 9,int 0,int 0,int 0,int 0,int 0,int 0,int 0,.sc (.slice none 0 0),int 10,int 0,int 0,int 0,int 0,int 0,int 0,int 0,.sc (.slice none 0 0),int 11,int 0,int 0,int 0,int 0,int 0,int 1,int 0,aD 1 fI ([0]:List Int),int 12,int 0,int 0,int 0,int 1,int 1,int 0,int 0,.sc (.slice none 0 0),int 13,int 0,int 0,int 0,int 0,int 1,int 0,int 0,.sc (.slice none 0 0)]) (ps:=[(0,_),(1,_),(2,_),(3,_),(4,_),(5,_),(6,_),(7,_),(8,_),(9,_),(10,_),(11,_),(12,_)]) rfl Tryz.underlying43 AL z43 rfl (.cons rfl (.cons rfl (.cons rfl (.cons rfl (.cons rfl (.cons rfl (.cons rfl (.cons rfl (.cons rfl (.cons rfl (.cons rfl (.cons rfl (.cons rfl .nil))))))))))))) (by kernel_rfl))) ?_
 refine .mk ?_
 refine .mk λx20 e20=>?_
 refine .mk λx21 e21=>?_
 refine .mk _ (bE (uR (g:=aS.av) (l:=([(⟨1,0,0,0,0,1,0,0,[]⟩:aS),(⟨2,0,0,0,0,1,0,0,[]⟩:aS),(⟨3,0,0,0,0,1,0,0,[]⟩:aS),(⟨4,0,0,0,0,1,0,0,[]⟩:aS),(⟨5,0,0,0,0,1,0,0,[]⟩:aS),(⟨6,0,0,0,0,1,0,0,[]⟩:aS),(⟨7,0,0,0,0,0,0,0,[]⟩:aS),(⟨8,0,0,0,1,1,0,0,[]⟩:aS),(⟨9,0,0,0,0,0,0,0,[]⟩:aS),(⟨10,0,0,0,0,0,0,0,[]⟩:aS),(⟨11,0,0,0,0,0,1,0,([0]:List Int)⟩:aS),(⟨12,0,0,0,1,1,0,0,[]⟩:aS),(⟨13,0,0,0,0,1,0,0,[]⟩:aS)]:List aS)) (v:=x21) (w:=.agg [int x21.Kind,int x21.E,int x21.Item,int x21.Loc,int x21.To,int x21.aQ,int x21.bD,int x21.Ref,aD 1 fI x21.bT]) rfl Tryz.underlying43 AL rfl rfl rfl e21 (λ_=>rfl) (hwn rfl))) ?_
 intro v22
 refine .mk (λx23 e23=>?_) rfl (by rintro _ rfl;exact (.cons (bK.agg (.cons (.refl _) (.cons (.refl _) (.cons (.refl _) (.cons (.refl _) (.cons (.refl _) (.cons (dH rfl rfl rfl rfl rfl (Eq.symm lx19)) (.cons (.refl _) (.cons (.refl _) (.cons (.refl _) (.cons (.refl _) .nil))))))))))) (.cons (.refl _) .nil)))
 intro v24
 refine .mk ?_
 refine .mk λx25 e25=>?_
 refine .mk λx26=>?_
 refine .mk (λx27 e27=>?_) rfl (λH hH=>(.cons (bK.agg (.cons (.refl _) (.cons (.refl _) (.cons (.refl _) (.cons (.refl _) (.cons (.refl _) (.cons (dH (ob:=(⟨42,8,false,true,v15,x19.map aP.av⟩:bC)) ((hH 5 (by decide)).trans rfl) rfl rfl rfl rfl (Eq.symm lx19)) (.cons (.refl _) (.cons (.refl _) (.cons (.refl _) (.cons (.refl _) .nil))))))))))) (.cons (bK.agg (.cons (.refl _) (.cons (.refl _) (.cons (.refl _) (.cons (.refl _) (.cons (.refl _) (.cons (.refl _) (.cons (.refl _) (.cons (.refl _) (.cons (.nil _) .nil)))))))))) .nil)))
 intro v28
 refine .mk (λx29 e29=>?_) rfl (by rintro _ rfl;exact (.cons (bK.agg (.cons (.refl _) (.cons (.refl _) (.cons (.refl _) (.cons (.refl _) (.cons (.refl _) (.cons (dH rfl rfl rfl rfl rfl (Eq.symm lx19)) (.cons (.refl _) (.cons (.refl _) (.cons (.refl _) (.cons (.refl _) .nil))))))))))) (.cons (bK.agg (.cons (.refl _) (.cons (.refl _) (.cons (.refl _) (.cons (.refl _) (.cons (.refl _) (.cons (.refl _) (.cons (.refl _) (.cons (.refl _) (.cons (.nil _) .nil)))))))))) .nil)))
 intro v30
 refine .mk ?_ ?_
 refine .mk λx31=>?_
 refine .mk ?_ ?_
 refine .mk λx32=>?_
 refine .mk ?_ ?_
 refine .mk λx33=>?_
 refine .mk ?_ ?_
 refine .mk λx34 e34=>?_
 exact .mk
 exact .mk
 exact .mk
 exact .mk
 intro _ _
 exact .mk
end
section
variable {α β γ δ R:Type}
theorem YD {x:Int} {f:Int->Option β} {r:Option β} (hx:-9223372036854775808<=x/\x<=9223372036854775807) (h:f x=r):bnd (aI x) f=r:=by
  show f (aI x)=r
  rw [show aI x=x from wrap64 hx];exact h
end
def Ex {β:Type} (P:β->Prop) (D:Option β):Prop:=∃ r,D=some r/\P r
theorem aL2 {α β:Type} {P:β->Prop} {x:α} {f:α->Option β} (h:Ex P (f x)):Ex P (bnd x f):=h
theorem aL4 {β:Type} {P:β->Prop} {p:Prop} [Decidable p] {k:Option β} (hp:p) (h:Ex P k):Ex P (fG p k):=by unfold fG;rw [if_pos hp];exact h
theorem aI5 {α β γ:Type} {P:γ->Prop} {f:α->β->Option γ} {q:α×β} (h:Ex P (f q.1 q.2)):Ex P (p2 f q):=h
theorem aEV {α:Type} {P:α->Prop} {a:α} (h:P a):Ex P (some a):=⟨a,rfl,h⟩
theorem x_w {β:Type} {P:β->Prop} {x:Int} {f:Int->Option β} (hx:-9223372036854775808<=x/\x<=9223372036854775807) (h:Ex P (f x)):Ex P (bnd (aI x) f):=by
  obtain ⟨r,e,hp⟩:=h;exact ⟨r,YD hx e,hp⟩
theorem aGQ {α β:Type} {P:α⊕β->Prop} {x:Option β} (h:Ex (λb=>P (.inr b)) x):Ex P (esc x):=by obtain ⟨r,e,p⟩:=h;subst e;exact ⟨_,rfl,p⟩
theorem aEY {β:Type} {P:β->Prop} {p:Prop} {_:Decidable p} {a b:Option β} (h1:p->Ex P a) (h2:¬p->Ex P b):Ex P (cond (decide p) a b):=by
  by_cases h:p
  · rw [decide_eq_true h];exact h1 h
  · rw [decide_eq_false h];exact h2 h
theorem aEW {β:Type} {P:β->Prop} {c:Bool} {a b:Option β} (h1:c=false->Ex P a) (h2:c=true->Ex P b):Ex P (cond (!c) a b):=by cases c;exact h1 rfl;exact h2 rfl
theorem aCE {α γ β:Type} {P:β->Prop} {x:γ} {g:γ->Option α} {f:α->Option β} (h:Ex P ((g x).bind f)):Ex P ((bnd x g).bind f):=h
theorem XK {α β:Type} {P:β->Prop} {x:Int} {g:Int->Option α} {f:α->Option β} (hx:-9223372036854775808<=x/\x<=9223372036854775807) (h:Ex P ((g x).bind f)):Ex P ((bnd (aI x) g).bind f):=by
  obtain ⟨r,e,p⟩:=h;have k:aI x=x:=wrap64 hx
  exact ⟨r,by rw [<- e];show Option.bind (g (aI x)) f=_;rw [k],p⟩
theorem aMX {α β:Type} {P:β->Prop} {c:Bool} {x y:Option α} {f:α->Option β} (h:Ex P (cond c (x.bind f) (y.bind f))):Ex P ((cond c x y).bind f):=by cases c;exact h;exact h
theorem Y4 {α β:Type} {P:β->Prop} {a:α} {f:α->Option β} (h:Ex P (f a)):Ex P ((some a).bind f):=h
theorem aKG {α γ β:Type} {P:β->Prop} {x:Option γ} {g:γ->Option α} {f:α->Option β} (h:Ex P (x.bind λa=>(g a).bind f)):Ex P ((x.bind g).bind f):=by cases x;exact h;exact h
theorem aAR {α γ δ β:Type} {P:β->Prop} {g:γ->δ->Option α} {q:γ×δ} {f:α->Option β} (h:Ex P ((g q.1 q.2).bind f)):Ex P ((p2 g q).bind f):=h
theorem aDS {α β:Type} {P:β->Prop} {p:Prop} [Decidable p] {k:Option α} {f:α->Option β} (h:Ex P (fG p (k.bind f))):Ex P ((fG p k).bind f):=by
  unfold fG at h ⊢
  by_cases hp:p
  · rw [if_pos hp] at h ⊢;exact h
  · rw [if_neg hp] at h;obtain ⟨r,e,_⟩:=h;cases e
theorem aOY {α β:Type} {P:β->Prop} {x:Option β} {f:α->Option β} (h:Ex P x):Ex P ((esc x:Option (α⊕β)).bind (sel f)):=by obtain ⟨r,e,p⟩:=h;subst e;exact ⟨_,rfl,p⟩
theorem aIH {α β:Type} {P:β->Prop} {a:α} {f:α->Option β} (h:Ex P (f a)):Ex P ((brk a:Option (α⊕β)).bind (sel f)):=h
theorem aK3 {α β:Type} {P:β->Prop} {f:α->Option β} {a:α} (h:Ex P (f a)):Ex P (sel f (.inl a)):=h
end Go.Pv
