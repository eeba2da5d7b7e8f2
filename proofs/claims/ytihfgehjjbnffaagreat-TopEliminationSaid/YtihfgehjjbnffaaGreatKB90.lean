import Derived.Test.YtihfgehjjbnffaaGreatXUn
import Derived.Test.YtihfgehjjbnffaaGreatGK90
set_option linter.unusedVariables false
set_option linter.unusedSimpArgs false
namespace Go.Pv
open Go.Proofs
set_option maxRecDepth 100000
set_option maxHeartbeats 4000000
noncomputable section
def aTT (n:Nat) :WB (Bool) :=
 .cl 5 (CZ n 1 1) aHW aC5 λx1=>.gv 9<|.cl 10 (aA3 n x1 [(⟨1,0,0,0,0,4,40,0,[]⟩:bQ),(⟨4,0,0,0,0,1,15,0,[]⟩:bQ),(⟨14,0,0,0,0,0,0,0,[]⟩:bQ)]) aUR aPM λx2=>.al 1<|.jn 0 [] [] [] (λ_ (a:Bool)=>[(0,aI a)]) (λ_ _=>[]) (.bB 15 (decide (x2.2.2=0)) λx4=>.ifs [15] x4 (.ln 18 fI x2.2.1<|.bB 19 (decide ((x2.2.1.length:Int)=3)) λx5=>.ifs [19] x5 (.ix 23 fI x2.2.1 0 λx6=>.bB 25 (decide (x6=0)) λx7=>.ifs [25] x7 (.ix 29 fI x2.2.1 1 λx8=>.bB 31 (decide (x8=0)) λx9=>.ifs [31] x9 (.ix 35 fI x2.2.1 2 λx10=>.bB 37 (decide (x10=0)) λx11=>.ifs [37] x11 (.ln 42 aP.av x2.1.aW<|.bB 43 (decide ((x2.1.aW.length:Int)=1)) λx12=>.ifs [43] x12 (.iF 48 aP.av gE aP.dA x2.1.aW 0 λx13=>.wt 52 <|.ifs [52] x13.Closed (.iF 55 aP.av gE aP.dA x2.1.aW 0 λx14=>.ix 58 fI x14.dM 5 λx15=>.bB 60 (decide (x15=10)) λx16=>.ifs [60] x16 (.cl 64 (aAG n x2.1) aP5 aUZ λx17=>.ret x17) (.ret false)) (.ret false)) (.ret false)) (.ret false)) (.ret false)) (.ret false)) (.ret false)) (.ret false)) (λy0_1=>.ret ((y0_1:Bool)))
def UG (n:Nat) :Option (Bool):=(aTT n ).run
theorem aU9 {n}:PZ (UG n ) 11 [] aI:=by
 refine wm Tryz.func11 ?_
 refine .mk λx1 e1=>?_
 refine .mk _ (bK (gM (ps:=[(0,_),(1,_),(2,_)]) (rows:=[[int 1,int 0,int 0,int 0,int 0,int 4,int 40,int 0,.sc (.slice none 0 0)],[int 4,int 0,int 0,int 0,int 0,int 1,int 15,int 0,.sc (.slice none 0 0)],[int 14,int 0,int 0,int 0,int 0,int 0,int 0,int 0,.sc (.slice none 0 0)]]) rfl Tryz.underlying87 aLN (.cons rfl (.cons rfl (.cons rfl .nil))) (by kernel_rfl) rfl rfl rfl)) ?_
 refine .mk (λx2 e2=>?_) rfl (by rintro _ rfl;exact (.cons (.refl _) (.cons (iT.list (.cons (.cons (.refl _) (.cons (.refl _) (.cons (.refl _) (.cons (.refl _) (.cons (.refl _) (.cons (.refl _) (.cons (.refl _) (.cons (.refl _) (.cons (.nil _) .nil))))))))) (.cons (.cons (.refl _) (.cons (.refl _) (.cons (.refl _) (.cons (.refl _) (.cons (.refl _) (.cons (.refl _) (.cons (.refl _) (.cons (.refl _) (.cons (.nil _) .nil))))))))) (.cons (.cons (.refl _) (.cons (.refl _) (.cons (.refl _) (.cons (.refl _) (.cons (.refl _) (.cons (.refl _) (.cons (.refl _) (.cons (.refl _) (.cons (.nil _) .nil))))))))) .nil)))) .nil)))
 intro v3
 refine .mk ?_ ?_
 refine .mk λx4=>?_
 refine .mk ?_ ?_
 refine .mk ?_
 refine .mk λx5=>?_
 refine .mk ?_ ?_
 refine .mk λx6 e6=>?_
 refine .mk λx7=>?_
 refine .mk ?_ ?_
 refine .mk λx8 e8=>?_
 refine .mk λx9=>?_
 refine .mk ?_ ?_
 refine .mk λx10 e10=>?_
 refine .mk λx11=>?_
 refine .mk ?_ ?_
 refine .mk ?_
 refine .mk λx12=>?_
 refine .mk ?_ ?_
 refine .mk λx13 e13=>?_
 refine .mk ?_ ?_
 refine .mk λx14 e14=>?_
 refine .mk λx15 e15=>?_
 refine .mk λx16=>?_
 refine .mk ?_ ?_
 refine .mk λx17 e17=>?_
 exact .mk
 exact .mk
 exact .mk
 exact .mk
 exact .mk
 exact .mk
 exact .mk
 exact .mk
 exact .mk
 intro _ _
 exact .mk
def aGU (n:Nat) (a1:Int) (a2:List Int):WB (Bool) :=
 .cl 25 (GI a1 2) aC2 aE5 λx3=>.bI 26 (bA (1+x3)) λx4=>.cl 27 (CZ n 3 x4) aHW aC5 λx5=>.al 1<|.cl 29 (EP n x5) aVP aT8 λx7=>.al 2<|.jn 2 [4,6] [] [] (λ_ (a:Int×aA)=>[(7,int a.1)]) (λ_ a=>[.kp 2 [(aA.av a.2)]]) (.lp [1,4,6] [] [] (λ_ (a:Int×Int×aA)=>[(7,int a.1),(8,int a.2.1)]) (λ_ a=>[.kp 2 [(aA.av a.2.2)]]) n ((0:Int),0,x7) (pw λy0_1 q0=>(pw λy0_2 y0_3=>.jn 0 [1,4,6,7,8] [2] [] (λ_ (a:Bool)=>[(37,aI a)]) (λ_ _=>[]) (.ln 32 fI a2<|.bB 33 (decide (y0_2<(a2.length:Int))) λx9=>.ifs [33] x9 (.bB 36 (decide (y0_2<60)) λx10=>.ret x10) (.ret false)) (λy1_1=>.ifs [37] y1_1 (.jn 1 [1,4,6,8] [] [] (λ_ (a:Int×aA)=>[(7,int a.1)]) (λ_ a=>[.kp 2 [(aA.av a.2)]]) (.ix 42 fI a2 y0_2 λx11=>.cl 44 (GI x11 1073741824) aC2 aE5 λx12=>.bI 46 (bA (x12.tdiv 8)) λx13=>.bI 47 (x13.tmod 3) λx14=>.bI 49 (bA (x12.tdiv 24)) λx15=>.bI 50 (x15.tmod 9) λx16=>.bI 51 (bA (1+x16)) λx17=>.bI 55 (bA (x12.tdiv 216)) λx18=>.bI 56 (x18.tmod 400) λx19=>.al 3<|.bI 59 (x12.tmod 8) λx21=>.dU 0 [1,4,6,7,8,12] [2] [] (λ_ (a:bQ)=>[]) (λ_ a=>[.kp 3 [(bQ.av a)]]) (.bB 61 (decide (x21=2)) λx22=>.ifs [61] x22 (.brk ((⟨4,x14,0,0,0,x17,5,0,[]⟩:bQ):bQ)) (.bB 66 (decide (x21=3)) λx23=>.ifs [66] x23 (.brk ((⟨6,x14,0,0,0,x17,0,0,[]⟩:bQ):bQ)) (.bB 71 (decide (x21=4)) λx24=>.jn 0 [1,4,6,7,8,9,10,11,12,59] [2,3] [] (λ_ (a:Bool)=>[(70,aI a)]) (λ_ _=>[]) (.ifs [70,71] x24 (.ret true) (.bB 72 (decide (x21=5)) λx25=>.ret x25)) (λy2_1=>.ifs [70] y2_1 (.cl 77 (o5 n y0_3 x14 0 0 3 x17) yP zU λx26=>.al 4<|.al 5<|.jn 0 [1,4,6,7,8,9,10,11,12,14] [2,3,5] [] (λ_ (a:Bool)=>[(89,aI a)]) (λ_ _=>[]) (.bB 83 (decide (x26.2.2.2≠0)) λx29=>.ifs [83] x29 (.ret true) (.ln 87 aP.av x26.1.aW<|.bB 88 (decide ((x26.1.aW.length:Int)≠3)) λx30=>.ret x30)) (λy3_1=>.ifs [89] y3_1 (.esc (.ret ((y0_1:Int),y0_3))) (.bI 91 (bA (x12.tdiv 216)) λx31=>.bI 92 (x31.tmod 300) λx32=>.bI 95 (bA (x14+1)) λx33=>.bI 97 (bA (x12.tdiv 70000)) λx34=>.bI 98 (x34.tmod 2) λx35=>.bI 99 (bA (x33+x35)) λx36=>.bI 100 (x36.tmod 3) λx37=>.bI 105 (bA (x26.2.1.Value+x32)) λx38=>.cl 110 (rP n y0_3 (⟨12,x14,0,0,x37,x17,x38,0,[]⟩:bQ)) UD OJ λx39=>.al 6<|.bB 114 (decide (x39.2=0)) λx41=>.jn 0 [1,4,6,8,12] [3] [] (λ_ (a:Int×aA)=>[(7,int a.1)]) (λ_ a=>[.kp 2 [(aA.av a.2)]]) (.ifs [114] x41 (.dr [(3,[6])] [(5,[])] [6] [5] [0,1,2,3,4,5] (.bI 117 (bA (y0_1+x32)) λx42=>.ret ((x42:Int),x39.1))) (.ret ((y0_1:Int),y0_3))) (pw λy4_1 y4_2=>.esc (.ret ((y4_1:Int),y4_2)))))) (.bB 120 (decide (x21=6)) λx43=>.jn 0 [1,4,6,7,8,9,11,12] [2,3] [] (λ_ (a:Bool)=>[(119,aI a)]) (λ_ _=>[]) (.ifs [119,120] x43 (.ret true) (.bB 121 (decide (x21=7)) λx44=>.ret x44)) (λy5_1=>.ifs [119] y5_1 (.bI 123 (bA (x12.tdiv 216)) λx45=>.bI 124 (x45.tmod 12) λx46=>.brk ((⟨13,0,0,0,0,x17,0,x46,[]⟩:bQ):bQ)) (.brk ((⟨1,x14,0,0,0,x17,x19,0,[]⟩:bQ):bQ)))))))) (λy6_1=>.cl 130 (rP n y0_3 y6_1) UD OJ λx47=>.ret ((y0_1:Int),x47.1))) (pw λy7_1 y7_2=>.bI 39 (bA (y0_2+1)) λx48=>.brk ((y7_1:Int),x48,y7_2))) (.esc (.ret ((y0_1:Int),y0_3))))) q0)) (pw λy8_1 y8_2=>.jn 1 [4,6,7] [] [] (λ_ (a:aA)=>[]) (λ_ a=>[.kp 2 [(aA.av a)]]) (.lp [4,6,7] [] [] (λ_ (a:Int×aA)=>[(20,int a.1)]) (λ_ a=>[.kp 2 [(aA.av a.2)]]) n ((0:Int),y8_2) (pw λy9_1 y9_2=>.bB 134 (decide (y9_1<3)) λx49=>.ifs [134] x49 (.cl 140 (xM n y9_2 y9_1) aBI aBC λx50=>.bI 136 (bA (y9_1+1)) λx51=>.brk ((x51:Int),x50.1)) (.esc (.ret y9_2)))) (λy10_1=>.cl 145 (MH n y10_1) aW3 aU7 λx52=>.al 7<|.jn 0 [4,7,21] [7] [] (λ_ (a:Bool)=>[(161,aI a)]) (λ_ _=>[]) (.bB 149 (decide (x52.2≠0)) λx54=>.ifs [149] x54 (.ret true) (.ln 153 jG.av x52.1.Items<|.bB 154 (decide ((x52.1.Items.length:Int)≠1)) λx55=>.ifs [154] x55 (.ret true) (.ln 159 fI x52.1.dM<|.bB 160 (decide ((x52.1.dM.length:Int)≠17)) λx56=>.ret x56))) (λy11_1=>.ifs [161] y11_1 (.ret ((false:Bool))) (.ix 164 jG.av x52.1.Items 0 λx57=>.jn 0 [] [] [] (λ_ (a:Bool)=>[(4,aI a)]) (λ_ _=>[]) (.dr [(8,[7]),(9,[7]),(15,[7]),(16,[7]),(22,[7]),(23,[7]),(29,[7]),(30,[7]),(36,[7]),(37,[7]),(40,[7]),(41,[7]),(45,[7]),(46,[7])] [] [7] [] [0,1,2,3,4,5,6,7,8,9,10,11,12,13,14,15,16,17,18,19,20,21,22,23,24,25,26,27,28,29,30,31,32,33,34,35,36,37,38,39,40,41,42,43,44,45,46,47,48,49,50,51,52,53,54,55,56,57] (.bB 168 (decide (x57.bE>=0)) λx58=>.ifs [168] x58 (.bB 172 (decide (x57.bE<=y8_1)) λx59=>.ifs [172] x59 (.ix 177 fI x52.1.dM 15 λx60=>.bB 179 (decide (x60=0)) λx61=>.ifs [179] x61 (.ix 184 fI x52.1.dM 16 λx62=>.bB 186 (decide (x62=0)) λx63=>.ifs [186] x63 (.ix 191 fI x52.1.dM 13 λx64=>.bB 193 (decide (x64=0)) λx65=>.ifs [193] x65 (.ix 198 fI x52.1.dM 14 λx66=>.bB 200 (decide (x66=0)) λx67=>.ifs [200] x67 (.ix 205 fI x52.1.dM 0 λx68=>.ix 209 fI x52.1.dM 12 λx69=>.bI 211 (bA (x68+x69)) λx70=>.ix 214 jG.av x52.1.Items 0 λx71=>.bI 218 (bA (x71.Value-x57.bE)) λx72=>.bB 219 (decide (x70=x72)) λx73=>.ifs [219] x73 (.cl 222 (UG n) aJ3 aU9 λx74=>.ret x74) (.ret false)) (.ret false)) (.ret false)) (.ret false)) (.ret false)) (.ret false)) (.ret false))) (λy12_1=>.ret ((y12_1:Bool)))))))
def TW (n:Nat) (a1:Int) (a2:List Int):Option (Bool):=(aGU n a1 a2).run
theorem aLG {n a1 a2}:PZ (TW n a1 a2) 3 [int a1,aH 1 fI a2] aI:=wq Tryz.func3
end
end Go.Pv
namespace Go.Pv
open Go.Proofs
set_option maxRecDepth 1000000
set_option maxHeartbeats 1000000
theorem aE0 {v k:Int} (hk:0<k/\k<=4611686018427387904):Ex (λr=>0<=r/\r<k) (GI v k):=by
  have h1:=Int.tmod_lt_of_pos v hk.1
  have h2:=Int.lt_tmod_of_pos v hk.1
  unfold GI XF
  simp only [WT.run,bU]
  refine dI ?_
  repeat' with_reducible first | refine cO ?_ | refine jV ?_ | apply aD | apply jP | apply kL | apply jR | apply jS | apply kF | apply kH | apply jW | apply jZ | apply kC | refine aU (λ_=>?_) λ_=>?_ | refine iK (λ_=>?_) λ_=>?_ | apply x_cT | apply x_cF | apply fJ | apply bZ | apply aF
  all_goals omega
def oM (m:Int):gD:=⟨3,4,[1],[[m],[m],[m]],[[10],[10],[10]]⟩
def oE:aP:=⟨1,false,[⟨[],⟨0,0,0⟩⟩,⟨[],⟨0,0,0⟩⟩],List.replicate 17 0,[⟨0,0,0,0,0,0,0,0,0,0,0⟩],[-1],[0],[]⟩
def oS (m:Int):aA:=⟨oM m,[oE,oE,oE],[],[],[],0⟩
theorem aOL:(CZ 300 3 1).bind (EP 300)=some (oS 1):=by kernel_rfl
theorem aNN:(CZ 300 3 2).bind (EP 300)=some (oS 2):=by kernel_rfl
theorem aR7:UG 300=some true:=by decide +kernel
theorem aIT:rW oE:=⟨by decide,λp hp=>by
  simp only [oE,List.mem_cons,List.not_mem_nil,or_false,or_self] at hp
  subst hp
  exact ⟨QC,iQ,iQ,iQ⟩,by decide,by decide,by decide,by decide,by decide⟩
theorem aA5 {m e:Int} (h0:0<=e) (h1:e<3):mM (oS m) e 0:=by
  have h:e.toNat=0\/e.toNat=1\/e.toNat=2:=by omega
  have d1:∀ x,(oS m).aW[e.toNat]?=some x->x=oE:=λx hx=>by
    rcases h with h | h | h <;> rw [h] at hx <;> simpa [oS] using hx.symm
  have d2:∀ x,(oS m).bF.Methods[e.toNat]?=some x->x=[m]:=λx hx=>by
    rcases h with h | h | h <;> rw [h] at hx <;> simpa [oS,oM] using hx.symm
  have d3:∀ x,(oS m).bF.fM[e.toNat]?=some x->x=[10]:=λx hx=>by
    rcases h with h | h | h <;> rw [h] at hx <;> simpa [oS,oM] using hx.symm
  exact ⟨h0,h1,by decide,by simp [oS,oM],λx hx=>by rw [d1 x hx];simp [oS,oM,oE],h1,λx hx=>by rw [d2 x hx];simp [oS,oM],h1,λx hx=>by rw [d3 x hx];simp [oS,oM]⟩
theorem aIA {m:Int} (hm:M3 m):TI (oS m):=by
  refine ⟨⟨by simp [oS],λx hx=>?_,by simp [oS,oM],by simp [oS,oM],λl hl=>?_,by simp [oS,oM],λl hl=>?_,by simp [oS],λ_ h=>(by cases h),by simp [oS],λ_ h=>(by cases h),by simp [oS],λ_ h=>(by cases h)⟩,λl hl q hq=>?_,λx hx p hp=>?_,λ_ h=>(by cases h),rfl,λe h0 h1=>aA5 h0 h1,rfl⟩
  · simp only [oS,List.mem_cons,List.not_mem_nil,or_false,or_self] at hx
    subst hx;exact aIT
  · simp only [oS,oM,List.mem_cons,List.not_mem_nil,or_false,or_self] at hl
    subst hl;simp
  · simp only [oS,oM,List.mem_cons,List.not_mem_nil,or_false,or_self] at hl
    subst hl
    refine ⟨by simp,λc hc=>?_⟩
    simp only [List.mem_cons,List.not_mem_nil,or_false] at hc
    subst hc;unfold dB;omega
  · simp only [oS,oM,List.mem_cons,List.not_mem_nil,or_false,or_self] at hl
    subst hl
    simp only [List.mem_cons,List.not_mem_nil,or_false] at hq
    subst hq;exact hm
  · simp only [oS,List.mem_cons,List.not_mem_nil,or_false,or_self] at hx
    subst hx
    simp only [oE,List.mem_cons,List.not_mem_nil,or_false,or_self] at hp
    subst hp;exact LB.nil
structure OL (i:Int) (paid n:Int) (s:aA):Prop where
  ti:TI s
  q:gS fQ s+nI s=n
  w:gS fV s+jI s-gS fP s-iM s=paid
  v:gS fV s+jI s<=700*i
  a:gS fA s+qU s<=50000*i
  n1:n<=9*i
theorem td {a b:Int} (ha:0<=a) (hb:0<b):0<=a.tdiv b/\a.tdiv b<=a:=by
  rw [Int.tdiv_eq_ediv_of_nonneg ha]
  exact ⟨Int.ediv_nonneg ha (by omega),Int.ediv_le_self b ha⟩
theorem tm {a b:Int} (ha:0<=a) (hb:0<b):0<=a.tmod b/\a.tmod b<b:=by
  rw [Int.tmod_eq_emod_of_nonneg ha]
  exact ⟨Int.emod_nonneg _ (by omega),Int.emod_lt_of_pos _ hb⟩
set_option maxRecDepth 100000
def dn (t:aA) (k:Int):aA:=⟨t.bF,t.aW,t.dG,t.dO,t.bL,k⟩
theorem CS.dn {s:aA} {f:Int->aT} {B:Int} (h:CS s f B) (k:Int):CS (dn s k) f B :=
  ⟨h.sq.done,h.m2,h.en,h.lb,h.w1,λe h0 h1=>(h.iN e h0 h1).cp rfl rfl,h.tr⟩
theorem K8 {s:aA} {f:Int->aT} {B:Int} (h:EN s f B) {g:aT->Int} (hg:g vU=0):gS g s=g (f 0)+g (f 1)+g (f 2):=by
  obtain ⟨x0,h0,c0⟩:=h.2 0 (by decide) (by decide)
  obtain ⟨x1,h1,c1⟩:=h.2 1 (by decide) (by decide)
  obtain ⟨x2,h2,c2⟩:=h.2 2 (by decide) (by decide)
  have hl:=h.1
  have e:s.aW=[x0,x1,x2]:=by
    match hs:s.aW,hl with
    | [a,b,c],_=>rw [hs] at h0 h1 h2;simp at h0 h1 h2;rw [h0,h1,h2]
  unfold gS
  rw [e]
  simp only [List.map_cons,List.map_nil,sI,eS,c0.po,c1.po,c2.po,hg]
  omega
theorem CS.ti {s:aA} {f:Int->aT} {B:Int} (h:CS s f B):TI s:=by
  refine ⟨h.sq,λmt hmt m hm=>(h.m2 mt hmt m hm).imp id .inl,h.en.lbs h.lb,h.tr,h.w1,h.iN,?_⟩
  obtain ⟨x0,h0,c0⟩:=h.en.2 0 (by decide) (by decide)
  obtain ⟨x1,h1,c1⟩:=h.en.2 1 (by decide) (by decide)
  obtain ⟨x2,h2,c2⟩:=h.en.2 2 (by decide) (by decide)
  have hl:=h.en.1
  have e:s.aW=[x0,x1,x2]:=by
    match hs:s.aW,hl with
    | [a,b,c],_=>rw [hs] at h0 h1 h2;simp at h0 h1 h2;rw [h0,h1,h2]
  rw [e]
  simp only [List.map_cons,List.map_nil,gX,c0.po,c1.po,c2.po,c0.dn,c1.dn,c2.dn,List.length_cons,List.length_nil]
def nY (a:Int) (x:aP):Int:=(x.dM[a.toNat]?).getD 0
def bS (a:Int) (s:aA):Int:=sI (s.aW.map (nY a))
theorem aFW {s:aA} {e a:Int} {x y:aP} (hy:s.aW[e.toNat]?=some y):bS a (sE s e x)=bS a s-nY a y+nY a x:=wW _ hy
theorem J3 {s:aA} {e a:Int} {x y:aP} (hy:s.aW[e.toNat]?=some y) (h:x.dM=y.dM):bS a (sE s e x)=bS a s:=by
  rw [aFW hy]
  have:nY a x=nY a y:=by unfold nY;rw [h]
  omega
theorem ES {s:aA} {e i:Int} {r:dL} (h:SQ s):Ex (λu=>∀ a,bS a u.1=bS a s) (nZ s e i r):=by
  unfold nZ JE;simp only [WT.run,bU,Option.bind_some]
  refine aB _ (S7 h) λb hb=>aD (iK (λ_=>aF λ_=>rfl) λhb'=>?_)
  have hin:=hb hb'
  have hi1:=hin.i1
  refine bP hin.e0 hin.e1 λx hx=>bP hin.i0 (by have:=(hin.x x hx).2;omega) λy hy=>?_
  have hxq:=h.at hx
  refine aB (λr=>match r with | .inl _=>True | .inr q=>∀ a,bS a q.1=bS a s) ?_ λq hq=>?_
  · repeat' with_reducible first | refine pK rfl ?_ | refine aB _ fE λ_ _=>?_ | apply aD | refine aU (λ_=>bZ (aF λ_=>rfl)) λ_=>?_ | exact bM trivial
  · cases q with
    | inr q=>exact ⟨_,rfl,hq⟩
    | inl q =>
      refine fJ ?_
      have:=h.el;have:=hxq.rl
      refine aB (λ_=>True) (dI (bP hin.e0 hin.e1 λ_ _=>aF trivial)) λ_ _=>iL hin.e0 hx (dI ?_)
      exact iL hin.i0 hy (aD (aF λa=>J3 hx rfl))
theorem EB {n:Nat} {s:aA} {f:Int->aT} {B e:Int} {l:List aQ} (hn:250<=n) (h:SQ s) (hE:EN s f B) (he:0<=e/\e<3) (hl:l.length<=12) (hV:iA l) (hB:B+2*lB l<=288230376151711744) (hB0:0<=B) (h0:pS (λ_=>true) l=0):Ex (λr=>(r.2=0/\SK s r.1/\EN r.1 f (B+lB l))/\∀ a:Int,0<=a->a<17->bS a r.1=bS a s+pS (λk=>decide (k=a)) l) (nP n s e l):=by
  obtain ⟨x,hx,hc⟩:=hE.2 e he.1 he.2
  refine pR (aPV hn h hE he hl hV hB hB0 h0) (nR (aCP hn h ⟨he.1,by have:=hE.1;omega⟩ hx hc.bb hl hV hB hB0 h0) λr hr=>?_)
  obtain ⟨g,rfl,g1,g2⟩:=hr
  intro a a0 a1
  rw [aFW hx]
  have hlen:=hc.bb.1
  have hv:=List.getElem?_eq_getElem (l:=x.dM) (i:=a.toNat) (by omega)
  have:=g2 a _ a0 hv
  unfold nY eB
  simp only
  rw [this,hv]
  simp only [Option.getD_some]
  omega
theorem aWF {n:Nat} {m c k q:Int} {p:aT} (hn:250<=n) (hm:M2 m) (h:LB p.bJ) (hk:0<=k/\k<=3) (hq:dB q):Ex (λr=>r.2.2.2=0->r.2.2.1=false/\nV p.bJ q r.1.bJ r.2.1) (D4 n m c p k q):=by
  have hl:=h.len
  unfold D4 QG;simp only [WT.run,bU]
  refine aB (λy=>match y with | .inl _=>True | .inr (.inl _)=>True | _=>False) ?_ λy hy=>?_
  · exact aD (aU (λ_=>aF trivial) λk1=>aD (aU (λ_=>aF trivial) λk2=>(by unfold M2 at hm;omega)))
  have own:∀ e:Int,e≠0->Ex (λr:aT×aM×Bool×Int=>r.2.2.2=0->r.2.2.1=false/\nV p.bJ q r.1.bJ r.2.1) ((mH p).bind λx=>some (x,⟨0,0,0⟩,false,e)):=λe he=>x_eq (aGJ hl) (aF λh=>absurd h he)
  rcases y with u | u | u | u | u <;> simp only [Sum.elim,WT.run,bU]
  · refine aB (λb=>b=false) (aD (aU (λk=>absurd k (by omega)) λ_=>aD (aF (decide_eq_false (by omega))))) λb hb=>cZ (λk=>by rw [hb] at k;cases k) λ_=>?_
    simp only [Option.bind_some]
    exact aB (λr=>r.2.2=0->nV p.bJ q r.1.bJ r.2.1) (aB _ (aC9 hn h hq) λr hr=>x_eq JG (aF hr)) λr hr=>aD (aU (λk=>own _ k) λk=>aF λ_=>⟨rfl,hr (Classical.not_not.1 k)⟩)
  · refine aB (λb=>b=false) (aD (aU (λk=>absurd k (by omega)) λ_=>aD (aF (decide_eq_false (by omega))))) λb hb=>cZ (λk=>by rw [hb] at k;cases k) λ_=>?_
    simp only [Option.bind_some]
    exact aB (λr=>r.2.2=0->nV p.bJ q r.1.bJ r.2.1) (aB _ (aQU hn h hq) λr hr=>x_eq JG (aF hr)) λr hr=>aD (aU (λk=>own _ k) λk=>aF λ_=>⟨rfl,hr (Classical.not_not.1 k)⟩)
  · exact hy.elim
  · exact hy.elim
  · exact hy.elim
theorem MX {n:Nat} {s:aA} {f:Int->aT} {B e k q:Int} (hn:250<=n) (h:SQ s) (hM:JY s) (hE:EN s f B) (hi:mM s e 0) (he:0<=e/\e<3) (hf:LB (f e).bJ) (hk:0<=k/\k<=3) (hq:dB q):Ex (λr=>SK s r.1/\(r.2.2.2=0->r.2.2.1=false/\(∃ p',EN r.1 (up f e p') B/\nV (f e).bJ q p'.bJ r.2.1)/\∀ a,bS a r.1=bS a s)) (o5 n s e 0 0 k q):=by
  obtain ⟨y,hy,hc⟩:=hE.2 e he.1 he.2
  have hel:=hE.1
  refine nR (pR (aNU (l:=0) (k:=k) (i:=0) (e:=e) hn h hq) (Q:=λr=>r.2.2.2=0->r.2.2.1=false/\∃ p',r.1=sE s e (FR y [p',vU])/\nV (f e).bJ q p'.bJ r.2.1) ?_) λr hr=>?_
  · unfold o5 SN;simp only [WT.run,bU]
    refine x_eq (P4 h hi (by omega)) (aD (aU (λk=>absurd k (by omega)) λ_=>?_))
    refine bP he.1 hi.m1 λmt hmt=>bP hi.i0 (by have:=hi.m _ hmt;have:=hi.i1;omega) λm hm=>bP he.1 hi.c1 λct hct=>bP hi.i0 (by have:=hi.c _ hct;have:=hi.i1;omega) λc hcc=>iL he.1 hy (iL (i:=0*2+0) (by decide) (a:=f e) (by rw [hc.po];rfl) ?_)
    have hm2:=hM mt (List.mem_of_getElem? hmt) m (List.mem_of_getElem? hm)
    refine aB _ (aWF hn hm2 hf hk hq) λr hr=>aD (aD (aU (λk=>aF λh=>absurd h k) λk=>?_))
    have hr:=hr (Classical.not_not.1 k)
    refine aB (λt=>t=(y.fD,y.Closed,y.dM,y.d9,y.eH,y.Down,y.gK,[r.1,vU])) (aB (λ_=>True) (dI (bP he.1 (by omega) λ_ _=>aF trivial)) λ_ _=>iL he.1 hy (gU (by rw [hc.po];simp) (iL (i:=0*2+0) (by decide) (a:=f e) (by rw [hc.po];rfl) (aD (aF (by rw [hc.po];rfl)))))) λt ht=>?_
    subst ht
    simp only [p2]
    exact bP he.1 (by omega) λ_ _=>aF λ_=>⟨hr.1,r.1,rfl,hr.2⟩
  · obtain ⟨hk,hr⟩:=hr
    refine ⟨hk.1,λh0=>?_⟩
    obtain ⟨h1,p',h2,h3⟩:=hr h0
    refine ⟨h1,⟨p',?_,h3⟩,λa=>?_⟩
    · rw [h2]
      exact hE.set (Int.le_refl B) he ⟨hc.cl,hc.bb,hc.ro,hc.dn,rfl,hc.pr,hc.nw⟩
    · rw [h2];exact J3 hy rfl
theorem aQS {n:Nat} {m c:Int} {p:aT} {x:aM} (hn:250<=n) (hm:M2 m) (hp:iJ p) (hx:RL x):Ex (λr=>r.2.2=0->oI p.bJ x r.1.bJ/\r.2.1=0) (z8 n m c p x) :=
  nR (aU8 hn (hm.imp id .inl) hp hx) λr hr h=>⟨(hr h).1,(hr h).2.2⟩
theorem aFC {n:Nat} {s:aA} {f:Int->aT} {B e:Int} {x:aM} (hn:250<=n) (h:SQ s) (hM:JY s) (hE:EN s f B) (hi:mM s e 0) (he:0<=e/\e<3) (hx:RL x):Ex (λr=>SK s r.1/\(r.2.2.2=0->r.2.1=x.Value/\r.2.2.1=0/\(∃ p',EN r.1 (up f e p') B/\oI (f e).bJ x p'.bJ)/\∀ a,bS a r.1=bS a s)) (uZ n s e 0 0 x):=by
  obtain ⟨y,hy,hc⟩:=hE.2 e he.1 he.2
  have hel:=hE.1
  refine nR (pR (aQA (l:=0) (i:=0) (e:=e) hn h hx) (Q:=λr=>r.2.2.2=0->r.2.1=x.Value/\r.2.2.1=0/\∃ p',r.1=sE s e (FR y [p',vU])/\oI (f e).bJ x p'.bJ) ?_) λr hr=>?_
  · unfold uZ RX;simp only [WT.run,bU]
    have hyq:=h.at hy
    refine x_eq (P4 h hi (by omega)) (aD (aU (λk=>absurd k (by omega)) λ_=>?_))
    refine bP he.1 hi.m1 λmt hmt=>bP hi.i0 (by have:=hi.m _ hmt;have:=hi.i1;omega) λm hm=>bP he.1 hi.c1 λct hct=>bP hi.i0 (by have:=hi.c _ hct;have:=hi.i1;omega) λc hcc=>iL he.1 hy (iL (i:=0*2+0) (by decide) (a:=f e) (by rw [hc.po];rfl) ?_)
    have hm2:=hM mt (List.mem_of_getElem? hmt) m (List.mem_of_getElem? hm)
    have hfq:iJ (f e):=hyq.pq _ (by rw [hc.po];simp)
    refine aB _ (pR (Y6 hn hfq hx) (aQS hn hm2 hfq hx)) λr hr=>aD (aU (λk=>aF λh=>absurd h k) λk=>?_)
    obtain ⟨hr1,hr2⟩:=hr
    obtain ⟨hI,hz⟩:=hr2 (Classical.not_not.1 k)
    refine aB (λt=>t=(y.fD,y.Closed,y.dM,y.d9,y.eH,y.Down,y.gK,[r.1,vU])) (aB (λ_=>True) (dI (bP he.1 (by omega) λ_ _=>aF trivial)) λ_ _=>iL he.1 hy (gU (by rw [hc.po];simp) (iL (i:=0*2+0) (by decide) (a:=f e) (by rw [hc.po];rfl) (aD (aF (by rw [hc.po];rfl)))))) λt ht=>?_
    subst ht
    simp only [p2]
    have hEq:rW (FR y [r.1,vU]):=⟨by simp [FR],λp hp=>by
      simp only [FR,List.mem_cons,List.not_mem_nil,or_false] at hp
      rcases hp with rfl | rfl
      · exact hr1.1
      · exact ⟨QC,iQ,iQ,iQ⟩,hyq.bl,hyq.rl,hyq.pr,hyq.dn,hyq.ah⟩
    have hS:=h.set (i:=e.toNat) hEq
    refine bP he.1 (by omega) λ_ _=>aB _ (aDE hn hS) λ_ _=>aB (λ_=>True) (aD (cZ (λ_=>aF trivial) λ_=>aB _ (Y0 hn hS) λ_ _=>aD (aF trivial))) λ_ _=>cZ (λ_=>aF λh=>absurd h (show ¬ (2:Int)=0 by decide)) λ_=>aD (aF λ_=>⟨?_,hz,r.1,rfl,hI⟩)
    have hv:=hx.2.1
    unfold dB at hv
    simp only [hz,Int.sub_zero]
    exact wrap64 hv
  · obtain ⟨hk,hr⟩:=hr
    refine ⟨hk.1,λh0=>?_⟩
    obtain ⟨h1,h2,p',h3,h4⟩:=hr h0
    refine ⟨h1,h2,⟨p',?_,h4⟩,λa=>?_⟩
    · rw [h3]
      exact hE.set (Int.le_refl B) he ⟨hc.cl,hc.bb,hc.ro,hc.dn,rfl,hc.pr,hc.nw⟩
    · rw [h3];exact J3 hy rfl
theorem oD {a:Int} (h:0<=a/\a<=1000000):dB a:=by unfold dB;omega
theorem U6 {l r:List aM} {q:Int} {x:aM} (h:nV l q r x) (hv:lV l<=1000000) (hb:LB l):0<=x.Value/\x.Value<=1000000/\dB x.bE:=by
  have h1:=h.v;have h2:=(nJ h.b.ok).2;have h3:=h.a;have h4:=BA r;have h5:=hb.a
  refine ⟨h.x2,by omega,by unfold dB;omega⟩
theorem aSP {n:Nat} {s:aA} {f:Int->aT} {B e q a:Int} (hn:250<=n) (hC:CS s f B) (hB:0<=B/\B<=100000000000000) (he:0<=e/\e<3) (hq:1<=q/\q<=1000000) (ha:0<=a/\a<=1000000):Ex (λr=>r.2=0->(∃ p',CS r.1 (up f e p') (B+1000000000)/\oI (f e).bJ ⟨q,a,0⟩ p'.bJ)/\r.1.bL=s.bL/\bS 0 r.1=bS 0 s+a/\bS 12 r.1=bS 12 s) (AP n s ⟨1,e,0,0,0,q,a,0,[]⟩):=by
  have e1:=rZ (a:=a) (by omega)
  have hi:=hC.iN e he.1 he.2
  unfold AP aBP;simp only [WT.run,bU]
  refine aD (aU (λk=>absurd rfl k) λ_=>aB (λr=>r.2=0->SK s r.1/\s.dG.length<40/\(∃ p',EN r.1 (up f e p') (B+1000000000)/\oI (f e).bJ ⟨q,a,0⟩ p'.bJ)/\bS 0 r.1=bS 0 s+a/\bS 12 r.1=bS 12 s) ?_ λr hr'=>?_)
  · refine aB (λy=>y=0) (x_eq (E6 hC.sq hC.en hi he) (aF rfl)) λy hy=>aD (aU (λk=>absurd hy k) λ_=>aB (λz=>z=0->s.dG.length<40) (aD (aU (λk=>aF λh=>absurd h (by decide)) λk=>aF λ_=>by omega)) λz hz=>aD (aU (λk=>aF λh=>absurd h k) λkz=>?_))
    have h40:=hz (Classical.not_not.1 kz)
    refine aB (λt=>SK s t.1/\(t.2.2.2=0->t.2.1=a/\t.2.2.1=0/\(∃ p',EN t.1 (up f e p') B/\oI (f e).bJ ⟨q,a,0⟩ p'.bJ)/\∀ k,bS k t.1=bS k s)) (aB _ (aFC (e:=e) (x:=⟨q,a,0⟩) hn hC.sq hC.m2 hC.en hi he ⟨oD (by simp only;omega),oD ha,iQ⟩) λb hb'=>aF hb') λb hb'=>?_
    obtain ⟨t,c,d,er⟩:=b
    obtain ⟨hk,hb'⟩:=hb'
    simp only at hk hb'
    simp only [p2]
    refine aD (aU (λk=>aF λh=>absurd h k) λk=>?_)
    obtain ⟨rfl,rfl,⟨p',hE,hI⟩,hbs⟩:=hb' (Classical.not_not.1 k)
    rw [e1]
    refine aB (λt=>t.2=0/\SK s t.1/\EN t.1 (up f e p') (B+100000000)/\bS 0 t.1=bS 0 s+c/\bS 12 t.1=bS 12 s) (aD (aB _ (EB (e:=e) hn hk.q hE he (by simp) (yU (by simp)) (by simp only [lB,List.map_cons,List.map_nil,eT];omega) hB.1 (by simp only [pS,gA,List.map_cons,List.map_nil,sI,if_true];omega)) λr hr=>aF ⟨hr.1.1,hk.trans hr.1.2.1,hr.1.2.2.mono (by simp only [lB,List.map_cons,List.map_nil,eT];omega),?_,?_⟩)) λr hr=>?_
    · rw [hr.2 0 (by decide) (by decide),hbs];simp [pS,gA,sI]
    · rw [hr.2 12 (by decide) (by decide),hbs];simp [pS,gA,sI]
    refine aD (aU (λk=>absurd hr.1 k) λ_=>aB (λt=>t.2=0/\SK s t.1/\EN t.1 (up f e p') (B+1000000000)/\bS 0 t.1=bS 0 s+c/\bS 12 t.1=bS 12 s) (aB _ (pR (FI (e:=e) (c:=1000000) hr.2.1.q hr.2.2.1 (hr.2.1.iN hi) he (NK (by omega) (by omega) (by simp) (by simp)) (by omega) (by omega)) (ES hr.2.1.q)) λu hu=>aF ⟨hu.1.1,hr.2.1.trans hu.1.2.1,hu.1.2.2.mono (by omega),by rw [hu.2];exact hr.2.2.2.1,by rw [hu.2];exact hr.2.2.2.2⟩) λu hu=>?_)
    exact aD (aU (λk=>absurd hu.1 k) λ_=>aF λ_=>⟨hu.2.1,h40,⟨p',hu.2.2.1,hI⟩,hu.2.2.2.1,hu.2.2.2.2⟩)
  · obtain ⟨t,er⟩:=r
    simp only [p2]
    refine aD (aU (λk=>aF λh=>absurd h k) λk=>?_)
    obtain ⟨hk,h40,⟨p',hE,hI⟩,b1,b2⟩:=hr' (Classical.not_not.1 k)
    simp only at hk hE b1 b2
    have hlt:t.dG.length<40:=by rw [hk.rc];exact h40
    have hc:=hC.of hk hE (GC hC.lb hI.b)
    have hq64:dB q:=oD (by omega)
    have ha64:dB a:=oD ha
    refine dI (aD (dI (aF λ_=>⟨⟨p',?_,hI⟩,hk.tr,b1,b2⟩)))
    exact ⟨hk.q.aJE hlt ⟨hq64,ha64,hq64,ha64,iQ,Int.le_refl 0,(by decide:(0:Int)<=1)⟩,hc.m2,hc.en,hc.lb,hc.w1,λe h0 h1=>(hc.iN e h0 h1).cp rfl rfl,hc.tr⟩
theorem aJO {n:Nat} {s:aA} {f:Int->aT} {B e c a:Int} (hn:250<=n) (hC:CS s f B) (hB:0<=B/\B<=100000000000000) (he:0<=e/\e<3) (hc:1<=c/\c<=1000000) (ha:0<=a/\a<=1000000) (hv:lV (f e).bJ<=1000000):Ex (λr=>r.2=0->(∃ p' x,CS r.1 (up f e p') (B+1000000000)/\nV (f e).bJ c p'.bJ x/\bS 0 r.1=bS 0 s-x.Value)/\r.1.bL=s.bL/\bS 12 r.1=bS 12 s) (yV n s ⟨4,e,0,0,0,c,a,0,[]⟩):=by
  have hi:=hC.iN e he.1 he.2
  unfold yV aGK;simp only [WT.run,bU]
  refine aB (λr=>match r with | .inl q=>q.1=(⟨4,e,0,0,0,c,a,0,[]⟩:bQ) | .inr t=>False) (aD (aU (λk=>absurd (show (4:Int)=5 from k) (by decide)) λ_=>aD (aU (λ_=>bM rfl) λk=>(by simp at k)))) λr hr'=>?_
  cases r with
  | inr t=>exact hr'.elim
  | inl q =>
    refine fJ ?_
    obtain ⟨o',q⟩:=q
    simp only at hr'
    subst hr'
    simp only [p2]
    refine x_eq (E6 hC.sq hC.en hi he) (aD (aU (λk=>absurd rfl k) λ_=>?_))
    refine aB (λt=>t.1=0->(∃ p' x,CS t.2 (up f e p') (B+1000000000)/\nV (f e).bJ c p'.bJ x/\bS 0 t.2=bS 0 s-x.Value)/\t.2.bL=s.bL/\bS 12 t.2=bS 12 s) (aD (aU (λ_=>aB (λt=>t.2=0->(∃ p' x,CS t.1 (up f e p') (B+1000000000)/\nV (f e).bJ c p'.bJ x/\bS 0 t.1=bS 0 s-x.Value)/\t.1.bL=s.bL/\bS 12 t.1=bS 12 s) ?_ λt ht=>aF ht) λk=>(by simp at k))) λt ht=>?_
    · unfold R4 aD7;simp only [WT.run,bU]
      refine aD (aU (λk=>aF λh=>absurd h (show ¬ (6:Int)=0 by decide)) λh40=>aB _ (MX (e:=e) (k:=0) (q:=c) hn hC.sq hC.m2 hC.en hi he (hC.lb e) (by omega) (oD (by omega))) λr hf=>?_)
      obtain ⟨t,x,w,er⟩:=r
      obtain ⟨hk,hf⟩:=hf
      simp only at hk hf
      refine aD (aU (λk=>aF λh=>absurd h k) λk=>?_)
      obtain ⟨rfl,⟨p',hE,hO⟩,hbs⟩:=hf (Classical.not_not.1 k)
      obtain ⟨x0,x1,x2⟩:=U6 hO hv (hC.lb e)
      refine x_eq LD (aD (x_eq LD (x_eq LD (aD (x_eq LD ?_)))))
      rw [rZ (a:=a) (by omega),rZ (a:=x.Value) (by omega)]
      refine aB _ (EB (e:=e) hn hk.q hE he (by simp) (yU (by simp)) (by simp only [lB,List.map_cons,List.map_nil,eT];omega) hB.1 (by simp only [pS,gA,List.map_cons,List.map_nil,sI,if_true];omega)) λr hr2=>aD (aU (λk=>absurd hr2.1.1 k) λ_=>?_)
      have hE2:EN r.1 (up f e p') (B+100000000):=hr2.1.2.2.mono (by simp only [lB,List.map_cons,List.map_nil,eT];omega)
      have hk2:=hk.trans hr2.1.2.1
      have b0:bS 0 r.1=bS 0 s-x.Value:=by rw [hr2.2 0 (by decide) (by decide),hbs];simp [pS,gA,sI];omega
      have b12:bS 12 r.1=bS 12 s:=by rw [hr2.2 12 (by decide) (by decide),hbs];simp [pS,gA,sI]
      refine aB _ (pR (FI (e:=e) (c:=1000000) hk2.q hE2 (hk2.iN hi) he (NK (by omega) (by simp) (by simp) (by simp only;omega)) (by omega) (by omega)) (ES hk2.q)) λu hu=>aD (aU (λk=>absurd hu.1.1 k) λ_=>bP he.1 (by have:=hC.en.1;omega) λy hy=>?_)
      have hk3:=hk2.trans hu.1.2.1
      have hlt:u.1.dO.length<40:=by rw [hk3.sl];omega
      have hc3:=hC.of hk3 (hu.1.2.2.mono (show B+100000000+1000000<=B+1000000000 by omega)) (GC hC.lb hO.b)
      have hc64:dB c:=oD (by omega)
      have hv64:dB x.Value:=oD ⟨x0,x1⟩
      have c0:bS 0 u.1=bS 0 s-x.Value:=by rw [hu.2];exact b0
      have c12:bS 12 u.1=bS 12 s:=by rw [hu.2];exact b12
      refine aD (dI (aD (dI (aF λ_=>⟨⟨p',x,?_,hO,c0⟩,hk3.tr,c12⟩))))
      exact ⟨hk3.q.aKY hlt ⟨hc64,iQ,hv64,x2,Int.le_refl 0,(by decide:(0:Int)<=1)⟩,hc3.m2,hc3.en,hc3.lb,hc3.w1,λe h0 h1=>(hc3.iN e h0 h1).cp rfl rfl,hc3.tr⟩
    · obtain ⟨e',t⟩:=t
      simp only [p2]
      exact aD (aU (λk=>aF λh=>absurd h k) λk=>aF λ_=>ht (Classical.not_not.1 k))
theorem aE2 {a b:Int}:qH a b=some ⟨a,b⟩:=by
  refine kG ?_
  unfold qH aDG;simp only [WT.run,bU]
  exact aF rfl
theorem RB2 {B:Int} (h:0<=B) {a:Int} (ha:(a.natAbs:Int)<=B):RB ⟨0,0,0,0,0,0,0,0,a,0,0⟩ B:=by
  have z:((0:Int).natAbs:Int)<=B:=by simpa using h
  exact ⟨z,z,z,z,z,z,z,z,ha,z,z⟩
theorem aQ0 {n:Nat} {s:aA} {f:Int->aT} {B e c:Int} (hn:250<=n) (hC:CS s f B) (hB:0<=B/\B<=100000000000000) (he:0<=e/\e<3) (hc:1<=c/\c<=1000000) (hv:lV (f e).bJ<=1000000):Ex (λr=>r.2=0->(∃ p' x,CS r.1 (up f e p') (B+1000000000)/\nV (f e).bJ c p'.bJ x/\bS 0 r.1=bS 0 s-x.Value)/\r.1.bL=s.bL/\bS 12 r.1=bS 12 s) (B4 n s ⟨6,e,0,0,0,c,0,0,[]⟩):=by
  have hi:=hC.iN e he.1 he.2
  unfold B4 U2;simp only [WT.run,bU]
  refine aD (aU (λ_=>?_) λk=>(by simp at k))
  refine x_eq (E6 hC.sq hC.en hi he) (aD (aU (λk=>absurd rfl k) λ_=>?_))
  refine aB (λr=>r.2=0->(∃ p' x,CS r.1 (up f e p') (B+1000000000)/\nV (f e).bJ c p'.bJ x/\bS 0 r.1=bS 0 s-x.Value)/\r.1.bL=s.bL/\bS 12 r.1=bS 12 s) ?_ λr hr=>aD (aU (λk=>aF λh=>absurd h k) λk=>aF λ_=>hr (Classical.not_not.1 k))
  unfold MN aEF;simp only [WT.run,bU]
  refine aB _ (MX (e:=e) (k:=1) (q:=c) hn hC.sq hC.m2 hC.en hi he (hC.lb e) (by omega) (oD (by omega))) λr hf=>?_
  obtain ⟨t,x,w,er⟩:=r
  obtain ⟨hk,hf⟩:=hf
  simp only at hk hf
  refine aD (aU (λk=>aF λh=>absurd h k) λk=>?_)
  obtain ⟨rfl,⟨p',hE,hO⟩,hbs⟩:=hf (Classical.not_not.1 k)
  obtain ⟨x0,x1,x2⟩:=U6 hO hv (hC.lb e)
  refine x_eq aE2 (aD (x_eq aE2 ?_))
  rw [rZ (a:=x.Value) (by omega)]
  unfold zY aHQ;simp only [WT.run,bU]
  refine aB (λr=>r.2=0->(∃ p' x,CS r.1 (up f e p') (B+1000000000)/\nV (f e).bJ c p'.bJ x/\bS 0 r.1=bS 0 s-x.Value)/\r.1.bL=s.bL/\bS 12 r.1=bS 12 s) ?_ λr hr=>aF hr
  refine aB _ (EB (e:=e) hn hk.q hE he (by simp) (yU (by simp)) (by simp only [lB,List.map_cons,List.map_nil,eT];omega) hB.1 (by simp only [pS,gA,List.map_cons,List.map_nil,sI,if_true];omega)) λr hr2=>aD (aU (λk=>absurd hr2.1.1 k) λ_=>?_)
  have hE2:EN r.1 (up f e p') (B+100000000):=hr2.1.2.2.mono (by simp only [lB,List.map_cons,List.map_nil,eT];omega)
  have hk2:=hk.trans hr2.1.2.1
  have b0:bS 0 r.1=bS 0 s-x.Value:=by rw [hr2.2 0 (by decide) (by decide),hbs];simp [pS,gA,sI];omega
  have b12:bS 12 r.1=bS 12 s:=by rw [hr2.2 12 (by decide) (by decide),hbs];simp [pS,gA,sI]
  refine aB _ (pR (FI (e:=e) (c:=1000000) (r:=⟨0,0,0,0,0,0,0,0,x.Value,0,0⟩) hk2.q hE2 (hk2.iN hi) he (RB2 (by omega) (by omega)) (by omega) (by omega)) (ES hk2.q)) λu hu=>aF λ_=>?_
  have hk3:=hk2.trans hu.1.2.1
  have hc3:=hC.of hk3 (hu.1.2.2.mono (show B+100000000+1000000<=B+1000000000 by omega)) (GC hC.lb hO.b)
  exact ⟨⟨p',x,hc3,hO,by rw [hu.2];exact b0⟩,hk3.tr,by rw [hu.2];exact b12⟩
end Go.Pv
