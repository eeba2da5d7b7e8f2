import Derived.Test.YtcnbfkppbaenbaaGreatX80m
set_option linter.unusedVariables false
set_option linter.unusedSimpArgs false
namespace Go.Pv
open Go.Proofs
set_option maxRecDepth 100000
set_option maxHeartbeats 4000000
noncomputable section
def a1E (n:Nat) (a1:fC) (a2:Int) (a3:Int):WT Tryz.prog (.b (bK)) :=
 .al 1<|.al 2<|.gv 12<|.al 3<|.cl 14 (xW a2 1099511627776) JZ J7 λx7=>.cl 17 (zN a1 x7) PS S7 λx8=>.al 4<|.fD 1 [6,9] [2] [] (λ_ (a:bK)=>[]) (λ_ a=>[.kp 4 [(bK.av a)]]) (.lp [2,3,6,7,8,9] [1,2,3] [] (λ_ (a:Int×bK)=>[(10,int a.1)]) (λ_ a=>[.kp 4 [(bK.av a.2)]]) n ((0:Int),x8) (pw λy0_1 y0_2=>.bB 19 (decide (y0_1<64)) λx10=>.ifs [19] x10 (.fD 1 [2,3,6,7,8,9,10] [1,2,3] [] (λ_ (a:bK)=>[]) (λ_ a=>[.kp 4 [(bK.av a)]]) (.fD 2 [2,3,6,7,8,9,10] [1,2,3,4] [] (λ_ (a:Unit)=>[]) (λ_ _=>[]) (.lp [2,3,6,7,8,9,10] [1,2,3,4] [] (λ_ (a:Int)=>[(11,int a)]) (λ_ _=>[]) n 0 (λy1_1=>.bB 23 (decide (y1_1<2)) λx11=>.ifs [23] x11 (.jn 2 [2,3,6,7,8,9,10,11] [1,2,3,4] [] (λ_ (a:Bool)=>[(46,aT a)]) (λ_ _=>[]) (.dr [(0,[4]),(1,[4]),(3,[3]),(4,[3]),(11,[3]),(12,[3]),(16,[3]),(17,[3])] [] [3,4] [] [0,1,2,3,4,5,6,7,8,9,10,11,12,13,14,15,16,17,18,19,20] (.as ((0:Int)<=y1_1/\y1_1<2) inferInstance<|.bo (ix ([12,13]:List Int) y1_1) λx13=>.gv 29<|.gv 30<|.bB 31 (decide (y0_2.Kind=x13)) λx14=>.ifs [31] x14 (.bB 34 (decide (y0_1>31)) λx15=>.ifs [34] x15 (.ret true) (.as ((0:Int)<=y1_1/\y1_1<2) inferInstance<|.gv 37<|.gv 38<|.bI 40 (bA (x7.tdiv 32)) λx17=>.bI 41 (x17.tmod 2) λx18=>.as ((0:Int)<=x18/\x18<2) inferInstance<|.bo (ix ([12,13]:List Int) x18) λx20=>.gv 42<|.gv 43<|.bB 44 (decide (x13=x20)) λx21=>.ret x21)) (.ret false))) (λy2_1=>.ifs [46] y2_1 (.cl 49 (LX y0_2 a3) aQF aK4 λx22=>.esc (.esc (.esc (.esc (.esc (.ret ((x22:bK)))))))) (.bI 25 (bA (y1_1+1)) λx23=>.brk x23))) (.esc (.brk ())))) (λ_=>.bI 52 (bA (x7.tdiv 32)) λx24=>.bI 53 (bA (x24*32)) λx25=>.bI 56 (bA (x7+y0_1)) λx26=>.bI 57 (bA (x26+1)) λx27=>.bI 58 (x27.tmod 32) λx28=>.bI 59 (bA (x25+x28)) λx29=>.cl 60 (zN a1 x29) PS S7 λx30=>.brk x30)) (λy4_1=>.bI 21 (bA (y0_1+1)) λx31=>.brk ((x31:Int),y4_1))) (.esc (.brk y0_2)))) (λy5_1=>.ret ((y5_1:bK)))
def aYO (n:Nat) (a1:fC) (a2:Int) (a3:Int):Option (bK):=(a1E n a1 a2 a3).run
theorem a0J {n:Nat} {a1:fC} {a2:Int} {a3:Int} {r:bK} (h0:aYO n a1 a2 a3=some r):PP Tryz.prog 20 [.agg (fC.av a1),int a2,int a3] (λy=>y=.agg (bK.av r)):=by
 refine bU mixed bR (λ(r:bK)=>.agg (bK.av r)) h0 Tryz.func20 (λr=>(λ(a:bK)=>PV.agg (bK.dH a)) r) 100000 ?_
 intro v4
 intro v5
 refine .mk _ (eH (CE (cs:=[int 12,int 13]) (ps:=[(0,_),(1,_)]) rfl Tryz.underlying50 fO z50 rfl (.cons rfl (.cons rfl .nil)) (by kernel_rfl))) ?_
 intro v6
 refine .mk λx7 e7=>?_
 refine .mk λx8 e8=>?_
 intro v9
 refine .mk ?_ ?_
 refine .mk ?_
 intro _ _
 refine .mk λx10=>?_
 refine .mk ?_ ?_
 refine .mk ?_ ?_
 refine .mk ?_ ?_
 refine .mk ?_
 intro _ _
 refine .mk λx11=>?_
 refine .mk ?_ ?_
 refine .mk ?_ ?_
 refine .mk ?_
 refine .mk λrR=>?_
 refine .mk λx13 e13=>?_
 refine .mk _ (λH hH _=>JR rfl Tryz.underlying50 fO rfl rfl ((hH _ (by decide)).trans rfl) rfl rfl rR) ?_
 refine .mk _ (λH hH _=>IQ rfl fO rfl ((hH _ (by decide)).trans rfl) rfl rfl e13) ?_
 refine .mk λx14=>?_
 refine .mk ?_ ?_
 refine .mk λx15=>?_
 refine .mk .mk ?_
 refine .mk λp16=>?_
 refine .mk _ (λH hH _=>JR rfl Tryz.underlying50 fO rfl rfl ((hH _ (by decide)).trans rfl) rfl rfl p16) ?_
 refine .mk _ (λH hH _=>IQ rfl fO rfl ((hH _ (by decide)).trans rfl) rfl rfl e13) ?_
 refine .mk λx17=>?_
 refine .mk λx18=>?_
 refine .mk λp19=>?_
 refine .mk λx20 e20=>?_
 refine .mk _ (λH hH _=>JR rfl Tryz.underlying50 fO rfl rfl ((hH _ (by decide)).trans rfl) rfl rfl p19) ?_
 refine .mk _ (λH hH _=>IQ rfl fO rfl ((hH _ (by decide)).trans rfl) rfl rfl e20) ?_
 refine .mk λx21=>?_
 exact .mk
 exact .mk
 intro _ _
 refine .mk ?_ ?_
 refine .mk λx22 e22=>?_
 exact .mk
 refine .mk λx23=>?_
 exact .mk
 exact .mk
 intro _ _
 refine .mk λx24=>?_
 refine .mk λx25=>?_
 refine .mk λx26=>?_
 refine .mk λx27=>?_
 refine .mk λx28=>?_
 refine .mk λx29=>?_
 refine .mk λx30 e30=>?_
 exact .mk
 intro _ _
 refine .mk λx31=>?_
 exact .mk
 exact .mk
 intro _ _
 exact .mk
def a2Q (n:Nat) :WT Tryz.prog (.b (aA)) :=
 .al 1<|.to 5 (aP 1 fI ([1,2,3,0]:List Int))<|.al 2<|.jn 1 [0,1] [1] [5,6] (λ_ (a:(List (List Int))×(List (List Int)))=>[]) (λu2 a=>[.kp 2 [[int 2,int 3,aP 1 fI ([1,2,3,0]:List Int),.sl 5 (u2 5) 0 a.1.length,.sl 6 (u2 6) 0 a.2.length]],.nw 5 22 1 (a.1.map (fL 1 fI)),.nw 6 22 1 (a.2.map (fL 1 fI))]) (.nc 2 0 3 5 22 1<|.nc 2 0 4 6 22 1<|.lp [0,1] [1] [5,6] (λ_ (a:Int×(List (List Int))×(List (List Int)))=>[(2,int a.1)]) (λu3 a=>[.kp 2 [[int 2,int 3,aP 1 fI ([1,2,3,0]:List Int),.sl 5 (u3 5) 0 a.2.1.length,.sl 6 (u3 6) 0 a.2.2.length]],.nw 5 22 1 (a.2.1.map (fL 1 fI)),.nw 6 22 1 (a.2.2.map (fL 1 fI))]) n ((0:Int),(([]:List (List Int)):List (List Int)),(([]:List (List Int)):List (List Int))) (pw λy0_1 q0=>(pw λy0_4 y0_5=>.bB 8 (decide (y0_1<2)) λx5=>.ifs [8] x5 (.dr [(0,[2]),(1,[2]),(5,[2]),(6,[2]),(10,[2]),(12,[2])] [(11,[]),(13,[])] [2] [4,9,11,13] [0,1,2,3,5,6,7,8,4,10,9,11,12,13] (.to 13 (aP 1 fI ([1,2,3,4]:List Int))<|.to 14 (aP 1 (fL 1 fI) ([([1,2,3,4]:List Int)]:List (List Int)))<|.to 18 (aP 1 fI ([10,10,10,10]:List Int))<|.to 19 (aP 1 (fL 1 fI) ([([10,10,10,10]:List Int)]:List (List Int)))<|.bl (y0_4++([([1,2,3,4]:List Int)]:List (List Int)):List (List Int)) λx6=>.as (x6.length<=68719476736) inferInstance<|.ge 15 0<|.bl (y0_5++([([10,10,10,10]:List Int)]:List (List Int)):List (List Int)) λx9=>.as (x9.length<=68719476736) inferInstance<|.ge 20 0<|.bI 10 (bA (y0_1+1)) λx12=>.brk ((x12:Int),(x6:List (List Int)),(x9:List (List Int))))) (.esc (.ret ((y0_4:List (List Int)),(y0_5:List (List Int)))))) q0)) (pw λy1_3 y1_4=>.j5 5<|.j5 6<|.cl 25 (BR n (⟨2,3,([1,2,3,0]:List Int),y1_3,y1_4⟩:fC)) Y3 ZK λx13=>.al 7<|.ret ((x13.1:aA)))
def a0O (n:Nat) :Option (aA):=(a2Q n ).run
theorem a1N {n r} (h0:a0O n =some r):PP Tryz.prog 96 [] (λy=>y=.agg (aA.av r)) :=
 bU mixed bR (λr:aA=>.agg (aA.av r)) h0 Tryz.func96 (λr=>(λ(a:aA)=>PV.agg (aA.dH a)) r) 100000 au
def a2U (n:Nat) (a1:Int) (a2:Int) (a3:Int):WT Tryz.prog (.b (aA)) :=
 .al 1<|.cl 10 (a0O n) a05 a1N λx5=>.cl 15 (ET n x5 (⟨1,0,a1,0,0,a2,a3,0,[]⟩:bK)) VT aF0 λx6=>.al 2<|.ret ((x6.1:aA))
def a0S (n:Nat) (a1:Int) (a2:Int) (a3:Int):Option (aA):=(a2U n a1 a2 a3).run
theorem a1J {n a1 a2 a3 r} (h0:a0S n a1 a2 a3=some r):PP Tryz.prog 52 [int a1,int a2,int a3] (λy=>y=.agg (aA.av r)) :=
 bU mixed bR (λr:aA=>.agg (aA.av r)) h0 Tryz.func52 (λr=>(λ(a:aA)=>PV.agg (aA.dH a)) r) 100000 au
def a2E (a1:Int) (a2:Int):WT Tryz.prog (.b (aN)) :=
 .al 1<|.ret (((⟨a1,a2⟩:aN):aN))
def aDB (a1:Int) (a2:Int):Option (aN):=(a2E a1 a2).run
theorem aH5 {a1 a2 r} (h0:aDB a1 a2=some r):PP Tryz.prog 101 [int a1,int a2] (λy=>y=.agg (aN.av r)) :=
 bU mixed bR (λr:aN=>.agg (aN.av r)) h0 Tryz.func101 (λr=>(λ(a:aN)=>PV.agg (aN.dH a)) r) 100000 au
def aYR (n:Nat) (a1:aA) (a2:List D3):WT Tryz.prog (.b (aA×Int)) :=
 .al 1<|.al 2<|.ln 10 D3.av a2<|.fD 0 [2,4,5] [2] [] (λ_ (a:aA)=>[]) (λ_ a=>[.kp 1 [(aA.av a)]]) (.lp [2,4,5,9,10] [2] [] (λ_ (a:Int×aA)=>[(11,int a.1)]) (λ_ a=>[.kp 1 [(aA.av a.2)]]) n ((0:Int),a1) (pw λy0_1 y0_2=>.bB 12 (decide (y0_1<(a2.length:Int))) λx5=>.ifs [12] x5 (.ix 13 D3.av a2 y0_1 λx6=>.al 3<|.cl 21 (sW n y0_2 x6.YT x6.lines) ZG UE λx8=>.bB 25 (decide (x8.2≠0)) λx9=>.ifs [25] x9 (.esc (.esc (.ret ((x8.1:aA),x8.2)))) (.bI 28 (bA (y0_1+1)) λx10=>.brk ((x10:Int),x8.1))) (.esc (.brk y0_2)))) (λy1_1=>.ret ((y1_1:aA),0))
def aID (n:Nat) (a1:aA) (a2:List D3):Option (aA×Int):=(aYR n a1 a2).run
theorem a0H {n a1 a2 r} (h0:aID n a1 a2=some r):PP Tryz.prog 100 [.agg (aA.av a1),aP 2 D3.av a2] (λy=>y=.bC [.agg (aA.av r.1),int r.2]) :=
 bU mixed bR (λr:aA×Int=>.bC [.agg (aA.av r.1),int r.2]) h0 Tryz.func100 (λr=>.bC (gD ((λ(a:aA)=>PV.agg (aA.dH a)) (r.1)) (bT (r.2)))) 100000 au
def a0R (n:Nat) (a1:aA) (a2:bK):WT Tryz.prog (.b (aA×Int)) :=
 .al 1<|.al 2<|.al 3<|.gv 17<|.fD 0 [2,3,4,5] [1,2,3] [] (λ_ (a:Unit)=>[]) (λ_ _=>[]) (.lp [2,3,4,5,17] [1,2,3] [] (λ_ (a:Int)=>[(18,int a)]) (λ_ _=>[]) n 0 (λy0_1=>.bB 19 (decide (y0_1<2)) λx6=>.ifs [19] x6 (.bo (ix ([a2.E,a2.To]:List Int) y0_1) λx7=>.gv 20<|.cl 25 (JK a1 x7 a2.Item) aQH aSI λx8=>.bB 27 (decide (x8≠0)) λx9=>.ifs [27] x9 (.esc (.esc (.ret ((a1:aA),x8)))) (.bI 30 (bA (y0_1+1)) λx10=>.brk x10)) (.esc (.brk ())))) (λ_=>.ln 33 fT.av a1.dL<|.bB 34 (decide ((a1.dL.length:Int)>=40)) λx11=>.ifs [34] x11 (.ret ((a1:aA),6)) (.cl 46 (xV n a1 a2.E a2.Item a2.Loc 3 a2.aG) aVA aTK λx12=>.al 4<|.bB 52 (decide (x12.2.2.2≠0)) λx14=>.ifs [52] x14 (.ret ((x12.1:aA),x12.2.2.2)) (.dr [(0,[1]),(1,[2]),(2,[2]),(3,[2]),(4,[2]),(6,[2]),(7,[2]),(10,[4]),(11,[4]),(13,[4]),(14,[4]),(19,[2]),(20,[2]),(21,[2]),(22,[2]),(24,[2]),(25,[2])] [(35,[])] [1,2,4] [35] [0,1,2,3,4,5,6,7,8,9,10,11,12,13,14,15,16,17,18,19,20,21,22,23,24,25,26,27,28,29,30,31,32,33,34,35,36] (.cl 61 (aDB 13 a2.bM) a06 aH5 λx15=>.bI 64 (bA (0-a2.bM)) λx16=>.cl 65 (aDB 15 x16) a06 aH5 λx17=>.cl 68 (aDB 16 x12.2.1.Value) a06 aH5 λx18=>.bI 71 (bA (0-x12.2.1.Value)) λx19=>.cl 72 (aDB 0 x19) a06 aH5 λx20=>.to 73 (aP 2 aN.av ([x15,x17,x18,x20]:List aN))<|.cl 79 (aDB 12 a2.bM) a06 aH5 λx21=>.bI 82 (bA (0-a2.bM)) λx22=>.cl 83 (aDB 14 x22) a06 aH5 λx23=>.to 84 (aP 2 aN.av ([x21,x23]:List aN))<|.to 86 (aP 2 D3.av ([(⟨a2.E,([x15,x17,x18,x20]:List aN)⟩:D3),(⟨a2.To,([x21,x23]:List aN)⟩:D3)]:List D3))<|.cl 87 (aID n x12.1 ([(⟨a2.E,([x15,x17,x18,x20]:List aN)⟩:D3),(⟨a2.To,([x21,x23]:List aN)⟩:D3)]:List D3)) a00 a0H λx24=>.bB 91 (decide (x24.2≠0)) λx25=>.ifs [91] x25 (.ret ((x24.1:aA),x24.2)) (.cl 103 (yC x24.1 a2.E a2.Item (⟨0,0,0,0,0,0,x12.2.1.Value,0,0,0,0⟩:cO)) aTZ aS2 λx26=>.bB 107 (decide (x26.2≠0)) λx27=>.ifs [107] x27 (.ret ((x26.1:aA),x26.2)) (.bI 114 (bA (a2.bM-x12.2.1.Value)) λx28=>.bI 117 (bA (x28+x12.2.1.bO)) λx29=>.jn 0 [2,3,4,5,12] [1,2,3] [] (λ_ (a:Bool)=>[(123,aT a)]) (λ_ _=>[]) (.bB 119 (decide (x29<(-288230376151711744))) λx30=>.ifs [119] x30 (.ret true) (.bB 122 (decide (x29>288230376151711744)) λx31=>.ret x31)) (λy2_1=>.ifs [123] y2_1 (.ret ((x26.1:aA),2)) (.dr [(0,[1]),(1,[1]),(3,[2]),(4,[2]),(5,[2]),(6,[2]),(7,[2]),(8,[2]),(9,[2]),(10,[2]),(11,[2]),(12,[2]),(17,[1])] [(2,[2]),(16,[]),(18,[])] [1,2] [2,16,18] [0,1,3,4,5,6,7,8,9,10,11,12,13,14,15,2,16,17,18] (.to 140 (aP 6 fT.av ([(⟨a2.E,a2.To,a2.Item,a2.aG,a2.bM,x29⟩:fT)]:List fT))<|.as (x26.1.dL.length<=68719476736) inferInstance<|.ge 127 5<|.bl (x26.1.dL++([(⟨a2.E,a2.To,a2.Item,a2.aG,a2.bM,x29⟩:fT)]:List fT):List fT) λx34=>.as (x34.length<=68719476736) inferInstance<|.ge 141 0<|.ret (((⟨x26.1.bH,x26.1.bD,x26.1.bY,x26.1.eF,x34,x26.1.Done⟩:aA):aA),0))))))))))
def aY9 (n:Nat) (a1:aA) (a2:bK):Option (aA×Int):=(a0R n a1 a2).run
theorem a2V {n:Nat} {a1:aA} {a2:bK} {r:aA×Int} (h0:aY9 n a1 a2=some r):PP Tryz.prog 55 [.agg (aA.av a1),.agg (bK.av a2)] (λy=>y=.bC [.agg (aA.av r.1),int r.2]):=by
 refine bU mixed bR (λ(r:aA×Int)=>.bC [.agg (aA.av r.1),int r.2]) h0 Tryz.func55 (λr=>.bC (gD ((λ(a:aA)=>PV.agg (aA.dH a)) (r.1)) (bT (r.2)))) 100000 ?_
 intro v3
 intro v4
 intro v5
 refine .mk _ (eH (CE (cs:=[int a2.E,int a2.To]) (ps:=[(0,_),(1,_)]) rfl Tryz.underlying50 fO z50 rfl (.cons rfl (.cons rfl .nil)) (by kernel_rfl))) ?_
 refine .mk ?_ ?_
 refine .mk ?_
 intro _ _
 refine .mk λx6=>?_
 refine .mk ?_ ?_
 refine .mk λx7 e7=>?_
 refine .mk _ (eH (SX (g:=fI) (l:=([a2.E,a2.To]:List Int)) (v:=x7) (w:=int x7) rfl Tryz.underlying50 fO rfl rfl rfl e7 (λ_=>rfl) hw1)) ?_
 refine .mk λx8 e8=>?_
 refine .mk λx9=>?_
 refine .mk .mk ?_
 refine .mk λx10=>?_
 exact .mk
 exact .mk
 intro _ _
 refine .mk ?_
 refine .mk λx11=>?_
 refine .mk .mk ?_
 refine .mk λx12 e12=>?_
 intro v13
 refine .mk λx14=>?_
 refine .mk .mk ?_
 refine .mk ?_
 refine .mk λx15 e15=>?_
 refine .mk λx16=>?_
 refine .mk λx17 e17=>?_
 refine .mk λx18 e18=>?_
 refine .mk λx19=>?_
 refine .mk λx20 e20=>?_
 refine .mk (λH hH _=>iH (y:=aP 2 aN.av ([x15,x17,x18,x20]:List aN)) (jK (ps:=[(0,_),(1,_),(2,_),(3,_)]) (rows:=[[int x15.dI,int x15.bM],[int x17.dI,int x17.bM],[int x18.dI,int x18.bM],[int x20.dI,int x20.bM]]) rfl Tryz.underlying107 qW (.cons rfl (.cons rfl (.cons rfl (.cons rfl .nil)))) (by kernel_rfl) rfl rfl rfl) rfl) ?_
 refine .mk λx21 e21=>?_
 refine .mk λx22=>?_
 refine .mk λx23 e23=>?_
 refine .mk (λH hH _=>iH (y:=aP 2 aN.av ([x21,x23]:List aN)) (jK (ps:=[(0,_),(1,_)]) (rows:=[[int x21.dI,int x21.bM],[int x23.dI,int x23.bM]]) rfl Tryz.underlying107 qW (.cons rfl (.cons rfl .nil)) (by kernel_rfl) rfl rfl rfl) rfl) ?_
 refine .mk (λH hH _=>iH (y:=aP 2 D3.av ([(⟨a2.E,([x15,x17,x18,x20]:List aN)⟩:D3),(⟨a2.To,([x21,x23]:List aN)⟩:D3)]:List D3)) (jK (ps:=[(0,_),(1,_)]) (rows:=[[int a2.E,aP 2 aN.av ([x15,x17,x18,x20]:List aN)],[int a2.To,aP 2 aN.av ([x21,x23]:List aN)]]) rfl Tryz.underlying171 a04 (.cons rfl (.cons rfl .nil)) (by kernel_rfl) rfl rfl rfl) rfl) ?_
 refine .mk λx24 e24=>?_
 refine .mk λx25=>?_
 refine .mk .mk ?_
 refine .mk λx26 e26=>?_
 refine .mk λx27=>?_
 refine .mk .mk ?_
 refine .mk λx28=>?_
 refine .mk λx29=>?_
 refine .mk ?_ ?_
 refine .mk λx30=>?_
 refine .mk .mk ?_
 refine .mk λx31=>?_
 exact .mk
 intro _ _
 refine .mk .mk ?_
 refine .mk ?_
 refine .mk (λH hH _=>iH (y:=aP 6 fT.av ([(⟨a2.E,a2.To,a2.Item,a2.aG,a2.bM,x29⟩:fT)]:List fT)) (jK (ps:=[(0,_)]) (rows:=[[int a2.E,int a2.To,int a2.Item,int a2.aG,int a2.bM,int x29]]) rfl Tryz.underlying30 aJ6 (.cons rfl .nil) (by kernel_rfl) rfl rfl rfl) rfl) ?_
 refine .mk λp32=>?_
 refine .mk _ ⟨λ_=>mM rfl rfl (.cons rfl .nil) a0Z (nC (a1A (id:=5) (l:=x26.1.dL) rfl p32) (.cons (.refl _) .nil)),by rintro _ _ ⟨v33,rfl,rfl⟩;exact ⟨rfl,trivial⟩⟩ ?_
 rintro _ _ ⟨v33,rfl,rfl⟩
 refine .mk λx34 e34=>?_
 refine .mk λp35=>?_
 refine .mk _ ⟨λ_=>kY (g:=fT.av) (l:=x26.1.dL) (m:=([(⟨a2.E,a2.To,a2.Item,a2.aG,a2.bM,x29⟩:fT)]:List fT)) .any rfl Tryz.underlying30 aJ6 aMA rfl rfl rfl rfl rfl rfl rfl rfl rfl rfl (Eq.symm rfl) (.refl _) (λ_=>rfl) e34 p35,by rintro _ _ ⟨v36,-,rfl,rfl⟩;exact trivial⟩ ?_
 rintro _ _ ⟨v36,-,rfl,rfl⟩
 exact .mk (dX.bC (.cons (dX.agg (.cons (.refl _) (.cons (.refl _) (.cons (.refl _) (.cons (.refl _) (.cons (.refl _) (.cons (.refl _) (.cons (.refl _) (.cons (.refl _) (.cons (gJ rfl rfl rfl rfl rfl (Eq.symm rfl)) (.cons (.refl _) .nil))))))))))) (.cons (.refl _) .nil)))
def aZM (n:Nat) (a1:aA) (a2:bK):WT Tryz.prog (.b (aA×Int)) :=
 .al 1<|.al 2<|.al 3<|.jn 0 [2,3,4,5] [1,2,3] [] (λ_ (a:Bool)=>[(23,aT a)]) (λ_ _=>[]) (.bB 15 (decide (a2.Ref<0)) λx6=>.ifs [15] x6 (.ret true) (.ln 21 fT.av a1.dL<|.bB 22 (decide (a2.Ref>=(a1.dL.length:Int))) λx7=>.ret x7)) (λy0_1=>.ifs [23] y0_1 (.ret ((a1:aA),4)) (.ix 29 fT.av a1.dL a2.Ref λx8=>.al 4<|.cl 36 (JK a1 x8.To x8.Item) aQH aSI λx10=>.bB 38 (decide (x10≠0)) λx11=>.ifs [38] x11 (.ret ((a1:aA),x10)) (.bB 45 (decide (a2.aG>x8.aG)) λx12=>.ifs [45] x12 (.ret ((a1:aA),5)) (.dr [(0,[4]),(1,[4]),(2,[2]),(3,[2]),(4,[4]),(5,[4]),(7,[4]),(8,[4]),(9,[2]),(10,[2]),(11,[4]),(12,[4])] [] [2,4] [] [0,1,2,3,4,5,6,7,8,9,10,11,12,13,14,15] (.cl 53 (qK n x8.Value a2.aG x8.aG) yS yQ λx13=>.cl 60 (qK n x8.bO a2.aG x8.aG) yS yQ λx14=>.cl 74 (aD3 n a1 x8.To x8.Item a2.Loc (⟨a2.aG,x13,x14⟩:aB)) a0W aZQ λx15=>.bB 80 (decide (x15.2.2.2≠0)) λx16=>.ifs [80] x16 (.ret ((x15.1:aA),x15.2.2.2)) (.dr [(0,[1]),(1,[4]),(2,[4])] [(17,[])] [1,4] [17] [0,1,2,3,4,5,6,7,8,9,10,11,12,13,14,15,16,17,18] (.cl 88 (aDB 0 x15.2.1) a06 aH5 λx17=>.cl 90 (aDB 6 x15.2.2.1) a06 aH5 λx18=>.bI 92 (bA (0-x13)) λx19=>.cl 93 (aDB 12 x19) a06 aH5 λx20=>.to 94 (aP 2 aN.av ([x17,x18,x20]:List aN))<|.to 96 (aP 2 D3.av ([(⟨x8.To,([x17,x18,x20]:List aN)⟩:D3)]:List D3))<|.cl 97 (aID n x15.1 ([(⟨x8.To,([x17,x18,x20]:List aN)⟩:D3)]:List D3)) a00 a0H λx21=>.bB 101 (decide (x21.2≠0)) λx22=>.ifs [101] x22 (.ret ((x21.1:aA),x21.2)) (.cl 112 (yC x21.1 x8.To x8.Item (⟨0,0,0,x15.2.1,0,0,0,0,0,0,0⟩:cO)) aTZ aS2 λx23=>.bB 116 (decide (x23.2≠0)) λx24=>.ifs [116] x24 (.ret ((x23.1:aA),x23.2)) (.as (x23.1.dL.length<=68719476736) inferInstance<|.ge 121 5<|.dr [(0,[1]),(1,[1]),(2,[2]),(3,[2]),(4,[1]),(5,[1]),(6,[2]),(7,[2]),(8,[1]),(9,[1]),(10,[2]),(11,[2]),(12,[4]),(13,[4]),(14,[2]),(15,[2]),(17,[4]),(18,[4]),(21,[4]),(22,[4]),(25,[5]),(26,[5]),(28,[5]),(29,[5]),(31,[5]),(32,[5])] [(27,[1,2,4]),(30,[1,2,4]),(33,[])] [1,2,4,5] [27,30,33] [0,1,2,3,4,5,6,7,8,9,10,11,12,13,14,15,16,17,18,19,20,21,22,23,24,25,26,27,28,29,30,31,32,33] (.bI 139 (bA (x8.aG-a2.aG)) λx27=>.bI 143 (bA (x8.Value-x13)) λx28=>.bI 147 (bA (x8.bO-x14)) λx29=>.bo (ix x23.1.dL a2.Ref) λx30=>.gv 148<|.gv 149<|.bl (x23.1.dL.set (Int.toNat a2.Ref) ((⟨x30.rZ,x30.To,x30.Item,x27,x30.Value,x30.bO⟩:fT):fT):List fT) λx31=>.ge 1020027 0<|.gv 150<|.gv 151<|.bl (x31.set (Int.toNat a2.Ref) ((⟨x30.rZ,x30.To,x30.Item,x27,x28,x30.bO⟩:fT):fT):List fT) λx32=>.ge 1020030 0<|.gv 152<|.gv 153<|.bl (x32.set (Int.toNat a2.Ref) ((⟨x30.rZ,x30.To,x30.Item,x27,x28,x29⟩:fT):fT):List fT) λx33=>.ge 1020033 0<|.ret (((⟨x23.1.bH,x23.1.bD,x23.1.bY,x23.1.eF,x33,x23.1.Done⟩:aA):aA),0)))))))))))
def aYZ (n:Nat) (a1:aA) (a2:bK):Option (aA×Int):=(aZM n a1 a2).run
theorem a1R {n:Nat} {a1:aA} {a2:bK} {r:aA×Int} (h0:aYZ n a1 a2=some r):PP Tryz.prog 56 [.agg (aA.av a1),.agg (bK.av a2)] (λy=>y=.bC [.agg (aA.av r.1),int r.2]):=by
 refine bU mixed bR (λ(r:aA×Int)=>.bC [.agg (aA.av r.1),int r.2]) h0 Tryz.func56 (λr=>.bC (gD ((λ(a:aA)=>PV.agg (aA.dH a)) (r.1)) (bT (r.2)))) 100000 ?_
 intro v3
 intro v4
 intro v5
 refine .mk ?_ ?_
 refine .mk λx6=>?_
 refine .mk .mk ?_
 refine .mk ?_
 refine .mk λx7=>?_
 exact .mk
 intro _ _
 refine .mk .mk ?_
 refine .mk λx8 e8=>?_
 intro v9
 refine .mk λx10 e10=>?_
 refine .mk λx11=>?_
 refine .mk .mk ?_
 refine .mk λx12=>?_
 refine .mk .mk ?_
 refine .mk ?_
 refine .mk λx13 e13=>?_
 refine .mk λx14 e14=>?_
 refine .mk λx15 e15=>?_
 refine .mk λx16=>?_
 refine .mk .mk ?_
 refine .mk ?_
 refine .mk λx17 e17=>?_
 refine .mk λx18 e18=>?_
 refine .mk λx19=>?_
 refine .mk λx20 e20=>?_
 refine .mk (λH hH _=>iH (y:=aP 2 aN.av ([x17,x18,x20]:List aN)) (jK (ps:=[(0,_),(1,_),(2,_)]) (rows:=[[int x17.dI,int x17.bM],[int x18.dI,int x18.bM],[int x20.dI,int x20.bM]]) rfl Tryz.underlying107 qW (.cons rfl (.cons rfl (.cons rfl .nil))) (by kernel_rfl) rfl rfl rfl) rfl) ?_
 refine .mk (λH hH _=>iH (y:=aP 2 D3.av ([(⟨x8.To,([x17,x18,x20]:List aN)⟩:D3)]:List D3)) (jK (ps:=[(0,_)]) (rows:=[[int x8.To,aP 2 aN.av ([x17,x18,x20]:List aN)]]) rfl Tryz.underlying171 a04 (.cons rfl .nil) (by kernel_rfl) rfl rfl rfl) rfl) ?_
 refine .mk λx21 e21=>?_
 refine .mk λx22=>?_
 refine .mk .mk ?_
 refine .mk λx23 e23=>?_
 refine .mk λx24=>?_
 refine .mk .mk ?_
 refine .mk λp25=>?_
 refine .mk _ ⟨λ_=>mM rfl rfl (.cons rfl .nil) a0Z (nC (a1A (id:=5) (l:=x23.1.dL) rfl p25) (.cons (.refl _) .nil)),λ_ _ _=>trivial⟩ ?_
 rintro _ _ ⟨v26,rfl,rfl⟩
 refine .mk ?_
 refine .mk λx27=>?_
 refine .mk λx28=>?_
 refine .mk λx29=>?_
 refine .mk λx30 e30=>?_
 refine .mk _ (λH hH _=>iL rfl Tryz.underlying30 NM rfl rfl ((hH _ (by decide)).trans rfl) rfl rfl (Eq.symm rfl) (List.length_map _) e30) ?_
 refine .mk _ (λH hH _=>gN rfl aLD rfl (.pt ((hH _ (by decide)).trans rfl) rfl (fM e30)) (.pt _ _ _ _ _)) ?_
 refine .mk λx31 e31=>?_
 have fx31:=j6 e30 e31;have lx31:=jX e31 (rfl:x23.1.dL.length=x23.1.dL.length)
 refine .mk _ ⟨λ_=>eO.gK (iQ (ob':=(⟨73,6,true,true,_,x31.map fT.av⟩:cB)) (iG rfl fO rfl rfl rfl rfl rfl (fM e30) rfl rfl rfl) (jJ (kL e31))) (λ_ h=>h) (λ_ _=>trivial),by rintro _ _ ⟨rfl,rfl⟩;exact ⟨rfl,rfl,rfl,trivial⟩⟩ ?_
 rintro _ _ ⟨rfl,rfl⟩
 refine .mk _ (λH hH _=>iL rfl Tryz.underlying30 NM rfl rfl ((hH _ (by decide)).trans rfl) rfl rfl (Eq.symm lx31) (List.length_map _) fx31) ?_
 refine .mk _ (λH hH _=>gN rfl aO5 rfl (.pt ((hH _ (by decide)).trans rfl) rfl (fM fx31)) (.pt _ _ _ _ _)) ?_
 refine .mk λx32 e32=>?_
 have fx32:=j6 fx31 e32;have lx32:=jX e32 lx31
 refine .mk _ ⟨λ_=>eO.gK (iQ (ob':=(⟨73,6,true,true,_,x32.map fT.av⟩:cB)) (iG rfl fO rfl rfl rfl rfl rfl (fM fx31) rfl rfl rfl) (jJ (kL e32))) (λ_ h=>h) (λ_ _=>trivial),by rintro _ _ ⟨rfl,rfl⟩;exact ⟨rfl,rfl,rfl,trivial⟩⟩ ?_
 rintro _ _ ⟨rfl,rfl⟩
 refine .mk _ (λH hH _=>iL rfl Tryz.underlying30 NM rfl rfl ((hH _ (by decide)).trans rfl) rfl rfl (Eq.symm lx32) (List.length_map _) fx32) ?_
 refine .mk _ (λH hH _=>gN rfl aLN rfl (.pt ((hH _ (by decide)).trans rfl) rfl (fM fx32)) (.pt _ _ _ _ _)) ?_
 refine .mk λx33 e33=>?_
 have fx33:=j6 fx32 e33;have lx33:=jX e33 lx32
 refine .mk _ ⟨λ_=>eO.gK (iQ (ob':=(⟨73,6,true,true,_,x33.map fT.av⟩:cB)) (iG rfl fO rfl rfl rfl rfl rfl (fM fx32) rfl rfl rfl) (jJ (kL e33))) (λ_ h=>h) (λ_ _=>trivial),by rintro _ _ ⟨rfl,rfl⟩;exact trivial⟩ ?_
 rintro _ _ ⟨rfl,rfl⟩
 exact .mk (dX.bC (.cons (dX.agg (.cons (.refl _) (.cons (.refl _) (.cons (.refl _) (.cons (.refl _) (.cons (.refl _) (.cons (.refl _) (.cons (.refl _) (.cons (.refl _) (.cons (gJ rfl rfl rfl rfl rfl (Eq.symm lx33)) (.cons (.refl _) .nil))))))))))) (.cons (.refl _) .nil)))
def aZP (n:Nat) (a1:aA) (a2:bK):WT Tryz.prog (.b (aA×Int)) :=
 .al 1<|.al 2<|.al 3<|.al 4<|.jn 1 [2,4,5,6] [1,3] [] (λ_ (a:Int×aA)=>[(7,int a.1)]) (λ_ a=>[.kp 4 [(aA.av a.2)]]) (.bB 12 (decide (a2.Kind=12)) λx7=>.ifs [12] x7 (.cl 16 (aY9 n a1 a2) a09 a2V λx8=>.ret ((x8.2:Int),x8.1)) (.bB 20 (decide (a2.Kind=13)) λx9=>.ifs [20] x9 (.cl 24 (aYZ n a1 a2) a0Y a1R λx10=>.ret ((x10.2:Int),x10.1)) (.ret ((1:Int),a1)))) (pw λy0_1 y0_2=>.bB 28 (decide (y0_1≠0)) λx11=>.ifs [28] x11 (.ret ((a1:aA),y0_1)) (.ret ((y0_2:aA),0)))
def aX2 (n:Nat) (a1:aA) (a2:bK):Option (aA×Int):=(aZP n a1 a2).run
theorem aYA {n a1 a2 r} (h0:aX2 n a1 a2=some r):PP Tryz.prog 23 [.agg (aA.av a1),.agg (bK.av a2)] (λy=>y=.bC [.agg (aA.av r.1),int r.2]) :=
 bU mixed bR (λr:aA×Int=>.bC [.agg (aA.av r.1),int r.2]) h0 Tryz.func23 (λr=>.bC (gD ((λ(a:aA)=>PV.agg (aA.dH a)) (r.1)) (bT (r.2)))) 100000 au
def a1K (n:Nat) :WT Tryz.prog (.b (Bool)) :=
 .cl 8 (a0S n 1 3 30) a01 a1J λx1=>.cl 10 (aX2 n x1 (⟨12,0,1,0,1,3,50,0,[]⟩:bK)) a08 aYA λx2=>.al 1<|.cl 16 (aX2 n x2.1 (⟨13,0,0,1,0,3,0,0,[]⟩:bK)) a08 aYA λx4=>.al 2<|.cl 22 (aX2 n x4.1 (⟨13,0,0,0,0,1,0,0,[]⟩:bK)) a08 aYA λx6=>.al 3<|.jn 0 [] [] [] (λ_ (a:Bool)=>[(0,aT a)]) (λ_ _=>[]) (.bB 26 (decide (x2.2=0)) λx8=>.ifs [26] x8 (.ln 30 fT.av x2.1.dL<|.bB 31 (decide ((x2.1.dL.length:Int)=1)) λx9=>.ifs [31] x9 (.ix 36 fT.av x2.1.dL 0 λx10=>.bB 39 (decide (x10.bO=20)) λx11=>.ifs [39] x11 (.bB 43 (decide (x4.2=0)) λx12=>.ifs [43] x12 (.cl 47 (wF n x4.1 1 1) KM LG λx13=>.bB 49 (decide (x13.bO=20)) λx14=>.ifs [49] x14 (.bB 53 (decide (x6.2=5)) λx15=>.ifs [53] x15 (.ln 58 aQ.av x4.1.bD<|.bB 59 (decide ((x4.1.bD.length:Int)=2)) λx16=>.ifs [59] x16 (.iF 64 aQ.av gE aQ.fF x4.1.bD 1 λx17=>.ix 67 fI x17.dR 12 λx18=>.bB 69 (decide (x18=0)) λx19=>.ret x19) (.ret false)) (.ret false)) (.ret false)) (.ret false)) (.ret false)) (.ret false)) (.ret false)) (λy0_1=>.ret ((y0_1:Bool)))
def aX9 (n:Nat) :Option (Bool):=(a1K n ).run
theorem aYW {n r} (h0:aX9 n =some r):PP Tryz.prog 21 [] (λy=>y=aT r) :=
 bU mixed bR (λr:Bool=>aT r) h0 Tryz.func21 (λr=>gF r) 100000 au
def aZW (n:Nat) (a1:aA) (a2:bK):WT Tryz.prog (.b (Bool)) :=
 .al 1<|.al 2<|.cl 12 (aX2 n a1 a2) a08 aYA λx5=>.al 3<|.cl 18 (KL n a1 a2) aG4 aRW λx7=>.al 4<|.jn 0 [] [] [] (λ_ (a:Bool)=>[(4,aT a)]) (λ_ _=>[]) (.cl 23 (yZ n x5.1 x7.1) aFW aFD λx9=>.ifs [23] x9 (.bB 27 (decide (x5.2=x7.2)) λx10=>.ifs [27] x10 (.bB 31 (decide (x5.2=0)) λx11=>.ifs [31] x11 (.cl 40 (B8 n x5.1) aAE UJ λx12=>.ret x12) (.cl 35 (yZ n x5.1 a1) aFW aFD λx13=>.ifs [35] x13 (.cl 40 (B8 n x5.1) aAE UJ λx14=>.ret x14) (.ret false))) (.ret false)) (.ret false)) (λy0_1=>.ret ((y0_1:Bool)))
def aYF (n:Nat) (a1:aA) (a2:bK):Option (Bool):=(aZW n a1 a2).run
theorem aZ2 {n a1 a2 r} (h0:aYF n a1 a2=some r):PP Tryz.prog 22 [.agg (aA.av a1),.agg (bK.av a2)] (λy=>y=aT r) :=
 bU mixed bR (λr:Bool=>aT r) h0 Tryz.func22 (λr=>gF r) 100000 au
def a1H (n:Nat) (a1:Int) (a2:List Int) (a3:Int) (a4:Int):WT Tryz.prog (.b (Bool)) :=
 .cl 13 (MX n a1) aO9 aPM λx5=>.al 1<|.cl 16 (KV n x5 a2) aVK aVX λx7=>.al 2<|.cl 20 (aYO n x5 a3 a4) a1B a0J λx9=>.al 3<|.cl 22 (wI n x9) OW R6 λx11=>.bB 23 (!x11) λx12=>.ifs [23] x12 (.cl 24 (aX9 n) a03 aYW λx13=>.ret ((x13:Bool))) (.jn 1 [] [] [] (λ_ (a:Bool)=>[(8,aT a)]) (λ_ _=>[]) (.cl 27 (aYF n x7 x9) a02 aZ2 λx14=>.ifs [27] x14 (.cl 29 (aX9 n) a03 aYW λx15=>.ret x15) (.ret false)) (λy0_1=>.ret ((y0_1:Bool))))
def aZI (n:Nat) (a1:Int) (a2:List Int) (a3:Int) (a4:Int):Option (Bool):=(a1H n a1 a2 a3 a4).run
theorem a2F {n a1 a2 a3 a4 r} (h0:aZI n a1 a2 a3 a4=some r):PP Tryz.prog 5 [int a1,aP 1 fI a2,int a3,int a4] (λy=>y=aT r) :=
 bU mixed bR (λr:Bool=>aT r) h0 Tryz.func5 (λr=>gF r) 100000 au
def a2C (n:Nat) (a1:Int) (a2:List Int) (a3:List Int):WT Tryz.prog (.b (Bool)) :=
 .cl 12 (MX n a1) aO9 aPM λx4=>.al 1<|.cl 15 (KV n x4 a2) aVK aVX λx6=>.al 2<|.fD 1 [6] [] [] (λ_ (a:Unit)=>[]) (λ_ _=>[]) (.lp [2,6,7,8] [1] [] (λ_ (a:Int×aA)=>[(9,int a.1)]) (λ_ a=>[.kp 2 [(aA.av a.2)]]) n ((0:Int),x6) (pw λy0_1 y0_2=>.jn 0 [2,6,7,8,9] [1,2] [] (λ_ (a:Bool)=>[(23,aT a)]) (λ_ _=>[]) (.ln 18 fI a3<|.bB 19 (decide (y0_1<(a3.length:Int))) λx8=>.ifs [19] x8 (.bB 22 (decide (y0_1<25)) λx9=>.ret x9) (.ret false)) (λy1_1=>.ifs [23] y1_1 (.fD 1 [2,6,7,8,9] [1] [] (λ_ (a:aA)=>[]) (λ_ a=>[.kp 2 [(aA.av a)]]) (.dr [(0,[1])] [(7,[])] [1] [6,7] [0,1,2,3,4,5,6,7] (.ix 29 fI a3 y0_1 λx10=>.cl 31 (aYO n x4 x10 9) a1B a0J λx11=>.al 3<|.ix 34 fI a3 y0_1 λx13=>.bI 36 (x13.tmod 4) λx14=>.bB 37 (decide (x14=0)) λx15=>.ifs [37] x15 (.dr [(0,[1])] [(6,[])] [1] [6] [0,1,2,3,4,5,6] (.ix 41 fI a3 y0_1 λx16=>.cl 43 (zN x4 x16) PS S7 λx17=>.cl 47 (KJ n y0_2 x17) aRR aJQ λx18=>.brk x18.1)) (.jn 1 [2,6,7,8,9,10] [1,2,3] [] (λ_ (a:Bool)=>[(58,aT a)]) (λ_ _=>[]) (.cl 51 (wI n x11) OW R6 λx19=>.bB 52 (!x19) λx20=>.ifs [52] x20 (.ret true) (.cl 56 (aYF n y0_2 x11) a02 aZ2 λx21=>.bB 57 (!x21) λx22=>.ret x22)) (λy2_1=>.ifs [58] y2_1 (.jn 1 [2,7,8,9,10] [1,2,3] [] (λ_ (a:Bool)=>[(6,aT a)]) (λ_ _=>[]) (.cl 60 (wI n x11) OW R6 λx23=>.bB 61 (!x23) λx24=>.ifs [61] x24 (.cl 63 (aX9 n) a03 aYW λx25=>.ret x25) (.ret false)) (λy3_1=>.esc (.esc (.esc (.ret ((y3_1:Bool))))))) (.cl 68 (aX2 n y0_2 x11) a08 aYA λx26=>.brk x26.1))))) (λy4_1=>.bI 25 (bA (y0_1+1)) λx27=>.brk ((x27:Int),y4_1))) (.esc (.brk ()))))) (λ_=>.cl 71 (aX9 n) a03 aYW λx28=>.ret ((x28:Bool)))
def a1T (n:Nat) (a1:Int) (a2:List Int) (a3:List Int):Option (Bool):=(a2C n a1 a2 a3).run
theorem a2X {n a1 a2 a3 r} (h0:a1T n a1 a2 a3=some r):PP Tryz.prog 6 [int a1,aP 1 fI a2,aP 1 fI a3] (λy=>y=aT r) :=
 bU mixed bR (λr:Bool=>aT r) h0 Tryz.func6 (λr=>gF r) 100000 au
end
end Go.Pv
