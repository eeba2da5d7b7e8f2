import Derived.Test.YtfbohcojaajpfaaGreatX70d
set_option linter.unusedVariables false
set_option linter.unusedSimpArgs false
namespace Go.Pv
open Go.Proofs
set_option maxRecDepth 100000
set_option maxHeartbeats 4000000
noncomputable section
noncomputable def t_ref10_In (n:Nat) (a1:List GLayer) (a2:GLayer):WT Tryz.prog (.b ((List GLayer)×Int)) :=
 .al 1<|
 .jn 0 [0,3,4,5] [1] [] (fun _ (a:Bool)=>[(16,boo a)]) (fun _ _=>[]) (.bB 11 (decide (a2.Qty<1)) fun x4 =>
 .ifs [11] x4 (.ret (true:Bool)) (.bB 15 (decide (a2.Value<0)) fun x5 =>
 .ret x5))
  (fun y0_1 =>
 .ifs [16] y0_1 (.ret ((a1:List GLayer),(1:Int))) (.dr [(2,[1])] [(4,[])] [1] [1,4] [0,2,3,1,4,5] (.gv 21<|
 .as (a1.length≤68719476736) inferInstance<|
 .ge 19<|
 .bl (a1++([a2]:List GLayer):List GLayer) fun x8 =>
 .as (x8.length≤68719476736) inferInstance<|
 .ge 22<|
 .clT 24 (d_ref09_Right n x8) cal253 d_ref09_Right_c (fun _=>rfl) fun x11 =>
 .bB 25 (!x11) fun x12 =>
 .ifs [25] x12 (.ret ((a1:List GLayer),(2:Int))) (.clT 29 (d_ref09_Total n x8) cal225 d_ref09_Total_c (fun _=>rfl) fun x13 =>
 .al 3<|
 .gv 33<|
 .ret ((([x13.1]:List GLayer):List GLayer),(0:Int))))))
def d_ref10_In (n:Nat) (a1:List GLayer) (a2:GLayer):Option ((List GLayer)×Int):=(t_ref10_In n a1 a2).run
theorem d_ref10_In_c {n:Nat} {a1:List GLayer} {a2:GLayer} {r:(List GLayer)×Int} (h0:d_ref10_In n a1 a2=some r):PP Tryz.prog 247 [lst 3 GLayer.av a1,.agg (GLayer.av a2)] (fun y=>y=.tup [lst 3 GLayer.av r.1,int r.2]):=by
 refine wt_pp mixed tbk (fun (r:(List GLayer)×Int)=>.tup [lst 3 GLayer.av r.1,int r.2]) h0 Tryz.func247 (fun r=>.tup (pvl2 ((pvLs GLayer.pvc) (r.1)) (pvI (r.2)))) 100000 ?_
 intro v3
 conv=>whnf
 refine .mk ?_ ?_
 conv=>whnf
 refine .mk fun x4=>?_
 refine .mk .mk ?_
 conv=>whnf
 refine .mk fun x5=>?_
 exact .mk
 intro _ _
 refine .mk .mk ?_
 refine .mk ?_
 conv=>whnf
 refine .mk _ (fun H hH _=>yv_to (y:=lst 3 GLayer.av ([a2]:List GLayer)) (yv_buildSlice (ps:=[(0,_)]) (rows:=[[int a2.Qty,int a2.Value,int a2.Profit]]) rfl Tryz.underlying54 bz53 (.cons rfl .nil) (by kernel_rfl) rfl rfl rfl) rfl) ?_
 conv=>whnf
 refine .mk fun p6=>?_
 conv=>whnf
 refine .mk _ ⟨fun _=>yl_app0T (g:=GLayer.av) (m:=a1) 2 rfl Tryz.underlying54 bz53 by53 rfl rfl rfl rfl (.refl _) (fun _=>rfl) p6,by rintro _ _ ⟨v7,rfl,rfl⟩;exact ⟨rfl,trivial⟩⟩ ?_
 rintro _ _ ⟨v7,rfl,rfl⟩
 conv=>whnf
 refine .mk fun x8 e8=>?_
 conv=>whnf
 refine .mk fun p9=>?_
 conv=>whnf
 refine .mk _ ⟨fun _=>yl_appT (g:=GLayer.av) (l:=a1) (m:=([a2]:List GLayer)) .any rfl Tryz.underlying54 bz53 by53 rfl rfl rfl rfl rfl rfl rfl rfl rfl rfl (Eq.symm rfl) (.refl _) (fun _=>rfl) e8 p9,by rintro _ _ ⟨v10,-,rfl,rfl⟩;exact trivial⟩ ?_
 rintro _ _ ⟨v10,-,rfl,rfl⟩
 conv=>whnf
 refine .mk (fun x11 e11=>?_) rfl (by rintro _ rfl;exact (.cons (cv_lst rfl rfl rfl rfl rfl (Eq.symm rfl)) .nil))
 conv=>whnf
 refine .mk fun x12=>?_
 refine .mk .mk ?_
 conv=>whnf
 refine .mk (fun x13 e13=>?_) rfl (by rintro _ rfl;exact (.cons (cv_lst rfl rfl rfl rfl rfl (Eq.symm rfl)) .nil))
 intro v14
 conv=>whnf
 refine .mk _ (agr (yv_to (y:=lst 3 GLayer.av ([x13.1]:List GLayer)) (yv_buildSlice (ps:=[(0,_)]) (rows:=[[int x13.1.Qty,int x13.1.Value,int x13.1.Profit]]) rfl Tryz.underlying54 bz53 (.cons rfl .nil) (by kernel_rfl) rfl rfl rfl) rfl)) ?_
 exact .mk
noncomputable def t_ref11_In (n:Nat) (a1:GPool) (a2:GLayer):WT Tryz.prog (.b (GPool×Int)) :=
 .al 1<|
 .al 2<|
 .al 3<|
 .cl 12 (d_ref10_In n a1.Layers a2) cal247 d_ref10_In_c fun x6 =>
 .bB 16 (decide (x6.2≠0)) fun x7 =>
 .ifs [16] x7 (.ret ((a1:GPool),(x6.2:Int))) (.ret (((⟨x6.1,a1.Pend⟩:GPool):GPool),(0:Int)))
def d_ref11_In (n:Nat) (a1:GPool) (a2:GLayer):Option (GPool×Int):=(t_ref11_In n a1 a2).run
theorem d_ref11_In_c {n:Nat} {a1:GPool} {a2:GLayer} {r:GPool×Int} (h0:d_ref11_In n a1 a2=some r):PP Tryz.prog 248 [.agg (GPool.av a1),.agg (GLayer.av a2)] (fun y=>y=.tup [.agg (GPool.av r.1),int r.2]):=by
 refine wt_pp mixed tbk (fun (r:GPool×Int)=>.tup [.agg (GPool.av r.1),int r.2]) h0 Tryz.func248 (fun r=>.tup (pvl2 ((fun (a:GPool)=>PV.agg (GPool.pvc a)) (r.1)) (pvI (r.2)))) 100000 ?_
 intro v3
 intro v4
 intro v5
 conv=>whnf
 refine .mk fun x6 e6=>?_
 conv=>whnf
 refine .mk fun x7=>?_
 refine .mk .mk ?_
 exact .mk
noncomputable def t_ref12_worth (n:Nat) (a1:Int) (a2:Int):WT Tryz.prog (.b (Int×Bool)) :=
 .cl 12 (d_ref01_MulDiv n a1 a2 1) cal234 d_ref01_MulDiv_c fun x3 =>
 .bB 18 (decide (x3.2.2=0)) fun x4 =>
 .ret ((x3.1:Int),x4)
def d_ref12_worth (n:Nat) (a1:Int) (a2:Int):Option (Int×Bool):=(t_ref12_worth n a1 a2).run
theorem d_ref12_worth_c {n:Nat} {a1:Int} {a2:Int} {r:Int×Bool} (h0:d_ref12_worth n a1 a2=some r):PP Tryz.prog 252 [int a1,int a2] (fun y=>y=.tup [int r.1,boo r.2]):=by
 refine wt_pp mixed tbk (fun (r:Int×Bool)=>.tup [int r.1,boo r.2]) h0 Tryz.func252 (fun r=>.tup (pvl2 (pvI (r.1)) (pvB (r.2)))) 100000 ?_
 conv=>whnf
 refine .mk fun x3 e3=>?_
 conv=>whnf
 refine .mk fun x4=>?_
 exact .mk
noncomputable def t_ref12_In (n:Nat) (a1:List GLayer) (a2:GLayer) (a3:Int):WT Tryz.prog (.b ((List GLayer)×Int×Int)) :=
 .al 1<|
 .jn 0 [0,2,4,6,7,8] [1] [] (fun _ (a:Bool)=>[(28,boo a)]) (fun _ _=>[]) (.bB 14 (decide (a3<0)) fun x5 =>
 .ifs [14] x5 (.ret (true:Bool)) (.bB 17 (decide (a3>1073741824)) fun x6 =>
 .ifs [17] x6 (.ret (true:Bool)) (.bB 22 (decide (a2.Qty<1)) fun x7 =>
 .ifs [22] x7 (.ret (true:Bool)) (.bB 27 (decide (a2.Value<0)) fun x8 =>
 .ret x8))))
  (fun y0_1 =>
 .ifs [28] y0_1 (.ret ((a1:List GLayer),(0:Int),(1:Int))) (.cl 34 (d_ref12_worth n a2.Qty a3) cal252 d_ref12_worth_c fun x9 =>
 .jn 0 [0,4,6,7,8,9] [1] [] (fun _ (a:Bool)=>[(43,boo a)]) (fun _ _=>[]) (.bB 38 (!x9.2) fun x10 =>
 .ifs [38] x10 (.ret (true:Bool)) (.bB 42 (decide (a2.Value>288230376151711744)) fun x11 =>
 .ret x11))
  (fun y1_1 =>
 .ifs [43] y1_1 (.ret ((a1:List GLayer),(0:Int),(2:Int))) (.cl 53 (d_ref10_In n a1 (⟨a2.Qty,x9.1,a2.Profit⟩:GLayer)) cal247 d_ref10_In_c fun x12 =>
 .bB 57 (decide (x12.2≠0)) fun x13 =>
 .ifs [57] x13 (.ret ((a1:List GLayer),(0:Int),(x12.2:Int))) (.dr [(1,[1]),(2,[1])] [] [1] [] [0,1,2,3,4,5,6,7] (.bI 64 (w64 (a2.Value-x9.1)) fun x14 =>
 .ret ((x12.1:List GLayer),x14,(0:Int))))))))
def d_ref12_In (n:Nat) (a1:List GLayer) (a2:GLayer) (a3:Int):Option ((List GLayer)×Int×Int):=(t_ref12_In n a1 a2 a3).run
theorem d_ref12_In_c {n:Nat} {a1:List GLayer} {a2:GLayer} {a3:Int} {r:(List GLayer)×Int×Int} (h0:d_ref12_In n a1 a2 a3=some r):PP Tryz.prog 249 [lst 3 GLayer.av a1,.agg (GLayer.av a2),int a3] (fun y=>y=.tup [lst 3 GLayer.av r.1,int r.2.1,int r.2.2]):=by
 refine wt_pp mixed tbk (fun (r:(List GLayer)×Int×Int)=>.tup [lst 3 GLayer.av r.1,int r.2.1,int r.2.2]) h0 Tryz.func249 (fun r=>.tup (pvl3 ((pvLs GLayer.pvc) (r.1)) (pvI (r.2.1)) (pvI (r.2.2)))) 100000 ?_
 intro v4
 conv=>whnf
 refine .mk ?_ ?_
 conv=>whnf
 refine .mk fun x5=>?_
 refine .mk .mk ?_
 conv=>whnf
 refine .mk fun x6=>?_
 refine .mk .mk ?_
 conv=>whnf
 refine .mk fun x7=>?_
 refine .mk .mk ?_
 conv=>whnf
 refine .mk fun x8=>?_
 exact .mk
 intro _ _
 refine .mk .mk ?_
 conv=>whnf
 refine .mk fun x9 e9=>?_
 conv=>whnf
 refine .mk ?_ ?_
 conv=>whnf
 refine .mk fun x10=>?_
 refine .mk .mk ?_
 conv=>whnf
 refine .mk fun x11=>?_
 exact .mk
 intro _ _
 refine .mk .mk ?_
 conv=>whnf
 refine .mk fun x12 e12=>?_
 conv=>whnf
 refine .mk fun x13=>?_
 refine .mk .mk ?_
 refine .mk ?_
 conv=>whnf
 refine .mk fun x14=>?_
 exact .mk
noncomputable def t_ref13_In (n:Nat) (a1:Int) (a2:Int) (a3:GPool) (a4:GLayer):WT Tryz.prog (.b (GPool×Int×Int)) :=
 .al 1<|
 .al 2<|
 .al 3<|
 .al 4<|
 .jn 2 [6,8,9,10,11] [1,3] [] (fun _ (a:Int×Int×GPool)=>[(12,int a.1),(13,int a.2.1)]) (fun _ a=>[.kp 4 [[lst 3 GLayer.av a.2.2.Layers,int a.2.2.Pend.a0,int a.2.2.Pend.a1,int a.2.2.Pend.a2]]]) (.bB 17 (decide (a1=1)) fun x9 =>
 .ifs [17] x9 (.cl 22 (d_ref09_In n a3.Layers a4) cal246 d_ref09_In_c fun x10 =>
 .ret ((0:Int),(x10.2:Int),((⟨x10.1,a3.Pend⟩:GPool):GPool))) (.bB 27 (decide (a1=2)) fun x11 =>
 .ifs [27] x11 (.cl 32 (d_ref10_In n a3.Layers a4) cal247 d_ref10_In_c fun x12 =>
 .ret ((0:Int),(x12.2:Int),((⟨x12.1,a3.Pend⟩:GPool):GPool))) (.bB 37 (decide (a1=3)) fun x13 =>
 .ifs [37] x13 (.cl 41 (d_ref11_In n a3 a4) cal248 d_ref11_In_c fun x14 =>
 .ret ((0:Int),(x14.2:Int),(x14.1:GPool))) (.bB 45 (decide (a1=4)) fun x15 =>
 .ifs [45] x15 (.cl 51 (d_ref12_In n a3.Layers a4 a2) cal249 d_ref12_In_c fun x16 =>
 .ret ((x16.2.1:Int),(x16.2.2:Int),((⟨x16.1,a3.Pend⟩:GPool):GPool))) (.ret ((0:Int),(12:Int),(a3:GPool)))))))
  (pw fun y0_1 q0=>(pw fun y0_2 y0_3 =>
 .bB 57 (decide (y0_2≠0)) fun x17 =>
 .ifs [57] x17 (.ret ((a3:GPool),(0:Int),y0_2)) (.ret (y0_3,y0_1,(0:Int)))) q0)
def d_ref13_In (n:Nat) (a1:Int) (a2:Int) (a3:GPool) (a4:GLayer):Option (GPool×Int×Int):=(t_ref13_In n a1 a2 a3 a4).run
theorem d_ref13_In_c {n:Nat} {a1:Int} {a2:Int} {a3:GPool} {a4:GLayer} {r:GPool×Int×Int} (h0:d_ref13_In n a1 a2 a3 a4=some r):PP Tryz.prog 226 [int a1,int a2,.agg (GPool.av a3),.agg (GLayer.av a4)] (fun y=>y=.tup [.agg (GPool.av r.1),int r.2.1,int r.2.2]):=by
 refine wt_pp mixed tbk (fun (r:GPool×Int×Int)=>.tup [.agg (GPool.av r.1),int r.2.1,int r.2.2]) h0 Tryz.func226 (fun r=>.tup (pvl3 ((fun (a:GPool)=>PV.agg (GPool.pvc a)) (r.1)) (pvI (r.2.1)) (pvI (r.2.2)))) 100000 ?_
 intro v5
 intro v6
 intro v7
 intro v8
 conv=>whnf
 refine .mk ?_ ?_
 conv=>whnf
 refine .mk fun x9=>?_
 conv=>whnf
 refine .mk ?_ ?_
 conv=>whnf
 refine .mk fun x10 e10=>?_
 exact .mk
 conv=>whnf
 refine .mk fun x11=>?_
 conv=>whnf
 refine .mk ?_ ?_
 conv=>whnf
 refine .mk fun x12 e12=>?_
 exact .mk
 conv=>whnf
 refine .mk fun x13=>?_
 conv=>whnf
 refine .mk ?_ ?_
 conv=>whnf
 refine .mk fun x14 e14=>?_
 exact .mk
 conv=>whnf
 refine .mk fun x15=>?_
 conv=>whnf
 refine .mk ?_ ?_
 conv=>whnf
 refine .mk fun x16 e16=>?_
 exact .mk
 conv=>whnf
 exact .mk
 intro _ _
 conv=>whnf
 refine .mk fun x17=>?_
 refine .mk .mk ?_
 exact .mk
noncomputable def t_ref14_Bring (n:Nat) (a1:GState) (a2:Int) (a3:Int) (a4:Int) (a5:GLayer):WT Tryz.prog (.b (GState×Int×Int×Int)) :=
 .al 1<|
 .al 2<|
 .al 3<|
 .jn 0 [1,2,3,5,9,10,11,12,13] [1,2,3] [] (fun _ (a:Bool)=>[(29,boo a)]) (fun _ _=>[]) (.cl 23 (d_ref14_there a1 a2 a3) cal183 d_ref14_there_c fun x9 =>
 .bB 24 (!x9) fun x10 =>
 .ifs [24] x10 (.ret (true:Bool)) (.cl 27 (d_ref14_to a4 1) cal184 d_ref14_to_c fun x11 =>
 .bB 28 (!x11) fun x12 =>
 .ret x12))
  (fun y0_1 =>
 .ifs [29] y0_1 (.ret ((a1:GState),(0:Int),(0:Int),(4:Int))) (.dr [(0,[1]),(1,[1]),(2,[1]),(9,[1]),(10,[1]),(11,[1]),(18,[1]),(23,[2])] [(30,[])] [1,2] [29,30] [0,1,2,3,4,5,6,7,8,9,10,11,12,13,14,15,16,17,18,19,20,21,22,23,24,25,26,27,28,29,30,31,32] (.ix 36 (fL 1 fI) a1.Master.Methods a2 fun x13 =>
 .ix 39 fI x13 a3 fun x14 =>
 .ix 45 (fL 1 fI) a1.Master.Costs a2 fun x15 =>
 .ix 48 fI x15 a3 fun x16 =>
 .cl 54 (d_ref14_At a1 a2 a3 a4) cal147 d_ref14_At_c fun x17 =>
 .cl 56 (d_ref13_In n x14 x16 x17 a5) cal226 d_ref13_In_c fun x18 =>
 .al 4<|
 .bB 61 (decide (x18.2.2≠0)) fun x20 =>
 .ifs [61] x20 (.ret ((a1:GState),(0:Int),(0:Int),(x18.2.2:Int))) (.cl 69 (d_ref14_Put a1 a2 a3 a4 x18.1) cal150 d_ref14_Put_c fun x21 =>
 .al 5<|
 .cl 74 (d_ref14_worth n x21 a2 a3) cal154 d_ref14_worth_c fun x23 =>
 .bB 78 (decide (x23.2≠0)) fun x24 =>
 .ifs [78] x24 (.ret ((a1:GState),(0:Int),(0:Int),(2:Int))) (.jn 3 [5,9,10,11,12,13,15,17] [1,2,3,5] [7] (fun u3 (a:(List GLayer))=>[(18,.sl 7 (u3 7) 0 a.length)]) (fun _ a=>[.nw 7 53 3 (a.map GLayer.av)]) (.no 18 7 53 3<|
 .lp [1,2,5,9,10,11,12,13,15,17] [1,2,3,5] [7] (fun u4 (a:Int×(List GLayer))=>[(18,.sl 7 (u4 7) 0 a.2.length),(19,int a.1)]) (fun _ a=>[.nw 7 53 3 (a.2.map GLayer.av)]) n ((0:Int),(([]:List GLayer):List GLayer)) (pw fun y1_2 y1_3 =>
 .bB 81 (decide (y1_2<2)) fun x26 =>
 .ifs [81] x26 (.cl 89 (d_ref14_At x21 a2 a3 y1_2) cal147 d_ref14_At_c fun x27 =>
 .bl (y1_3++x27.Layers:List GLayer) fun x28 =>
 .as (x28.length≤68719476736) inferInstance<|
 .ge 91<|
 .bI 83 (w64 (y1_2+1)) fun x31 =>
 .brk (x31,x28)) (.esc (.ret y1_3))))
  (fun y2_2 =>
 .clT 94 (d_ref09_Swing n y2_2) cal227 d_ref09_Swing_c (fun _=>rfl) fun x32 =>
 .bB 98 (decide (x32.2≠0)) fun x33 =>
 .ifs [98] x33 (.ret ((a1:GState),(0:Int),(0:Int),(2:Int))) (.dr [(0,[5]),(1,[2]),(2,[2])] [(6,[2])] [2,5] [6] [0,1,2,3,4,5,6,7,8,9] (.bI 104 (w64 (a5.Value-x18.2.1)) fun x34 =>
 .ret (x21,x34,(x18.2.1:Int),(0:Int))))))))))
def d_ref14_Bring (n:Nat) (a1:GState) (a2:Int) (a3:Int) (a4:Int) (a5:GLayer):Option (GState×Int×Int×Int):=(t_ref14_Bring n a1 a2 a3 a4 a5).run
theorem d_ref14_Bring_c {n:Nat} {a1:GState} {a2:Int} {a3:Int} {a4:Int} {a5:GLayer} {r:GState×Int×Int×Int} (h0:d_ref14_Bring n a1 a2 a3 a4 a5=some r):PP Tryz.prog 196 [.agg (GState.av a1),int a2,int a3,int a4,.agg (GLayer.av a5)] (fun y=>y=.tup [.agg (GState.av r.1),int r.2.1,int r.2.2.1,int r.2.2.2]):=by
 refine wt_pp mixed tbk (fun (r:GState×Int×Int×Int)=>.tup [.agg (GState.av r.1),int r.2.1,int r.2.2.1,int r.2.2.2]) h0 Tryz.func196 (fun r=>.tup (pvl4 ((fun (a:GState)=>PV.agg (GState.pvc a)) (r.1)) (pvI (r.2.1)) (pvI (r.2.2.1)) (pvI (r.2.2.2)))) 100000 ?_
 intro v6
 intro v7
 intro v8
 conv=>whnf
 refine .mk ?_ ?_
 conv=>whnf
 refine .mk fun x9 e9=>?_
 conv=>whnf
 refine .mk fun x10=>?_
 refine .mk .mk ?_
 conv=>whnf
 refine .mk fun x11 e11=>?_
 conv=>whnf
 refine .mk fun x12=>?_
 exact .mk
 intro _ _
 refine .mk .mk ?_
 refine .mk ?_
 conv=>whnf
 refine .mk fun x13 e13=>?_
 conv=>whnf
 refine .mk fun x14 e14=>?_
 conv=>whnf
 refine .mk fun x15 e15=>?_
 conv=>whnf
 refine .mk fun x16 e16=>?_
 conv=>whnf
 refine .mk fun x17 e17=>?_
 conv=>whnf
 refine .mk fun x18 e18=>?_
 intro v19
 conv=>whnf
 refine .mk fun x20=>?_
 refine .mk .mk ?_
 conv=>whnf
 refine .mk fun x21 e21=>?_
 intro v22
 conv=>whnf
 refine .mk fun x23 e23=>?_
 conv=>whnf
 refine .mk fun x24=>?_
 refine .mk .mk ?_
 conv=>whnf
 refine .mk ?_ ?_
 intro v25
 refine .mk ?_
 rintro ⟨y1_2,y1_3⟩ _
 conv=>whnf
 refine .mk fun x26=>?_
 conv=>whnf
 refine .mk ?_ ?_
 conv=>whnf
 refine .mk fun x27 e27=>?_
 conv=>whnf
 refine .mk fun x28 e28=>?_
 conv=>whnf
 refine .mk fun p29=>?_
 conv=>whnf
 refine .mk _ ⟨fun _=>yl_appT (g:=GLayer.av) (l:=y1_3) (m:=x27.Layers) .any rfl Tryz.underlying54 bz53 by53 rfl rfl rfl rfl rfl rfl rfl rfl rfl rfl (Eq.symm rfl) (.refl _) (fun _=>rfl) e28 p29,fun _ _ _=>trivial⟩ ?_
 rintro _ _ ⟨v30,-,rfl,rfl⟩
 conv=>whnf
 refine .mk fun x31=>?_
 exact .mk
 conv=>whnf
 exact .mk
 intro _ _
 conv=>whnf
 refine .mk (fun x32 e32=>?_) rfl (by rintro _ rfl;exact (.cons (cv_lst rfl rfl rfl rfl rfl (Eq.symm rfl)) .nil))
 conv=>whnf
 refine .mk fun x33=>?_
 refine .mk .mk ?_
 refine .mk ?_
 conv=>whnf
 refine .mk fun x34=>?_
 exact .mk
noncomputable def t_ref15_Do (n:Nat) (a1:GState) (a2:GOp):WT Tryz.prog (.b (GState×Int)) :=
 .al 1<|
 .al 2<|
 .al 3<|
 .bB 13 (decide (a2.Kind≠1)) fun x6 =>
 .ifs [13] x6 (.ret ((a1:GState),(1:Int))) (.cl 20 (d_ref14_Ready a1 a2.E a2.Item) cal195 d_ref14_Ready_c fun x7 =>
 .bB 22 (decide (x7≠0)) fun x8 =>
 .ifs [22] x8 (.ret ((a1:GState),x7)) (.ln 27 GReceipt.av a1.Receipts<|
 .bB 28 (decide ((a1.Receipts.length:Int)≥40)) fun x9 =>
 .ifs [28] x9 (.ret ((a1:GState),(6:Int))) (.cl 43 (d_ref14_Bring n a1 a2.E a2.Item a2.Loc (⟨a2.Qty,a2.Amount,0⟩:GLayer)) cal196 d_ref14_Bring_c fun x10 =>
 .al 4<|
 .bB 49 (decide (x10.2.2.2≠0)) fun x12 =>
 .ifs [49] x12 (.ret ((a1:GState),(x10.2.2.2:Int))) (.bI 62 (w64 (0-a2.Amount)) fun x13 =>
 .gv 64<|
 .cl 65 (d_ref14_Post n x10.1 a2.E ([(⟨0,x10.2.1⟩:GLine),(⟨6,x10.2.2.1⟩:GLine),(⟨1,x13⟩:GLine)]:List GLine)) cal149 d_ref14_Post_c fun x14 =>
 .bB 69 (decide (x14.2≠0)) fun x15 =>
 .ifs [69] x15 (.ret ((a1:GState),(x14.2:Int))) (.cl 80 (d_ref14_Turn n x14.1 a2.E a2.Item (⟨0,x10.2.1,0,0,0,0,0,0,0,0,0⟩:GRoll)) cal151 d_ref14_Turn_c fun x16 =>
 .bB 84 (decide (x16.2≠0)) fun x17 =>
 .ifs [84] x17 (.ret ((a1:GState),(x16.2:Int))) (.dr [(0,[4]),(1,[4]),(3,[2]),(4,[2]),(5,[2]),(6,[2]),(7,[2]),(8,[2]),(9,[2]),(10,[2]),(11,[2]),(12,[2]),(13,[2]),(14,[2]),(15,[2]),(16,[2]),(20,[4])] [(2,[2]),(19,[]),(21,[])] [2,4] [2,19,21] [0,1,3,4,5,6,7,8,9,10,11,12,13,14,15,16,17,18,2,19,20,21] (.gv 105<|
 .as (x16.1.Receipts.length≤68719476736) inferInstance<|
 .ge 89<|
 .bl (x16.1.Receipts++([(⟨a2.E,a2.Item,a2.Loc,a2.Qty,a2.Amount,a2.Qty,a2.Amount,0⟩:GReceipt)]:List GReceipt):List GReceipt) fun x20 =>
 .as (x20.length≤68719476736) inferInstance<|
 .ge 106<|
 .ret (((⟨x16.1.Master,x16.1.Ents,x20,x16.1.Sales,x16.1.Transits,x16.1.Done⟩:GState):GState),(0:Int)))))))))
def d_ref15_Do (n:Nat) (a1:GState) (a2:GOp):Option (GState×Int):=(t_ref15_Do n a1 a2).run
theorem d_ref15_Do_c {n:Nat} {a1:GState} {a2:GOp} {r:GState×Int} (h0:d_ref15_Do n a1 a2=some r):PP Tryz.prog 155 [.agg (GState.av a1),.agg (GOp.av a2)] (fun y=>y=.tup [.agg (GState.av r.1),int r.2]):=by
 refine wt_pp mixed tbk (fun (r:GState×Int)=>.tup [.agg (GState.av r.1),int r.2]) h0 Tryz.func155 (fun r=>.tup (pvl2 ((fun (a:GState)=>PV.agg (GState.pvc a)) (r.1)) (pvI (r.2)))) 100000 ?_
 intro v3
 intro v4
 intro v5
 conv=>whnf
 refine .mk fun x6=>?_
 refine .mk .mk ?_
 conv=>whnf
 refine .mk fun x7 e7=>?_
 conv=>whnf
 refine .mk fun x8=>?_
 refine .mk .mk ?_
 refine .mk ?_
 conv=>whnf
 refine .mk fun x9=>?_
 refine .mk .mk ?_
 conv=>whnf
 refine .mk fun x10 e10=>?_
 intro v11
 conv=>whnf
 refine .mk fun x12=>?_
 refine .mk .mk ?_
 conv=>whnf
 refine .mk fun x13=>?_
 conv=>whnf
 refine .mk _ (agr (yv_to (y:=lst 2 GLine.av ([(⟨0,x10.2.1⟩:GLine),(⟨6,x10.2.2.1⟩:GLine),(⟨1,x13⟩:GLine)]:List GLine)) (yv_buildSlice (ps:=[(0,_),(1,_),(2,_)]) (rows:=[[int 0,int x10.2.1],[int 6,int x10.2.2.1],[int 1,int x13]]) rfl Tryz.underlying120 bz119 (.cons rfl (.cons rfl (.cons rfl .nil))) (by kernel_rfl) rfl rfl rfl) rfl)) ?_
 conv=>whnf
 refine .mk fun x14 e14=>?_
 conv=>whnf
 refine .mk fun x15=>?_
 refine .mk .mk ?_
 conv=>whnf
 refine .mk fun x16 e16=>?_
 conv=>whnf
 refine .mk fun x17=>?_
 refine .mk .mk ?_
 refine .mk ?_
 conv=>whnf
 refine .mk _ (fun H hH _=>yv_to (y:=lst 8 GReceipt.av ([(⟨a2.E,a2.Item,a2.Loc,a2.Qty,a2.Amount,a2.Qty,a2.Amount,0⟩:GReceipt)]:List GReceipt)) (yv_buildSlice (ps:=[(0,_)]) (rows:=[[int a2.E,int a2.Item,int a2.Loc,int a2.Qty,int a2.Amount,int a2.Qty,int a2.Amount,int 0]]) rfl Tryz.underlying27 bz76 (.cons rfl .nil) (by kernel_rfl) rfl rfl rfl) rfl) ?_
 conv=>whnf
 refine .mk fun p18=>?_
 conv=>whnf
 refine .mk _ ⟨fun _=>yl_app0T (g:=GReceipt.av) (m:=x16.1.Receipts) 5 rfl Tryz.underlying27 bz76 by76 rfl rfl rfl rfl (.refl _) (fun _=>rfl) p18,by rintro _ _ ⟨v19,rfl,rfl⟩;exact ⟨rfl,trivial⟩⟩ ?_
 rintro _ _ ⟨v19,rfl,rfl⟩
 conv=>whnf
 refine .mk fun x20 e20=>?_
 conv=>whnf
 refine .mk fun p21=>?_
 conv=>whnf
 refine .mk _ ⟨fun _=>yl_appT (g:=GReceipt.av) (l:=x16.1.Receipts) (m:=([(⟨a2.E,a2.Item,a2.Loc,a2.Qty,a2.Amount,a2.Qty,a2.Amount,0⟩:GReceipt)]:List GReceipt)) .any rfl Tryz.underlying27 bz76 by76 rfl rfl rfl rfl rfl rfl rfl rfl rfl rfl (Eq.symm rfl) (.refl _) (fun _=>rfl) e20 p21,by rintro _ _ ⟨v22,-,rfl,rfl⟩;exact trivial⟩ ?_
 rintro _ _ ⟨v22,-,rfl,rfl⟩
 conv=>whnf
 exact .mk (CvL.tup (.cons (CvL.agg (.cons (.refl _) (.cons (.refl _) (.cons (.refl _) (.cons (.refl _) (.cons (.refl _) (.cons (.refl _) (.cons (cv_lst rfl rfl rfl rfl rfl (Eq.symm rfl)) (.cons (.refl _) (.cons (.refl _) (.cons (.refl _) .nil))))))))))) (.cons (.refl _) .nil)))
noncomputable def t_ref11_Free (n:Nat) (a1:GPool):WT Tryz.prog (.b (Int)) :=
 .al 1<|
 .cl 8 (d_ref09_Total n a1.Layers) cal225 d_ref09_Total_c fun x3 =>
 .al 2<|
 .gv 14<|
 .bI 16 (w64 (x3.1.Qty-a1.Pend.a0)) fun x5 =>
 .gv 18<|
 .bI 20 (w64 (x5-a1.Pend.a1)) fun x6 =>
 .gv 22<|
 .bI 24 (w64 (x6-a1.Pend.a2)) fun x7 =>
 .ret (x7)
def d_ref11_Free (n:Nat) (a1:GPool):Option (Int):=(t_ref11_Free n a1).run
theorem d_ref11_Free_c {n:Nat} {a1:GPool} {r:Int} (h0:d_ref11_Free n a1=some r):PP Tryz.prog 251 [.agg (GPool.av a1)] (fun y=>y=int r):=by
 refine wt_pp mixed tbk (fun (r:Int)=>int r) h0 Tryz.func251 (fun r=>pvI r) 100000 ?_
 intro v2
 conv=>whnf
 refine .mk fun x3 e3=>?_
 intro v4
 conv=>whnf
 refine .mk _ (agr (yv_to (y:=.pt 1 v2 0 1) (yv_indexAddrA rfl Tryz.underlying55 sh3 rfl rfl rfl rfl rfl (by decide)) rfl)) ?_
 conv=>whnf
 refine .mk fun x5=>?_
 conv=>whnf
 refine .mk _ (agr (yv_to (y:=.pt 1 v2 0 2) (yv_indexAddrA rfl Tryz.underlying55 sh3 rfl rfl rfl rfl rfl (by decide)) rfl)) ?_
 conv=>whnf
 refine .mk fun x6=>?_
 conv=>whnf
 refine .mk _ (agr (yv_to (y:=.pt 1 v2 0 3) (yv_indexAddrA rfl Tryz.underlying55 sh3 rfl rfl rfl rfl rfl (by decide)) rfl)) ?_
 conv=>whnf
 refine .mk fun x7=>?_
 exact .mk
def d_ref11_Wait (n:Nat) (a1:GPool) (a2:Int) (a3:Int):Option (GPool×Int) :=
(show Option (Bool) from
bnd (decide (a2<0)) fun x7 =>
cond x7 (some (true:Bool)) (bnd (decide (a2≥3)) fun x8 =>
cond x8 (some (true:Bool)) (bnd (decide (a3<1)) fun x9 =>
some x9))).bind <| fun y0_1 =>
cond y0_1 (some ((a1:GPool),(1:Int))) ((d_ref11_Free n a1).bind fun x10 =>
bnd (decide (a3>x10)) fun x11 =>
cond x11 (some ((a1:GPool),(5:Int))) (bnd (decide (a2=0)) fun x12 =>
cond x12 (bnd (w64 (a1.Pend.a0+a3)) fun x23 =>
bnd (decide (a2=0)) fun x24 =>
cond x24 (some (((⟨a1.Layers,(⟨x23,a1.Pend.a1,a1.Pend.a2⟩:A3_Int)⟩:GPool):GPool),(0:Int))) (bnd (decide (a2=1)) fun x25 =>
cond x25 (some (((⟨a1.Layers,(⟨a1.Pend.a0,x23,a1.Pend.a2⟩:A3_Int)⟩:GPool):GPool),(0:Int))) (asrt (a2=2)<|
some (((⟨a1.Layers,(⟨a1.Pend.a0,a1.Pend.a1,x23⟩:A3_Int)⟩:GPool):GPool),(0:Int))))) (bnd (decide (a2=1)) fun x13 =>
cond x13 (bnd (w64 (a1.Pend.a1+a3)) fun x19 =>
bnd (decide (a2=0)) fun x20 =>
cond x20 (some (((⟨a1.Layers,(⟨x19,a1.Pend.a1,a1.Pend.a2⟩:A3_Int)⟩:GPool):GPool),(0:Int))) (bnd (decide (a2=1)) fun x21 =>
cond x21 (some (((⟨a1.Layers,(⟨a1.Pend.a0,x19,a1.Pend.a2⟩:A3_Int)⟩:GPool):GPool),(0:Int))) (asrt (a2=2)<|
some (((⟨a1.Layers,(⟨a1.Pend.a0,a1.Pend.a1,x19⟩:A3_Int)⟩:GPool):GPool),(0:Int))))) (asrt (a2=2)<|
bnd (w64 (a1.Pend.a2+a3)) fun x15 =>
bnd (decide (a2=0)) fun x16 =>
cond x16 (some (((⟨a1.Layers,(⟨x15,a1.Pend.a1,a1.Pend.a2⟩:A3_Int)⟩:GPool):GPool),(0:Int))) (bnd (decide (a2=1)) fun x17 =>
cond x17 (some (((⟨a1.Layers,(⟨a1.Pend.a0,x15,a1.Pend.a2⟩:A3_Int)⟩:GPool):GPool),(0:Int))) (asrt (a2=2)<|
some (((⟨a1.Layers,(⟨a1.Pend.a0,a1.Pend.a1,x15⟩:A3_Int)⟩:GPool):GPool),(0:Int))))))))
theorem d_ref11_Wait_c {n:Nat} {a1:GPool} {a2:Int} {a3:Int} {r:GPool×Int} (h0:d_ref11_Wait n a1 a2 a3=some r):PP Tryz.prog 258 [.agg (GPool.av a1),int a2,int a3] (fun y=>y=.tup [.agg (GPool.av r.1),int r.2]):=by
  unfold d_ref11_Wait at h0
  refine pp_of_pc (R0:=fun y H=>Cv (frzH H) y (.tup [.agg (GPool.av r.1),int r.2])) ?_ (fun y H hc=>⟨_,rfl,.tup (pvl2 ((fun (a:GPool)=>PV.agg (GPool.pvc a)) (r.1)) (pvI (r.2))),hc⟩)
  refine pcw (c:=_) Tryz.func258 rfl rfl ?_;intro Q hret hnorm
  refine tc tbk 2 (.mk ?_)
  refine sB 1 fun v4=>?_
  refine sA 2 z57 fun v5=>?_
  refine tr tbk 5 (.mk ?_)
  refine jn h0 [1,2,3,6,7] [1,2] (fun (a:Bool) (k:Unit)=>[(8,boo a)]) (fun a k=>[]) ⟨fun j6 h1=>?_,?_⟩
  refine tc tbk 2 (.mk ?_)
  refine nb tbk h1 fun x7 h1=>?_
  refine tr tbk 1 (.mk ?_)
  cases x7
  replace h1:=cf h1
  refine tr tbk 1 (.mk ?_)
  refine nb tbk h1 fun x8 h1=>?_
  refine tr tbk 2 (.mk ?_)
  cases x8
  replace h1:=cf h1
  refine tr tbk 1 (.mk ?_)
  refine nb tbk h1 fun x9 h1=>?_
  refine tr tbk 3 (.mk ?_)
  exact lf h1 () leA
  replace h1:=ct h1
  refine tr tbk 5 (.mk ?_)
  exact lf h1 () leA
  replace h1:=ct h1
  refine tr tbk 9 (.mk ?_)
  exact lf h1 () leA
  rintro y0_1 _ h0
  cases y0_1
  replace h0:=cf h0
  refine tc tbk 5 (.mk ?_)
  obtain ⟨x10,e10,h0⟩:=bind_e h0
  refine sC cal251 (d_ref11_Free_c e10) ?_
  refine nb tbk h0 fun x11 h0=>?_
  refine tr tbk 2 (.mk ?_)
  cases x11
  replace h0:=cf h0
  refine tc tbk 8 (.mk ?_)
  obtain ⟨x12,e12,h0⟩:=bnd_e h0
  cases x12
  replace h0:=cf h0
  obtain ⟨x13,e13,h0⟩:=bnd_e h0
  cases x13
  replace h0:=cf h0
  obtain ⟨p14,h0⟩:=asrt_e h0
  refine rsas 27 (int 2) rfl (congrArg int p14) ?_
  refine sY (yv_to (y:=.pt 1 v4 0 3) (yv_indexAddrA rfl Tryz.underlying55 sh3 rfl rfl rfl rfl rfl (by decide)) rfl) ?_
  refine tr tbk 2 (.mk ?_)
  refine ni tbk h0 fun x15 h0=>?_
  refine tr tbk 1 (.mk ?_)
  obtain ⟨x16,e16,h0⟩:=bnd_e h0
  cases x16
  replace h0:=cf h0
  obtain ⟨x17,e17,h0⟩:=bnd_e h0
  cases x17
  replace h0:=cf h0
  obtain ⟨p18,h0⟩:=asrt_e h0
  refine rsas 26 (int 2) rfl (congrArg int p18) ?_
  refine sY (yv_to (y:=.pt 1 v4 0 3) (yv_indexAddrA rfl Tryz.underlying55 sh3 rfl rfl rfl rfl rfl (by decide)) rfl) ?_
  refine sS ⟨57,4,true,true,v4,[[lst 3 GLayer.av a1.Layers,int a1.Pend.a0,int a1.Pend.a1,int x15]]⟩ sh3 ?_
  refine tr tbk 4 (.mk ?_)
  refine sS ⟨57,4,true,true,v5,[[lst 3 GLayer.av a1.Layers,int a1.Pend.a0,int a1.Pend.a1,int x15]]⟩ sh57 ?_
  refine tr tbk 2 (.mk ?_)
  obtain rfl:=nxt_e h0
  refine wR hret (rC sh57 (rT .nil)) ?_
  exact .refl _
  replace h0:=ct h0
  refine rsas 26 (int 1) rfl (congrArg int (of_decide_eq_true e17)) ?_
  refine sY (yv_to (y:=.pt 1 v4 0 2) (yv_indexAddrA rfl Tryz.underlying55 sh3 rfl rfl rfl rfl rfl (by decide)) rfl) ?_
  refine sS ⟨57,4,true,true,v4,[[lst 3 GLayer.av a1.Layers,int a1.Pend.a0,int x15,int a1.Pend.a2]]⟩ sh3 ?_
  refine tr tbk 4 (.mk ?_)
  refine sS ⟨57,4,true,true,v5,[[lst 3 GLayer.av a1.Layers,int a1.Pend.a0,int x15,int a1.Pend.a2]]⟩ sh57 ?_
  refine tr tbk 2 (.mk ?_)
  obtain rfl:=nxt_e h0
  refine wR hret (rC sh57 (rT .nil)) ?_
  exact .refl _
  replace h0:=ct h0
  refine rsas 26 (int 0) rfl (congrArg int (of_decide_eq_true e16)) ?_
  refine sY (yv_to (y:=.pt 1 v4 0 1) (yv_indexAddrA rfl Tryz.underlying55 sh3 rfl rfl rfl rfl rfl (by decide)) rfl) ?_
  refine sS ⟨57,4,true,true,v4,[[lst 3 GLayer.av a1.Layers,int x15,int a1.Pend.a1,int a1.Pend.a2]]⟩ sh3 ?_
  refine tr tbk 4 (.mk ?_)
  refine sS ⟨57,4,true,true,v5,[[lst 3 GLayer.av a1.Layers,int x15,int a1.Pend.a1,int a1.Pend.a2]]⟩ sh57 ?_
  refine tr tbk 2 (.mk ?_)
  obtain rfl:=nxt_e h0
  refine wR hret (rC sh57 (rT .nil)) ?_
  exact .refl _
  replace h0:=ct h0
  refine rsas 27 (int 1) rfl (congrArg int (of_decide_eq_true e13)) ?_
  refine sY (yv_to (y:=.pt 1 v4 0 2) (yv_indexAddrA rfl Tryz.underlying55 sh3 rfl rfl rfl rfl rfl (by decide)) rfl) ?_
  refine tr tbk 2 (.mk ?_)
  refine ni tbk h0 fun x19 h0=>?_
  refine tr tbk 1 (.mk ?_)
  obtain ⟨x20,e20,h0⟩:=bnd_e h0
  cases x20
  replace h0:=cf h0
  obtain ⟨x21,e21,h0⟩:=bnd_e h0
  cases x21
  replace h0:=cf h0
  obtain ⟨p22,h0⟩:=asrt_e h0
  refine rsas 26 (int 2) rfl (congrArg int p22) ?_
  refine sY (yv_to (y:=.pt 1 v4 0 3) (yv_indexAddrA rfl Tryz.underlying55 sh3 rfl rfl rfl rfl rfl (by decide)) rfl) ?_
  refine sS ⟨57,4,true,true,v4,[[lst 3 GLayer.av a1.Layers,int a1.Pend.a0,int a1.Pend.a1,int x19]]⟩ sh3 ?_
  refine tr tbk 4 (.mk ?_)
  refine sS ⟨57,4,true,true,v5,[[lst 3 GLayer.av a1.Layers,int a1.Pend.a0,int a1.Pend.a1,int x19]]⟩ sh57 ?_
  refine tr tbk 2 (.mk ?_)
  obtain rfl:=nxt_e h0
  refine wR hret (rC sh57 (rT .nil)) ?_
  exact .refl _
  replace h0:=ct h0
  refine rsas 26 (int 1) rfl (congrArg int (of_decide_eq_true e21)) ?_
  refine sY (yv_to (y:=.pt 1 v4 0 2) (yv_indexAddrA rfl Tryz.underlying55 sh3 rfl rfl rfl rfl rfl (by decide)) rfl) ?_
  refine sS ⟨57,4,true,true,v4,[[lst 3 GLayer.av a1.Layers,int a1.Pend.a0,int x19,int a1.Pend.a2]]⟩ sh3 ?_
  refine tr tbk 4 (.mk ?_)
  refine sS ⟨57,4,true,true,v5,[[lst 3 GLayer.av a1.Layers,int a1.Pend.a0,int x19,int a1.Pend.a2]]⟩ sh57 ?_
  refine tr tbk 2 (.mk ?_)
  obtain rfl:=nxt_e h0
  refine wR hret (rC sh57 (rT .nil)) ?_
  exact .refl _
  replace h0:=ct h0
  refine rsas 26 (int 0) rfl (congrArg int (of_decide_eq_true e20)) ?_
  refine sY (yv_to (y:=.pt 1 v4 0 1) (yv_indexAddrA rfl Tryz.underlying55 sh3 rfl rfl rfl rfl rfl (by decide)) rfl) ?_
  refine sS ⟨57,4,true,true,v4,[[lst 3 GLayer.av a1.Layers,int x19,int a1.Pend.a1,int a1.Pend.a2]]⟩ sh3 ?_
  refine tr tbk 4 (.mk ?_)
  refine sS ⟨57,4,true,true,v5,[[lst 3 GLayer.av a1.Layers,int x19,int a1.Pend.a1,int a1.Pend.a2]]⟩ sh57 ?_
  refine tr tbk 2 (.mk ?_)
  obtain rfl:=nxt_e h0
  refine wR hret (rC sh57 (rT .nil)) ?_
  exact .refl _
  replace h0:=ct h0
  refine rsas 27 (int 0) rfl (congrArg int (of_decide_eq_true e12)) ?_
  refine sY (yv_to (y:=.pt 1 v4 0 1) (yv_indexAddrA rfl Tryz.underlying55 sh3 rfl rfl rfl rfl rfl (by decide)) rfl) ?_
  refine tr tbk 2 (.mk ?_)
  refine ni tbk h0 fun x23 h0=>?_
  refine tr tbk 1 (.mk ?_)
  obtain ⟨x24,e24,h0⟩:=bnd_e h0
  cases x24
  replace h0:=cf h0
  obtain ⟨x25,e25,h0⟩:=bnd_e h0
  cases x25
  replace h0:=cf h0
  obtain ⟨p26,h0⟩:=asrt_e h0
  refine rsas 26 (int 2) rfl (congrArg int p26) ?_
  refine sY (yv_to (y:=.pt 1 v4 0 3) (yv_indexAddrA rfl Tryz.underlying55 sh3 rfl rfl rfl rfl rfl (by decide)) rfl) ?_
  refine sS ⟨57,4,true,true,v4,[[lst 3 GLayer.av a1.Layers,int a1.Pend.a0,int a1.Pend.a1,int x23]]⟩ sh3 ?_
  refine tr tbk 4 (.mk ?_)
  refine sS ⟨57,4,true,true,v5,[[lst 3 GLayer.av a1.Layers,int a1.Pend.a0,int a1.Pend.a1,int x23]]⟩ sh57 ?_
  refine tr tbk 2 (.mk ?_)
  obtain rfl:=nxt_e h0
  refine wR hret (rC sh57 (rT .nil)) ?_
  exact .refl _
  replace h0:=ct h0
  refine rsas 26 (int 1) rfl (congrArg int (of_decide_eq_true e25)) ?_
  refine sY (yv_to (y:=.pt 1 v4 0 2) (yv_indexAddrA rfl Tryz.underlying55 sh3 rfl rfl rfl rfl rfl (by decide)) rfl) ?_
  refine sS ⟨57,4,true,true,v4,[[lst 3 GLayer.av a1.Layers,int a1.Pend.a0,int x23,int a1.Pend.a2]]⟩ sh3 ?_
  refine tr tbk 4 (.mk ?_)
  refine sS ⟨57,4,true,true,v5,[[lst 3 GLayer.av a1.Layers,int a1.Pend.a0,int x23,int a1.Pend.a2]]⟩ sh57 ?_
  refine tr tbk 2 (.mk ?_)
  obtain rfl:=nxt_e h0
  refine wR hret (rC sh57 (rT .nil)) ?_
  exact .refl _
  replace h0:=ct h0
  refine rsas 26 (int 0) rfl (congrArg int (of_decide_eq_true e24)) ?_
  refine sY (yv_to (y:=.pt 1 v4 0 1) (yv_indexAddrA rfl Tryz.underlying55 sh3 rfl rfl rfl rfl rfl (by decide)) rfl) ?_
  refine sS ⟨57,4,true,true,v4,[[lst 3 GLayer.av a1.Layers,int x23,int a1.Pend.a1,int a1.Pend.a2]]⟩ sh3 ?_
  refine tr tbk 4 (.mk ?_)
  refine sS ⟨57,4,true,true,v5,[[lst 3 GLayer.av a1.Layers,int x23,int a1.Pend.a1,int a1.Pend.a2]]⟩ sh57 ?_
  refine tr tbk 2 (.mk ?_)
  obtain rfl:=nxt_e h0
  refine wR hret (rC sh57 (rT .nil)) ?_
  exact .refl _
  replace h0:=ct h0
  refine tc tbk 4 (.mk ?_)
  refine sS ⟨57,4,true,true,v5,[[lst 3 GLayer.av a1.Layers,int a1.Pend.a0,int a1.Pend.a1,int a1.Pend.a2]]⟩ sh57 ?_
  refine tr tbk 2 (.mk ?_)
  obtain rfl:=nxt_e h0
  refine wR hret (rC sh57 (rT .nil)) ?_
  exact .refl _
  replace h0:=ct h0
  refine tc tbk 4 (.mk ?_)
  refine sS ⟨57,4,true,true,v5,[[lst 3 GLayer.av a1.Layers,int a1.Pend.a0,int a1.Pend.a1,int a1.Pend.a2]]⟩ sh57 ?_
  refine tr tbk 2 (.mk ?_)
  obtain rfl:=nxt_e h0
  refine wR hret (rC sh57 (rT .nil)) ?_
  exact .refl _
noncomputable def t_ref11_Out (n:Nat) (a1:GPool) (a2:Int):WT Tryz.prog (.b (GPool×GLayer×Int)) :=
 .al 1<|
 .al 2<|
 .al 3<|
 .bB 12 (decide (a2<1)) fun x6 =>
 .ifs [12] x6 (.ret ((a1:GPool),((⟨0,0,0⟩:GLayer):GLayer),(1:Int))) (.cl 18 (d_ref11_Free n a1) cal251 d_ref11_Free_c fun x7 =>
 .bB 19 (decide (a2>x7)) fun x8 =>
 .ifs [19] x8 (.ret ((a1:GPool),((⟨0,0,0⟩:GLayer):GLayer),(5:Int))) (.cl 26 (d_ref10_Out n a1.Layers a2) cal185 d_ref10_Out_c fun x9 =>
 .al 4<|
 .dr [(0,[1]),(1,[4])] [(3,[4]),(4,[])] [1,4] [3,4] [0,1,2,3,4,5] (.ret (((⟨x9.1,a1.Pend⟩:GPool):GPool),(x9.2.1:GLayer),(x9.2.2:Int)))))
def d_ref11_Out (n:Nat) (a1:GPool) (a2:Int):Option (GPool×GLayer×Int):=(t_ref11_Out n a1 a2).run
theorem d_ref11_Out_c {n:Nat} {a1:GPool} {a2:Int} {r:GPool×GLayer×Int} (h0:d_ref11_Out n a1 a2=some r):PP Tryz.prog 259 [.agg (GPool.av a1),int a2] (fun y=>y=.tup [.agg (GPool.av r.1),.agg (GLayer.av r.2.1),int r.2.2]):=by
 refine wt_pp mixed tbk (fun (r:GPool×GLayer×Int)=>.tup [.agg (GPool.av r.1),.agg (GLayer.av r.2.1),int r.2.2]) h0 Tryz.func259 (fun r=>.tup (pvl3 ((fun (a:GPool)=>PV.agg (GPool.pvc a)) (r.1)) ((fun (a:GLayer)=>PV.agg (GLayer.pvc a)) (r.2.1)) (pvI (r.2.2)))) 100000 ?_
 intro v3
 intro v4
 intro v5
 conv=>whnf
 refine .mk fun x6=>?_
 refine .mk .mk ?_
 conv=>whnf
 refine .mk fun x7 e7=>?_
 conv=>whnf
 refine .mk fun x8=>?_
 refine .mk .mk ?_
 conv=>whnf
 refine .mk fun x9 e9=>?_
 intro v10
 refine .mk ?_
 exact .mk
noncomputable def t_ref12_Out (n:Nat) (a1:List GLayer) (a2:Int) (a3:Int):WT Tryz.prog (.b ((List GLayer)×GLayer×Int)) :=
 .al 1<|
 .jn 0 [0,1,2,6,7,8] [1] [] (fun _ (a:Bool)=>[(21,boo a)]) (fun _ _=>[]) (.bB 17 (decide (a3<0)) fun x5 =>
 .ifs [17] x5 (.ret (true:Bool)) (.bB 20 (decide (a3>1073741824)) fun x6 =>
 .ret x6))
  (fun y0_1 =>
 .ifs [21] y0_1 (.ret ((a1:List GLayer),((⟨0,0,0⟩:GLayer):GLayer),(1:Int))) (.cl 27 (d_ref10_Out n a1 a2) cal185 d_ref10_Out_c fun x7 =>
 .al 2<|
 .jn 0 [0,1,2,6,7,8,9,10,11] [1,2] [] (fun _ (a:Bool)=>[(37,boo a)]) (fun _ _=>[]) (.bB 32 (decide (x7.2.2≠0)) fun x9 =>
 .ifs [32] x9 (.ret (true:Bool)) (.ln 35 GLayer.av x7.1<|
 .bB 36 (decide ((x7.1.length:Int)=0)) fun x10 =>
 .ret x10))
  (fun y1_1 =>
 .ifs [37] y1_1 (.dr [(1,[2])] [(4,[])] [2] [4] [0,1,2,3,4,5] (.ret ((x7.1:List GLayer),(x7.2.1:GLayer),(x7.2.2:Int)))) (.cl 43 (d_ref09_Total n a1) cal225 d_ref09_Total_c fun x11 =>
 .al 3<|
 .cl 49 (d_ref12_worth n a2 a3) cal252 d_ref12_worth_c fun x13 =>
 .jn 0 [1,6,7,8,10,12,14] [1,2,3] [] (fun _ (a:Bool)=>[(59,boo a)]) (fun _ _=>[]) (.bB 53 (!x13.2) fun x14 =>
 .ifs [53] x14 (.ret (true:Bool)) (.bB 58 (decide (x13.1>x11.1.Value)) fun x15 =>
 .ret x15))
  (fun y2_1 =>
 .jn 0 [1,6,7,8,10,12] [1,2,3] [] (fun _ (a:Int)=>[(14,int a)]) (fun _ _=>[]) (.ifs [59] y2_1 (.ret (x11.1.Value:Int)) (.ret (x13.1:Int)))
  (fun y3_1 =>
 .dr [(0,[3]),(1,[3]),(4,[3]),(5,[3]),(8,[3]),(9,[3]),(10,[2]),(11,[2]),(15,[2])] [(17,[])] [2,3] [17] [0,1,2,3,4,5,6,7,8,9,10,11,12,13,14,15,16,17,18] (.bI 67 (w64 (x11.1.Qty-a2)) fun x16 =>
 .bI 71 (w64 (x11.1.Value-y3_1)) fun x17 =>
 .bI 76 (w64 (x11.1.Profit-x7.2.1.Profit)) fun x18 =>
 .gv 78<|
 .ret ((([(⟨x16,x17,x18⟩:GLayer)]:List GLayer):List GLayer),((⟨x7.2.1.Qty,y3_1,x7.2.1.Profit⟩:GLayer):GLayer),(0:Int)))))))))
def d_ref12_Out (n:Nat) (a1:List GLayer) (a2:Int) (a3:Int):Option ((List GLayer)×GLayer×Int):=(t_ref12_Out n a1 a2 a3).run
theorem d_ref12_Out_c {n:Nat} {a1:List GLayer} {a2:Int} {a3:Int} {r:(List GLayer)×GLayer×Int} (h0:d_ref12_Out n a1 a2 a3=some r):PP Tryz.prog 260 [lst 3 GLayer.av a1,int a2,int a3] (fun y=>y=.tup [lst 3 GLayer.av r.1,.agg (GLayer.av r.2.1),int r.2.2]):=by
 refine wt_pp mixed tbk (fun (r:(List GLayer)×GLayer×Int)=>.tup [lst 3 GLayer.av r.1,.agg (GLayer.av r.2.1),int r.2.2]) h0 Tryz.func260 (fun r=>.tup (pvl3 ((pvLs GLayer.pvc) (r.1)) ((fun (a:GLayer)=>PV.agg (GLayer.pvc a)) (r.2.1)) (pvI (r.2.2)))) 100000 ?_
 intro v4
 conv=>whnf
 refine .mk ?_ ?_
 conv=>whnf
 refine .mk fun x5=>?_
 refine .mk .mk ?_
 conv=>whnf
 refine .mk fun x6=>?_
 exact .mk
 intro _ _
 refine .mk .mk ?_
 conv=>whnf
 refine .mk fun x7 e7=>?_
 intro v8
 conv=>whnf
 refine .mk ?_ ?_
 conv=>whnf
 refine .mk fun x9=>?_
 refine .mk .mk ?_
 refine .mk ?_
 conv=>whnf
 refine .mk fun x10=>?_
 exact .mk
 intro _ _
 conv=>whnf
 refine .mk ?_ ?_
 refine .mk ?_
 exact .mk
 conv=>whnf
 refine .mk fun x11 e11=>?_
 intro v12
 conv=>whnf
 refine .mk fun x13 e13=>?_
 conv=>whnf
 refine .mk ?_ ?_
 conv=>whnf
 refine .mk fun x14=>?_
 refine .mk .mk ?_
 conv=>whnf
 refine .mk fun x15=>?_
 exact .mk
 intro _ _
 conv=>whnf
 refine .mk ?_ ?_
 refine .mk .mk ?_
 exact .mk
 intro _ _
 refine .mk ?_
 conv=>whnf
 refine .mk fun x16=>?_
 conv=>whnf
 refine .mk fun x17=>?_
 conv=>whnf
 refine .mk fun x18=>?_
 conv=>whnf
 refine .mk _ (fun H hH _=>yv_to (y:=lst 3 GLayer.av ([(⟨x16,x17,x18⟩:GLayer)]:List GLayer)) (yv_buildSlice (ps:=[(0,_)]) (rows:=[[int x16,int x17,int x18]]) rfl Tryz.underlying54 bz53 (.cons rfl .nil) (by kernel_rfl) rfl rfl rfl) rfl) ?_
 exact .mk
noncomputable def t_ref13_Out (n:Nat) (a1:Int) (a2:Int) (a3:GPool) (a4:Int) (a5:Int):WT Tryz.prog (.b (GPool×GLayer×Bool×Int)) :=
 .al 1<|
 .al 2<|
 .al 3<|
 .al 4<|
 .al 5<|
 .jn 1 [0,1,3,4,7,10,11,12,13,14,15,16] [1,2,3,4,5] [] (fun _ (a:Bool)=>[(31,boo a)]) (fun _ _=>[]) (.bB 19 (decide (a1≥1)) fun x11 =>
 .ifs [19] x11 (.bB 22 (decide (a1≤4)) fun x12 =>
 .ifs [22] x12 (.bB 26 (decide (a4<0)) fun x13 =>
 .ifs [26] x13 (.ret (true:Bool)) (.bB 29 (decide (a4>3)) fun x14 =>
 .ret x14)) (.ret (false:Bool))) (.ret (false:Bool)))
  (fun y0_1 =>
 .ifs [31] y0_1 (.dr [(0,[1]),(1,[5])] [(2,[5]),(3,[])] [1,5] [2,3] [0,1,2,3,4,5] (.ret ((a3:GPool),((⟨0,0,0⟩:GLayer):GLayer),(false:Bool),(1:Int)))) (.jnE 2 [7,10,11,12,13,14,15] [1,2,3] [] (fun _ (a:Int×GPool×GLayer)=>[(16,int a.1)]) (fun _ a=>[.kp 4 [[lst 3 GLayer.av a.2.1.Layers,int a.2.1.Pend.a0,int a.2.1.Pend.a1,int a.2.1.Pend.a2]],.kp 5 [[int a.2.2.Qty,int a.2.2.Value,int a.2.2.Profit]]]) (.bB 36 (decide (a1=1)) fun x15 =>
 .ifs [36] x15 (.cl 41 (d_ref09_Out n a3.Layers a5) cal221 d_ref09_Out_c fun x16 =>
 .brk ((x16.2.2:Int),((⟨x16.1,a3.Pend⟩:GPool):GPool),(x16.2.1:GLayer))) (.bB 47 (decide (a1=2)) fun x17 =>
 .ifs [47] x17 (.cl 52 (d_ref10_Out n a3.Layers a5) cal185 d_ref10_Out_c fun x18 =>
 .brk ((x18.2.2:Int),((⟨x18.1,a3.Pend⟩:GPool):GPool),(x18.2.1:GLayer))) (.bB 58 (decide (a1=3)) fun x19 =>
 .ifs [58] x19 (.bB 60 (decide (a4≠3)) fun x20 =>
 .ifs [60] x20 (.cl 65 (d_ref11_Wait n a3 a4 a5) cal258 d_ref11_Wait_c fun x21 =>
 .dr [(0,[4]),(1,[5])] [(5,[5]),(6,[])] [4,5] [5,6] [0,1,2,3,4,5,6,7,8] (.bB 71 (decide (x21.2=0)) fun x22 =>
 .esc (.ret ((x21.1:GPool),((⟨0,0,0⟩:GLayer):GLayer),x22,(x21.2:Int))))) (.cl 76 (d_ref11_Out n a3 a5) cal259 d_ref11_Out_c fun x23 =>
 .brk ((x23.2.2:Int),(x23.1:GPool),(x23.2.1:GLayer)))) (.bB 81 (decide (a1=4)) fun x24 =>
 .ifs [81] x24 (.cl 87 (d_ref12_Out n a3.Layers a5 a2) cal260 d_ref12_Out_c fun x25 =>
 .brk ((x25.2.2:Int),((⟨x25.1,a3.Pend⟩:GPool):GPool),(x25.2.1:GLayer))) (.brk ((12:Int),(a3:GPool),((⟨0,0,0⟩:GLayer):GLayer)))))))
  (pw fun y1_1 q0=>(pw fun y1_2 y1_3 =>
 .bB 93 (decide (y1_1≠0)) fun x26 =>
 .ifs [93] x26 (.ret ((a3:GPool),((⟨0,0,0⟩:GLayer):GLayer),(false:Bool),y1_1)) (.dr [(0,[4]),(1,[5])] [(2,[5]),(3,[])] [4,5] [2,3] [0,1,2,3,4,5] (.ret (y1_2,y1_3,(false:Bool),(0:Int))))) q0)))
def d_ref13_Out (n:Nat) (a1:Int) (a2:Int) (a3:GPool) (a4:Int) (a5:Int):Option (GPool×GLayer×Bool×Int):=(t_ref13_Out n a1 a2 a3 a4 a5).run
theorem d_ref13_Out_c {n:Nat} {a1:Int} {a2:Int} {a3:GPool} {a4:Int} {a5:Int} {r:GPool×GLayer×Bool×Int} (h0:d_ref13_Out n a1 a2 a3 a4 a5=some r):PP Tryz.prog 250 [int a1,int a2,.agg (GPool.av a3),int a4,int a5] (fun y=>y=.tup [.agg (GPool.av r.1),.agg (GLayer.av r.2.1),boo r.2.2.1,int r.2.2.2]):=by
 refine wt_pp mixed tbk (fun (r:GPool×GLayer×Bool×Int)=>.tup [.agg (GPool.av r.1),.agg (GLayer.av r.2.1),boo r.2.2.1,int r.2.2.2]) h0 Tryz.func250 (fun r=>.tup (pvl4 ((fun (a:GPool)=>PV.agg (GPool.pvc a)) (r.1)) ((fun (a:GLayer)=>PV.agg (GLayer.pvc a)) (r.2.1)) (pvB (r.2.2.1)) (pvI (r.2.2.2)))) 100000 ?_
 intro v6
 intro v7
 intro v8
 intro v9
 intro v10
 conv=>whnf
 refine .mk ?_ ?_
 conv=>whnf
 refine .mk fun x11=>?_
 conv=>whnf
 refine .mk ?_ ?_
 conv=>whnf
 refine .mk fun x12=>?_
 conv=>whnf
 refine .mk ?_ ?_
 conv=>whnf
 refine .mk fun x13=>?_
 refine .mk .mk ?_
 conv=>whnf
 refine .mk fun x14=>?_
 exact .mk
 conv=>whnf
 exact .mk
 exact .mk
 intro _ _
 conv=>whnf
 refine .mk ?_ ?_
 refine .mk ?_
 exact .mk
 conv=>whnf
 refine .mk ?_ ?_
 conv=>whnf
 refine .mk fun x15=>?_
 conv=>whnf
 refine .mk ?_ ?_
 conv=>whnf
 refine .mk fun x16 e16=>?_
 exact .mk
 conv=>whnf
 refine .mk fun x17=>?_
 conv=>whnf
 refine .mk ?_ ?_
 conv=>whnf
 refine .mk fun x18 e18=>?_
 exact .mk
 conv=>whnf
 refine .mk fun x19=>?_
 conv=>whnf
 refine .mk ?_ ?_
 conv=>whnf
 refine .mk fun x20=>?_
 conv=>whnf
 refine .mk ?_ ?_
 conv=>whnf
 refine .mk fun x21 e21=>?_
 refine .mk ?_
 conv=>whnf
 refine .mk fun x22=>?_
 exact .mk
 conv=>whnf
 refine .mk fun x23 e23=>?_
 exact .mk
 conv=>whnf
 refine .mk fun x24=>?_
 conv=>whnf
 refine .mk ?_ ?_
 conv=>whnf
 refine .mk fun x25 e25=>?_
 exact .mk
 conv=>whnf
 exact .mk
 intro _ _
 conv=>whnf
 refine .mk fun x26=>?_
 refine .mk .mk ?_
 refine .mk ?_
 exact .mk
def d_ref14_Fetch (n:Nat) (a1:GState) (a2:Int) (a3:Int) (a4:Int) (a5:Int) (a6:Int):Option (GState×GLayer×Bool×Int) :=
(show Option (Bool) from
(d_ref14_there a1 a2 a3).bind fun x11 =>
bnd (!x11) fun x12 =>
cond x12 (some (true:Bool)) ((d_ref14_to a4 1).bind fun x13 =>
bnd (!x13) fun x14 =>
some x14)).bind <| fun y0_1 =>
cond y0_1 (some ((a1:GState),((⟨0,0,0⟩:GLayer):GLayer),(false:Bool),(4:Int))) ((ix a1.Master.Methods a2).bind fun x15 =>
(ix x15 a3).bind fun x16 =>
(ix a1.Master.Costs a2).bind fun x17 =>
(ix x17 a3).bind fun x18 =>
(d_ref14_At a1 a2 a3 a4).bind fun x19 =>
(d_ref13_Out n x16 x18 x19 a5 a6).bind fun x20 =>
bnd x20.2.2.1 fun x23 =>
bnd (decide (x20.2.2.2≠0)) fun x24 =>
cond x24 (some ((a1:GState),((⟨0,0,0⟩:GLayer):GLayer),(false:Bool),(x20.2.2.2:Int))) ((d_ref14_Put a1 a2 a3 a4 x20.1).bind fun x25 =>
some (x25,(x20.2.1:GLayer),x23,(0:Int))))
theorem d_ref14_Fetch_c {n:Nat} {a1:GState} {a2:Int} {a3:Int} {a4:Int} {a5:Int} {a6:Int} {r:GState×GLayer×Bool×Int} (h0:d_ref14_Fetch n a1 a2 a3 a4 a5 a6=some r):PP Tryz.prog 228 [.agg (GState.av a1),int a2,int a3,int a4,int a5,int a6] (fun y=>y=.tup [.agg (GState.av r.1),.agg (GLayer.av r.2.1),boo r.2.2.1,int r.2.2.2]):=by
  unfold d_ref14_Fetch at h0
  refine pp_of_pc (R0:=fun y H=>Cv (frzH H) y (.tup [.agg (GState.av r.1),.agg (GLayer.av r.2.1),boo r.2.2.1,int r.2.2.2])) ?_ (fun y H hc=>⟨_,rfl,.tup (pvl4 ((fun (a:GState)=>PV.agg (GState.pvc a)) (r.1)) ((fun (a:GLayer)=>PV.agg (GLayer.pvc a)) (r.2.1)) (pvB (r.2.2.1)) (pvI (r.2.2.2))),hc⟩)
  refine pcw (c:=_) Tryz.func228 rfl rfl ?_;intro Q hret hnorm
  refine tc tbk 2 (.mk ?_)
  refine sB 1 fun v7=>?_
  refine sA 2 z31 fun v8=>?_
  refine sA 3 z53 fun v9=>?_
  refine tr tbk 5 (.mk ?_)
  refine jn h0 [1,2,3,4,5,6,12,13,14,15] [1,2,3] (fun (a:Bool) (k:Unit)=>[(29,boo a)]) (fun a k=>[]) ⟨fun j10 h1=>?_,?_⟩
  refine tc tbk 4 (.mk ?_)
  obtain ⟨x11,e11,h1⟩:=bind_e h1
  refine sC cal183 (d_ref14_there_c e11) ?_
  refine nb tbk h1 fun x12 h1=>?_
  refine tr tbk 1 (.mk ?_)
  cases x12
  replace h1:=cf h1
  refine tr tbk 1 (.mk ?_)
  obtain ⟨x13,e13,h1⟩:=bind_e h1
  refine sC cal184 (d_ref14_to_c e13) ?_
  refine nb tbk h1 fun x14 h1=>?_
  refine tr tbk 2 (.mk ?_)
  exact lf h1 () leA
  replace h1:=ct h1
  refine tr tbk 5 (.mk ?_)
  exact lf h1 () leA
  rintro y0_1 _ h0
  cases y0_1
  replace h0:=cf h0
  refine tc tbk 3 (.mk ?_)
  refine c_draw [0,1,3,0,15,31,0,127,255,0,512,1536,0,7680,15872,0,65024,130560,0,0,0,0,3932160,0,0,33554431,67108863,134217727,134217727,134217727,134217727,0,0,6710886399,15569256447,33285996543,68719476735] (fun i k=>bif Nat.beq i 0 then (Nat.beq k 1) else bif Nat.beq i 1 then (Nat.beq k 1) else bif Nat.beq i 2 then (Nat.beq k 1) else bif Nat.beq i 9 then (Nat.beq k 1) else bif Nat.beq i 10 then (Nat.beq k 1) else bif Nat.beq i 11 then (Nat.beq k 1) else bif Nat.beq i 18 then (Nat.beq k 1) else bif Nat.beq i 33 then (Nat.beq k 4) else bif Nat.beq i 34 then (Nat.beq k 5) else false) (fun i=>bif Nat.beq i 31 then (some 4) else bif Nat.beq i 32 then (some 5) else bif Nat.beq i 33 then (some 4) else bif Nat.beq i 34 then (some 5) else none) mixed (by kernel_rfl) ?_;intro C K hK
  refine dg_pure rfl (fun H hH=>yv_fieldAddr rfl fo31_0 rfl (.pt ((hH _ rfl).trans rfl) rfl rfl) (.pt _ _ _ _ _)) ?_
  refine dg_pure rfl (fun H hH=>yv_fieldAddr rfl fo25_3 rfl (.pt ((hH _ rfl).trans rfl) rfl rfl) (.pt _ _ _ _ _)) ?_
  refine dg_pure rfl (fun H hH=>yv_load rfl sh23 rfl (.pt ((hH _ rfl).trans rfl) rfl rfl) rfl) ?_
  refine dg_pure rfl (fun H hH=>yv_move rfl rfl) ?_
  obtain ⟨x15,e15,h0⟩:=bind_e h0
  refine dg_pure rfl (fun H hH=>yv_ixT rfl Tryz.underlying23 sh22 rfl rfl e15) ?_
  refine dg_pure rfl (fun H hH=>yv_load rfl sh22 rfl (.pp _) rfl) ?_
  refine dg_pure rfl (fun H hH=>yv_move rfl rfl) ?_
  obtain ⟨x16,e16,h0⟩:=bind_e h0
  refine dg_pure rfl (fun H hH=>yv_ixT rfl Tryz.underlying22 sh3 rfl rfl e16) ?_
  refine dg_pure rfl (fun H hH=>yv_load rfl sh3 rfl (.pp _) rfl) ?_
  refine dg_pure rfl (fun H hH=>yv_fieldAddr rfl fo31_0 rfl (.pt ((hH _ rfl).trans rfl) rfl rfl) (.pt _ _ _ _ _)) ?_
  refine dg_pure rfl (fun H hH=>yv_fieldAddr rfl fo25_4 rfl (.pt ((hH _ rfl).trans rfl) rfl rfl) (.pt _ _ _ _ _)) ?_
  refine dg_pure rfl (fun H hH=>yv_load rfl sh23 rfl (.pt ((hH _ rfl).trans rfl) rfl rfl) rfl) ?_
  refine dg_pure rfl (fun H hH=>yv_move rfl rfl) ?_
  obtain ⟨x17,e17,h0⟩:=bind_e h0
  refine dg_pure rfl (fun H hH=>yv_ixT rfl Tryz.underlying23 sh22 rfl rfl e17) ?_
  refine dg_pure rfl (fun H hH=>yv_load rfl sh22 rfl (.pp _) rfl) ?_
  refine dg_pure rfl (fun H hH=>yv_move rfl rfl) ?_
  obtain ⟨x18,e18,h0⟩:=bind_e h0
  refine dg_pure rfl (fun H hH=>yv_ixT rfl Tryz.underlying22 sh3 rfl rfl e18) ?_
  refine dg_pure rfl (fun H hH=>yv_load rfl sh3 rfl (.pp _) rfl) ?_
  refine dg_pure rfl (fun H hH=>yv_load rfl sh31 rfl (.pt ((hH _ rfl).trans rfl) rfl rfl) rfl) ?_
  refine dg_pure rfl (fun H hH=>yv_move rfl rfl) ?_
  refine dg_pure rfl (fun H hH=>yv_move rfl rfl) ?_
  refine dg_pure rfl (fun H hH=>yv_move rfl rfl) ?_
  obtain ⟨x19,e19,h0⟩:=bind_e h0
  refine dg_pure rfl (fun H hH=>yv_callP rfl rfl (.cons rfl (.cons rfl (.cons rfl (.cons rfl .nil)))) cal147 (CvL.refl _) (d_ref14_At_c e19)) ?_
  refine dg_pure rfl (fun H hH=>yv_move rfl rfl) ?_
  refine dg_pure rfl (fun H hH=>yv_move rfl rfl) ?_
  obtain ⟨x20,e20,h0⟩:=bind_e h0
  refine dg_pure rfl (fun H hH=>yv_callP rfl rfl (.cons rfl (.cons rfl (.cons rfl (.cons rfl (.cons rfl .nil))))) cal250 (CvL.refl _) (d_ref13_Out_c e20)) ?_
  refine dg_pure rfl (fun H hH=>yv_move rfl rfl) ?_
  refine dg_pure rfl (fun H hH=>yv_extract rfl rfl rfl) ?_
  refine dg_pure rfl (fun H hH=>yv_extract rfl rfl rfl) ?_
  refine dg_pure rfl (fun H hH=>yv_extract rfl rfl rfl) ?_
  refine dg_pure rfl (fun H hH=>yv_extract rfl rfl rfl) ?_
  refine dg_eff rfl rfl (fun H hH=>yl_alloc1 4 rfl z57 rfl) ?_;generalize C+31=v21
  refine dg_eff rfl rfl (fun H hH=>yl_alloc1 5 rfl z53 rfl) ?_;generalize C+32=v22
  refine dg_store rfl rfl rfl (fun H hH=>yl_ob (ob':=(⟨57,4,true,true,v21,[[lst 3 GLayer.av x20.1.Layers,int x20.1.Pend.a0,int x20.1.Pend.a1,int x20.1.Pend.a2]]⟩:AObj)) (yl_store rfl sh57 rfl rfl ((hH _ rfl).trans rfl) rfl rfl rfl rfl rfl rfl) rfl) ?_
  refine dg_store rfl rfl rfl (fun H hH=>yl_ob (ob':=(⟨53,3,true,true,v22,[[int x20.2.1.Qty,int x20.2.1.Value,int x20.2.1.Profit]]⟩:AObj)) (yl_store rfl sh53 rfl rfl ((hH _ rfl).trans rfl) rfl rfl rfl rfl rfl rfl) rfl) ?_
  obtain ⟨x23,e23,h0⟩:=bnd_e h0
  refine dg_pure rfl (fun H hH=>yv_to (y:=boo x23) (yv_assign rfl rfl) (congrArg boo e23)) ?_
  refine dg_pure rfl (fun H hH=>yv_assign rfl rfl) ?_
  refine dg_nil (hK _ ?_)
  refine tc tbk 4 (.mk ?_)
  refine nb tbk h0 fun x24 h0=>?_
  refine tr tbk 1 (.mk ?_)
  cases x24
  replace h0:=cf h0
  refine tc tbk 3 (.mk ?_)
  refine c_drawE [0,0,0,0,0,31,0,0,63,383,1023,2047] (rl [(0,[1]),(4,[4]),(6,[5])] []) (rl [(8,[5]),(9,[])] [1,4,5]) (rl [(8,false),(9,false)] true) [0,1,2,3,4,5,6,7,8,9,10,11] mixed (by kernel_rfl) ?_;intro K hK
  refine eL sh31 ?_
  iterate 3 refine eM ?_
  refine eL sh57 ?_
  obtain ⟨x25,e25,h0⟩:=bind_e h0
  refine eP (fun H hH=>yv_callP rfl rfl (.cons rfl (.cons rfl (.cons rfl (.cons rfl (.cons rfl .nil))))) cal150 (CvL.refl _) (d_ref14_Put_c e25)) ?_
  refine eL sh53 ?_
  refine eM ?_
  refine de_eff0 rfl rfl rfl rfl (Yield.weak (yl_ob (ob':=(⟨31,10,true,true,v8,[(GState.av x25)]⟩:AObj)) (yl_store rfl sh31 rfl rfl rfl rfl rfl rfl rfl rfl rfl) rfl) (fun _ h=>h) (fun _ _=>trivial)) (by rintro _ _ ⟨rfl,rfl⟩;exact ⟨rfl,trivial⟩) ?_;rintro _ _ ⟨rfl,rfl⟩
  refine de_eff0 rfl rfl rfl rfl (Yield.weak (yl_ob (ob':=(⟨53,3,true,true,v9,[[int x20.2.1.Qty,int x20.2.1.Value,int x20.2.1.Profit]]⟩:AObj)) (yl_store rfl sh53 rfl rfl rfl rfl rfl rfl rfl rfl rfl) rfl) (fun _ h=>h) (fun _ _=>trivial)) (by rintro _ _ ⟨rfl,rfl⟩;exact trivial) ?_;rintro _ _ ⟨rfl,rfl⟩
  iterate 2 refine eA ?_
  refine de_nil (hK _ ?_)
  obtain rfl:=nxt_e h0
  refine wR hret (rC sh31 (rC sh53 (rT (rT .nil)))) ?_
  exact .refl _
  replace h0:=ct h0
  refine tc tbk 6 (.mk ?_)
  refine sS ⟨31,10,true,true,v8,[(GState.av a1)]⟩ sh31 ?_
  refine sS ⟨53,3,true,true,v9,[[int 0,int 0,int 0]]⟩ sh53 ?_
  refine tr tbk 3 (.mk ?_)
  obtain rfl:=nxt_e h0
  refine wR hret (rC sh31 (rC sh53 (rT (rT .nil)))) ?_
  exact .refl _
  replace h0:=ct h0
  refine tc tbk 5 (.mk ?_)
  refine sS ⟨31,10,true,true,v8,[(GState.av a1)]⟩ sh31 ?_
  refine sS ⟨53,3,true,true,v9,[[int 0,int 0,int 0]]⟩ sh53 ?_
  refine tr tbk 3 (.mk ?_)
  obtain rfl:=nxt_e h0
  refine wR hret (rC sh31 (rC sh53 (rT (rT .nil)))) ?_
  exact .refl _
noncomputable def t_ref16_sell (n:Nat) (a1:GState) (a2:GOp):WT Tryz.prog (.b (GState×Int)) :=
 .al 1<|
 .al 2<|
 .al 3<|
 .cl 16 (d_ref14_Ready a1 a2.E a2.Item) cal195 d_ref14_Ready_c fun x6 =>
 .bB 18 (decide (x6≠0)) fun x7 =>
 .ifs [18] x7 (.ret ((a1:GState),x6)) (.ln 23 GSale.av a1.Sales<|
 .bB 24 (decide ((a1.Sales.length:Int)≥40)) fun x8 =>
 .ifs [24] x8 (.ret ((a1:GState),(6:Int))) (.cl 36 (d_ref14_Fetch n a1 a2.E a2.Item a2.Loc 0 a2.Qty) cal228 d_ref14_Fetch_c fun x9 =>
 .al 4<|
 .al 5<|
 .bB 42 (decide (x9.2.2.2≠0)) fun x12 =>
 .ifs [42] x12 (.ret ((a1:GState),(x9.2.2.2:Int))) (.bI 54 (w64 (0-a2.Amount)) fun x13 =>
 .bI 61 (w64 (0-x9.2.1.Value)) fun x14 =>
 .gv 63<|
 .cl 64 (d_ref14_Post n x9.1 a2.E ([(⟨3,a2.Amount⟩:GLine),(⟨4,x13⟩:GLine),(⟨5,x9.2.1.Value⟩:GLine),(⟨0,x14⟩:GLine)]:List GLine)) cal149 d_ref14_Post_c fun x15 =>
 .bB 68 (decide (x15.2≠0)) fun x16 =>
 .ifs [68] x16 (.ret ((a1:GState),(x15.2:Int))) (.cl 80 (d_ref14_Turn n x15.1 a2.E a2.Item (⟨0,0,0,0,0,x9.2.1.Value,0,0,0,0,0⟩:GRoll)) cal151 d_ref14_Turn_c fun x17 =>
 .bB 84 (decide (x17.2≠0)) fun x18 =>
 .ifs [84] x18 (.ret ((a1:GState),(x17.2:Int))) (.dr [(0,[4]),(1,[4]),(3,[2]),(4,[2]),(5,[2]),(6,[2]),(7,[2]),(8,[2]),(9,[2]),(10,[2]),(11,[5]),(12,[5]),(13,[5]),(14,[5]),(15,[1]),(16,[1]),(17,[2]),(18,[2]),(26,[4])] [(2,[1,2,5]),(25,[]),(27,[])] [1,2,4,5] [2,25,27] [0,1,3,4,5,6,7,8,9,10,11,12,13,14,15,16,17,18,19,20,21,22,23,24,2,25,26,27] (.ixE 106 GEnt.av gE GEnt.av_eq a1.Ents a2.E fun x19 =>
 .bB 109 (x9.2.2.1) fun x20 =>
 .gv 111<|
 .as (x17.1.Sales.length≤68719476736) inferInstance<|
 .ge 89<|
 .bl (x17.1.Sales++([(⟨a2.E,a2.Item,a2.Loc,a2.Qty,0,x9.2.1.Value,x9.2.1.Profit,x19.Now,x20⟩:GSale)]:List GSale):List GSale) fun x23 =>
 .as (x23.length≤68719476736) inferInstance<|
 .ge 112<|
 .ret (((⟨x17.1.Master,x17.1.Ents,x17.1.Receipts,x23,x17.1.Transits,x17.1.Done⟩:GState):GState),(0:Int))))))))
def d_ref16_sell (n:Nat) (a1:GState) (a2:GOp):Option (GState×Int):=(t_ref16_sell n a1 a2).run
theorem d_ref16_sell_c {n:Nat} {a1:GState} {a2:GOp} {r:GState×Int} (h0:d_ref16_sell n a1 a2=some r):PP Tryz.prog 197 [.agg (GState.av a1),.agg (GOp.av a2)] (fun y=>y=.tup [.agg (GState.av r.1),int r.2]):=by
 refine wt_pp mixed tbk (fun (r:GState×Int)=>.tup [.agg (GState.av r.1),int r.2]) h0 Tryz.func197 (fun r=>.tup (pvl2 ((fun (a:GState)=>PV.agg (GState.pvc a)) (r.1)) (pvI (r.2)))) 100000 ?_
 intro v3
 intro v4
 intro v5
 conv=>whnf
 refine .mk fun x6 e6=>?_
 conv=>whnf
 refine .mk fun x7=>?_
 refine .mk .mk ?_
 refine .mk ?_
 conv=>whnf
 refine .mk fun x8=>?_
 refine .mk .mk ?_
 conv=>whnf
 refine .mk fun x9 e9=>?_
 intro v10
 intro v11
 conv=>whnf
 refine .mk fun x12=>?_
 refine .mk .mk ?_
 conv=>whnf
 refine .mk fun x13=>?_
 conv=>whnf
 refine .mk fun x14=>?_
 conv=>whnf
 refine .mk _ (agr (yv_to (y:=lst 2 GLine.av ([(⟨3,a2.Amount⟩:GLine),(⟨4,x13⟩:GLine),(⟨5,x9.2.1.Value⟩:GLine),(⟨0,x14⟩:GLine)]:List GLine)) (yv_buildSlice (ps:=[(0,_),(1,_),(2,_),(3,_)]) (rows:=[[int 3,int a2.Amount],[int 4,int x13],[int 5,int x9.2.1.Value],[int 0,int x14]]) rfl Tryz.underlying120 bz119 (.cons rfl (.cons rfl (.cons rfl (.cons rfl .nil)))) (by kernel_rfl) rfl rfl rfl) rfl)) ?_
 conv=>whnf
 refine .mk fun x15 e15=>?_
 conv=>whnf
 refine .mk fun x16=>?_
 refine .mk .mk ?_
 conv=>whnf
 refine .mk fun x17 e17=>?_
 conv=>whnf
 refine .mk fun x18=>?_
 refine .mk .mk ?_
 refine .mk ?_
 conv=>whnf
 refine .mk fun x19 e19=>?_
 conv=>whnf
 refine .mk fun x20=>?_
 conv=>whnf
 refine .mk _ (fun H hH _=>yv_to (y:=lst 9 GSale.av ([(⟨a2.E,a2.Item,a2.Loc,a2.Qty,0,x9.2.1.Value,x9.2.1.Profit,x19.Now,x20⟩:GSale)]:List GSale)) (yv_buildSlice (ps:=[(0,_)]) (rows:=[[int a2.E,int a2.Item,int a2.Loc,int a2.Qty,int 0,int x9.2.1.Value,int x9.2.1.Profit,int x19.Now,boo x20]]) rfl Tryz.underlying28 bz88 (.cons rfl .nil) (by kernel_rfl) rfl rfl rfl) rfl) ?_
 conv=>whnf
 refine .mk fun p21=>?_
 conv=>whnf
 refine .mk _ ⟨fun _=>yl_app0T (g:=GSale.av) (m:=x17.1.Sales) 6 rfl Tryz.underlying28 bz88 by88 rfl rfl rfl rfl (.refl _) (fun _=>rfl) p21,by rintro _ _ ⟨v22,rfl,rfl⟩;exact ⟨rfl,rfl,rfl,trivial⟩⟩ ?_
 rintro _ _ ⟨v22,rfl,rfl⟩
 conv=>whnf
 refine .mk fun x23 e23=>?_
 conv=>whnf
 refine .mk fun p24=>?_
 conv=>whnf
 refine .mk _ ⟨fun _=>yl_appT (g:=GSale.av) (l:=x17.1.Sales) (m:=([(⟨a2.E,a2.Item,a2.Loc,a2.Qty,0,x9.2.1.Value,x9.2.1.Profit,x19.Now,x20⟩:GSale)]:List GSale)) .any rfl Tryz.underlying28 bz88 by88 rfl rfl rfl rfl rfl rfl rfl rfl rfl rfl (Eq.symm rfl) (.refl _) (fun _=>rfl) e23 p24,by rintro _ _ ⟨v25,-,rfl,rfl⟩;exact trivial⟩ ?_
 rintro _ _ ⟨v25,-,rfl,rfl⟩
 conv=>whnf
 exact .mk (CvL.tup (.cons (CvL.agg (.cons (.refl _) (.cons (.refl _) (.cons (.refl _) (.cons (.refl _) (.cons (.refl _) (.cons (.refl _) (.cons (.refl _) (.cons (cv_lst rfl rfl rfl rfl rfl (Eq.symm rfl)) (.cons (.refl _) (.cons (.refl _) .nil))))))))))) (.cons (.refl _) .nil)))
def d_ref11_Back (a1:GPool) (a2:Int) (a3:Int):Option (GPool×Int) :=
(show Option ((Unit)⊕(GPool×Int)) from
(show Option (Bool) from
bnd (decide (a2<0)) fun x8 =>
cond x8 (some (true:Bool)) (bnd (decide (a2≥3)) fun x9 =>
cond x9 (some (true:Bool)) (bnd (decide (a3<1)) fun x10 =>
some x10))).bind <| fun y0_1 =>
cond y0_1 (esc (some ((a1:GPool),(1:Int)))) (bnd (decide (a2=0)) fun x11 =>
cond x11 (bnd (decide (a3>a1.Pend.a0)) fun x18 =>
cond x18 (esc (some ((a1:GPool),(5:Int)))) (brk ())) (bnd (decide (a2=1)) fun x12 =>
cond x12 (bnd (decide (a3>a1.Pend.a1)) fun x16 =>
cond x16 (esc (some ((a1:GPool),(5:Int)))) (brk ())) (asrt (a2=2)<|
bnd (decide (a3>a1.Pend.a2)) fun x14 =>
cond x14 (esc (some ((a1:GPool),(5:Int)))) (brk ()))))).bind <| sel <| fun _ =>
bnd (decide (a2=0)) fun x21 =>
cond x21 (bnd (w64 (a1.Pend.a0-a3)) fun x32 =>
bnd (decide (a2=0)) fun x33 =>
cond x33 (some (((⟨a1.Layers,(⟨x32,a1.Pend.a1,a1.Pend.a2⟩:A3_Int)⟩:GPool):GPool),(0:Int))) (bnd (decide (a2=1)) fun x34 =>
cond x34 (some (((⟨a1.Layers,(⟨a1.Pend.a0,x32,a1.Pend.a2⟩:A3_Int)⟩:GPool):GPool),(0:Int))) (asrt (a2=2)<|
some (((⟨a1.Layers,(⟨a1.Pend.a0,a1.Pend.a1,x32⟩:A3_Int)⟩:GPool):GPool),(0:Int))))) (bnd (decide (a2=1)) fun x22 =>
cond x22 (bnd (w64 (a1.Pend.a1-a3)) fun x28 =>
bnd (decide (a2=0)) fun x29 =>
cond x29 (some (((⟨a1.Layers,(⟨x28,a1.Pend.a1,a1.Pend.a2⟩:A3_Int)⟩:GPool):GPool),(0:Int))) (bnd (decide (a2=1)) fun x30 =>
cond x30 (some (((⟨a1.Layers,(⟨a1.Pend.a0,x28,a1.Pend.a2⟩:A3_Int)⟩:GPool):GPool),(0:Int))) (asrt (a2=2)<|
some (((⟨a1.Layers,(⟨a1.Pend.a0,a1.Pend.a1,x28⟩:A3_Int)⟩:GPool):GPool),(0:Int))))) (asrt (a2=2)<|
bnd (w64 (a1.Pend.a2-a3)) fun x24 =>
bnd (decide (a2=0)) fun x25 =>
cond x25 (some (((⟨a1.Layers,(⟨x24,a1.Pend.a1,a1.Pend.a2⟩:A3_Int)⟩:GPool):GPool),(0:Int))) (bnd (decide (a2=1)) fun x26 =>
cond x26 (some (((⟨a1.Layers,(⟨a1.Pend.a0,x24,a1.Pend.a2⟩:A3_Int)⟩:GPool):GPool),(0:Int))) (asrt (a2=2)<|
some (((⟨a1.Layers,(⟨a1.Pend.a0,a1.Pend.a1,x24⟩:A3_Int)⟩:GPool):GPool),(0:Int))))))
theorem d_ref11_Back_c {a1:GPool} {a2:Int} {a3:Int} {r:GPool×Int} (h0:d_ref11_Back a1 a2 a3=some r):PP Tryz.prog 229 [.agg (GPool.av a1),int a2,int a3] (fun y=>y=.tup [.agg (GPool.av r.1),int r.2]):=by
  unfold d_ref11_Back at h0
  refine pp_of_pc (R0:=fun y H=>Cv (frzH H) y (.tup [.agg (GPool.av r.1),int r.2])) ?_ (fun y H hc=>⟨_,rfl,.tup (pvl2 ((fun (a:GPool)=>PV.agg (GPool.pvc a)) (r.1)) (pvI (r.2))),hc⟩)
  refine pcw (c:=_) Tryz.func229 rfl rfl ?_;intro Q hret hnorm
  refine tc tbk 2 (.mk ?_)
  refine sB 1 fun v4=>?_
  refine sA 2 z57 fun v5=>?_
  refine tr tbk 3 (.mk ?_)
  refine jnE h0 [1,2,3,6,7] [1,2] (fun (a:Unit) (k:Unit)=>[]) (fun a k=>[]) ⟨fun j6 h1 h0=>?_,?_⟩
  refine tc tbk 2 (.mk ?_)
  refine jn h1 [1,2,3,6,7] [1,2] (fun (a:Bool) (k:Unit)=>[(8,boo a)]) (fun a k=>[]) ⟨fun j7 h2=>?_,?_⟩
  refine tc tbk 2 (.mk ?_)
  refine nb tbk h2 fun x8 h2=>?_
  refine tr tbk 1 (.mk ?_)
  cases x8
  replace h2:=cf h2
  refine tr tbk 1 (.mk ?_)
  refine nb tbk h2 fun x9 h2=>?_
  refine tr tbk 2 (.mk ?_)
  cases x9
  replace h2:=cf h2
  refine tr tbk 1 (.mk ?_)
  refine nb tbk h2 fun x10 h2=>?_
  refine tr tbk 3 (.mk ?_)
  exact lf h2 () leA
  replace h2:=ct h2
  refine tr tbk 5 (.mk ?_)
  exact lf h2 () leA
  replace h2:=ct h2
  refine tr tbk 9 (.mk ?_)
  exact lf h2 () leA
  rintro y0_1 _ h1
  cases y0_1
  replace h1:=cf h1
  refine tc tbk 6 (.mk ?_)
  obtain ⟨x11,e11,h1⟩:=bnd_e h1
  cases x11
  replace h1:=cf h1
  obtain ⟨x12,e12,h1⟩:=bnd_e h1
  cases x12
  replace h1:=cf h1
  obtain ⟨p13,h1⟩:=asrt_e h1
  refine rsas 22 (int 2) rfl (congrArg int p13) ?_
  refine sY (yv_to (y:=.pt 1 v4 0 3) (yv_indexAddrA rfl Tryz.underlying55 sh3 rfl rfl rfl rfl rfl (by decide)) rfl) ?_
  refine tr tbk 1 (.mk ?_)
  refine nb tbk h1 fun x14 h1=>?_
  refine tr tbk 2 (.mk ?_)
  cases x14
  replace h1:=cf h1
  refine tc tbk 3 (.mk ?_)
  exact lfE h1 () leA
  replace h1:=ct h1
  refine tc tbk 4 (.mk ?_)
  refine sS ⟨57,4,true,true,v5,[[lst 3 GLayer.av a1.Layers,int a1.Pend.a0,int a1.Pend.a1,int a1.Pend.a2]]⟩ sh57 ?_
  refine tr tbk 2 (.mk ?_)
  obtain ⟨c15,hX,hj⟩:=esc_e h1;subst hj;replace h0:=hX.trans (sel_r h0)
  obtain rfl:=nxt_e h0
  refine wR hret (rC sh57 (rT .nil)) ?_
  exact .refl _
  replace h1:=ct h1
  refine rsas 22 (int 1) rfl (congrArg int (of_decide_eq_true e12)) ?_
  refine sY (yv_to (y:=.pt 1 v4 0 2) (yv_indexAddrA rfl Tryz.underlying55 sh3 rfl rfl rfl rfl rfl (by decide)) rfl) ?_
  refine tr tbk 1 (.mk ?_)
  refine nb tbk h1 fun x16 h1=>?_
  refine tr tbk 2 (.mk ?_)
  cases x16
  replace h1:=cf h1
  refine tc tbk 3 (.mk ?_)
  exact lfE h1 () leA
  replace h1:=ct h1
  refine tc tbk 4 (.mk ?_)
  refine sS ⟨57,4,true,true,v5,[[lst 3 GLayer.av a1.Layers,int a1.Pend.a0,int a1.Pend.a1,int a1.Pend.a2]]⟩ sh57 ?_
  refine tr tbk 2 (.mk ?_)
  obtain ⟨c17,hX,hj⟩:=esc_e h1;subst hj;replace h0:=hX.trans (sel_r h0)
  obtain rfl:=nxt_e h0
  refine wR hret (rC sh57 (rT .nil)) ?_
  exact .refl _
  replace h1:=ct h1
  refine rsas 22 (int 0) rfl (congrArg int (of_decide_eq_true e11)) ?_
  refine sY (yv_to (y:=.pt 1 v4 0 1) (yv_indexAddrA rfl Tryz.underlying55 sh3 rfl rfl rfl rfl rfl (by decide)) rfl) ?_
  refine tr tbk 1 (.mk ?_)
  refine nb tbk h1 fun x18 h1=>?_
  refine tr tbk 2 (.mk ?_)
  cases x18
  replace h1:=cf h1
  refine tc tbk 3 (.mk ?_)
  exact lfE h1 () leA
  replace h1:=ct h1
  refine tc tbk 4 (.mk ?_)
  refine sS ⟨57,4,true,true,v5,[[lst 3 GLayer.av a1.Layers,int a1.Pend.a0,int a1.Pend.a1,int a1.Pend.a2]]⟩ sh57 ?_
  refine tr tbk 2 (.mk ?_)
  obtain ⟨c19,hX,hj⟩:=esc_e h1;subst hj;replace h0:=hX.trans (sel_r h0)
  obtain rfl:=nxt_e h0
  refine wR hret (rC sh57 (rT .nil)) ?_
  exact .refl _
  replace h1:=ct h1
  refine tc tbk 4 (.mk ?_)
  refine sS ⟨57,4,true,true,v5,[[lst 3 GLayer.av a1.Layers,int a1.Pend.a0,int a1.Pend.a1,int a1.Pend.a2]]⟩ sh57 ?_
  refine tr tbk 2 (.mk ?_)
  obtain ⟨c20,hX,hj⟩:=esc_e h1;subst hj;replace h0:=hX.trans (sel_r h0)
  obtain rfl:=nxt_e h0
  refine wR hret (rC sh57 (rT .nil)) ?_
  exact .refl _
  rintro _ _ h0
  refine tc tbk 5 (.mk ?_)
  obtain ⟨x21,e21,h0⟩:=bnd_e h0
  cases x21
  replace h0:=cf h0
  obtain ⟨x22,e22,h0⟩:=bnd_e h0
  cases x22
  replace h0:=cf h0
  obtain ⟨p23,h0⟩:=asrt_e h0
  refine rsas 29 (int 2) rfl (congrArg int p23) ?_
  refine sY (yv_to (y:=.pt 1 v4 0 3) (yv_indexAddrA rfl Tryz.underlying55 sh3 rfl rfl rfl rfl rfl (by decide)) rfl) ?_
  refine tr tbk 2 (.mk ?_)
  refine ni tbk h0 fun x24 h0=>?_
  refine tr tbk 1 (.mk ?_)
  obtain ⟨x25,e25,h0⟩:=bnd_e h0
  cases x25
  replace h0:=cf h0
  obtain ⟨x26,e26,h0⟩:=bnd_e h0
  cases x26
  replace h0:=cf h0
  obtain ⟨p27,h0⟩:=asrt_e h0
  refine rsas 28 (int 2) rfl (congrArg int p27) ?_
  refine sY (yv_to (y:=.pt 1 v4 0 3) (yv_indexAddrA rfl Tryz.underlying55 sh3 rfl rfl rfl rfl rfl (by decide)) rfl) ?_
  refine sS ⟨57,4,true,true,v4,[[lst 3 GLayer.av a1.Layers,int a1.Pend.a0,int a1.Pend.a1,int x24]]⟩ sh3 ?_
  refine tr tbk 4 (.mk ?_)
  refine sS ⟨57,4,true,true,v5,[[lst 3 GLayer.av a1.Layers,int a1.Pend.a0,int a1.Pend.a1,int x24]]⟩ sh57 ?_
  refine tr tbk 2 (.mk ?_)
  obtain rfl:=nxt_e h0
  refine wR hret (rC sh57 (rT .nil)) ?_
  exact .refl _
  replace h0:=ct h0
  refine rsas 28 (int 1) rfl (congrArg int (of_decide_eq_true e26)) ?_
  refine sY (yv_to (y:=.pt 1 v4 0 2) (yv_indexAddrA rfl Tryz.underlying55 sh3 rfl rfl rfl rfl rfl (by decide)) rfl) ?_
  refine sS ⟨57,4,true,true,v4,[[lst 3 GLayer.av a1.Layers,int a1.Pend.a0,int x24,int a1.Pend.a2]]⟩ sh3 ?_
  refine tr tbk 4 (.mk ?_)
  refine sS ⟨57,4,true,true,v5,[[lst 3 GLayer.av a1.Layers,int a1.Pend.a0,int x24,int a1.Pend.a2]]⟩ sh57 ?_
  refine tr tbk 2 (.mk ?_)
  obtain rfl:=nxt_e h0
  refine wR hret (rC sh57 (rT .nil)) ?_
  exact .refl _
  replace h0:=ct h0
  refine rsas 28 (int 0) rfl (congrArg int (of_decide_eq_true e25)) ?_
  refine sY (yv_to (y:=.pt 1 v4 0 1) (yv_indexAddrA rfl Tryz.underlying55 sh3 rfl rfl rfl rfl rfl (by decide)) rfl) ?_
  refine sS ⟨57,4,true,true,v4,[[lst 3 GLayer.av a1.Layers,int x24,int a1.Pend.a1,int a1.Pend.a2]]⟩ sh3 ?_
  refine tr tbk 4 (.mk ?_)
  refine sS ⟨57,4,true,true,v5,[[lst 3 GLayer.av a1.Layers,int x24,int a1.Pend.a1,int a1.Pend.a2]]⟩ sh57 ?_
  refine tr tbk 2 (.mk ?_)
  obtain rfl:=nxt_e h0
  refine wR hret (rC sh57 (rT .nil)) ?_
  exact .refl _
  replace h0:=ct h0
  refine rsas 29 (int 1) rfl (congrArg int (of_decide_eq_true e22)) ?_
  refine sY (yv_to (y:=.pt 1 v4 0 2) (yv_indexAddrA rfl Tryz.underlying55 sh3 rfl rfl rfl rfl rfl (by decide)) rfl) ?_
  refine tr tbk 2 (.mk ?_)
  refine ni tbk h0 fun x28 h0=>?_
  refine tr tbk 1 (.mk ?_)
  obtain ⟨x29,e29,h0⟩:=bnd_e h0
  cases x29
  replace h0:=cf h0
  obtain ⟨x30,e30,h0⟩:=bnd_e h0
  cases x30
  replace h0:=cf h0
  obtain ⟨p31,h0⟩:=asrt_e h0
  refine rsas 28 (int 2) rfl (congrArg int p31) ?_
  refine sY (yv_to (y:=.pt 1 v4 0 3) (yv_indexAddrA rfl Tryz.underlying55 sh3 rfl rfl rfl rfl rfl (by decide)) rfl) ?_
  refine sS ⟨57,4,true,true,v4,[[lst 3 GLayer.av a1.Layers,int a1.Pend.a0,int a1.Pend.a1,int x28]]⟩ sh3 ?_
  refine tr tbk 4 (.mk ?_)
  refine sS ⟨57,4,true,true,v5,[[lst 3 GLayer.av a1.Layers,int a1.Pend.a0,int a1.Pend.a1,int x28]]⟩ sh57 ?_
  refine tr tbk 2 (.mk ?_)
  obtain rfl:=nxt_e h0
  refine wR hret (rC sh57 (rT .nil)) ?_
  exact .refl _
  replace h0:=ct h0
  refine rsas 28 (int 1) rfl (congrArg int (of_decide_eq_true e30)) ?_
  refine sY (yv_to (y:=.pt 1 v4 0 2) (yv_indexAddrA rfl Tryz.underlying55 sh3 rfl rfl rfl rfl rfl (by decide)) rfl) ?_
  refine sS ⟨57,4,true,true,v4,[[lst 3 GLayer.av a1.Layers,int a1.Pend.a0,int x28,int a1.Pend.a2]]⟩ sh3 ?_
  refine tr tbk 4 (.mk ?_)
  refine sS ⟨57,4,true,true,v5,[[lst 3 GLayer.av a1.Layers,int a1.Pend.a0,int x28,int a1.Pend.a2]]⟩ sh57 ?_
  refine tr tbk 2 (.mk ?_)
  obtain rfl:=nxt_e h0
  refine wR hret (rC sh57 (rT .nil)) ?_
  exact .refl _
  replace h0:=ct h0
  refine rsas 28 (int 0) rfl (congrArg int (of_decide_eq_true e29)) ?_
  refine sY (yv_to (y:=.pt 1 v4 0 1) (yv_indexAddrA rfl Tryz.underlying55 sh3 rfl rfl rfl rfl rfl (by decide)) rfl) ?_
  refine sS ⟨57,4,true,true,v4,[[lst 3 GLayer.av a1.Layers,int x28,int a1.Pend.a1,int a1.Pend.a2]]⟩ sh3 ?_
  refine tr tbk 4 (.mk ?_)
  refine sS ⟨57,4,true,true,v5,[[lst 3 GLayer.av a1.Layers,int x28,int a1.Pend.a1,int a1.Pend.a2]]⟩ sh57 ?_
  refine tr tbk 2 (.mk ?_)
  obtain rfl:=nxt_e h0
  refine wR hret (rC sh57 (rT .nil)) ?_
  exact .refl _
  replace h0:=ct h0
  refine rsas 29 (int 0) rfl (congrArg int (of_decide_eq_true e21)) ?_
  refine sY (yv_to (y:=.pt 1 v4 0 1) (yv_indexAddrA rfl Tryz.underlying55 sh3 rfl rfl rfl rfl rfl (by decide)) rfl) ?_
  refine tr tbk 2 (.mk ?_)
  refine ni tbk h0 fun x32 h0=>?_
  refine tr tbk 1 (.mk ?_)
  obtain ⟨x33,e33,h0⟩:=bnd_e h0
  cases x33
  replace h0:=cf h0
  obtain ⟨x34,e34,h0⟩:=bnd_e h0
  cases x34
  replace h0:=cf h0
  obtain ⟨p35,h0⟩:=asrt_e h0
  refine rsas 28 (int 2) rfl (congrArg int p35) ?_
  refine sY (yv_to (y:=.pt 1 v4 0 3) (yv_indexAddrA rfl Tryz.underlying55 sh3 rfl rfl rfl rfl rfl (by decide)) rfl) ?_
  refine sS ⟨57,4,true,true,v4,[[lst 3 GLayer.av a1.Layers,int a1.Pend.a0,int a1.Pend.a1,int x32]]⟩ sh3 ?_
  refine tr tbk 4 (.mk ?_)
  refine sS ⟨57,4,true,true,v5,[[lst 3 GLayer.av a1.Layers,int a1.Pend.a0,int a1.Pend.a1,int x32]]⟩ sh57 ?_
  refine tr tbk 2 (.mk ?_)
  obtain rfl:=nxt_e h0
  refine wR hret (rC sh57 (rT .nil)) ?_
  exact .refl _
  replace h0:=ct h0
  refine rsas 28 (int 1) rfl (congrArg int (of_decide_eq_true e34)) ?_
  refine sY (yv_to (y:=.pt 1 v4 0 2) (yv_indexAddrA rfl Tryz.underlying55 sh3 rfl rfl rfl rfl rfl (by decide)) rfl) ?_
  refine sS ⟨57,4,true,true,v4,[[lst 3 GLayer.av a1.Layers,int a1.Pend.a0,int x32,int a1.Pend.a2]]⟩ sh3 ?_
  refine tr tbk 4 (.mk ?_)
  refine sS ⟨57,4,true,true,v5,[[lst 3 GLayer.av a1.Layers,int a1.Pend.a0,int x32,int a1.Pend.a2]]⟩ sh57 ?_
  refine tr tbk 2 (.mk ?_)
  obtain rfl:=nxt_e h0
  refine wR hret (rC sh57 (rT .nil)) ?_
  exact .refl _
  replace h0:=ct h0
  refine rsas 28 (int 0) rfl (congrArg int (of_decide_eq_true e33)) ?_
  refine sY (yv_to (y:=.pt 1 v4 0 1) (yv_indexAddrA rfl Tryz.underlying55 sh3 rfl rfl rfl rfl rfl (by decide)) rfl) ?_
  refine sS ⟨57,4,true,true,v4,[[lst 3 GLayer.av a1.Layers,int x32,int a1.Pend.a1,int a1.Pend.a2]]⟩ sh3 ?_
  refine tr tbk 4 (.mk ?_)
  refine sS ⟨57,4,true,true,v5,[[lst 3 GLayer.av a1.Layers,int x32,int a1.Pend.a1,int a1.Pend.a2]]⟩ sh57 ?_
  refine tr tbk 2 (.mk ?_)
  obtain rfl:=nxt_e h0
  refine wR hret (rC sh57 (rT .nil)) ?_
  exact .refl _
noncomputable def t_ref16_with (a1:GState) (a2:Int) (a3:GSale):WT Tryz.prog (.b (GState)) :=
 .al 1<|
 .al 2<|
 .al 3<|
 .as (a1.Sales.length≤68719476736) inferInstance<|
 .ge 10<|
 .bo (ix a1.Sales a2) fun x9 =>
 .gv 14<|
 .bl (a1.Sales.set (Int.toNat a2) (a3:GSale):List GSale) fun x10 =>
 .ge 1002004<|
 .ret (((⟨a1.Master,a1.Ents,a1.Receipts,x10,a1.Transits,a1.Done⟩:GState):GState))
def d_ref16_with (a1:GState) (a2:Int) (a3:GSale):Option (GState):=(t_ref16_with a1 a2 a3).run
theorem d_ref16_with_c {a1:GState} {a2:Int} {a3:GSale} {r:GState} (h0:d_ref16_with a1 a2 a3=some r):PP Tryz.prog 230 [.agg (GState.av a1),int a2,.agg (GSale.av a3)] (fun y=>y=.agg (GState.av r)):=by
 refine wt_pp mixed tbk (fun (r:GState)=>.agg (GState.av r)) h0 Tryz.func230 (fun r=>(fun (a:GState)=>PV.agg (GState.pvc a)) r) 100000 ?_
 intro v4
 intro v5
 intro v6
 conv=>whnf
 refine .mk fun p7=>?_
 conv=>whnf
 refine .mk _ ⟨fun _=>yl_app0T (g:=GSale.av) (m:=a1.Sales) 4 rfl Tryz.underlying28 bz88 by88 rfl rfl rfl rfl (.refl _) (fun _=>rfl) p7,fun _ _ _=>trivial⟩ ?_
 rintro _ _ ⟨v8,rfl,rfl⟩
 conv=>whnf
 refine .mk fun x9 e9=>?_
 conv=>whnf
 refine .mk _ (agr (yv_ixO rfl Tryz.underlying28 sh88 rfl rfl rfl rfl rfl (Eq.symm rfl) (List.length_map _) e9)) ?_
 conv=>whnf
 refine .mk fun x10 e10=>?_
 have fx10:=ix_set e9 e10;have lx10:=len_setV e10 (rfl:a1.Sales.length=a1.Sales.length)
 conv=>whnf
 refine .mk _ ⟨fun _=>Yield.weak (yl_ob (ob':=(⟨88,9,true,true,_,x10.map GSale.av⟩:AObj)) (yl_store rfl sh88 rfl rfl rfl rfl rfl (ix_get e9) rfl rfl rfl) (ob_eq (map_setV e10))) (fun _ h=>h) (fun _ _=>trivial),fun _ _ _=>trivial⟩ ?_
 rintro _ _ ⟨rfl,rfl⟩
 conv=>whnf
 exact .mk (CvL.agg (.cons (.refl _) (.cons (.refl _) (.cons (.refl _) (.cons (.refl _) (.cons (.refl _) (.cons (.refl _) (.cons (.refl _) (.cons (cv_lst rfl rfl rfl rfl rfl (Eq.symm lx10)) (.cons (.refl _) (.cons (.refl _) .nil)))))))))))
noncomputable def t_ref16_takeback (n:Nat) (a1:GState) (a2:GOp):WT Tryz.prog (.b (GState×Int)) :=
 .al 1<|
 .al 2<|
 .al 3<|
 .jn 0 [2,3,4,5] [1,2,3] [] (fun _ (a:Bool)=>[(30,boo a)]) (fun _ _=>[]) (.bB 22 (decide (a2.Ref<0)) fun x6 =>
 .ifs [22] x6 (.ret (true:Bool)) (.ln 28 GSale.av a1.Sales<|
 .bB 29 (decide (a2.Ref≥(a1.Sales.length:Int))) fun x7 =>
 .ret x7))
  (fun y0_1 =>
 .ifs [30] y0_1 (.ret ((a1:GState),(4:Int))) (.ix 36 GSale.av a1.Sales a2.Ref fun x8 =>
 .al 4<|
 .cl 43 (d_ref14_Ready a1 x8.Entity x8.Item) cal195 d_ref14_Ready_c fun x10 =>
 .bB 45 (decide (x10≠0)) fun x11 =>
 .ifs [45] x11 (.ret ((a1:GState),x10)) (.bI 52 (w64 (x8.Qty-x8.Back)) fun x12 =>
 .bB 56 (decide (a2.Qty>x12)) fun x13 =>
 .ifs [56] x13 (.ret ((a1:GState),(5:Int))) (.bI 63 (w64 (0-a2.Amount)) fun x14 =>
 .ge 65<|
 .al 6<|
 .bI 71 (w64 (x8.Back+a2.Qty)) fun x17 =>
 .jn 0 [2,3,4,5,6,8,9,10] [1,2,3,4,5,6] [] (fun _ (a:Bool)=>[(86,boo a)]) (fun _ _=>[]) (.dr [(0,[4]),(1,[4]),(3,[4]),(4,[4]),(5,[1]),(6,[1]),(7,[4]),(8,[4])] [] [1,4] [] [0,1,2,3,4,5,6,7,8,9,10,11,12,13] (.bB 75 (x8.Waits) fun x18 =>
 .ifs [75] x18 (.ixE 82 GEnt.av gE GEnt.av_eq a1.Ents x8.Entity fun x19 =>
 .bB 85 (decide (x8.Period=x19.Now)) fun x20 =>
 .ret x20) (.ret (false:Bool))))
  (fun y1_1 =>
 .ifs [86] y1_1 (.dr [(0,[1]),(1,[4]),(2,[4]),(3,[4]),(4,[4]),(5,[4]),(6,[4]),(8,[2]),(9,[2])] [(15,[])] [1,2,4] [14,15] [0,1,2,3,4,5,6,7,8,9,10,11,12,13,14,15,16] (.cl 95 (d_ref14_At a1 x8.Entity x8.Item x8.Loc) cal147 d_ref14_At_c fun x21 =>
 .cl 98 (d_ref11_Back x21 0 a2.Qty) cal229 d_ref11_Back_c fun x22 =>
 .al 7<|
 .bB 102 (decide (x22.2≠0)) fun x24 =>
 .ifs [102] x24 (.ret ((a1:GState),(x22.2:Int))) (.frz 5<|
 .dr [(0,[1]),(1,[4]),(2,[4]),(3,[4]),(4,[4]),(5,[4]),(6,[4]),(7,[7]),(9,[4]),(10,[4]),(12,[5])] [(17,[])] [1,4,5,7] [16,17] [0,1,2,3,4,5,6,7,8,9,10,11,12,13,14,15,16,17,18] (.cl 114 (d_ref14_Put a1 x8.Entity x8.Item x8.Loc x22.1) cal150 d_ref14_Put_c fun x25 =>
 .cl 118 (d_ref14_Post n x25 x8.Entity ([(⟨4,a2.Amount⟩:GLine),(⟨3,x14⟩:GLine)]:List GLine)) cal149 d_ref14_Post_c fun x26 =>
 .al 8<|
 .bB 122 (decide (x26.2≠0)) fun x28 =>
 .ifs [122] x28 (.ret ((a1:GState),(x26.2:Int))) (.cl 129 (d_ref16_with x26.1 a2.Ref (⟨x8.Entity,x8.Item,x8.Loc,x8.Qty,x17,x8.Cost,x8.Profit,x8.Period,x8.Waits⟩:GSale)) cal230 d_ref16_with_c fun x29 =>
 .ret (x29,(0:Int))))))) (.dr [(0,[4]),(1,[4]),(2,[2]),(3,[2]),(6,[4]),(7,[4]),(8,[2]),(9,[2])] [] [2,4] [] [0,1,2,3,4,5,6,7,8,9,10,11,12,13] (.cl 135 (d_ref01_Part n x8.Cost a2.Qty x12) cal231 d_ref01_Part_c fun x30 =>
 .cl 141 (d_ref01_Part n x8.Profit a2.Qty x12) cal231 d_ref01_Part_c fun x31 =>
 .cl 155 (d_ref14_Bring n a1 x8.Entity x8.Item x8.Loc (⟨a2.Qty,x30,x31⟩:GLayer)) cal196 d_ref14_Bring_c fun x32 =>
 .al 9<|
 .bB 161 (decide (x32.2.2.2≠0)) fun x34 =>
 .ifs [161] x34 (.ret ((a1:GState),(x32.2.2.2:Int))) (.dr [(0,[9]),(1,[4]),(2,[4])] [(13,[]),(17,[])] [4,9] [12,13,17] [0,1,2,3,4,5,6,7,8,9,10,11,12,13,14,15,16,17,18] (.bI 174 (w64 (0-x30)) fun x35 =>
 .gv 176<|
 .bl (([(⟨4,a2.Amount⟩:GLine),(⟨3,x14⟩:GLine)]:List GLine)++([(⟨0,x32.2.1⟩:GLine),(⟨6,x32.2.2.1⟩:GLine),(⟨5,x35⟩:GLine)]:List GLine):List GLine) fun x36 =>
 .as (x36.length≤68719476736) inferInstance<|
 .ge 177<|
 .bo (d_ref14_Post n x32.1 x8.Entity x36) fun x39 =>
 .ge 178<|
 .bB 182 (decide (x39.2≠0)) fun x40 =>
 .ifs [182] x40 (.ret ((a1:GState),(x39.2:Int))) (.cl 193 (d_ref14_Turn n x39.1 x8.Entity x8.Item (⟨0,0,0,0,x32.2.1,0,0,0,0,0,0⟩:GRoll)) cal151 d_ref14_Turn_c fun x41 =>
 .bB 197 (decide (x41.2≠0)) fun x42 =>
 .ifs [197] x42 (.ret ((a1:GState),(x41.2:Int))) (.dr [(0,[4]),(1,[4]),(4,[4]),(5,[4]),(8,[6]),(10,[6])] [(9,[4]),(11,[])] [4,6] [9,11] [0,1,2,3,4,5,6,7,8,9,10,11] (.bI 203 (w64 (x8.Cost-x30)) fun x43 =>
 .bI 207 (w64 (x8.Profit-x31)) fun x44 =>
 .cl 214 (d_ref16_with x41.1 a2.Ref (⟨x8.Entity,x8.Item,x8.Loc,x8.Qty,x17,x43,x44,x8.Period,x8.Waits⟩:GSale)) cal230 d_ref16_with_c fun x45 =>
 .ret (x45,(0:Int))))))))))))))
def d_ref16_takeback (n:Nat) (a1:GState) (a2:GOp):Option (GState×Int):=(t_ref16_takeback n a1 a2).run
theorem d_ref16_takeback_c {n:Nat} {a1:GState} {a2:GOp} {r:GState×Int} (h0:d_ref16_takeback n a1 a2=some r):PP Tryz.prog 198 [.agg (GState.av a1),.agg (GOp.av a2)] (fun y=>y=.tup [.agg (GState.av r.1),int r.2]):=by
 refine wt_pp mixed tbk (fun (r:GState×Int)=>.tup [.agg (GState.av r.1),int r.2]) h0 Tryz.func198 (fun r=>.tup (pvl2 ((fun (a:GState)=>PV.agg (GState.pvc a)) (r.1)) (pvI (r.2)))) 100000 ?_
 intro v3
 intro v4
 intro v5
 conv=>whnf
 refine .mk ?_ ?_
 conv=>whnf
 refine .mk fun x6=>?_
 refine .mk .mk ?_
 refine .mk ?_
 conv=>whnf
 refine .mk fun x7=>?_
 exact .mk
 intro _ _
 refine .mk .mk ?_
 conv=>whnf
 refine .mk fun x8 e8=>?_
 intro v9
 conv=>whnf
 refine .mk fun x10 e10=>?_
 conv=>whnf
 refine .mk fun x11=>?_
 refine .mk .mk ?_
 conv=>whnf
 refine .mk fun x12=>?_
 conv=>whnf
 refine .mk fun x13=>?_
 refine .mk .mk ?_
 conv=>whnf
 refine .mk fun x14=>?_
 conv=>whnf
 refine .mk _ ⟨fun _=>yl_buildO (ps:=[(0,_),(1,_)]) 5 [[int 4,int a2.Amount],[int 3,int x14]] .any rfl Tryz.underlying120 bz119 (.cons rfl (.cons rfl .nil)) (by kernel_rfl) rfl rfl rfl,fun _ _ _=>trivial⟩ ?_
 rintro _ _ ⟨v15,-,rfl,rfl⟩
 intro v16
 conv=>whnf
 refine .mk fun x17=>?_
 conv=>whnf
 refine .mk ?_ ?_
 refine .mk ?_
 conv=>whnf
 refine .mk fun x18=>?_
 conv=>whnf
 refine .mk ?_ ?_
 conv=>whnf
 refine .mk fun x19 e19=>?_
 conv=>whnf
 refine .mk fun x20=>?_
 exact .mk
 conv=>whnf
 exact .mk
 intro _ _
 conv=>whnf
 refine .mk ?_ ?_
 refine .mk ?_
 conv=>whnf
 refine .mk fun x21 e21=>?_
 conv=>whnf
 refine .mk fun x22 e22=>?_
 intro v23
 conv=>whnf
 refine .mk fun x24=>?_
 refine .mk .mk ?_
 refine .mk ?_
 conv=>whnf
 refine .mk fun x25 e25=>?_
 conv=>whnf
 refine .mk (fun x26 e26=>?_) rfl (fun H hH=>(.cons (.refl _) (.cons (.refl _) (.cons (cv_lst (ob:=(⟨119,2,false,true,v15,([(⟨4,a2.Amount⟩:GLine),(⟨3,x14⟩:GLine)]:List GLine).map GLine.av⟩:AObj)) ((hH 5 (by decide)).trans rfl) rfl rfl rfl rfl (Eq.symm rfl)) .nil))))
 intro v27
 conv=>whnf
 refine .mk fun x28=>?_
 refine .mk .mk ?_
 conv=>whnf
 refine .mk fun x29 e29=>?_
 exact .mk
 refine .mk ?_
 conv=>whnf
 refine .mk fun x30 e30=>?_
 conv=>whnf
 refine .mk fun x31 e31=>?_
 conv=>whnf
 refine .mk fun x32 e32=>?_
 intro v33
 conv=>whnf
 refine .mk fun x34=>?_
 refine .mk .mk ?_
 refine .mk ?_
 conv=>whnf
 refine .mk fun x35=>?_
 conv=>whnf
 refine .mk _ (fun H hH _=>yv_to (y:=lst 2 GLine.av ([(⟨0,x32.2.1⟩:GLine),(⟨6,x32.2.2.1⟩:GLine),(⟨5,x35⟩:GLine)]:List GLine)) (yv_buildSlice (ps:=[(0,_),(1,_),(2,_)]) (rows:=[[int 0,int x32.2.1],[int 6,int x32.2.2.1],[int 5,int x35]]) rfl Tryz.underlying120 bz119 (.cons rfl (.cons rfl (.cons rfl .nil))) (by kernel_rfl) rfl rfl rfl) rfl) ?_
 conv=>whnf
 refine .mk fun x36 e36=>?_
 conv=>whnf
 refine .mk fun p37=>?_
 conv=>whnf
 refine .mk _ ⟨fun _=>yl_appT (g:=GLine.av) (l:=([(⟨4,a2.Amount⟩:GLine),(⟨3,x14⟩:GLine)]:List GLine)) (m:=([(⟨0,x32.2.1⟩:GLine),(⟨6,x32.2.2.1⟩:GLine),(⟨5,x35⟩:GLine)]:List GLine)) .any rfl Tryz.underlying120 bz119 by119 rfl rfl rfl rfl rfl rfl rfl rfl rfl rfl (Eq.symm rfl) (.refl _) (fun _=>rfl) e36 p37,by rintro _ _ ⟨v38,-,rfl,rfl⟩;exact ⟨rfl,rfl,trivial⟩⟩ ?_
 rintro _ _ ⟨v38,-,rfl,rfl⟩
 conv=>whnf
 refine .mk fun x39 e39=>?_
 conv=>whnf
 refine .mk _ ⟨fun _=>Yield.frz 5 rfl (Yield.weak (yv_callP rfl rfl (.cons rfl (.cons rfl (.cons rfl .nil))) cal149 (.cons (.refl _) (.cons (.refl _) (.cons (cv_lst rfl rfl rfl rfl rfl (Eq.symm rfl)) .nil))) (d_ref14_Post_c e39)) (fun _ h=>h) (fun _ h=>h.elim)),by rintro _ _ ⟨rfl,rfl⟩;exact trivial⟩ ?_
 rintro _ _ ⟨rfl,rfl⟩
 conv=>whnf
 refine .mk fun x40=>?_
 refine .mk .mk ?_
 conv=>whnf
 refine .mk fun x41 e41=>?_
 conv=>whnf
 refine .mk fun x42=>?_
 refine .mk .mk ?_
 refine .mk ?_
 conv=>whnf
 refine .mk fun x43=>?_
 conv=>whnf
 refine .mk fun x44=>?_
 conv=>whnf
 refine .mk fun x45 e45=>?_
 exact .mk
noncomputable def t_ref16_Do (n:Nat) (a1:GState) (a2:GOp):WT Tryz.prog (.b (GState×Int)) :=
 .al 1<|
 .al 2<|
 .al 3<|
 .bB 9 (decide (a2.Kind=4)) fun x6 =>
 .ifs [9] x6 (.cl 12 (d_ref16_sell n a1 a2) cal197 d_ref16_sell_c fun x7 =>
 .ret ((x7.1:GState),(x7.2:Int))) (.bB 16 (decide (a2.Kind=5)) fun x8 =>
 .ifs [16] x8 (.cl 19 (d_ref16_takeback n a1 a2) cal198 d_ref16_takeback_c fun x9 =>
 .ret ((x9.1:GState),(x9.2:Int))) (.ret ((a1:GState),(1:Int))))
def d_ref16_Do (n:Nat) (a1:GState) (a2:GOp):Option (GState×Int):=(t_ref16_Do n a1 a2).run
theorem d_ref16_Do_c {n:Nat} {a1:GState} {a2:GOp} {r:GState×Int} (h0:d_ref16_Do n a1 a2=some r):PP Tryz.prog 156 [.agg (GState.av a1),.agg (GOp.av a2)] (fun y=>y=.tup [.agg (GState.av r.1),int r.2]):=by
 refine wt_pp mixed tbk (fun (r:GState×Int)=>.tup [.agg (GState.av r.1),int r.2]) h0 Tryz.func156 (fun r=>.tup (pvl2 ((fun (a:GState)=>PV.agg (GState.pvc a)) (r.1)) (pvI (r.2)))) 100000 ?_
 intro v3
 intro v4
 intro v5
 conv=>whnf
 refine .mk fun x6=>?_
 conv=>whnf
 refine .mk ?_ ?_
 conv=>whnf
 refine .mk fun x7 e7=>?_
 exact .mk
 conv=>whnf
 refine .mk fun x8=>?_
 conv=>whnf
 refine .mk ?_ ?_
 conv=>whnf
 refine .mk fun x9 e9=>?_
 exact .mk
 conv=>whnf
 exact .mk
noncomputable def t_ref17_booked (n:Nat) (a1:GState) (a2:GState) (a3:Int) (a4:Int) (a5:List GLine) (a6:GRoll):WT Tryz.prog (.b (GState×Int)) :=
 .al 1<|
 .al 2<|
 .al 3<|
 .al 4<|
 .cl 19 (d_ref14_Post n a2 a3 a5) cal149 d_ref14_Post_c fun x11 =>
 .bB 23 (decide (x11.2≠0)) fun x12 =>
 .ifs [23] x12 (.ret ((a1:GState),(x11.2:Int))) (.cl 31 (d_ref14_Turn n x11.1 a3 a4 a6) cal151 d_ref14_Turn_c fun x13 =>
 .bB 35 (decide (x13.2≠0)) fun x14 =>
 .ifs [35] x14 (.ret ((a1:GState),(x13.2:Int))) (.ret ((x13.1:GState),(0:Int))))
def d_ref17_booked (n:Nat) (a1:GState) (a2:GState) (a3:Int) (a4:Int) (a5:List GLine) (a6:GRoll):Option (GState×Int):=(t_ref17_booked n a1 a2 a3 a4 a5 a6).run
theorem d_ref17_booked_c {n:Nat} {a1:GState} {a2:GState} {a3:Int} {a4:Int} {a5:List GLine} {a6:GRoll} {r:GState×Int} (h0:d_ref17_booked n a1 a2 a3 a4 a5 a6=some r):PP Tryz.prog 232 [.agg (GState.av a1),.agg (GState.av a2),int a3,int a4,lst 2 GLine.av a5,.agg (GRoll.av a6)] (fun y=>y=.tup [.agg (GState.av r.1),int r.2]):=by
 refine wt_pp mixed tbk (fun (r:GState×Int)=>.tup [.agg (GState.av r.1),int r.2]) h0 Tryz.func232 (fun r=>.tup (pvl2 ((fun (a:GState)=>PV.agg (GState.pvc a)) (r.1)) (pvI (r.2)))) 100000 ?_
 intro v7
 intro v8
 intro v9
 intro v10
 conv=>whnf
 refine .mk fun x11 e11=>?_
 conv=>whnf
 refine .mk fun x12=>?_
 refine .mk .mk ?_
 conv=>whnf
 refine .mk fun x13 e13=>?_
 conv=>whnf
 refine .mk fun x14=>?_
 refine .mk .mk ?_
 exact .mk
noncomputable def t_ref17_scrap (n:Nat) (a1:GState) (a2:GOp):WT Tryz.prog (.b (GState×Int)) :=
 .al 1<|
 .al 2<|
 .al 3<|
 .cl 20 (d_ref14_Fetch n a1 a2.E a2.Item a2.Loc 1 a2.Qty) cal228 d_ref14_Fetch_c fun x6 =>
 .al 4<|
 .al 5<|
 .bB 26 (decide (x6.2.2.2≠0)) fun x9 =>
 .ifs [26] x9 (.ret ((a1:GState),(x6.2.2.2:Int))) (.bI 40 (w64 (0-x6.2.1.Value)) fun x10 =>
 .gv 42<|
 .cl 46 (d_ref17_booked n a1 x6.1 a2.E a2.Item ([(⟨7,x6.2.1.Value⟩:GLine),(⟨0,x10⟩:GLine)]:List GLine) (⟨0,0,0,0,0,0,0,0,x6.2.1.Value,0,0⟩:GRoll)) cal232 d_ref17_booked_c fun x11 =>
 .ret ((x11.1:GState),(x11.2:Int)))
def d_ref17_scrap (n:Nat) (a1:GState) (a2:GOp):Option (GState×Int):=(t_ref17_scrap n a1 a2).run
theorem d_ref17_scrap_c {n:Nat} {a1:GState} {a2:GOp} {r:GState×Int} (h0:d_ref17_scrap n a1 a2=some r):PP Tryz.prog 199 [.agg (GState.av a1),.agg (GOp.av a2)] (fun y=>y=.tup [.agg (GState.av r.1),int r.2]):=by
 refine wt_pp mixed tbk (fun (r:GState×Int)=>.tup [.agg (GState.av r.1),int r.2]) h0 Tryz.func199 (fun r=>.tup (pvl2 ((fun (a:GState)=>PV.agg (GState.pvc a)) (r.1)) (pvI (r.2)))) 100000 ?_
 intro v3
 intro v4
 intro v5
 conv=>whnf
 refine .mk fun x6 e6=>?_
 intro v7
 intro v8
 conv=>whnf
 refine .mk fun x9=>?_
 refine .mk .mk ?_
 conv=>whnf
 refine .mk fun x10=>?_
 conv=>whnf
 refine .mk _ (agr (yv_to (y:=lst 2 GLine.av ([(⟨7,x6.2.1.Value⟩:GLine),(⟨0,x10⟩:GLine)]:List GLine)) (yv_buildSlice (ps:=[(0,_),(1,_)]) (rows:=[[int 7,int x6.2.1.Value],[int 0,int x10]]) rfl Tryz.underlying120 bz119 (.cons rfl (.cons rfl .nil)) (by kernel_rfl) rfl rfl rfl) rfl)) ?_
 conv=>whnf
 refine .mk fun x11 e11=>?_
 exact .mk
end
end Go.Pv
