import Derived.Test.YtfbohcojaajpfaaGreatX70e
set_option linter.unusedVariables false
set_option linter.unusedSimpArgs false
namespace Go.Pv
open Go.Proofs
set_option maxRecDepth 100000
set_option maxHeartbeats 4000000
noncomputable section
noncomputable def t_ref13_Free (n:Nat) (a1:Int) (a2:GPool):WT Tryz.prog (.b (Int)) :=
 .al 1<|
 .bB 6 (decide (a1=3)) fun x4 =>
 .ifs [6] x4 (.cl 8 (d_ref11_Free n a2) cal251 d_ref11_Free_c fun x5 =>
 .ret (x5)) (.cl 10 (d_ref13_Total n a2) cal193 d_ref13_Total_c fun x6 =>
 .ret ((x6.Qty:Int)))
def d_ref13_Free (n:Nat) (a1:Int) (a2:GPool):Option (Int):=(t_ref13_Free n a1 a2).run
theorem d_ref13_Free_c {n:Nat} {a1:Int} {a2:GPool} {r:Int} (h0:d_ref13_Free n a1 a2=some r):PP Tryz.prog 233 [int a1,.agg (GPool.av a2)] (fun y=>y=int r):=by
 refine wt_pp mixed tbk (fun (r:Int)=>int r) h0 Tryz.func233 (fun r=>pvI r) 100000 ?_
 intro v3
 conv=>whnf
 refine .mk fun x4=>?_
 conv=>whnf
 refine .mk ?_ ?_
 conv=>whnf
 refine .mk fun x5 e5=>?_
 exact .mk
 conv=>whnf
 refine .mk fun x6 e6=>?_
 exact .mk
noncomputable def t_ref17_count (n:Nat) (a1:GState) (a2:GOp):WT Tryz.prog (.b (GState×Int)) :=
 .al 1<|
 .al 2<|
 .al 3<|
 .dr [(0,[1]),(1,[1]),(2,[1]),(3,[2]),(4,[2]),(7,[2]),(8,[2])] [] [1,2] [] [0,1,2,3,4,5,6,7,8,9,10,11] (.ix 24 (fL 1 fI) a1.Master.Methods a2.E fun x6 =>
 .ix 28 fI x6 a2.Item fun x7 =>
 .cl 37 (d_ref14_At a1 a2.E a2.Item a2.Loc) cal147 d_ref14_At_c fun x8 =>
 .al 4<|
 .dr [(0,[2]),(1,[2]),(3,[4])] [] [2,4] [] [0,1,2,3,4,5,6] (.cl 42 (d_ref13_Free n x7 x8) cal233 d_ref13_Free_c fun x10 =>
 .bI 43 (w64 (a2.Qty-x10)) fun x11 =>
 .bB 45 (decide (x11=0)) fun x12 =>
 .ifs [45] x12 (.ret ((a1:GState),(0:Int))) (.bB 48 (decide (x11<0)) fun x13 =>
 .ifs [48] x13 (.bI 58 (w64 (0-x11)) fun x14 =>
 .cl 59 (d_ref14_Fetch n a1 a2.E a2.Item a2.Loc 2 x14) cal228 d_ref14_Fetch_c fun x15 =>
 .al 5<|
 .al 6<|
 .bB 65 (decide (x15.2.2.2≠0)) fun x18 =>
 .ifs [65] x18 (.ret ((a1:GState),(x15.2.2.2:Int))) (.bI 79 (w64 (0-x15.2.1.Value)) fun x19 =>
 .gv 81<|
 .cl 85 (d_ref17_booked n a1 x15.1 a2.E a2.Item ([(⟨8,x15.2.1.Value⟩:GLine),(⟨0,x19⟩:GLine)]:List GLine) (⟨0,0,0,0,0,0,0,0,0,x15.2.1.Value,0⟩:GRoll)) cal232 d_ref17_booked_c fun x20 =>
 .ret ((x20.1:GState),(x20.2:Int)))) (.cl 89 (d_ref13_Total n x8) cal193 d_ref13_Total_c fun x21 =>
 .al 7<|
 .bB 91 (decide (x7=4)) fun x23 =>
 .jn 0 [2,3,4,5,8] [1,2,3] [] (fun _ (a:Int×Int)=>[(14,int a.1),(15,int a.2)]) (fun _ _=>[]) (.ifs [91] x23 (.dr [(1,[1]),(2,[1]),(3,[1]),(4,[2]),(5,[2]),(8,[2]),(9,[2])] [] [1,2] [] [0,1,2,3,4,5,6,7,8,9,10,11,12,13,14,15,16,17,18] (.ix 99 (fL 1 fI) a1.Master.Costs a2.E fun x24 =>
 .ix 103 fI x24 a2.Item fun x25 =>
 .cl 105 (d_ref01_MulDiv n x11 x25 1) cal234 d_ref01_MulDiv_c fun x26 =>
 .ret ((x26.1:Int),(x26.2.2:Int)))) (.bB 111 (decide (x21.Qty>0)) fun x27 =>
 .ifs [111] x27 (.cl 118 (d_ref01_MulDiv n x21.Value x11 x21.Qty) cal234 d_ref01_MulDiv_c fun x28 =>
 .ret ((x28.1:Int),(x28.2.2:Int))) (.ret ((0:Int),(0:Int)))))
  (pw fun y0_1 y0_2 =>
 .bB 123 (decide (y0_2≠0)) fun x29 =>
 .ifs [123] x29 (.ret ((a1:GState),y0_2)) (.cl 137 (d_ref14_Bring n a1 a2.E a2.Item a2.Loc (⟨x11,y0_1,0⟩:GLayer)) cal196 d_ref14_Bring_c fun x30 =>
 .al 8<|
 .bB 143 (decide (x30.2.2.2≠0)) fun x32 =>
 .ifs [143] x32 (.ret ((a1:GState),(x30.2.2.2:Int))) (.bI 157 (w64 (0-y0_1)) fun x33 =>
 .gv 159<|
 .bI 161 (w64 (0-x30.2.1)) fun x34 =>
 .cl 163 (d_ref17_booked n a1 x30.1 a2.E a2.Item ([(⟨0,x30.2.1⟩:GLine),(⟨6,x30.2.2.1⟩:GLine),(⟨8,x33⟩:GLine)]:List GLine) (⟨0,0,0,0,0,0,0,0,0,x34,0⟩:GRoll)) cal232 d_ref17_booked_c fun x35 =>
 .ret ((x35.1:GState),(x35.2:Int)))))))))
def d_ref17_count (n:Nat) (a1:GState) (a2:GOp):Option (GState×Int):=(t_ref17_count n a1 a2).run
theorem d_ref17_count_c {n:Nat} {a1:GState} {a2:GOp} {r:GState×Int} (h0:d_ref17_count n a1 a2=some r):PP Tryz.prog 200 [.agg (GState.av a1),.agg (GOp.av a2)] (fun y=>y=.tup [.agg (GState.av r.1),int r.2]):=by
 refine wt_pp mixed tbk (fun (r:GState×Int)=>.tup [.agg (GState.av r.1),int r.2]) h0 Tryz.func200 (fun r=>.tup (pvl2 ((fun (a:GState)=>PV.agg (GState.pvc a)) (r.1)) (pvI (r.2)))) 100000 ?_
 intro v3
 intro v4
 intro v5
 refine .mk ?_
 conv=>whnf
 refine .mk fun x6 e6=>?_
 conv=>whnf
 refine .mk fun x7 e7=>?_
 conv=>whnf
 refine .mk fun x8 e8=>?_
 intro v9
 refine .mk ?_
 conv=>whnf
 refine .mk fun x10 e10=>?_
 conv=>whnf
 refine .mk fun x11=>?_
 conv=>whnf
 refine .mk fun x12=>?_
 refine .mk .mk ?_
 conv=>whnf
 refine .mk fun x13=>?_
 conv=>whnf
 refine .mk ?_ ?_
 conv=>whnf
 refine .mk fun x14=>?_
 conv=>whnf
 refine .mk fun x15 e15=>?_
 intro v16
 intro v17
 conv=>whnf
 refine .mk fun x18=>?_
 refine .mk .mk ?_
 conv=>whnf
 refine .mk fun x19=>?_
 conv=>whnf
 refine .mk _ (agr (yv_to (y:=lst 2 GLine.av ([(⟨8,x15.2.1.Value⟩:GLine),(⟨0,x19⟩:GLine)]:List GLine)) (yv_buildSlice (ps:=[(0,_),(1,_)]) (rows:=[[int 8,int x15.2.1.Value],[int 0,int x19]]) rfl Tryz.underlying120 bz119 (.cons rfl (.cons rfl .nil)) (by kernel_rfl) rfl rfl rfl) rfl)) ?_
 conv=>whnf
 refine .mk fun x20 e20=>?_
 exact .mk
 conv=>whnf
 refine .mk fun x21 e21=>?_
 intro v22
 conv=>whnf
 refine .mk fun x23=>?_
 conv=>whnf
 refine .mk ?_ ?_
 conv=>whnf
 refine .mk ?_ ?_
 refine .mk ?_
 conv=>whnf
 refine .mk fun x24 e24=>?_
 conv=>whnf
 refine .mk fun x25 e25=>?_
 conv=>whnf
 refine .mk fun x26 e26=>?_
 exact .mk
 conv=>whnf
 refine .mk fun x27=>?_
 conv=>whnf
 refine .mk ?_ ?_
 conv=>whnf
 refine .mk fun x28 e28=>?_
 exact .mk
 conv=>whnf
 exact .mk
 intro _ _
 conv=>whnf
 refine .mk fun x29=>?_
 refine .mk .mk ?_
 conv=>whnf
 refine .mk fun x30 e30=>?_
 intro v31
 conv=>whnf
 refine .mk fun x32=>?_
 refine .mk .mk ?_
 conv=>whnf
 refine .mk fun x33=>?_
 conv=>whnf
 refine .mk _ (agr (yv_to (y:=lst 2 GLine.av ([(⟨0,x30.2.1⟩:GLine),(⟨6,x30.2.2.1⟩:GLine),(⟨8,x33⟩:GLine)]:List GLine)) (yv_buildSlice (ps:=[(0,_),(1,_),(2,_)]) (rows:=[[int 0,int x30.2.1],[int 6,int x30.2.2.1],[int 8,int x33]]) rfl Tryz.underlying120 bz119 (.cons rfl (.cons rfl (.cons rfl .nil))) (by kernel_rfl) rfl rfl rfl) rfl)) ?_
 conv=>whnf
 refine .mk fun x34=>?_
 conv=>whnf
 refine .mk fun x35 e35=>?_
 exact .mk
noncomputable def t_ref17_move (n:Nat) (a1:GState) (a2:GOp):WT Tryz.prog (.b (GState×Int)) :=
 .al 1<|
 .al 2<|
 .al 3<|
 .cl 22 (d_ref14_Fetch n a1 a2.E a2.Item a2.Loc 3 a2.Qty) cal228 d_ref14_Fetch_c fun x6 =>
 .al 4<|
 .al 5<|
 .bB 28 (decide (x6.2.2.2≠0)) fun x9 =>
 .ifs [28] x9 (.ret ((a1:GState),(x6.2.2.2:Int))) (.cl 40 (d_ref14_Bring n x6.1 a2.E a2.Item a2.To x6.2.1) cal196 d_ref14_Bring_c fun x10 =>
 .bB 46 (decide (x10.2.2.2≠0)) fun x11 =>
 .ifs [46] x11 (.ret ((a1:GState),(x10.2.2.2:Int))) (.bI 58 (w64 (x10.2.1-x6.2.1.Value)) fun x12 =>
 .gv 62<|
 .bI 66 (w64 (x10.2.1-x6.2.1.Value)) fun x13 =>
 .cl 68 (d_ref17_booked n a1 x10.1 a2.E a2.Item ([(⟨0,x12⟩:GLine),(⟨6,x10.2.2.1⟩:GLine)]:List GLine) (⟨0,0,0,0,0,0,0,0,0,0,x13⟩:GRoll)) cal232 d_ref17_booked_c fun x14 =>
 .ret ((x14.1:GState),(x14.2:Int))))
def d_ref17_move (n:Nat) (a1:GState) (a2:GOp):Option (GState×Int):=(t_ref17_move n a1 a2).run
theorem d_ref17_move_c {n:Nat} {a1:GState} {a2:GOp} {r:GState×Int} (h0:d_ref17_move n a1 a2=some r):PP Tryz.prog 201 [.agg (GState.av a1),.agg (GOp.av a2)] (fun y=>y=.tup [.agg (GState.av r.1),int r.2]):=by
 refine wt_pp mixed tbk (fun (r:GState×Int)=>.tup [.agg (GState.av r.1),int r.2]) h0 Tryz.func201 (fun r=>.tup (pvl2 ((fun (a:GState)=>PV.agg (GState.pvc a)) (r.1)) (pvI (r.2)))) 100000 ?_
 intro v3
 intro v4
 intro v5
 conv=>whnf
 refine .mk fun x6 e6=>?_
 intro v7
 intro v8
 conv=>whnf
 refine .mk fun x9=>?_
 refine .mk .mk ?_
 conv=>whnf
 refine .mk fun x10 e10=>?_
 conv=>whnf
 refine .mk fun x11=>?_
 refine .mk .mk ?_
 conv=>whnf
 refine .mk fun x12=>?_
 conv=>whnf
 refine .mk _ (agr (yv_to (y:=lst 2 GLine.av ([(⟨0,x12⟩:GLine),(⟨6,x10.2.2.1⟩:GLine)]:List GLine)) (yv_buildSlice (ps:=[(0,_),(1,_)]) (rows:=[[int 0,int x12],[int 6,int x10.2.2.1]]) rfl Tryz.underlying120 bz119 (.cons rfl (.cons rfl .nil)) (by kernel_rfl) rfl rfl rfl) rfl)) ?_
 conv=>whnf
 refine .mk fun x13=>?_
 conv=>whnf
 refine .mk fun x14 e14=>?_
 exact .mk
noncomputable def t_ref12_Revalue (n:Nat) (a1:List GLayer) (a2:Int):WT Tryz.prog (.b ((List GLayer)×Int×Int)) :=
 .jn 1 [0,1,4,5,6] [] [] (fun _ (a:Bool)=>[(16,boo a)]) (fun _ _=>[]) (.bB 12 (decide (a2<0)) fun x3 =>
 .ifs [12] x3 (.ret (true:Bool)) (.bB 15 (decide (a2>1073741824)) fun x4 =>
 .ret x4))
  (fun y0_1 =>
 .ifs [16] y0_1 (.ret ((a1:List GLayer),(0:Int),(1:Int))) (.ln 19 GLayer.av a1<|
 .bB 20 (decide ((a1.length:Int)=0)) fun x5 =>
 .ifs [20] x5 (.ret ((a1:List GLayer),(0:Int),(0:Int))) (.cl 24 (d_ref09_Total n a1) cal225 d_ref09_Total_c fun x6 =>
 .al 1<|
 .cl 31 (d_ref12_worth n x6.1.Qty a2) cal252 d_ref12_worth_c fun x8 =>
 .bB 35 (!x8.2) fun x9 =>
 .ifs [35] x9 (.ret ((a1:List GLayer),(0:Int),(2:Int))) (.dr [(0,[1]),(1,[1]),(3,[1]),(4,[1]),(8,[1]),(9,[1])] [] [1] [] [0,1,2,3,4,5,6,7,8,9,10,11,12,13] (.gv 43<|
 .bI 47 (w64 (x8.1-x6.1.Value)) fun x10 =>
 .ret ((([(⟨x6.1.Qty,x8.1,x6.1.Profit⟩:GLayer)]:List GLayer):List GLayer),x10,(0:Int)))))))
def d_ref12_Revalue (n:Nat) (a1:List GLayer) (a2:Int):Option ((List GLayer)×Int×Int):=(t_ref12_Revalue n a1 a2).run
theorem d_ref12_Revalue_c {n:Nat} {a1:List GLayer} {a2:Int} {r:(List GLayer)×Int×Int} (h0:d_ref12_Revalue n a1 a2=some r):PP Tryz.prog 235 [lst 3 GLayer.av a1,int a2] (fun y=>y=.tup [lst 3 GLayer.av r.1,int r.2.1,int r.2.2]):=by
 refine wt_pp mixed tbk (fun (r:(List GLayer)×Int×Int)=>.tup [lst 3 GLayer.av r.1,int r.2.1,int r.2.2]) h0 Tryz.func235 (fun r=>.tup (pvl3 ((pvLs GLayer.pvc) (r.1)) (pvI (r.2.1)) (pvI (r.2.2)))) 100000 ?_
 conv=>whnf
 refine .mk ?_ ?_
 conv=>whnf
 refine .mk fun x3=>?_
 refine .mk .mk ?_
 conv=>whnf
 refine .mk fun x4=>?_
 exact .mk
 intro _ _
 refine .mk .mk ?_
 refine .mk ?_
 conv=>whnf
 refine .mk fun x5=>?_
 refine .mk .mk ?_
 conv=>whnf
 refine .mk fun x6 e6=>?_
 intro v7
 conv=>whnf
 refine .mk fun x8 e8=>?_
 conv=>whnf
 refine .mk fun x9=>?_
 refine .mk .mk ?_
 refine .mk ?_
 conv=>whnf
 refine .mk _ (fun H hH _=>yv_to (y:=lst 3 GLayer.av ([(⟨x6.1.Qty,x8.1,x6.1.Profit⟩:GLayer)]:List GLayer)) (yv_buildSlice (ps:=[(0,_)]) (rows:=[[int x6.1.Qty,int x8.1,int x6.1.Profit]]) rfl Tryz.underlying54 bz53 (.cons rfl .nil) (by kernel_rfl) rfl rfl rfl) rfl) ?_
 conv=>whnf
 refine .mk fun x10=>?_
 exact .mk
noncomputable def t_ref17_revalue (n:Nat) (a1:GState) (a2:GOp):WT Tryz.prog (.b (GState×Int)) :=
 .al 1<|
 .al 2<|
 .al 3<|
 .dr [(0,[1]),(1,[1]),(2,[1]),(3,[2]),(4,[2]),(7,[2]),(8,[2])] [] [1,2] [] [0,1,2,3,4,5,6,7,8,9,10,11] (.ix 18 (fL 1 fI) a1.Master.Methods a2.E fun x6 =>
 .ix 22 fI x6 a2.Item fun x7 =>
 .bB 24 (decide (x7≠4)) fun x8 =>
 .ifs [24] x8 (.ret ((a1:GState),(12:Int))) (.al 4<|
 .jnE 2 [2,3,4,5,6] [1,2,3] [] (fun _ (a:Int×GState)=>[(7,int a.1)]) (fun _ a=>[.kp 4 [(GState.av a.2)]]) (.lp [2,3,4,5,6] [1,2,3] [] (fun _ (a:Int×Int×GState)=>[(7,int a.1),(8,int a.2.1)]) (fun _ a=>[.kp 4 [(GState.av a.2.2)]]) n ((0:Int),(0:Int),(a1:GState)) (pw fun y0_1 q0=>(pw fun y0_2 y0_3 =>
 .bB 28 (decide (y0_2<2)) fun x10 =>
 .ifs [28] x10 (.cl 37 (d_ref14_At y0_3 a2.E a2.Item y0_2) cal147 d_ref14_At_c fun x11 =>
 .al 5<|
 .cl 43 (d_ref12_Revalue n x11.Layers a2.Amount) cal235 d_ref12_Revalue_c fun x13 =>
 .bB 48 (decide (x13.2.2≠0)) fun x14 =>
 .ifs [48] x14 (.esc (.esc (.ret ((a1:GState),(x13.2.2:Int))))) (.cl 60 (d_ref14_Put y0_3 a2.E a2.Item y0_2 (⟨x13.1,x11.Pend⟩:GPool)) cal150 d_ref14_Put_c fun x15 =>
 .bI 63 (w64 (y0_1+x13.2.1)) fun x16 =>
 .bI 30 (w64 (y0_2+1)) fun x17 =>
 .brk (x16,x17,x15))) (.esc (.brk (y0_1,y0_3)))) q0))
  (pw fun y1_1 y1_2 =>
 .as (a1.Master.Costs.length≤68719476736) inferInstance<|
 .ge 67<|
 .dr [(0,[4]),(1,[4]),(2,[4]),(3,[2]),(4,[2]),(5,[1]),(6,[1]),(7,[1]),(8,[2]),(9,[2]),(13,[6])] [(12,[2,4]),(14,[])] [1,2,4,6] [12,14] [0,1,2,3,4,5,6,7,8,9,10,11,12,13,14] (.ix 80 (fL 1 fI) a1.Master.Costs a2.E fun x20 =>
 .as (x20.length≤68719476736) inferInstance<|
 .ge 82<|
 .bo (ix a1.Master.Costs a2.E) fun x23 =>
 .gv 83<|
 .ge 1015014<|
 .dr [(0,[4]),(1,[4]),(2,[4]),(3,[2]),(4,[2]),(5,[6]),(6,[6]),(7,[2]),(8,[2]),(9,[2]),(10,[2]),(11,[7])] [(12,[])] [2,4,6,7] [12] [0,1,2,3,4,5,6,7,8,9,10,11,12] (.gv 89<|
 .gv 90<|
 .bo (ix x20 a2.Item) fun x24 =>
 .gv 95<|
 .bl (x20.set (Int.toNat a2.Item) (a2.Amount:Int):List Int) fun x25 =>
 .ge 1016012<|
 .frz 6<|
 .frz 7<|
 .bI 105 (w64 (0-y1_1)) fun x28 =>
 .gv 107<|
 .cl 110 (d_ref17_booked n a1 (⟨(⟨y1_2.Master.Entities,y1_2.Master.Periods,y1_2.Master.Weights,y1_2.Master.Methods,(a1.Master.Costs.set (Int.toNat a2.E) x25)⟩:GMaster),y1_2.Ents,y1_2.Receipts,y1_2.Sales,y1_2.Transits,y1_2.Done⟩:GState) a2.E a2.Item ([(⟨0,y1_1⟩:GLine),(⟨6,x28⟩:GLine)]:List GLine) (⟨0,0,0,0,0,0,0,0,0,0,y1_1⟩:GRoll)) cal232 d_ref17_booked_c fun x29 =>
 .ret ((x29.1:GState),(x29.2:Int)))))))
def d_ref17_revalue (n:Nat) (a1:GState) (a2:GOp):Option (GState×Int):=(t_ref17_revalue n a1 a2).run
theorem d_ref17_revalue_c {n:Nat} {a1:GState} {a2:GOp} {r:GState×Int} (h0:d_ref17_revalue n a1 a2=some r):PP Tryz.prog 202 [.agg (GState.av a1),.agg (GOp.av a2)] (fun y=>y=.tup [.agg (GState.av r.1),int r.2]):=by
 refine wt_pp mixed tbk (fun (r:GState×Int)=>.tup [.agg (GState.av r.1),int r.2]) h0 Tryz.func202 (fun r=>.tup (pvl2 ((fun (a:GState)=>PV.agg (GState.pvc a)) (r.1)) (pvI (r.2)))) 100000 ?_
 intro v3
 intro v4
 intro v5
 refine .mk ?_
 conv=>whnf
 refine .mk fun x6 e6=>?_
 conv=>whnf
 refine .mk fun x7 e7=>?_
 conv=>whnf
 refine .mk fun x8=>?_
 refine .mk .mk ?_
 intro v9
 conv=>whnf
 refine .mk ?_ ?_
 refine .mk ?_
 intro _ _
 conv=>whnf
 refine .mk fun x10=>?_
 conv=>whnf
 refine .mk ?_ ?_
 conv=>whnf
 refine .mk fun x11 e11=>?_
 intro v12
 conv=>whnf
 refine .mk fun x13 e13=>?_
 conv=>whnf
 refine .mk fun x14=>?_
 refine .mk .mk ?_
 conv=>whnf
 refine .mk fun x15 e15=>?_
 conv=>whnf
 refine .mk fun x16=>?_
 conv=>whnf
 refine .mk fun x17=>?_
 exact .mk
 conv=>whnf
 exact .mk
 rintro ⟨y1_1,y1_2⟩ _
 conv=>whnf
 refine .mk fun p18=>?_
 conv=>whnf
 refine .mk _ ⟨fun _=>yl_app0T (g:=(fL 1 fI)) (m:=a1.Master.Costs) 6 rfl Tryz.underlying23 bz22 by22 rfl rfl rfl rfl (.refl _) (fun _=>rfl) p18,fun _ _ _=>trivial⟩ ?_
 rintro _ _ ⟨v19,rfl,rfl⟩
 refine .mk ?_
 conv=>whnf
 refine .mk fun x20 e20=>?_
 conv=>whnf
 refine .mk fun p21=>?_
 conv=>whnf
 refine .mk _ ⟨fun _=>yl_app0T (g:=fI) (m:=x20) 7 rfl Tryz.underlying22 bz3 by3 rfl rfl rfl rfl (.refl _) (fun _=>rfl) p21,by rintro _ _ ⟨v22,rfl,rfl⟩;exact ⟨rfl,rfl,trivial⟩⟩ ?_
 rintro _ _ ⟨v22,rfl,rfl⟩
 conv=>whnf
 refine .mk fun x23 e23=>?_
 conv=>whnf
 refine .mk _ (fun H hH _=>yv_ixO rfl Tryz.underlying23 sh22 rfl rfl ((hH _ (by decide)).trans rfl) rfl rfl (Eq.symm rfl) (List.length_map _) e23) ?_
 conv=>whnf
 refine .mk _ ⟨fun _=>Yield.weak (yl_ob (ob':=(⟨22,1,true,true,_,(a1.Master.Costs.map (fL 1 fI)).set (Int.toNat a2.E) [.sl 7 v22 0 x20.length]⟩:AObj)) (yl_store rfl sh22 rfl rfl rfl rfl rfl (ix_get e23) rfl rfl rfl) (ob_eq rfl)) (fun _ h=>h) (fun _ _=>trivial),by rintro _ _ ⟨rfl,rfl⟩;exact trivial⟩ ?_
 rintro _ _ ⟨rfl,rfl⟩
 refine .mk ?_
 conv=>whnf
 refine .mk _ (fun H hH _=>yv_ixO rfl Tryz.underlying23 sh22 rfl rfl ((hH _ (by decide)).trans rfl) rfl rfl (Eq.symm rfl) len_ov e23) ?_
 conv=>whnf
 refine .mk _ (fun H hH _=>yv_load rfl sh22 rfl (.pt ((hH _ (by decide)).trans rfl) rfl (set_get e23)) rfl) ?_
 conv=>whnf
 refine .mk fun x24 e24=>?_
 conv=>whnf
 refine .mk _ (fun H hH _=>yv_ixO rfl Tryz.underlying22 sh3 rfl rfl ((hH _ (by decide)).trans rfl) rfl rfl (Eq.symm rfl) (List.length_map _) e24) ?_
 conv=>whnf
 refine .mk fun x25 e25=>?_
 have fx25:=ix_set e24 e25;have lx25:=len_setV e25 (rfl:x20.length=x20.length)
 conv=>whnf
 refine .mk _ ⟨fun _=>Yield.weak (yl_ob (ob':=(⟨3,1,true,true,_,x25.map fI⟩:AObj)) (yl_store rfl sh3 rfl rfl rfl rfl rfl (ix_get e24) rfl rfl rfl) (ob_eq (map_setV e25))) (fun _ h=>h) (fun _ _=>trivial),by rintro _ _ ⟨rfl,rfl⟩;exact trivial⟩ ?_
 rintro _ _ ⟨rfl,rfl⟩
 conv=>whnf
 refine .mk fun x28=>?_
 conv=>whnf
 refine .mk _ (agr (yv_to (y:=lst 2 GLine.av ([(⟨0,y1_1⟩:GLine),(⟨6,x28⟩:GLine)]:List GLine)) (yv_buildSlice (ps:=[(0,_),(1,_)]) (rows:=[[int 0,int y1_1],[int 6,int x28]]) rfl Tryz.underlying120 bz119 (.cons rfl (.cons rfl .nil)) (by kernel_rfl) rfl rfl rfl) rfl)) ?_
 conv=>whnf
 refine .mk (fun x29 e29=>?_) rfl (by rintro _ rfl;exact (.cons (.refl _) (.cons (CvL.agg (.cons (.refl _) (.cons (.refl _) (.cons (.refl _) (.cons (.refl _) (.cons (cv_ov rfl rfl rfl rfl rfl (Eq.symm rfl) e23 (.cons (cv_lst rfl rfl rfl rfl rfl (Eq.symm lx25)) .nil)) (.cons (.refl _) (.cons (.refl _) (.cons (.refl _) (.cons (.refl _) (.cons (.refl _) .nil))))))))))) (.cons (.refl _) (.cons (.refl _) (.cons (.refl _) (.cons (.refl _) .nil)))))))
 exact .mk
noncomputable def t_ref17_Do (n:Nat) (a1:GState) (a2:GOp):WT Tryz.prog (.b (GState×Int)) :=
 .al 1<|
 .al 2<|
 .al 3<|
 .jn 0 [2,3,4,5] [1,2,3] [] (fun _ (a:Bool)=>[(14,boo a)]) (fun _ _=>[]) (.bB 9 (decide (a2.Kind<6)) fun x6 =>
 .ifs [9] x6 (.ret (true:Bool)) (.bB 13 (decide (a2.Kind>9)) fun x7 =>
 .ret x7))
  (fun y0_1 =>
 .ifs [14] y0_1 (.ret ((a1:GState),(1:Int))) (.cl 21 (d_ref14_Ready a1 a2.E a2.Item) cal195 d_ref14_Ready_c fun x8 =>
 .bB 23 (decide (x8≠0)) fun x9 =>
 .ifs [23] x9 (.ret ((a1:GState),x8)) (.bB 29 (decide (a2.Kind=6)) fun x10 =>
 .ifs [29] x10 (.cl 32 (d_ref17_scrap n a1 a2) cal199 d_ref17_scrap_c fun x11 =>
 .ret ((x11.1:GState),(x11.2:Int))) (.bB 36 (decide (a2.Kind=7)) fun x12 =>
 .ifs [36] x12 (.cl 39 (d_ref17_count n a1 a2) cal200 d_ref17_count_c fun x13 =>
 .ret ((x13.1:GState),(x13.2:Int))) (.bB 43 (decide (a2.Kind=8)) fun x14 =>
 .ifs [43] x14 (.cl 46 (d_ref17_move n a1 a2) cal201 d_ref17_move_c fun x15 =>
 .ret ((x15.1:GState),(x15.2:Int))) (.cl 51 (d_ref17_revalue n a1 a2) cal202 d_ref17_revalue_c fun x16 =>
 .ret ((x16.1:GState),(x16.2:Int))))))))
def d_ref17_Do (n:Nat) (a1:GState) (a2:GOp):Option (GState×Int):=(t_ref17_Do n a1 a2).run
theorem d_ref17_Do_c {n:Nat} {a1:GState} {a2:GOp} {r:GState×Int} (h0:d_ref17_Do n a1 a2=some r):PP Tryz.prog 157 [.agg (GState.av a1),.agg (GOp.av a2)] (fun y=>y=.tup [.agg (GState.av r.1),int r.2]):=by
 refine wt_pp mixed tbk (fun (r:GState×Int)=>.tup [.agg (GState.av r.1),int r.2]) h0 Tryz.func157 (fun r=>.tup (pvl2 ((fun (a:GState)=>PV.agg (GState.pvc a)) (r.1)) (pvI (r.2)))) 100000 ?_
 intro v3
 intro v4
 intro v5
 conv=>whnf
 refine .mk ?_ ?_
 conv=>whnf
 refine .mk fun x6=>?_
 refine .mk .mk ?_
 conv=>whnf
 refine .mk fun x7=>?_
 exact .mk
 intro _ _
 refine .mk .mk ?_
 conv=>whnf
 refine .mk fun x8 e8=>?_
 conv=>whnf
 refine .mk fun x9=>?_
 refine .mk .mk ?_
 conv=>whnf
 refine .mk fun x10=>?_
 conv=>whnf
 refine .mk ?_ ?_
 conv=>whnf
 refine .mk fun x11 e11=>?_
 exact .mk
 conv=>whnf
 refine .mk fun x12=>?_
 conv=>whnf
 refine .mk ?_ ?_
 conv=>whnf
 refine .mk fun x13 e13=>?_
 exact .mk
 conv=>whnf
 refine .mk fun x14=>?_
 conv=>whnf
 refine .mk ?_ ?_
 conv=>whnf
 refine .mk fun x15 e15=>?_
 exact .mk
 conv=>whnf
 refine .mk fun x16 e16=>?_
 exact .mk
noncomputable def t_ref18_Due (n:Nat) (a1:GReceipt) (a2:Int):WT Tryz.prog (.b (Int)) :=
 .al 1<|
 .bB 8 (decide (a2=a1.Open)) fun x4 =>
 .ifs [8] x4 (.ret ((a1.Accrued:Int))) (.cl 16 (d_ref01_Part n a1.Accrued a2 a1.Open) cal231 d_ref01_Part_c fun x5 =>
 .ret (x5))
def d_ref18_Due (n:Nat) (a1:GReceipt) (a2:Int):Option (Int):=(t_ref18_Due n a1 a2).run
theorem d_ref18_Due_c {n:Nat} {a1:GReceipt} {a2:Int} {r:Int} (h0:d_ref18_Due n a1 a2=some r):PP Tryz.prog 236 [.agg (GReceipt.av a1),int a2] (fun y=>y=int r):=by
 refine wt_pp mixed tbk (fun (r:Int)=>int r) h0 Tryz.func236 (fun r=>pvI r) 100000 ?_
 intro v3
 conv=>whnf
 refine .mk fun x4=>?_
 refine .mk .mk ?_
 conv=>whnf
 refine .mk fun x5 e5=>?_
 exact .mk
noncomputable def t_ref18_with (a1:GState) (a2:Int) (a3:GReceipt):WT Tryz.prog (.b (GState)) :=
 .al 1<|
 .al 2<|
 .al 3<|
 .as (a1.Receipts.length≤68719476736) inferInstance<|
 .ge 10<|
 .bo (ix a1.Receipts a2) fun x9 =>
 .gv 14<|
 .bl (a1.Receipts.set (Int.toNat a2) (a3:GReceipt):List GReceipt) fun x10 =>
 .ge 1002004<|
 .ret (((⟨a1.Master,a1.Ents,x10,a1.Sales,a1.Transits,a1.Done⟩:GState):GState))
def d_ref18_with (a1:GState) (a2:Int) (a3:GReceipt):Option (GState):=(t_ref18_with a1 a2 a3).run
theorem d_ref18_with_c {a1:GState} {a2:Int} {a3:GReceipt} {r:GState} (h0:d_ref18_with a1 a2 a3=some r):PP Tryz.prog 237 [.agg (GState.av a1),int a2,.agg (GReceipt.av a3)] (fun y=>y=.agg (GState.av r)):=by
 refine wt_pp mixed tbk (fun (r:GState)=>.agg (GState.av r)) h0 Tryz.func237 (fun r=>(fun (a:GState)=>PV.agg (GState.pvc a)) r) 100000 ?_
 intro v4
 intro v5
 intro v6
 conv=>whnf
 refine .mk fun p7=>?_
 conv=>whnf
 refine .mk _ ⟨fun _=>yl_app0T (g:=GReceipt.av) (m:=a1.Receipts) 4 rfl Tryz.underlying27 bz76 by76 rfl rfl rfl rfl (.refl _) (fun _=>rfl) p7,fun _ _ _=>trivial⟩ ?_
 rintro _ _ ⟨v8,rfl,rfl⟩
 conv=>whnf
 refine .mk fun x9 e9=>?_
 conv=>whnf
 refine .mk _ (agr (yv_ixO rfl Tryz.underlying27 sh76 rfl rfl rfl rfl rfl (Eq.symm rfl) (List.length_map _) e9)) ?_
 conv=>whnf
 refine .mk fun x10 e10=>?_
 have fx10:=ix_set e9 e10;have lx10:=len_setV e10 (rfl:a1.Receipts.length=a1.Receipts.length)
 conv=>whnf
 refine .mk _ ⟨fun _=>Yield.weak (yl_ob (ob':=(⟨76,8,true,true,_,x10.map GReceipt.av⟩:AObj)) (yl_store rfl sh76 rfl rfl rfl rfl rfl (ix_get e9) rfl rfl rfl) (ob_eq (map_setV e10))) (fun _ h=>h) (fun _ _=>trivial),fun _ _ _=>trivial⟩ ?_
 rintro _ _ ⟨rfl,rfl⟩
 conv=>whnf
 exact .mk (CvL.agg (.cons (.refl _) (.cons (.refl _) (.cons (.refl _) (.cons (.refl _) (.cons (.refl _) (.cons (.refl _) (.cons (cv_lst rfl rfl rfl rfl rfl (Eq.symm lx10)) (.cons (.refl _) (.cons (.refl _) (.cons (.refl _) .nil)))))))))))
noncomputable def t_ref18_invoice (n:Nat) (a1:GState) (a2:GOp) (a3:GReceipt):WT Tryz.prog (.b (GState×Int)) :=
 .al 1<|
 .al 2<|
 .al 3<|
 .al 4<|
 .bB 15 (decide (a2.Qty>a3.Open)) fun x8 =>
 .ifs [15] x8 (.ret ((a1:GState),(5:Int))) (.cl 20 (d_ref18_Due n a3 a2.Qty) cal236 d_ref18_Due_c fun x9 =>
 .bI 30 (w64 (a2.Amount-x9)) fun x10 =>
 .bI 34 (w64 (0-a2.Amount)) fun x11 =>
 .gv 36<|
 .cl 37 (d_ref14_Post n a1 a3.Entity ([(⟨1,x9⟩:GLine),(⟨6,x10⟩:GLine),(⟨2,x11⟩:GLine)]:List GLine)) cal149 d_ref14_Post_c fun x12 =>
 .al 5<|
 .bB 41 (decide (x12.2≠0)) fun x14 =>
 .ifs [41] x14 (.ret ((a1:GState),(x12.2:Int))) (.bI 48 (w64 (a3.Open-a2.Qty)) fun x15 =>
 .bI 52 (w64 (a3.Accrued-x9)) fun x16 =>
 .cl 59 (d_ref18_with x12.1 a2.Ref (⟨a3.Entity,a3.Item,a3.Loc,a3.Qty,a3.Value,x15,x16,a3.Back⟩:GReceipt)) cal237 d_ref18_with_c fun x17 =>
 .ret (x17,(0:Int))))
def d_ref18_invoice (n:Nat) (a1:GState) (a2:GOp) (a3:GReceipt):Option (GState×Int):=(t_ref18_invoice n a1 a2 a3).run
theorem d_ref18_invoice_c {n:Nat} {a1:GState} {a2:GOp} {a3:GReceipt} {r:GState×Int} (h0:d_ref18_invoice n a1 a2 a3=some r):PP Tryz.prog 203 [.agg (GState.av a1),.agg (GOp.av a2),.agg (GReceipt.av a3)] (fun y=>y=.tup [.agg (GState.av r.1),int r.2]):=by
 refine wt_pp mixed tbk (fun (r:GState×Int)=>.tup [.agg (GState.av r.1),int r.2]) h0 Tryz.func203 (fun r=>.tup (pvl2 ((fun (a:GState)=>PV.agg (GState.pvc a)) (r.1)) (pvI (r.2)))) 100000 ?_
 intro v4
 intro v5
 intro v6
 intro v7
 conv=>whnf
 refine .mk fun x8=>?_
 refine .mk .mk ?_
 conv=>whnf
 refine .mk fun x9 e9=>?_
 conv=>whnf
 refine .mk fun x10=>?_
 conv=>whnf
 refine .mk fun x11=>?_
 conv=>whnf
 refine .mk _ (agr (yv_to (y:=lst 2 GLine.av ([(⟨1,x9⟩:GLine),(⟨6,x10⟩:GLine),(⟨2,x11⟩:GLine)]:List GLine)) (yv_buildSlice (ps:=[(0,_),(1,_),(2,_)]) (rows:=[[int 1,int x9],[int 6,int x10],[int 2,int x11]]) rfl Tryz.underlying120 bz119 (.cons rfl (.cons rfl (.cons rfl .nil))) (by kernel_rfl) rfl rfl rfl) rfl)) ?_
 conv=>whnf
 refine .mk fun x12 e12=>?_
 intro v13
 conv=>whnf
 refine .mk fun x14=>?_
 refine .mk .mk ?_
 conv=>whnf
 refine .mk fun x15=>?_
 conv=>whnf
 refine .mk fun x16=>?_
 conv=>whnf
 refine .mk fun x17 e17=>?_
 exact .mk
noncomputable def t_ref18_sendback (n:Nat) (a1:GState) (a2:GOp) (a3:GReceipt):WT Tryz.prog (.b (GState×Int)) :=
 .al 1<|
 .al 2<|
 .al 3<|
 .al 4<|
 .bI 22 (w64 (a3.Qty-a3.Back)) fun x8 =>
 .bB 23 (decide (a2.Qty>x8)) fun x9 =>
 .ifs [23] x9 (.ret ((a1:GState),(5:Int))) (.jn 1 [3,4,5,6,7] [1,2,3,4] [] (fun _ (a:Bool)=>[(25,boo a)]) (fun _ _=>[]) (.bB 28 (decide (a3.Open>0)) fun x10 =>
 .ifs [28] x10 (.bB 34 (decide (a3.Open<a2.Qty)) fun x11 =>
 .ret x11) (.ret (false:Bool)))
  (fun y0_1 =>
 .ifs [25] y0_1 (.ret ((a1:GState),(9:Int))) (.cl 47 (d_ref14_Fetch n a1 a3.Entity a3.Item a3.Loc 3 a2.Qty) cal228 d_ref14_Fetch_c fun x12 =>
 .al 5<|
 .al 6<|
 .bB 53 (decide (x12.2.2.2≠0)) fun x15 =>
 .ifs [53] x15 (.ret ((a1:GState),(x12.2.2.2:Int))) (.dr [(0,[3]),(1,[3]),(2,[2]),(3,[2]),(4,[3]),(5,[3]),(7,[3])] [(11,[])] [2,3] [8,11] [0,1,2,3,4,5,6,7,8,9,10,11] (.cl 62 (d_ref01_Part n a3.Value a2.Qty a3.Qty) cal231 d_ref01_Part_c fun x16 =>
 .al 7<|
 .bB 66 (decide (a3.Open>0)) fun x18 =>
 .jn 0 [3,4,5,6,7,8,9,14] [1,2,3,4,5,6] [] (fun _ (a:Int×Int×GReceipt)=>[(12,int a.1),(13,int a.2.1)]) (fun _ a=>[.kp 7 [[int a.2.2.Entity,int a.2.2.Item,int a.2.2.Loc,int a.2.2.Qty,int a.2.2.Value,int a.2.2.Open,int a.2.2.Accrued,int a.2.2.Back]]]) (.ifs [66] x18 (.cl 70 (d_ref18_Due n a3 a2.Qty) cal236 d_ref18_Due_c fun x19 =>
 .dr [(0,[3]),(1,[3]),(2,[2]),(3,[2]),(5,[3]),(6,[3]),(9,[7]),(11,[7])] [(10,[3]),(12,[])] [2,3,7] [10,12] [0,1,2,3,4,5,6,7,8,9,10,11,12] (.bI 75 (w64 (a3.Open-a2.Qty)) fun x20 =>
 .bI 79 (w64 (a3.Accrued-x19)) fun x21 =>
 .ret ((1:Int),x19,((⟨a3.Entity,a3.Item,a3.Loc,a3.Qty,a3.Value,x20,x21,a3.Back⟩:GReceipt):GReceipt)))) (.ret ((2:Int),x16,(a3:GReceipt))))
  (pw fun y1_1 q0=>(pw fun y1_2 y1_3 =>
 .bI 92 (w64 (x12.2.1.Value-y1_2)) fun x22 =>
 .bI 96 (w64 (0-x12.2.1.Value)) fun x23 =>
 .gv 98<|
 .cl 99 (d_ref14_Post n x12.1 a3.Entity ([(⟨y1_1,y1_2⟩:GLine),(⟨6,x22⟩:GLine),(⟨0,x23⟩:GLine)]:List GLine)) cal149 d_ref14_Post_c fun x24 =>
 .bB 103 (decide (x24.2≠0)) fun x25 =>
 .ifs [103] x25 (.ret ((a1:GState),(x24.2:Int))) (.cl 115 (d_ref14_Turn n x24.1 a3.Entity a3.Item (⟨0,0,0,0,0,0,0,x12.2.1.Value,0,0,0⟩:GRoll)) cal151 d_ref14_Turn_c fun x26 =>
 .bB 119 (decide (x26.2≠0)) fun x27 =>
 .ifs [119] x27 (.ret ((a1:GState),(x26.2:Int))) (.bI 126 (w64 (a3.Back+a2.Qty)) fun x28 =>
 .cl 132 (d_ref18_with x26.1 a2.Ref (⟨y1_3.Entity,y1_3.Item,y1_3.Loc,y1_3.Qty,y1_3.Value,y1_3.Open,y1_3.Accrued,x28⟩:GReceipt)) cal237 d_ref18_with_c fun x29 =>
 .ret (x29,(0:Int))))) q0))))))
def d_ref18_sendback (n:Nat) (a1:GState) (a2:GOp) (a3:GReceipt):Option (GState×Int):=(t_ref18_sendback n a1 a2 a3).run
theorem d_ref18_sendback_c {n:Nat} {a1:GState} {a2:GOp} {a3:GReceipt} {r:GState×Int} (h0:d_ref18_sendback n a1 a2 a3=some r):PP Tryz.prog 204 [.agg (GState.av a1),.agg (GOp.av a2),.agg (GReceipt.av a3)] (fun y=>y=.tup [.agg (GState.av r.1),int r.2]):=by
 refine wt_pp mixed tbk (fun (r:GState×Int)=>.tup [.agg (GState.av r.1),int r.2]) h0 Tryz.func204 (fun r=>.tup (pvl2 ((fun (a:GState)=>PV.agg (GState.pvc a)) (r.1)) (pvI (r.2)))) 100000 ?_
 intro v4
 intro v5
 intro v6
 intro v7
 conv=>whnf
 refine .mk fun x8=>?_
 conv=>whnf
 refine .mk fun x9=>?_
 refine .mk .mk ?_
 conv=>whnf
 refine .mk ?_ ?_
 conv=>whnf
 refine .mk fun x10=>?_
 conv=>whnf
 refine .mk ?_ ?_
 conv=>whnf
 refine .mk fun x11=>?_
 exact .mk
 conv=>whnf
 exact .mk
 intro _ _
 refine .mk .mk ?_
 conv=>whnf
 refine .mk fun x12 e12=>?_
 intro v13
 intro v14
 conv=>whnf
 refine .mk fun x15=>?_
 refine .mk .mk ?_
 refine .mk ?_
 conv=>whnf
 refine .mk fun x16 e16=>?_
 intro v17
 conv=>whnf
 refine .mk fun x18=>?_
 conv=>whnf
 refine .mk ?_ ?_
 conv=>whnf
 refine .mk ?_ ?_
 conv=>whnf
 refine .mk fun x19 e19=>?_
 refine .mk ?_
 conv=>whnf
 refine .mk fun x20=>?_
 conv=>whnf
 refine .mk fun x21=>?_
 exact .mk
 conv=>whnf
 exact .mk
 rintro ⟨y1_1,y1_2,y1_3⟩ _
 conv=>whnf
 refine .mk fun x22=>?_
 conv=>whnf
 refine .mk fun x23=>?_
 conv=>whnf
 refine .mk _ (agr (yv_to (y:=lst 2 GLine.av ([(⟨y1_1,y1_2⟩:GLine),(⟨6,x22⟩:GLine),(⟨0,x23⟩:GLine)]:List GLine)) (yv_buildSlice (ps:=[(0,_),(1,_),(2,_)]) (rows:=[[int y1_1,int y1_2],[int 6,int x22],[int 0,int x23]]) rfl Tryz.underlying120 bz119 (.cons rfl (.cons rfl (.cons rfl .nil))) (by kernel_rfl) rfl rfl rfl) rfl)) ?_
 conv=>whnf
 refine .mk fun x24 e24=>?_
 conv=>whnf
 refine .mk fun x25=>?_
 refine .mk .mk ?_
 conv=>whnf
 refine .mk fun x26 e26=>?_
 conv=>whnf
 refine .mk fun x27=>?_
 refine .mk .mk ?_
 conv=>whnf
 refine .mk fun x28=>?_
 conv=>whnf
 refine .mk fun x29 e29=>?_
 exact .mk
noncomputable def t_ref18_Do (n:Nat) (a1:GState) (a2:GOp):WT Tryz.prog (.b (GState×Int)) :=
 .al 1<|
 .al 2<|
 .al 3<|
 .jn 0 [2,3,4,5] [1,2,3] [] (fun _ (a:Bool)=>[(15,boo a)]) (fun _ _=>[]) (.bB 10 (decide (a2.Kind≠2)) fun x6 =>
 .ifs [10] x6 (.bB 14 (decide (a2.Kind≠3)) fun x7 =>
 .ret x7) (.ret (false:Bool)))
  (fun y0_1 =>
 .ifs [15] y0_1 (.ret ((a1:GState),(1:Int))) (.jn 1 [2,3,4,5] [1,2,3] [] (fun _ (a:Bool)=>[(27,boo a)]) (fun _ _=>[]) (.bB 19 (decide (a2.Ref<0)) fun x8 =>
 .ifs [19] x8 (.ret (true:Bool)) (.ln 25 GReceipt.av a1.Receipts<|
 .bB 26 (decide (a2.Ref≥(a1.Receipts.length:Int))) fun x9 =>
 .ret x9))
  (fun y1_1 =>
 .ifs [27] y1_1 (.ret ((a1:GState),(4:Int))) (.ix 33 GReceipt.av a1.Receipts a2.Ref fun x10 =>
 .al 4<|
 .cl 40 (d_ref14_Ready a1 x10.Entity x10.Item) cal195 d_ref14_Ready_c fun x12 =>
 .bB 42 (decide (x12≠0)) fun x13 =>
 .ifs [42] x13 (.ret ((a1:GState),x12)) (.bB 47 (decide (a2.Kind=2)) fun x14 =>
 .ifs [47] x14 (.cl 51 (d_ref18_invoice n a1 a2 x10) cal203 d_ref18_invoice_c fun x15 =>
 .ret ((x15.1:GState),(x15.2:Int))) (.cl 57 (d_ref18_sendback n a1 a2 x10) cal204 d_ref18_sendback_c fun x16 =>
 .ret ((x16.1:GState),(x16.2:Int))))))))
def d_ref18_Do (n:Nat) (a1:GState) (a2:GOp):Option (GState×Int):=(t_ref18_Do n a1 a2).run
theorem d_ref18_Do_c {n:Nat} {a1:GState} {a2:GOp} {r:GState×Int} (h0:d_ref18_Do n a1 a2=some r):PP Tryz.prog 158 [.agg (GState.av a1),.agg (GOp.av a2)] (fun y=>y=.tup [.agg (GState.av r.1),int r.2]):=by
 refine wt_pp mixed tbk (fun (r:GState×Int)=>.tup [.agg (GState.av r.1),int r.2]) h0 Tryz.func158 (fun r=>.tup (pvl2 ((fun (a:GState)=>PV.agg (GState.pvc a)) (r.1)) (pvI (r.2)))) 100000 ?_
 intro v3
 intro v4
 intro v5
 conv=>whnf
 refine .mk ?_ ?_
 conv=>whnf
 refine .mk fun x6=>?_
 conv=>whnf
 refine .mk ?_ ?_
 conv=>whnf
 refine .mk fun x7=>?_
 exact .mk
 conv=>whnf
 exact .mk
 intro _ _
 refine .mk .mk ?_
 conv=>whnf
 refine .mk ?_ ?_
 conv=>whnf
 refine .mk fun x8=>?_
 refine .mk .mk ?_
 refine .mk ?_
 conv=>whnf
 refine .mk fun x9=>?_
 exact .mk
 intro _ _
 refine .mk .mk ?_
 conv=>whnf
 refine .mk fun x10 e10=>?_
 intro v11
 conv=>whnf
 refine .mk fun x12 e12=>?_
 conv=>whnf
 refine .mk fun x13=>?_
 refine .mk .mk ?_
 conv=>whnf
 refine .mk fun x14=>?_
 conv=>whnf
 refine .mk ?_ ?_
 conv=>whnf
 refine .mk fun x15 e15=>?_
 exact .mk
 conv=>whnf
 refine .mk fun x16 e16=>?_
 exact .mk
noncomputable def t_ref19_Weights (n:Nat) (a1:GState) (a2:List Int) (a3:Int):WT Tryz.prog (.b ((List Int))) :=
 .al 1<|
 .jn 2 [6] [] [4] (fun u18 (a:(List Int))=>[(7,.sl 4 (u18 4) 0 a.length)]) (fun _ a=>[.nw 4 3 1 (a.map fI)]) (.no 7 4 3 1<|
 .lp [1,2,3,6] [1] [4] (fun u25 (a:Int×(List Int))=>[(7,.sl 4 (u25 4) 0 a.2.length),(8,int a.1)]) (fun _ a=>[.nw 4 3 1 (a.2.map fI)]) n ((0:Int),(([]:List Int):List Int)) (pw fun y0_2 y0_3 =>
 .ln 13 fI a2<|
 .bB 14 (decide (y0_2<(a2.length:Int))) fun x6 =>
 .ifs [14] x6 (.jn 3 [1,2,3,6,7,8,9] [1,4] [] (fun _ (a:Bool)=>[(31,boo a)]) (fun _ _=>[]) (.dr [(10,[1]),(11,[1])] [] [1] [] [0,1,2,3,4,5,6,7,8,9,10,11,12,13,14] (.ix 19 fI a2 y0_2 fun x7 =>
 .bB 21 (decide (x7≥0)) fun x8 =>
 .ifs [21] x8 (.ix 25 fI a2 y0_2 fun x9 =>
 .ln 29 GReceipt.av a1.Receipts<|
 .bB 30 (decide (x9<(a1.Receipts.length:Int))) fun x10 =>
 .ret x10) (.ret (false:Bool))))
  (fun y1_1 =>
 .jn 0 [1,2,3,6,7,8] [1,4] [] (fun _ (a:Int)=>[(9,int a)]) (fun _ _=>[]) (.ifs [31] y1_1 (.dr [(0,[1]),(1,[1])] [(9,[])] [1] [8,9] [0,1,2,3,4,5,6,7,8,9] (.ix 36 fI a2 y0_2 fun x11 =>
 .ix 38 GReceipt.av a1.Receipts x11 fun x12 =>
 .al 2<|
 .bB 42 (decide (a3=0)) fun x14 =>
 .ifs [42] x14 (.ret (x12.Qty:Int)) (.bB 46 (decide (a3=1)) fun x15 =>
 .ifs [46] x15 (.ret (x12.Value:Int)) (.bB 50 (decide (a3=2)) fun x16 =>
 .ifs [50] x16 (.dr [(0,[2]),(1,[2]),(2,[1]),(3,[1]),(4,[1]),(5,[2]),(6,[2])] [] [1,2] [] [0,1,2,3,4,5,6,7,8,9,10] (.ix 58 fI a1.Master.Weights x12.Item fun x17 =>
 .bI 60 (w64 (x12.Qty*x17)) fun x18 =>
 .ret x18)) (.ret (0:Int)))))) (.ret (0:Int)))
  (fun y2_1 =>
 .gv 63<|
 .bl (y0_3++([y2_1]:List Int):List Int) fun x19 =>
 .as (x19.length≤68719476736) inferInstance<|
 .ge 64<|
 .bI 16 (w64 (y0_2+1)) fun x22 =>
 .brk (x22,x19)))) (.esc (.ret y0_3))))
  (fun y3_2 =>
 .ret (y3_2))
def d_ref19_Weights (n:Nat) (a1:GState) (a2:List Int) (a3:Int):Option ((List Int)):=(t_ref19_Weights n a1 a2 a3).run
theorem d_ref19_Weights_c {n:Nat} {a1:GState} {a2:List Int} {a3:Int} {r:(List Int)} (h0:d_ref19_Weights n a1 a2 a3=some r):PP Tryz.prog 206 [.agg (GState.av a1),lst 1 fI a2,int a3] (fun y=>y=lst 1 fI r):=by
 refine wt_pp mixed tbk (fun (r:(List Int))=>lst 1 fI r) h0 Tryz.func206 (fun r=>(pvLs pvcI) r) 100000 ?_
 intro v4
 conv=>whnf
 refine .mk ?_ ?_
 intro v5
 refine .mk ?_
 rintro ⟨y0_2,y0_3⟩ _
 refine .mk ?_
 conv=>whnf
 refine .mk fun x6=>?_
 conv=>whnf
 refine .mk ?_ ?_
 conv=>whnf
 refine .mk ?_ ?_
 refine .mk ?_
 conv=>whnf
 refine .mk fun x7 e7=>?_
 conv=>whnf
 refine .mk fun x8=>?_
 conv=>whnf
 refine .mk ?_ ?_
 conv=>whnf
 refine .mk fun x9 e9=>?_
 refine .mk ?_
 conv=>whnf
 refine .mk fun x10=>?_
 exact .mk
 conv=>whnf
 exact .mk
 intro _ _
 conv=>whnf
 refine .mk ?_ ?_
 conv=>whnf
 refine .mk ?_ ?_
 refine .mk ?_
 conv=>whnf
 refine .mk fun x11 e11=>?_
 conv=>whnf
 refine .mk fun x12 e12=>?_
 intro v13
 conv=>whnf
 refine .mk fun x14=>?_
 refine .mk .mk ?_
 conv=>whnf
 refine .mk fun x15=>?_
 refine .mk .mk ?_
 conv=>whnf
 refine .mk fun x16=>?_
 conv=>whnf
 refine .mk ?_ ?_
 refine .mk ?_
 conv=>whnf
 refine .mk fun x17 e17=>?_
 conv=>whnf
 refine .mk fun x18=>?_
 exact .mk
 conv=>whnf
 exact .mk
 exact .mk
 intro y2_1 _
 conv=>whnf
 refine .mk _ (agr (yv_to (y:=lst 1 fI ([y2_1]:List Int)) (yv_buildSlice (ps:=[(0,_)]) (rows:=[[int y2_1]]) rfl Tryz.underlying22 bz3 (.cons rfl .nil) (by kernel_rfl) rfl rfl rfl) rfl)) ?_
 conv=>whnf
 refine .mk fun x19 e19=>?_
 conv=>whnf
 refine .mk fun p20=>?_
 conv=>whnf
 refine .mk _ ⟨fun _=>yl_appT (g:=fI) (l:=y0_3) (m:=([y2_1]:List Int)) .any rfl Tryz.underlying22 bz3 by3 rfl rfl rfl rfl rfl rfl rfl rfl rfl rfl (Eq.symm rfl) (.refl _) (fun _=>rfl) e19 p20,fun _ _ _=>trivial⟩ ?_
 rintro _ _ ⟨v21,-,rfl,rfl⟩
 conv=>whnf
 refine .mk fun x22=>?_
 exact .mk
 conv=>whnf
 exact .mk
 intro _ _
 conv=>whnf
 exact .mk (cv_lst rfl rfl rfl rfl rfl (Eq.symm rfl))
noncomputable def t_ref02_Split (n:Nat) (a1:Int) (a2:List Int):WT Tryz.prog (.b ((List Int)×Int)) :=
 .jnE 3 [0,1,4,5] [] [] (fun _ (a:Bool)=>[(6,boo a)]) (fun _ _=>[]) (.lp [0,1,4,5] [] [] (fun _ (a:Bool×Int)=>[(6,boo a.1),(7,int a.2)]) (fun _ _=>[]) n ((false:Bool),(0:Int)) (pw fun y0_1 y0_2 =>
 .ln 21 fI a2<|
 .bB 22 (decide (y0_2<(a2.length:Int))) fun x3 =>
 .ifs [22] x3 (.jn 2 [0,1,4,5,6,7] [] [] (fun _ (a:Bool)=>[(36,boo a)]) (fun _ _=>[]) (.ix 27 fI a2 y0_2 fun x4 =>
 .bB 29 (decide (x4<0)) fun x5 =>
 .ifs [29] x5 (.ret (true:Bool)) (.ix 33 fI a2 y0_2 fun x6 =>
 .bB 35 (decide (x6>288230376151711744)) fun x7 =>
 .ret x7))
  (fun y1_1 =>
 .ifs [36] y1_1 (.esc (.esc (.ret (([]:List Int),(1:Int))))) (.jn 1 [0,1,4,5,7] [] [] (fun _ (a:Bool)=>[(6,boo a)]) (fun _ _=>[]) (.ifs [6] y0_1 (.ret (true:Bool)) (.ix 41 fI a2 y0_2 fun x8 =>
 .bB 43 (decide (x8>0)) fun x9 =>
 .ret x9))
  (fun y2_1 =>
 .bI 24 (w64 (y0_2+1)) fun x10 =>
 .brk (y2_1,x10))))) (.esc (.brk y0_1))))
  (fun y3_1 =>
 .jn 0 [0,1,4,5] [] [] (fun _ (a:Bool)=>[(54,boo a)]) (fun _ _=>[]) (.bB 46 (decide (a1<0)) fun x11 =>
 .ifs [46] x11 (.ret (true:Bool)) (.bB 49 (decide (a1>288230376151711744)) fun x12 =>
 .ifs [49] x12 (.ret (true:Bool)) (.bB 53 (!y3_1) fun x13 =>
 .ret x13)))
  (fun y4_1 =>
 .ifs [54] y4_1 (.ret (([]:List Int),(1:Int))) (.cl 57 (d_ref01_Sum n a2) cal194 d_ref01_Sum_c fun x14 =>
 .bB 61 (decide (x14.2≠0)) fun x15 =>
 .ifs [61] x15 (.ret (([]:List Int),(x14.2:Int))) (.jn 4 [4,5] [] [3,4] (fun u23 (a:Int×(List Int)×(List Int))=>[(10,.sl 3 (u23 3) 0 a.2.1.length),(11,.sl 4 (u23 4) 0 a.2.2.length),(12,int a.1)]) (fun _ a=>[.nw 3 3 1 (a.2.1.map fI),.nw 4 3 1 (a.2.2.map fI)]) (.no 10 3 3 1<|
 .no 11 4 3 1<|
 .lp [0,1,4,5,8] [] [3,4] (fun u24 (a:Int×Int×(List Int)×(List Int))=>[(10,.sl 3 (u24 3) 0 a.2.2.1.length),(11,.sl 4 (u24 4) 0 a.2.2.2.length),(12,int a.1),(13,int a.2.1)]) (fun _ a=>[.nw 3 3 1 (a.2.2.1.map fI),.nw 4 3 1 (a.2.2.2.map fI)]) n ((a1:Int),(0:Int),(([]:List Int):List Int),(([]:List Int):List Int)) (pw fun y5_3 q0=>(pw fun y5_4 q1=>(pw fun y5_5 y5_6 =>
 .ln 66 fI a2<|
 .bB 67 (decide (y5_4<(a2.length:Int))) fun x18 =>
 .ifs [67] x18 (.ix 74 fI a2 y5_4 fun x19 =>
 .cl 77 (d_ref01_MulDiv n a1 x19 x14.1) cal234 d_ref01_MulDiv_c fun x20 =>
 .gv 83<|
 .bl (y5_5++([x20.1]:List Int):List Int) fun x21 =>
 .as (x21.length≤68719476736) inferInstance<|
 .ge 84<|
 .gv 87<|
 .bl (y5_6++([x20.2.1]:List Int):List Int) fun x24 =>
 .as (x24.length≤68719476736) inferInstance<|
 .ge 88<|
 .bI 91 (w64 (y5_3-x20.1)) fun x27 =>
 .bI 69 (w64 (y5_4+1)) fun x28 =>
 .brk (x27,x28,x21,x24)) (.esc (.ret (y5_3,y5_5,y5_6)))) q1) q0))
  (pw fun y6_3 q0=>(pw fun y6_4 y6_5 =>
 .jn 0 [4,5] [] [] (fun u44 (a:(List Int))=>[(10,.sl 3 (u44 3) 0 a.length)]) (fun _ a=>[.kp 3 (a.map fI)]) (.lp [4,5] [] [] (fun u47 (a:Int×(List Int)×(List Int))=>[(10,.sl 3 (u47 3) 0 a.2.1.length),(11,.sl 4 (u47 4) 0 a.2.2.length),(12,int a.1)]) (fun _ a=>[.kp 3 (a.2.1.map fI),.kp 4 (a.2.2.map fI)]) n (y6_3,y6_4,y6_5) (pw fun y7_1 q0=>(pw fun y7_2 y7_3 =>
 .bB 93 (decide (y7_1>0)) fun x29 =>
 .ifs [93] x29 (.jn 1 [4,5,12] [] [] (fun u53 (a:(List Int)×(List Int))=>[(10,.sl 3 (u53 3) 0 a.1.length),(11,.sl 4 (u53 4) 0 a.2.length)]) (fun _ a=>[.kp 3 (a.1.map fI),.kp 4 (a.2.map fI)]) (.jn 3 [4,5,10,11,12] [3,4] [] (fun _ (a:Int)=>[(17,int a)]) (fun _ _=>[]) (.lp [4,5,10,11,12] [3,4] [] (fun _ (a:Int×Int)=>[(17,int a.1),(18,int a.2)]) (fun _ _=>[]) n ((0:Int),(1:Int)) (pw fun y8_1 y8_2 =>
 .bB 99 (decide (y8_2<(y7_3.length:Int))) fun x30 =>
 .ifs [99] x30 (.jn 1 [4,5,10,11,12,18] [3,4] [] (fun _ (a:Int)=>[(17,int a)]) (fun _ _=>[]) (.dr [(2,[4]),(3,[4]),(6,[4]),(7,[4])] [] [4] [] [0,1,2,3,4,5,6,7,8] (.bo (ix y7_3 y8_2) fun x31 =>
 .gv 104<|
 .gv 105<|
 .bo (ix y7_3 y8_1) fun x32 =>
 .gv 108<|
 .gv 109<|
 .bB 110 (decide (x31>x32)) fun x33 =>
 .ifs [110] x33 (.ret y8_2) (.ret y8_1)))
  (fun y9_1 =>
 .bI 101 (w64 (y8_2+1)) fun x34 =>
 .brk (y9_1,x34))) (.esc (.ret y8_1))))
  (fun y10_1 =>
 .bo (ix y7_2 y10_1) fun x35 =>
 .gv 114<|
 .gv 115<|
 .bI 116 (w64 (x35+1)) fun x36 =>
 .gv 117<|
 .bl (y7_2.set (Int.toNat y10_1) x36:List Int) fun x37 =>
 .ge 1028006<|
 .bo (ix y7_3 y10_1) fun x38 =>
 .gv 120<|
 .bl (y7_3.set (Int.toNat y10_1) ((-1):Int):List Int) fun x39 =>
 .ge 1029003<|
 .ret (x37,x39)))
  (pw fun y11_1 y11_2 =>
 .bI 95 (w64 (y7_1-1)) fun x40 =>
 .brk (x40,y11_1,y11_2))) (.esc (.ret y7_2))) q0))
  (fun y12_1 =>
 .ret (y12_1,(0:Int)))) q0)))))
def d_ref02_Split (n:Nat) (a1:Int) (a2:List Int):Option ((List Int)×Int):=(t_ref02_Split n a1 a2).run
theorem d_ref02_Split_c {n:Nat} {a1:Int} {a2:List Int} {r:(List Int)×Int} (h0:d_ref02_Split n a1 a2=some r):PP Tryz.prog 205 [int a1,lst 1 fI a2] (fun y=>y=.tup [lst 1 fI r.1,int r.2]):=by
 refine wt_pp mixed tbk (fun (r:(List Int)×Int)=>.tup [lst 1 fI r.1,int r.2]) h0 Tryz.func205 (fun r=>.tup (pvl2 ((pvLs pvcI) (r.1)) (pvI (r.2)))) 100000 ?_
 conv=>whnf
 refine .mk ?_ ?_
 refine .mk ?_
 intro _ _
 refine .mk ?_
 conv=>whnf
 refine .mk fun x3=>?_
 conv=>whnf
 refine .mk ?_ ?_
 conv=>whnf
 refine .mk ?_ ?_
 conv=>whnf
 refine .mk fun x4 e4=>?_
 conv=>whnf
 refine .mk fun x5=>?_
 refine .mk .mk ?_
 conv=>whnf
 refine .mk fun x6 e6=>?_
 conv=>whnf
 refine .mk fun x7=>?_
 exact .mk
 intro _ _
 conv=>whnf
 refine .mk ?_ ?_
 conv=>whnf
 exact .mk (CvL.tup (.cons (.nil _) (.cons (.refl _) .nil)))
 conv=>whnf
 refine .mk ?_ ?_
 refine .mk .mk ?_
 conv=>whnf
 refine .mk fun x8 e8=>?_
 conv=>whnf
 refine .mk fun x9=>?_
 exact .mk
 intro _ _
 conv=>whnf
 refine .mk fun x10=>?_
 exact .mk
 conv=>whnf
 exact .mk
 intro _ _
 conv=>whnf
 refine .mk ?_ ?_
 conv=>whnf
 refine .mk fun x11=>?_
 refine .mk .mk ?_
 conv=>whnf
 refine .mk fun x12=>?_
 refine .mk .mk ?_
 conv=>whnf
 refine .mk fun x13=>?_
 exact .mk
 intro _ _
 conv=>whnf
 refine .mk ?_ ?_
 conv=>whnf
 exact .mk (CvL.tup (.cons (.nil _) (.cons (.refl _) .nil)))
 conv=>whnf
 refine .mk fun x14 e14=>?_
 conv=>whnf
 refine .mk fun x15=>?_
 conv=>whnf
 refine .mk ?_ ?_
 conv=>whnf
 exact .mk (CvL.tup (.cons (.nil _) (.cons (.refl _) .nil)))
 conv=>whnf
 refine .mk ?_ ?_
 intro v16
 intro v17
 refine .mk ?_
 rintro ⟨y5_3,y5_4,y5_5,y5_6⟩ _
 refine .mk ?_
 conv=>whnf
 refine .mk fun x18=>?_
 conv=>whnf
 refine .mk ?_ ?_
 conv=>whnf
 refine .mk fun x19 e19=>?_
 conv=>whnf
 refine .mk fun x20 e20=>?_
 conv=>whnf
 refine .mk _ (agr (yv_to (y:=lst 1 fI ([x20.1]:List Int)) (yv_buildSlice (ps:=[(0,_)]) (rows:=[[int x20.1]]) rfl Tryz.underlying22 bz3 (.cons rfl .nil) (by kernel_rfl) rfl rfl rfl) rfl)) ?_
 conv=>whnf
 refine .mk fun x21 e21=>?_
 conv=>whnf
 refine .mk fun p22=>?_
 conv=>whnf
 refine .mk _ ⟨fun _=>yl_appT (g:=fI) (l:=y5_5) (m:=([x20.1]:List Int)) .any rfl Tryz.underlying22 bz3 by3 rfl rfl rfl rfl rfl rfl rfl rfl rfl rfl (Eq.symm rfl) (.refl _) (fun _=>rfl) e21 p22,fun _ _ _=>trivial⟩ ?_
 rintro _ _ ⟨v23,-,rfl,rfl⟩
 conv=>whnf
 refine .mk _ (agr (yv_to (y:=lst 1 fI ([x20.2.1]:List Int)) (yv_buildSlice (ps:=[(0,_)]) (rows:=[[int x20.2.1]]) rfl Tryz.underlying22 bz3 (.cons rfl .nil) (by kernel_rfl) rfl rfl rfl) rfl)) ?_
 conv=>whnf
 refine .mk fun x24 e24=>?_
 conv=>whnf
 refine .mk fun p25=>?_
 conv=>whnf
 refine .mk _ ⟨fun _=>yl_appT (g:=fI) (l:=y5_6) (m:=([x20.2.1]:List Int)) .any rfl Tryz.underlying22 bz3 by3 rfl rfl rfl rfl rfl rfl rfl rfl rfl rfl (Eq.symm rfl) (.refl _) (fun _=>rfl) e24 p25,fun _ _ _=>trivial⟩ ?_
 rintro _ _ ⟨v26,-,rfl,rfl⟩
 conv=>whnf
 refine .mk fun x27=>?_
 conv=>whnf
 refine .mk fun x28=>?_
 exact .mk
 conv=>whnf
 exact .mk
 intro _ _
 conv=>whnf
 refine .mk ?_ ?_
 refine .mk ?_
 rintro ⟨y7_1,y7_2,y7_3⟩ _
 conv=>whnf
 refine .mk fun x29=>?_
 conv=>whnf
 refine .mk ?_ ?_
 conv=>whnf
 refine .mk ?_ ?_
 conv=>whnf
 refine .mk ?_ ?_
 refine .mk ?_
 intro _ _
 conv=>whnf
 refine .mk fun x30=>?_
 conv=>whnf
 refine .mk ?_ ?_
 conv=>whnf
 refine .mk ?_ ?_
 refine .mk ?_
 conv=>whnf
 refine .mk fun x31 e31=>?_
 conv=>whnf
 refine .mk _ (fun H hH _=>yv_ixO rfl Tryz.underlying22 sh3 rfl rfl ((hH _ (by decide)).trans rfl) rfl rfl (Eq.symm rfl) (List.length_map _) e31) ?_
 conv=>whnf
 refine .mk _ (fun H hH _=>yv_load rfl sh3 rfl (.pt ((hH _ (by decide)).trans rfl) rfl (ix_get e31)) rfl) ?_
 conv=>whnf
 refine .mk fun x32 e32=>?_
 conv=>whnf
 refine .mk _ (fun H hH _=>yv_ixO rfl Tryz.underlying22 sh3 rfl rfl ((hH _ (by decide)).trans rfl) rfl rfl (Eq.symm rfl) (List.length_map _) e32) ?_
 conv=>whnf
 refine .mk _ (fun H hH _=>yv_load rfl sh3 rfl (.pt ((hH _ (by decide)).trans rfl) rfl (ix_get e32)) rfl) ?_
 conv=>whnf
 refine .mk fun x33=>?_
 refine .mk .mk ?_
 exact .mk
 intro _ _
 conv=>whnf
 refine .mk fun x34=>?_
 exact .mk
 conv=>whnf
 exact .mk
 intro _ _
 conv=>whnf
 refine .mk fun x35 e35=>?_
 conv=>whnf
 refine .mk _ (agr (yv_ixO rfl Tryz.underlying22 sh3 rfl rfl rfl rfl rfl (Eq.symm rfl) (List.length_map _) e35)) ?_
 conv=>whnf
 refine .mk _ (agr (yv_load rfl sh3 rfl (.pt rfl rfl (ix_get e35)) rfl)) ?_
 conv=>whnf
 refine .mk fun x36=>?_
 conv=>whnf
 refine .mk _ (agr (yv_ixO rfl Tryz.underlying22 sh3 rfl rfl rfl rfl rfl (Eq.symm rfl) (List.length_map _) e35)) ?_
 conv=>whnf
 refine .mk fun x37 e37=>?_
 have fx37:=ix_set e35 e37;have lx37:=len_setV e37 (rfl:y7_2.length=y7_2.length)
 conv=>whnf
 refine .mk _ ⟨fun _=>Yield.weak (yl_ob (ob':=(⟨3,1,true,true,_,x37.map fI⟩:AObj)) (yl_store rfl sh3 rfl rfl rfl rfl rfl (ix_get e35) rfl rfl rfl) (ob_eq (map_setV e37))) (fun _ h=>h) (fun _ _=>trivial),fun _ _ _=>trivial⟩ ?_
 rintro _ _ ⟨rfl,rfl⟩
 conv=>whnf
 refine .mk fun x38 e38=>?_
 conv=>whnf
 refine .mk _ (agr (yv_ixO rfl Tryz.underlying22 sh3 rfl rfl rfl rfl rfl (Eq.symm rfl) (List.length_map _) e38)) ?_
 conv=>whnf
 refine .mk fun x39 e39=>?_
 have fx39:=ix_set e38 e39;have lx39:=len_setV e39 (rfl:y7_3.length=y7_3.length)
 conv=>whnf
 refine .mk _ ⟨fun _=>Yield.weak (yl_ob (ob':=(⟨3,1,true,true,_,x39.map fI⟩:AObj)) (yl_store rfl sh3 rfl rfl rfl rfl rfl (ix_get e38) rfl rfl rfl) (ob_eq (map_setV e39))) (fun _ h=>h) (fun _ _=>trivial),fun _ _ _=>trivial⟩ ?_
 rintro _ _ ⟨rfl,rfl⟩
 conv=>whnf
 exact .mk ⟨⟨⟨_,rfl,(cv_slen (Eq.symm lx37))⟩,⟨_,rfl,(cv_slen (Eq.symm lx39))⟩,⟨_,rfl,(.refl _)⟩,⟨_,rfl,(.refl _)⟩,⟨_,rfl,(.refl _)⟩,trivial⟩,⟨⟨_,rfl,(.refl _)⟩,⟨_,rfl,(.refl _)⟩,trivial⟩⟩
 intro _ _
 conv=>whnf
 refine .mk fun x40=>?_
 exact .mk
 conv=>whnf
 exact .mk
 intro _ _
 conv=>whnf
 exact .mk (CvL.tup (.cons (cv_lst rfl rfl rfl rfl rfl (Eq.symm rfl)) (.cons (.refl _) .nil)))
noncomputable def t_ref13_Raise (n:Nat) (a1:Int) (a2:GPool) (a3:Int):WT Tryz.prog (.b (GPool×Int)) :=
 .al 1<|
 .al 2<|
 .ln 16 GLayer.av a2.Layers<|
 .jn 1 [2,4,6,7,8] [1,2] [] (fun _ (a:Bool)=>[(17,boo a)]) (fun _ _=>[]) (.bB 19 (decide (a3<0)) fun x6 =>
 .ifs [19] x6 (.ret (true:Bool)) (.bB 22 (decide (a1=4)) fun x7 =>
 .ret x7))
  (fun y0_1 =>
 .ifs [17] y0_1 (.ret ((a2:GPool),(1:Int))) (.bB 27 (decide ((a2.Layers.length:Int)=0)) fun x8 =>
 .ifs [27] x8 (.ret ((a2:GPool),(5:Int))) (.bB 31 (decide (a3>288230376151711744)) fun x9 =>
 .ifs [31] x9 (.ret ((a2:GPool),(2:Int))) (.as (a2.Layers.length≤68719476736) inferInstance<|
 .ge 35<|
 .cl 37 (d_ref13_Total n a2) cal193 d_ref13_Total_c fun x12 =>
 .al 4<|
 .jn 1 [4,6,7] [1,2] [] (fun u10 (a:(List GLayer))=>[(9,.sl 3 (u10 3) 0 a.length)]) (fun _ a=>[.kp 3 (a.map GLayer.av)]) (.lp [2,4,6,7,8,10] [1,2,4] [] (fun u13 (a:Int×Int×(List GLayer))=>[(9,.sl 3 (u13 3) 0 a.2.2.length),(11,int a.1),(12,int a.2.1)]) (fun _ a=>[.kp 3 (a.2.2.map GLayer.av)]) n ((a3:Int),(0:Int),(a2.Layers:List GLayer)) (pw fun y1_1 q0=>(pw fun y1_2 y1_3 =>
 .bB 41 (decide (y1_2<(a2.Layers.length:Int))) fun x14 =>
 .ifs [41] x14 (.bI 47 (w64 ((a2.Layers.length:Int)-1)) fun x15 =>
 .bB 48 (decide (y1_2<x15)) fun x16 =>
 .jn 0 [2,4,6,7,8,9,10,11,12] [1,2,3,4] [] (fun _ (a:Int)=>[(13,int a)]) (fun _ _=>[]) (.ifs [48] x16 (.dr [(3,[3]),(4,[3]),(5,[3]),(6,[4]),(7,[4])] [] [3,4] [] [0,1,2,3,4,5,6,7,8,9] (.bo (ix y1_3 y1_2) fun x17 =>
 .gv 52<|
 .gv 53<|
 .gv 54<|
 .cl 57 (d_ref01_Part n a3 x17.Qty x12.Qty) cal231 d_ref01_Part_c fun x18 =>
 .ret x18)) (.ret y1_1))
  (fun y2_1 =>
 .bo (ix y1_3 y1_2) fun x19 =>
 .gv 62<|
 .gv 63<|
 .gv 64<|
 .bI 66 (w64 (x19.Value+y2_1)) fun x20 =>
 .bI 69 (w64 (y1_1-y2_1)) fun x21 =>
 .gv 70<|
 .gv 71<|
 .bl (y1_3.set (Int.toNat y1_2) ((⟨x19.Qty,x20,x19.Profit⟩:GLayer):GLayer):List GLayer) fun x22 =>
 .ge 1016014<|
 .bI 43 (w64 (y1_2+1)) fun x23 =>
 .brk (x21,x23,x22))) (.esc (.ret y1_3))) q0))
  (fun y3_1 =>
 .clT 73 (d_ref09_Right n y3_1) cal253 d_ref09_Right_c (fun _=>rfl) fun x24 =>
 .bB 74 (!x24) fun x25 =>
 .ifs [74] x25 (.ret ((a2:GPool),(2:Int))) (.ret (((⟨y3_1,a2.Pend⟩:GPool):GPool),(0:Int))))))))
def d_ref13_Raise (n:Nat) (a1:Int) (a2:GPool) (a3:Int):Option (GPool×Int):=(t_ref13_Raise n a1 a2 a3).run
theorem d_ref13_Raise_c {n:Nat} {a1:Int} {a2:GPool} {a3:Int} {r:GPool×Int} (h0:d_ref13_Raise n a1 a2 a3=some r):PP Tryz.prog 238 [int a1,.agg (GPool.av a2),int a3] (fun y=>y=.tup [.agg (GPool.av r.1),int r.2]):=by
 refine wt_pp mixed tbk (fun (r:GPool×Int)=>.tup [.agg (GPool.av r.1),int r.2]) h0 Tryz.func238 (fun r=>.tup (pvl2 ((fun (a:GPool)=>PV.agg (GPool.pvc a)) (r.1)) (pvI (r.2)))) 100000 ?_
 intro v4
 intro v5
 refine .mk ?_
 conv=>whnf
 refine .mk ?_ ?_
 conv=>whnf
 refine .mk fun x6=>?_
 refine .mk .mk ?_
 conv=>whnf
 refine .mk fun x7=>?_
 exact .mk
 intro _ _
 refine .mk .mk ?_
 conv=>whnf
 refine .mk fun x8=>?_
 refine .mk .mk ?_
 conv=>whnf
 refine .mk fun x9=>?_
 refine .mk .mk ?_
 conv=>whnf
 refine .mk fun p10=>?_
 conv=>whnf
 refine .mk _ ⟨fun _=>yl_app0T (g:=GLayer.av) (m:=a2.Layers) 3 rfl Tryz.underlying54 bz53 by53 rfl rfl rfl rfl (.refl _) (fun _=>rfl) p10,fun _ _ _=>trivial⟩ ?_
 rintro _ _ ⟨v11,rfl,rfl⟩
 conv=>whnf
 refine .mk fun x12 e12=>?_
 intro v13
 conv=>whnf
 refine .mk ?_ ?_
 refine .mk ?_
 rintro ⟨y1_1,y1_2,y1_3⟩ _
 conv=>whnf
 refine .mk fun x14=>?_
 conv=>whnf
 refine .mk ?_ ?_
 conv=>whnf
 refine .mk fun x15=>?_
 conv=>whnf
 refine .mk fun x16=>?_
 conv=>whnf
 refine .mk ?_ ?_
 conv=>whnf
 refine .mk ?_ ?_
 refine .mk ?_
 conv=>whnf
 refine .mk fun x17 e17=>?_
 conv=>whnf
 refine .mk _ (fun H hH _=>yv_ixO rfl Tryz.underlying54 sh53 rfl rfl ((hH _ (by decide)).trans rfl) rfl rfl (Eq.symm rfl) (List.length_map _) e17) ?_
 conv=>whnf
 refine .mk _ (fun H hH _=>yv_fieldAddr rfl fo53_0 rfl (.pt ((hH _ (by decide)).trans rfl) rfl (ix_get e17)) (.pt _ _ _ _ _)) ?_
 conv=>whnf
 refine .mk _ (fun H hH _=>yv_load rfl sh3 rfl (.pt ((hH _ (by decide)).trans rfl) rfl (ix_get e17)) rfl) ?_
 conv=>whnf
 refine .mk fun x18 e18=>?_
 exact .mk
 conv=>whnf
 exact .mk
 intro _ _
 conv=>whnf
 refine .mk fun x19 e19=>?_
 conv=>whnf
 refine .mk _ (agr (yv_ixO rfl Tryz.underlying54 sh53 rfl rfl rfl rfl rfl (Eq.symm rfl) (List.length_map _) e19)) ?_
 conv=>whnf
 refine .mk _ (agr (yv_fieldAddr rfl fo53_1 rfl (.pt rfl rfl (ix_get e19)) (.pt _ _ _ _ _))) ?_
 conv=>whnf
 refine .mk _ (agr (yv_load rfl sh3 rfl (.pt rfl rfl (ix_get e19)) rfl)) ?_
 conv=>whnf
 refine .mk fun x20=>?_
 conv=>whnf
 refine .mk fun x21=>?_
 conv=>whnf
 refine .mk _ (agr (yv_ixO rfl Tryz.underlying54 sh53 rfl rfl rfl rfl rfl (Eq.symm rfl) (List.length_map _) e19)) ?_
 conv=>whnf
 refine .mk _ (agr (yv_fieldAddr rfl fo53_1 rfl (.pt rfl rfl (ix_get e19)) (.pt _ _ _ _ _))) ?_
 conv=>whnf
 refine .mk fun x22 e22=>?_
 have fx22:=ix_set e19 e22;have lx22:=len_setV e22 (rfl:y1_3.length=y1_3.length)
 conv=>whnf
 refine .mk _ ⟨fun _=>Yield.weak (yl_ob (ob':=(⟨53,3,true,true,_,x22.map GLayer.av⟩:AObj)) (yl_store rfl sh3 rfl rfl rfl rfl rfl (ix_get e19) rfl rfl rfl) (ob_eq (map_setV e22))) (fun _ h=>h) (fun _ _=>trivial),fun _ _ _=>trivial⟩ ?_
 rintro _ _ ⟨rfl,rfl⟩
 conv=>whnf
 refine .mk fun x23=>?_
 conv=>whnf
 exact .mk ⟨⟨⟨_,rfl,(cv_slen (Eq.symm lx22))⟩,⟨_,rfl,(.refl _)⟩,⟨_,rfl,(.refl _)⟩,⟨_,rfl,(.refl _)⟩,⟨_,rfl,(.refl _)⟩,⟨_,rfl,(.refl _)⟩,⟨_,rfl,(.refl _)⟩,⟨_,rfl,(.refl _)⟩,⟨_,rfl,(.refl _)⟩,trivial⟩,⟨⟨_,rfl,(.refl _)⟩,⟨_,rfl,(.refl _)⟩,⟨_,rfl,(.refl _)⟩,⟨_,rfl,(.refl _)⟩,trivial⟩⟩
 exact .mk
 intro _ _
 conv=>whnf
 refine .mk (fun x24 e24=>?_) rfl (by rintro _ rfl;exact (.cons (cv_lst rfl rfl rfl rfl rfl (Eq.symm rfl)) .nil))
 conv=>whnf
 refine .mk fun x25=>?_
 refine .mk .mk ?_
 conv=>whnf
 exact .mk (CvL.tup (.cons (CvL.agg (.cons (cv_lst rfl rfl rfl rfl rfl (Eq.symm rfl)) (.cons (.refl _) (.cons (.refl _) (.cons (.refl _) .nil))))) (.cons (.refl _) .nil)))
noncomputable def t_ref19_share (n:Nat) (a1:GState) (a2:GReceipt) (a3:Int):WT Tryz.prog (.b (GState×Int×Int)) :=
 .al 1<|
 .al 2<|
 .al 3<|
 .dr [(0,[1]),(1,[1]),(2,[1]),(3,[2]),(4,[2]),(7,[2]),(8,[2])] [] [1,2] [] [0,1,2,3,4,5,6,7,8,9,10,11] (.ix 20 (fL 1 fI) a1.Master.Methods a2.Entity fun x7 =>
 .ix 24 fI x7 a2.Item fun x8 =>
 .cl 33 (d_ref14_At a1 a2.Entity a2.Item a2.Loc) cal147 d_ref14_At_c fun x9 =>
 .al 4<|
 .dr [(1,[2]),(2,[2]),(3,[2]),(4,[2]),(6,[4]),(10,[2]),(11,[2])] [] [2,4] [] [0,1,2,3,4,5,6,7,8,9,10,11,12,13] (.bI 39 (w64 (a2.Qty-a2.Back)) fun x11 =>
 .cl 41 (d_ref13_Total n x9) cal193 d_ref13_Total_c fun x12 =>
 .bl (if x12.Qty<x11 then x12.Qty else x11:Int) fun x13 =>
 .gv 43<|
 .cl 46 (d_ref01_Part n a3 x13 a2.Qty) cal231 d_ref01_Part_c fun x14 =>
 .jn 0 [3,4,6,7,8,9,10,11] [1,2,3,4] [] (fun _ (a:Bool)=>[(52,boo a)]) (fun _ _=>[]) (.bB 48 (decide (x8=4)) fun x15 =>
 .ifs [48] x15 (.ret (true:Bool)) (.bB 51 (decide (x14=0)) fun x16 =>
 .ret x16))
  (fun y0_1 =>
 .ifs [52] y0_1 (.ret ((a1:GState),(0:Int),(0:Int))) (.cl 58 (d_ref13_Raise n x8 x9 x14) cal238 d_ref13_Raise_c fun x17 =>
 .al 5<|
 .bB 62 (decide (x17.2≠0)) fun x19 =>
 .ifs [62] x19 (.ret ((a1:GState),(0:Int),(x17.2:Int))) (.dr [(0,[1]),(1,[2]),(2,[2]),(3,[2]),(4,[2]),(5,[2]),(6,[2]),(7,[5]),(9,[2]),(10,[2]),(11,[2]),(12,[2])] [(20,[])] [1,2,5] [19,20] [0,1,2,3,4,5,6,7,8,9,10,11,12,13,14,15,16,17,18,19,20,21] (.cl 74 (d_ref14_Put a1 a2.Entity a2.Item a2.Loc x17.1) cal150 d_ref14_Put_c fun x20 =>
 .cl 81 (d_ref14_Turn n x20 a2.Entity a2.Item (⟨0,0,x14,0,0,0,0,0,0,0,0⟩:GRoll)) cal151 d_ref14_Turn_c fun x21 =>
 .al 6<|
 .ret ((x21.1:GState),x14,(x21.2:Int))))))))
def d_ref19_share (n:Nat) (a1:GState) (a2:GReceipt) (a3:Int):Option (GState×Int×Int):=(t_ref19_share n a1 a2 a3).run
theorem d_ref19_share_c {n:Nat} {a1:GState} {a2:GReceipt} {a3:Int} {r:GState×Int×Int} (h0:d_ref19_share n a1 a2 a3=some r):PP Tryz.prog 207 [.agg (GState.av a1),.agg (GReceipt.av a2),int a3] (fun y=>y=.tup [.agg (GState.av r.1),int r.2.1,int r.2.2]):=by
 refine wt_pp mixed tbk (fun (r:GState×Int×Int)=>.tup [.agg (GState.av r.1),int r.2.1,int r.2.2]) h0 Tryz.func207 (fun r=>.tup (pvl3 ((fun (a:GState)=>PV.agg (GState.pvc a)) (r.1)) (pvI (r.2.1)) (pvI (r.2.2)))) 100000 ?_
 intro v4
 intro v5
 intro v6
 refine .mk ?_
 conv=>whnf
 refine .mk fun x7 e7=>?_
 conv=>whnf
 refine .mk fun x8 e8=>?_
 conv=>whnf
 refine .mk fun x9 e9=>?_
 intro v10
 refine .mk ?_
 conv=>whnf
 refine .mk fun x11=>?_
 conv=>whnf
 refine .mk fun x12 e12=>?_
 conv=>whnf
 refine .mk fun x13 e13=>?_
 conv=>whnf
 refine .mk _ (fun H hH _=>yv_min rfl rfl rfl e13) ?_
 conv=>whnf
 refine .mk fun x14 e14=>?_
 conv=>whnf
 refine .mk ?_ ?_
 conv=>whnf
 refine .mk fun x15=>?_
 refine .mk .mk ?_
 conv=>whnf
 refine .mk fun x16=>?_
 exact .mk
 intro _ _
 refine .mk .mk ?_
 conv=>whnf
 refine .mk fun x17 e17=>?_
 intro v18
 conv=>whnf
 refine .mk fun x19=>?_
 refine .mk .mk ?_
 refine .mk ?_
 conv=>whnf
 refine .mk fun x20 e20=>?_
 conv=>whnf
 refine .mk fun x21 e21=>?_
 intro v22
 exact .mk
noncomputable def t_ref19_Do (n:Nat) (a1:GState) (a2:GOp):WT Tryz.prog (.b (GState×Int)) :=
 .al 1<|
 .al 2<|
 .al 3<|
 .jn 0 [2,3,4,5] [1,2,3] [] (fun _ (a:Bool)=>[(26,boo a)]) (fun _ _=>[]) (.bB 20 (decide (a2.Kind≠11)) fun x6 =>
 .ifs [20] x6 (.ret (true:Bool)) (.ln 24 fI a2.Refs<|
 .bB 25 (decide ((a2.Refs.length:Int)=0)) fun x7 =>
 .ret x7))
  (fun y0_1 =>
 .ifs [26] y0_1 (.ret ((a1:GState),(1:Int))) (.jnE 2 [2,3,4,5] [1,2,3] [] (fun _ (a:Unit)=>[]) (fun _ _=>[]) (.lp [2,3,4,5] [1,2,3] [] (fun _ (a:Int)=>[(6,int a)]) (fun _ _=>[]) n (0:Int) (fun y1_1 =>
 .ln 31 fI a2.Refs<|
 .bB 32 (decide (y1_1<(a2.Refs.length:Int))) fun x8 =>
 .ifs [32] x8 (.jn 2 [2,3,4,5,6] [1,2,3] [] (fun _ (a:Bool)=>[(51,boo a)]) (fun _ _=>[]) (.dr [(0,[2]),(1,[2]),(7,[2]),(8,[2]),(12,[1]),(13,[1])] [] [1,2] [] [0,1,2,3,4,5,6,7,8,9,10,11,12,13,14,15,16] (.ix 38 fI a2.Refs y1_1 fun x9 =>
 .bB 40 (decide (x9<0)) fun x10 =>
 .ifs [40] x10 (.ret (true:Bool)) (.ix 45 fI a2.Refs y1_1 fun x11 =>
 .ln 49 GReceipt.av a1.Receipts<|
 .bB 50 (decide (x11≥(a1.Receipts.length:Int))) fun x12 =>
 .ret x12)))
  (fun y2_1 =>
 .ifs [51] y2_1 (.esc (.esc (.ret ((a1:GState),(4:Int))))) (.bI 34 (w64 (y1_1+1)) fun x13 =>
 .brk x13))) (.esc (.brk ()))))
  (fun _ =>
 .dr [(0,[1]),(1,[1]),(2,[2]),(3,[2])] [(9,[])] [1,2] [8,9] [0,1,2,3,4,5,6,7,8,9] (.ix 57 fI a2.Refs 0 fun x14 =>
 .ix 59 GReceipt.av a1.Receipts x14 fun x15 =>
 .al 4<|
 .jnE 1 [2,3,4,5,7] [1,2,3,4] [] (fun _ (a:Unit)=>[]) (fun _ _=>[]) (.lp [2,3,4,5,7] [1,2,3,4] [] (fun _ (a:Int)=>[(8,int a)]) (fun _ _=>[]) n (1:Int) (fun y4_1 =>
 .ln 64 fI a2.Refs<|
 .bB 65 (decide (y4_1<(a2.Refs.length:Int))) fun x17 =>
 .ifs [65] x17 (.dr [(0,[1]),(1,[1]),(2,[2]),(3,[2]),(10,[4]),(11,[4])] [] [1,2,4] [] [0,1,2,3,4,5,6,7,8,9,10,11,12] (.ix 73 fI a2.Refs y4_1 fun x18 =>
 .ix 75 GReceipt.av a1.Receipts x18 fun x19 =>
 .bB 80 (decide (x19.Entity≠x15.Entity)) fun x20 =>
 .ifs [80] x20 (.esc (.esc (.ret ((a1:GState),(1:Int))))) (.bI 67 (w64 (y4_1+1)) fun x21 =>
 .brk x21))) (.esc (.brk ()))))
  (fun _ =>
 .cl 87 (d_ref14_Ready a1 x15.Entity x15.Item) cal195 d_ref14_Ready_c fun x22 =>
 .bB 89 (decide (x22≠0)) fun x23 =>
 .ifs [89] x23 (.ret ((a1:GState),x22)) (.dr [(0,[2]),(1,[2]),(2,[1]),(3,[2]),(4,[2]),(5,[2]),(6,[2])] [] [1,2] [] [0,1,2,3,4,5,6,7,8,9,10,11,12,13] (.cl 100 (d_ref19_Weights n a1 a2.Refs a2.To) cal206 d_ref19_Weights_c fun x24 =>
 .cl 101 (d_ref02_Split n a2.Amount x24) cal205 d_ref02_Split_c fun x25 =>
 .bB 105 (decide (x25.2≠0)) fun x26 =>
 .ifs [105] x26 (.ret ((a1:GState),(x25.2:Int))) (.al 5<|
 .jnE 1 [2,3,4,5,7,12] [1,2,3,4] [] (fun _ (a:Int×GState)=>[(13,int a.1)]) (fun _ a=>[.kp 5 [(GState.av a.2)]]) (.lp [2,3,4,5,7,10,12] [1,2,3,4] [] (fun _ (a:Int×Int×GState)=>[(13,int a.1),(14,int a.2.1)]) (fun _ a=>[.kp 5 [(GState.av a.2.2)]]) n ((0:Int),(0:Int),(a1:GState)) (pw fun y6_1 q0=>(pw fun y6_2 y6_3 =>
 .ln 111 fI x25.1<|
 .bB 112 (decide (y6_2<(x25.1.length:Int))) fun x28 =>
 .ifs [112] x28 (.dr [(0,[5]),(1,[1]),(2,[1]),(3,[2]),(4,[2])] [(20,[])] [1,2,5] [19,20] [0,1,2,3,4,5,6,7,8,9,10,11,12,13,14,15,16,17,18,19,20,21,22] (.ix 122 fI a2.Refs y6_2 fun x29 =>
 .ix 124 GReceipt.av a1.Receipts x29 fun x30 =>
 .ix 128 fI x25.1 y6_2 fun x31 =>
 .cl 130 (d_ref19_share n y6_3 x30 x31) cal207 d_ref19_share_c fun x32 =>
 .al 6<|
 .bB 135 (decide (x32.2.2≠0)) fun x34 =>
 .ifs [135] x34 (.esc (.esc (.ret ((a1:GState),(x32.2.2:Int))))) (.bI 141 (w64 (y6_1+x32.2.1)) fun x35 =>
 .bI 114 (w64 (y6_2+1)) fun x36 =>
 .brk (x35,x36,(x32.1:GState))))) (.esc (.brk (y6_1,y6_3)))) q0))
  (pw fun y7_1 y7_2 =>
 .bI 151 (w64 (a2.Amount-y7_1)) fun x37 =>
 .bI 155 (w64 (0-a2.Amount)) fun x38 =>
 .gv 157<|
 .cl 158 (d_ref14_Post n y7_2 x15.Entity ([(⟨0,y7_1⟩:GLine),(⟨9,x37⟩:GLine),(⟨2,x38⟩:GLine)]:List GLine)) cal149 d_ref14_Post_c fun x39 =>
 .bB 162 (decide (x39.2≠0)) fun x40 =>
 .ifs [162] x40 (.ret ((a1:GState),(x39.2:Int))) (.ret ((x39.1:GState),(0:Int))))))))))))
def d_ref19_Do (n:Nat) (a1:GState) (a2:GOp):Option (GState×Int):=(t_ref19_Do n a1 a2).run
theorem d_ref19_Do_c {n:Nat} {a1:GState} {a2:GOp} {r:GState×Int} (h0:d_ref19_Do n a1 a2=some r):PP Tryz.prog 159 [.agg (GState.av a1),.agg (GOp.av a2)] (fun y=>y=.tup [.agg (GState.av r.1),int r.2]):=by
 refine wt_pp mixed tbk (fun (r:GState×Int)=>.tup [.agg (GState.av r.1),int r.2]) h0 Tryz.func159 (fun r=>.tup (pvl2 ((fun (a:GState)=>PV.agg (GState.pvc a)) (r.1)) (pvI (r.2)))) 100000 ?_
 intro v3
 intro v4
 intro v5
 conv=>whnf
 refine .mk ?_ ?_
 conv=>whnf
 refine .mk fun x6=>?_
 refine .mk .mk ?_
 refine .mk ?_
 conv=>whnf
 refine .mk fun x7=>?_
 exact .mk
 intro _ _
 refine .mk .mk ?_
 conv=>whnf
 refine .mk ?_ ?_
 refine .mk ?_
 intro _ _
 refine .mk ?_
 conv=>whnf
 refine .mk fun x8=>?_
 conv=>whnf
 refine .mk ?_ ?_
 conv=>whnf
 refine .mk ?_ ?_
 refine .mk ?_
 conv=>whnf
 refine .mk fun x9 e9=>?_
 conv=>whnf
 refine .mk fun x10=>?_
 refine .mk .mk ?_
 conv=>whnf
 refine .mk fun x11 e11=>?_
 refine .mk ?_
 conv=>whnf
 refine .mk fun x12=>?_
 exact .mk
 intro _ _
 refine .mk .mk ?_
 conv=>whnf
 refine .mk fun x13=>?_
 exact .mk
 conv=>whnf
 exact .mk
 intro _ _
 refine .mk ?_
 conv=>whnf
 refine .mk fun x14 e14=>?_
 conv=>whnf
 refine .mk fun x15 e15=>?_
 intro v16
 conv=>whnf
 refine .mk ?_ ?_
 refine .mk ?_
 intro _ _
 refine .mk ?_
 conv=>whnf
 refine .mk fun x17=>?_
 conv=>whnf
 refine .mk ?_ ?_
 refine .mk ?_
 conv=>whnf
 refine .mk fun x18 e18=>?_
 conv=>whnf
 refine .mk fun x19 e19=>?_
 conv=>whnf
 refine .mk fun x20=>?_
 refine .mk .mk ?_
 conv=>whnf
 refine .mk fun x21=>?_
 exact .mk
 conv=>whnf
 exact .mk
 intro _ _
 conv=>whnf
 refine .mk fun x22 e22=>?_
 conv=>whnf
 refine .mk fun x23=>?_
 refine .mk .mk ?_
 refine .mk ?_
 conv=>whnf
 refine .mk fun x24 e24=>?_
 conv=>whnf
 refine .mk fun x25 e25=>?_
 conv=>whnf
 refine .mk fun x26=>?_
 refine .mk .mk ?_
 intro v27
 conv=>whnf
 refine .mk ?_ ?_
 refine .mk ?_
 intro _ _
 refine .mk ?_
 conv=>whnf
 refine .mk fun x28=>?_
 conv=>whnf
 refine .mk ?_ ?_
 refine .mk ?_
 conv=>whnf
 refine .mk fun x29 e29=>?_
 conv=>whnf
 refine .mk fun x30 e30=>?_
 conv=>whnf
 refine .mk fun x31 e31=>?_
 conv=>whnf
 refine .mk fun x32 e32=>?_
 intro v33
 conv=>whnf
 refine .mk fun x34=>?_
 refine .mk .mk ?_
 conv=>whnf
 refine .mk fun x35=>?_
 conv=>whnf
 refine .mk fun x36=>?_
 exact .mk
 conv=>whnf
 exact .mk
 rintro ⟨y7_1,y7_2⟩ _
 conv=>whnf
 refine .mk fun x37=>?_
 conv=>whnf
 refine .mk fun x38=>?_
 conv=>whnf
 refine .mk _ (agr (yv_to (y:=lst 2 GLine.av ([(⟨0,y7_1⟩:GLine),(⟨9,x37⟩:GLine),(⟨2,x38⟩:GLine)]:List GLine)) (yv_buildSlice (ps:=[(0,_),(1,_),(2,_)]) (rows:=[[int 0,int y7_1],[int 9,int x37],[int 2,int x38]]) rfl Tryz.underlying120 bz119 (.cons rfl (.cons rfl (.cons rfl .nil))) (by kernel_rfl) rfl rfl rfl) rfl)) ?_
 conv=>whnf
 refine .mk fun x39 e39=>?_
 conv=>whnf
 refine .mk fun x40=>?_
 refine .mk .mk ?_
 exact .mk
noncomputable def t_ref20_ship (n:Nat) (a1:GState) (a2:GOp):WT Tryz.prog (.b (GState×Int)) :=
 .al 1<|
 .al 2<|
 .al 3<|
 .cl 18 (d_ref14_Ready a1 a2.E a2.Item) cal195 d_ref14_Ready_c fun x6 =>
 .bB 20 (decide (x6≠0)) fun x7 =>
 .ifs [20] x7 (.ret ((a1:GState),x6)) (.cl 28 (d_ref14_Ready a1 a2.To a2.Item) cal195 d_ref14_Ready_c fun x8 =>
 .bB 30 (decide (x8≠0)) fun x9 =>
 .ifs [30] x9 (.ret ((a1:GState),x8)) (.ln 35 GTransit.av a1.Transits<|
 .bB 36 (decide ((a1.Transits.length:Int)≥40)) fun x10 =>
 .ifs [36] x10 (.ret ((a1:GState),(6:Int))) (.cl 48 (d_ref14_Fetch n a1 a2.E a2.Item a2.Loc 3 a2.Qty) cal228 d_ref14_Fetch_c fun x11 =>
 .al 4<|
 .al 5<|
 .bB 54 (decide (x11.2.2.2≠0)) fun x14 =>
 .ifs [54] x14 (.ret ((a1:GState),(x11.2.2.2:Int))) (.bI 66 (w64 (0-a2.Amount)) fun x15 =>
 .bI 73 (w64 (0-x11.2.1.Value)) fun x16 =>
 .gv 75<|
 .cl 76 (d_ref14_Post n x11.1 a2.E ([(⟨13,a2.Amount⟩:GLine),(⟨15,x15⟩:GLine),(⟨16,x11.2.1.Value⟩:GLine),(⟨0,x16⟩:GLine)]:List GLine)) cal149 d_ref14_Post_c fun x17 =>
 .bB 80 (decide (x17.2≠0)) fun x18 =>
 .ifs [80] x18 (.ret ((a1:GState),(x17.2:Int))) (.bI 92 (w64 (0-a2.Amount)) fun x19 =>
 .gv 94<|
 .cl 95 (d_ref14_Post n x17.1 a2.To ([(⟨12,a2.Amount⟩:GLine),(⟨14,x19⟩:GLine)]:List GLine)) cal149 d_ref14_Post_c fun x20 =>
 .bB 99 (decide (x20.2≠0)) fun x21 =>
 .ifs [99] x21 (.ret ((a1:GState),(x20.2:Int))) (.cl 111 (d_ref14_Turn n x20.1 a2.E a2.Item (⟨0,0,0,0,0,0,x11.2.1.Value,0,0,0,0⟩:GRoll)) cal151 d_ref14_Turn_c fun x22 =>
 .bB 115 (decide (x22.2≠0)) fun x23 =>
 .ifs [115] x23 (.ret ((a1:GState),(x22.2:Int))) (.bI 122 (w64 (a2.Amount-x11.2.1.Value)) fun x24 =>
 .bI 125 (w64 (x24+x11.2.1.Profit)) fun x25 =>
 .cl 127 (d_ref01_In x25) cal224 d_ref01_In_c fun x26 =>
 .bB 128 (!x26) fun x27 =>
 .ifs [128] x27 (.ret ((a1:GState),(2:Int))) (.dr [(0,[4]),(1,[4]),(3,[2]),(4,[2]),(5,[2]),(6,[2]),(7,[2]),(8,[2]),(9,[2]),(10,[2]),(11,[2]),(12,[2]),(17,[4])] [(2,[2]),(16,[]),(18,[])] [2,4] [2,16,18] [0,1,3,4,5,6,7,8,9,10,11,12,13,14,15,2,16,17,18] (.gv 145<|
 .as (x22.1.Transits.length≤68719476736) inferInstance<|
 .ge 132<|
 .bl (x22.1.Transits++([(⟨a2.E,a2.To,a2.Item,a2.Qty,a2.Amount,x25⟩:GTransit)]:List GTransit):List GTransit) fun x30 =>
 .as (x30.length≤68719476736) inferInstance<|
 .ge 146<|
 .ret (((⟨x22.1.Master,x22.1.Ents,x22.1.Receipts,x22.1.Sales,x30,x22.1.Done⟩:GState):GState),(0:Int)))))))))))
def d_ref20_ship (n:Nat) (a1:GState) (a2:GOp):Option (GState×Int):=(t_ref20_ship n a1 a2).run
theorem d_ref20_ship_c {n:Nat} {a1:GState} {a2:GOp} {r:GState×Int} (h0:d_ref20_ship n a1 a2=some r):PP Tryz.prog 208 [.agg (GState.av a1),.agg (GOp.av a2)] (fun y=>y=.tup [.agg (GState.av r.1),int r.2]):=by
 refine wt_pp mixed tbk (fun (r:GState×Int)=>.tup [.agg (GState.av r.1),int r.2]) h0 Tryz.func208 (fun r=>.tup (pvl2 ((fun (a:GState)=>PV.agg (GState.pvc a)) (r.1)) (pvI (r.2)))) 100000 ?_
 intro v3
 intro v4
 intro v5
 conv=>whnf
 refine .mk fun x6 e6=>?_
 conv=>whnf
 refine .mk fun x7=>?_
 refine .mk .mk ?_
 conv=>whnf
 refine .mk fun x8 e8=>?_
 conv=>whnf
 refine .mk fun x9=>?_
 refine .mk .mk ?_
 refine .mk ?_
 conv=>whnf
 refine .mk fun x10=>?_
 refine .mk .mk ?_
 conv=>whnf
 refine .mk fun x11 e11=>?_
 intro v12
 intro v13
 conv=>whnf
 refine .mk fun x14=>?_
 refine .mk .mk ?_
 conv=>whnf
 refine .mk fun x15=>?_
 conv=>whnf
 refine .mk fun x16=>?_
 conv=>whnf
 refine .mk _ (agr (yv_to (y:=lst 2 GLine.av ([(⟨13,a2.Amount⟩:GLine),(⟨15,x15⟩:GLine),(⟨16,x11.2.1.Value⟩:GLine),(⟨0,x16⟩:GLine)]:List GLine)) (yv_buildSlice (ps:=[(0,_),(1,_),(2,_),(3,_)]) (rows:=[[int 13,int a2.Amount],[int 15,int x15],[int 16,int x11.2.1.Value],[int 0,int x16]]) rfl Tryz.underlying120 bz119 (.cons rfl (.cons rfl (.cons rfl (.cons rfl .nil)))) (by kernel_rfl) rfl rfl rfl) rfl)) ?_
 conv=>whnf
 refine .mk fun x17 e17=>?_
 conv=>whnf
 refine .mk fun x18=>?_
 refine .mk .mk ?_
 conv=>whnf
 refine .mk fun x19=>?_
 conv=>whnf
 refine .mk _ (agr (yv_to (y:=lst 2 GLine.av ([(⟨12,a2.Amount⟩:GLine),(⟨14,x19⟩:GLine)]:List GLine)) (yv_buildSlice (ps:=[(0,_),(1,_)]) (rows:=[[int 12,int a2.Amount],[int 14,int x19]]) rfl Tryz.underlying120 bz119 (.cons rfl (.cons rfl .nil)) (by kernel_rfl) rfl rfl rfl) rfl)) ?_
 conv=>whnf
 refine .mk fun x20 e20=>?_
 conv=>whnf
 refine .mk fun x21=>?_
 refine .mk .mk ?_
 conv=>whnf
 refine .mk fun x22 e22=>?_
 conv=>whnf
 refine .mk fun x23=>?_
 refine .mk .mk ?_
 conv=>whnf
 refine .mk fun x24=>?_
 conv=>whnf
 refine .mk fun x25=>?_
 conv=>whnf
 refine .mk fun x26 e26=>?_
 conv=>whnf
 refine .mk fun x27=>?_
 refine .mk .mk ?_
 refine .mk ?_
 conv=>whnf
 refine .mk _ (fun H hH _=>yv_to (y:=lst 6 GTransit.av ([(⟨a2.E,a2.To,a2.Item,a2.Qty,a2.Amount,x25⟩:GTransit)]:List GTransit)) (yv_buildSlice (ps:=[(0,_)]) (rows:=[[int a2.E,int a2.To,int a2.Item,int a2.Qty,int a2.Amount,int x25]]) rfl Tryz.underlying29 bz78 (.cons rfl .nil) (by kernel_rfl) rfl rfl rfl) rfl) ?_
 conv=>whnf
 refine .mk fun p28=>?_
 conv=>whnf
 refine .mk _ ⟨fun _=>yl_app0T (g:=GTransit.av) (m:=x22.1.Transits) 6 rfl Tryz.underlying29 bz78 by78 rfl rfl rfl rfl (.refl _) (fun _=>rfl) p28,by rintro _ _ ⟨v29,rfl,rfl⟩;exact ⟨rfl,trivial⟩⟩ ?_
 rintro _ _ ⟨v29,rfl,rfl⟩
 conv=>whnf
 refine .mk fun x30 e30=>?_
 conv=>whnf
 refine .mk fun p31=>?_
 conv=>whnf
 refine .mk _ ⟨fun _=>yl_appT (g:=GTransit.av) (l:=x22.1.Transits) (m:=([(⟨a2.E,a2.To,a2.Item,a2.Qty,a2.Amount,x25⟩:GTransit)]:List GTransit)) .any rfl Tryz.underlying29 bz78 by78 rfl rfl rfl rfl rfl rfl rfl rfl rfl rfl (Eq.symm rfl) (.refl _) (fun _=>rfl) e30 p31,by rintro _ _ ⟨v32,-,rfl,rfl⟩;exact trivial⟩ ?_
 rintro _ _ ⟨v32,-,rfl,rfl⟩
 conv=>whnf
 exact .mk (CvL.tup (.cons (CvL.agg (.cons (.refl _) (.cons (.refl _) (.cons (.refl _) (.cons (.refl _) (.cons (.refl _) (.cons (.refl _) (.cons (.refl _) (.cons (.refl _) (.cons (cv_lst rfl rfl rfl rfl rfl (Eq.symm rfl)) (.cons (.refl _) .nil))))))))))) (.cons (.refl _) .nil)))
noncomputable def t_ref20_arrive (n:Nat) (a1:GState) (a2:GOp):WT Tryz.prog (.b (GState×Int)) :=
 .al 1<|
 .al 2<|
 .al 3<|
 .jn 0 [2,3,4,5] [1,2,3] [] (fun _ (a:Bool)=>[(25,boo a)]) (fun _ _=>[]) (.bB 17 (decide (a2.Ref<0)) fun x6 =>
 .ifs [17] x6 (.ret (true:Bool)) (.ln 23 GTransit.av a1.Transits<|
 .bB 24 (decide (a2.Ref≥(a1.Transits.length:Int))) fun x7 =>
 .ret x7))
  (fun y0_1 =>
 .ifs [25] y0_1 (.ret ((a1:GState),(4:Int))) (.ix 31 GTransit.av a1.Transits a2.Ref fun x8 =>
 .al 4<|
 .cl 38 (d_ref14_Ready a1 x8.To x8.Item) cal195 d_ref14_Ready_c fun x10 =>
 .bB 40 (decide (x10≠0)) fun x11 =>
 .ifs [40] x11 (.ret ((a1:GState),x10)) (.bB 47 (decide (a2.Qty>x8.Qty)) fun x12 =>
 .ifs [47] x12 (.ret ((a1:GState),(5:Int))) (.dr [(0,[4]),(1,[4]),(2,[2]),(3,[2]),(4,[4]),(5,[4]),(7,[4]),(8,[4]),(9,[2]),(10,[2]),(11,[4]),(12,[4])] [] [2,4] [] [0,1,2,3,4,5,6,7,8,9,10,11,12,13,14,15] (.cl 55 (d_ref01_Part n x8.Value a2.Qty x8.Qty) cal231 d_ref01_Part_c fun x13 =>
 .cl 62 (d_ref01_Part n x8.Profit a2.Qty x8.Qty) cal231 d_ref01_Part_c fun x14 =>
 .cl 76 (d_ref14_Bring n a1 x8.To x8.Item a2.Loc (⟨a2.Qty,x13,x14⟩:GLayer)) cal196 d_ref14_Bring_c fun x15 =>
 .al 5<|
 .bB 82 (decide (x15.2.2.2≠0)) fun x17 =>
 .ifs [82] x17 (.ret ((a1:GState),(x15.2.2.2:Int))) (.bI 94 (w64 (0-x13)) fun x18 =>
 .gv 96<|
 .cl 97 (d_ref14_Post n x15.1 x8.To ([(⟨0,x15.2.1⟩:GLine),(⟨6,x15.2.2.1⟩:GLine),(⟨12,x18⟩:GLine)]:List GLine)) cal149 d_ref14_Post_c fun x19 =>
 .bB 101 (decide (x19.2≠0)) fun x20 =>
 .ifs [101] x20 (.ret ((a1:GState),(x19.2:Int))) (.cl 112 (d_ref14_Turn n x19.1 x8.To x8.Item (⟨0,0,0,x15.2.1,0,0,0,0,0,0,0⟩:GRoll)) cal151 d_ref14_Turn_c fun x21 =>
 .bB 116 (decide (x21.2≠0)) fun x22 =>
 .ifs [116] x22 (.ret ((a1:GState),(x21.2:Int))) (.as (x21.1.Transits.length≤68719476736) inferInstance<|
 .ge 121<|
 .dr [(1,[2]),(2,[2]),(4,[2]),(5,[2]),(7,[2]),(8,[2]),(9,[4]),(10,[4]),(11,[2]),(12,[2]),(14,[4]),(15,[4]),(18,[4]),(19,[4]),(22,[6]),(23,[6]),(25,[6]),(26,[6]),(28,[6]),(29,[6])] [(24,[2,4]),(27,[2,4]),(30,[])] [2,4,6] [24,27,30] [0,1,2,3,4,5,6,7,8,9,10,11,12,13,14,15,16,17,18,19,20,21,22,23,24,25,26,27,28,29,30] (.bI 135 (w64 (x8.Qty-a2.Qty)) fun x25 =>
 .bI 139 (w64 (x8.Value-x13)) fun x26 =>
 .bI 143 (w64 (x8.Profit-x14)) fun x27 =>
 .bo (ix x21.1.Transits a2.Ref) fun x28 =>
 .gv 144<|
 .gv 145<|
 .bl (x21.1.Transits.set (Int.toNat a2.Ref) ((⟨x28.From,x28.To,x28.Item,x25,x28.Value,x28.Profit⟩:GTransit):GTransit):List GTransit) fun x29 =>
 .ge 1020024<|
 .gv 146<|
 .gv 147<|
 .bl (x29.set (Int.toNat a2.Ref) ((⟨x28.From,x28.To,x28.Item,x25,x26,x28.Profit⟩:GTransit):GTransit):List GTransit) fun x30 =>
 .ge 1020027<|
 .gv 148<|
 .gv 149<|
 .bl (x30.set (Int.toNat a2.Ref) ((⟨x28.From,x28.To,x28.Item,x25,x26,x27⟩:GTransit):GTransit):List GTransit) fun x31 =>
 .ge 1020030<|
 .ret (((⟨x21.1.Master,x21.1.Ents,x21.1.Receipts,x21.1.Sales,x31,x21.1.Done⟩:GState):GState),(0:Int)))))))))))
def d_ref20_arrive (n:Nat) (a1:GState) (a2:GOp):Option (GState×Int):=(t_ref20_arrive n a1 a2).run
theorem d_ref20_arrive_c {n:Nat} {a1:GState} {a2:GOp} {r:GState×Int} (h0:d_ref20_arrive n a1 a2=some r):PP Tryz.prog 209 [.agg (GState.av a1),.agg (GOp.av a2)] (fun y=>y=.tup [.agg (GState.av r.1),int r.2]):=by
 refine wt_pp mixed tbk (fun (r:GState×Int)=>.tup [.agg (GState.av r.1),int r.2]) h0 Tryz.func209 (fun r=>.tup (pvl2 ((fun (a:GState)=>PV.agg (GState.pvc a)) (r.1)) (pvI (r.2)))) 100000 ?_
 intro v3
 intro v4
 intro v5
 conv=>whnf
 refine .mk ?_ ?_
 conv=>whnf
 refine .mk fun x6=>?_
 refine .mk .mk ?_
 refine .mk ?_
 conv=>whnf
 refine .mk fun x7=>?_
 exact .mk
 intro _ _
 refine .mk .mk ?_
 conv=>whnf
 refine .mk fun x8 e8=>?_
 intro v9
 conv=>whnf
 refine .mk fun x10 e10=>?_
 conv=>whnf
 refine .mk fun x11=>?_
 refine .mk .mk ?_
 conv=>whnf
 refine .mk fun x12=>?_
 refine .mk .mk ?_
 refine .mk ?_
 conv=>whnf
 refine .mk fun x13 e13=>?_
 conv=>whnf
 refine .mk fun x14 e14=>?_
 conv=>whnf
 refine .mk fun x15 e15=>?_
 intro v16
 conv=>whnf
 refine .mk fun x17=>?_
 refine .mk .mk ?_
 conv=>whnf
 refine .mk fun x18=>?_
 conv=>whnf
 refine .mk _ (agr (yv_to (y:=lst 2 GLine.av ([(⟨0,x15.2.1⟩:GLine),(⟨6,x15.2.2.1⟩:GLine),(⟨12,x18⟩:GLine)]:List GLine)) (yv_buildSlice (ps:=[(0,_),(1,_),(2,_)]) (rows:=[[int 0,int x15.2.1],[int 6,int x15.2.2.1],[int 12,int x18]]) rfl Tryz.underlying120 bz119 (.cons rfl (.cons rfl (.cons rfl .nil))) (by kernel_rfl) rfl rfl rfl) rfl)) ?_
 conv=>whnf
 refine .mk fun x19 e19=>?_
 conv=>whnf
 refine .mk fun x20=>?_
 refine .mk .mk ?_
 conv=>whnf
 refine .mk fun x21 e21=>?_
 conv=>whnf
 refine .mk fun x22=>?_
 refine .mk .mk ?_
 conv=>whnf
 refine .mk fun p23=>?_
 conv=>whnf
 refine .mk _ ⟨fun _=>yl_app0T (g:=GTransit.av) (m:=x21.1.Transits) 6 rfl Tryz.underlying29 bz78 by78 rfl rfl rfl rfl (.refl _) (fun _=>rfl) p23,fun _ _ _=>trivial⟩ ?_
 rintro _ _ ⟨v24,rfl,rfl⟩
 refine .mk ?_
 conv=>whnf
 refine .mk fun x25=>?_
 conv=>whnf
 refine .mk fun x26=>?_
 conv=>whnf
 refine .mk fun x27=>?_
 conv=>whnf
 refine .mk fun x28 e28=>?_
 conv=>whnf
 refine .mk _ (fun H hH _=>yv_ixO rfl Tryz.underlying29 sh78 rfl rfl ((hH _ (by decide)).trans rfl) rfl rfl (Eq.symm rfl) (List.length_map _) e28) ?_
 conv=>whnf
 refine .mk _ (fun H hH _=>yv_fieldAddr rfl fo78_3 rfl (.pt ((hH _ (by decide)).trans rfl) rfl (ix_get e28)) (.pt _ _ _ _ _)) ?_
 conv=>whnf
 refine .mk fun x29 e29=>?_
 have fx29:=ix_set e28 e29;have lx29:=len_setV e29 (rfl:x21.1.Transits.length=x21.1.Transits.length)
 conv=>whnf
 refine .mk _ ⟨fun _=>Yield.weak (yl_ob (ob':=(⟨78,6,true,true,_,x29.map GTransit.av⟩:AObj)) (yl_store rfl sh3 rfl rfl rfl rfl rfl (ix_get e28) rfl rfl rfl) (ob_eq (map_setV e29))) (fun _ h=>h) (fun _ _=>trivial),by rintro _ _ ⟨rfl,rfl⟩;exact ⟨rfl,rfl,trivial⟩⟩ ?_
 rintro _ _ ⟨rfl,rfl⟩
 conv=>whnf
 refine .mk _ (fun H hH _=>yv_ixO rfl Tryz.underlying29 sh78 rfl rfl ((hH _ (by decide)).trans rfl) rfl rfl (Eq.symm lx29) (List.length_map _) fx29) ?_
 conv=>whnf
 refine .mk _ (fun H hH _=>yv_fieldAddr rfl fo78_4 rfl (.pt ((hH _ (by decide)).trans rfl) rfl (ix_get fx29)) (.pt _ _ _ _ _)) ?_
 conv=>whnf
 refine .mk fun x30 e30=>?_
 have fx30:=ix_set fx29 e30;have lx30:=len_setV e30 lx29
 conv=>whnf
 refine .mk _ ⟨fun _=>Yield.weak (yl_ob (ob':=(⟨78,6,true,true,_,x30.map GTransit.av⟩:AObj)) (yl_store rfl sh3 rfl rfl rfl rfl rfl (ix_get fx29) rfl rfl rfl) (ob_eq (map_setV e30))) (fun _ h=>h) (fun _ _=>trivial),by rintro _ _ ⟨rfl,rfl⟩;exact ⟨rfl,rfl,trivial⟩⟩ ?_
 rintro _ _ ⟨rfl,rfl⟩
 conv=>whnf
 refine .mk _ (fun H hH _=>yv_ixO rfl Tryz.underlying29 sh78 rfl rfl ((hH _ (by decide)).trans rfl) rfl rfl (Eq.symm lx30) (List.length_map _) fx30) ?_
 conv=>whnf
 refine .mk _ (fun H hH _=>yv_fieldAddr rfl fo78_5 rfl (.pt ((hH _ (by decide)).trans rfl) rfl (ix_get fx30)) (.pt _ _ _ _ _)) ?_
 conv=>whnf
 refine .mk fun x31 e31=>?_
 have fx31:=ix_set fx30 e31;have lx31:=len_setV e31 lx30
 conv=>whnf
 refine .mk _ ⟨fun _=>Yield.weak (yl_ob (ob':=(⟨78,6,true,true,_,x31.map GTransit.av⟩:AObj)) (yl_store rfl sh3 rfl rfl rfl rfl rfl (ix_get fx30) rfl rfl rfl) (ob_eq (map_setV e31))) (fun _ h=>h) (fun _ _=>trivial),by rintro _ _ ⟨rfl,rfl⟩;exact trivial⟩ ?_
 rintro _ _ ⟨rfl,rfl⟩
 conv=>whnf
 exact .mk (CvL.tup (.cons (CvL.agg (.cons (.refl _) (.cons (.refl _) (.cons (.refl _) (.cons (.refl _) (.cons (.refl _) (.cons (.refl _) (.cons (.refl _) (.cons (.refl _) (.cons (cv_lst rfl rfl rfl rfl rfl (Eq.symm lx31)) (.cons (.refl _) .nil))))))))))) (.cons (.refl _) .nil)))
noncomputable def t_ref20_Do (n:Nat) (a1:GState) (a2:GOp):WT Tryz.prog (.b (GState×Int)) :=
 .al 1<|
 .al 2<|
 .al 3<|
 .bB 9 (decide (a2.Kind=12)) fun x6 =>
 .ifs [9] x6 (.cl 12 (d_ref20_ship n a1 a2) cal208 d_ref20_ship_c fun x7 =>
 .ret ((x7.1:GState),(x7.2:Int))) (.bB 16 (decide (a2.Kind=13)) fun x8 =>
 .ifs [16] x8 (.cl 19 (d_ref20_arrive n a1 a2) cal209 d_ref20_arrive_c fun x9 =>
 .ret ((x9.1:GState),(x9.2:Int))) (.ret ((a1:GState),(1:Int))))
def d_ref20_Do (n:Nat) (a1:GState) (a2:GOp):Option (GState×Int):=(t_ref20_Do n a1 a2).run
theorem d_ref20_Do_c {n:Nat} {a1:GState} {a2:GOp} {r:GState×Int} (h0:d_ref20_Do n a1 a2=some r):PP Tryz.prog 160 [.agg (GState.av a1),.agg (GOp.av a2)] (fun y=>y=.tup [.agg (GState.av r.1),int r.2]):=by
 refine wt_pp mixed tbk (fun (r:GState×Int)=>.tup [.agg (GState.av r.1),int r.2]) h0 Tryz.func160 (fun r=>.tup (pvl2 ((fun (a:GState)=>PV.agg (GState.pvc a)) (r.1)) (pvI (r.2)))) 100000 ?_
 intro v3
 intro v4
 intro v5
 conv=>whnf
 refine .mk fun x6=>?_
 conv=>whnf
 refine .mk ?_ ?_
 conv=>whnf
 refine .mk fun x7 e7=>?_
 exact .mk
 conv=>whnf
 refine .mk fun x8=>?_
 conv=>whnf
 refine .mk ?_ ?_
 conv=>whnf
 refine .mk fun x9 e9=>?_
 exact .mk
 conv=>whnf
 exact .mk
end
end Go.Pv
