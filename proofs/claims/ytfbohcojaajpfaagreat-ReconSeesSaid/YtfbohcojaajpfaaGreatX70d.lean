import Derived.Test.YtfbohcojaajpfaaGreatX70c
set_option linter.unusedVariables false
set_option linter.unusedSimpArgs false
namespace Go.Pv
open Go.Proofs
set_option maxRecDepth 100000
set_option maxHeartbeats 4000000
noncomputable section
noncomputable def t_ref23_settle (n:Nat) (a1:GState) (a2:Int) (a3:Int) (a4:Int):WT Tryz.prog (.b (GState×Int)) :=
 .al 1<|
 .al 2<|
 .cl 22 (d_ref14_At a1 a2 a3 a4) cal147 d_ref14_At_c fun x7 =>
 .al 3<|
 .gv 24<|
 .gv 27<|
 .bI 29 (w64 (x7.Pend.a0+x7.Pend.a1)) fun x9 =>
 .gv 31<|
 .bI 33 (w64 (x9+x7.Pend.a2)) fun x10 =>
 .bB 34 (decide (x10=0)) fun x11 =>
 .ifs [34] x11 (.ret ((a1:GState),(0:Int))) (.cl 38 (d_ref11_Settle n x7) cal148 d_ref11_Settle_c fun x12 =>
 .al 4<|
 .al 5<|
 .dr [(0,[5]),(1,[5]),(2,[5]),(3,[5]),(4,[5]),(5,[5]),(6,[5]),(7,[5]),(8,[5])] [] [5] [] [0,1,2,3,4,5,6,7,8,9,10,11] (.gv 41<|
 .gv 44<|
 .gv 47<|
 .cl 56 (d_ref14_Put a1 a2 a3 a4 x12.1) cal150 d_ref14_Put_c fun x15 =>
 .bI 65 (w64 (0-x12.2.a0.Value)) fun x16 =>
 .bI 68 (w64 (0-x12.2.a1.Value)) fun x17 =>
 .bI 71 (w64 (0-x12.2.a2.Value)) fun x18 =>
 .gv 73<|
 .cl 74 (d_ref14_Post n x15 a2 ([(⟨5,x12.2.a0.Value⟩:GLine),(⟨7,x12.2.a1.Value⟩:GLine),(⟨8,x12.2.a2.Value⟩:GLine),(⟨0,x16⟩:GLine),(⟨0,x17⟩:GLine),(⟨0,x18⟩:GLine)]:List GLine)) cal149 d_ref14_Post_c fun x19 =>
 .al 6<|
 .bB 78 (decide (x19.2≠0)) fun x21 =>
 .ifs [78] x21 (.ret ((a1:GState),(x19.2:Int))) (.cl 89 (d_ref14_Turn n x19.1 a2 a3 (⟨0,0,0,0,0,x12.2.a0.Value,0,0,x12.2.a1.Value,x12.2.a2.Value,0⟩:GRoll)) cal151 d_ref14_Turn_c fun x22 =>
 .bB 93 (decide (x22.2≠0)) fun x23 =>
 .ifs [93] x23 (.ret ((a1:GState),(x22.2:Int))) (.gv 100<|
 .cl 102 (d_ref23_costed n x22.1 a2 a3 a4 x12.2.a0) cal152 d_ref23_costed_c fun x24 =>
 .ret ((x24.1:GState),(x24.2:Int))))))
def d_ref23_settle (n:Nat) (a1:GState) (a2:Int) (a3:Int) (a4:Int):Option (GState×Int):=(t_ref23_settle n a1 a2 a3 a4).run
theorem d_ref23_settle_c {n:Nat} {a1:GState} {a2:Int} {a3:Int} {a4:Int} {r:GState×Int} (h0:d_ref23_settle n a1 a2 a3 a4=some r):PP Tryz.prog 101 [.agg (GState.av a1),int a2,int a3,int a4] (fun y=>y=.tup [.agg (GState.av r.1),int r.2]):=by
 refine wt_pp mixed tbk (fun (r:GState×Int)=>.tup [.agg (GState.av r.1),int r.2]) h0 Tryz.func101 (fun r=>.tup (pvl2 ((fun (a:GState)=>PV.agg (GState.pvc a)) (r.1)) (pvI (r.2)))) 100000 ?_
 intro v5
 intro v6
 conv=>whnf
 refine .mk fun x7 e7=>?_
 intro v8
 conv=>whnf
 refine .mk _ (agr (yv_to (y:=.pt 3 v8 0 1) (yv_indexAddrA rfl Tryz.underlying55 sh3 rfl rfl rfl rfl rfl (by decide)) rfl)) ?_
 conv=>whnf
 refine .mk _ (agr (yv_to (y:=.pt 3 v8 0 2) (yv_indexAddrA rfl Tryz.underlying55 sh3 rfl rfl rfl rfl rfl (by decide)) rfl)) ?_
 conv=>whnf
 refine .mk fun x9=>?_
 conv=>whnf
 refine .mk _ (agr (yv_to (y:=.pt 3 v8 0 3) (yv_indexAddrA rfl Tryz.underlying55 sh3 rfl rfl rfl rfl rfl (by decide)) rfl)) ?_
 conv=>whnf
 refine .mk fun x10=>?_
 conv=>whnf
 refine .mk fun x11=>?_
 refine .mk .mk ?_
 conv=>whnf
 refine .mk fun x12 e12=>?_
 intro v13
 intro v14
 refine .mk ?_
 conv=>whnf
 refine .mk _ (fun H hH _=>yv_to (y:=.pt 5 v14 0 0) (yv_indexAddrA rfl Tryz.underlying114 sh53 rfl rfl ((hH _ (by decide)).trans rfl) rfl rfl (by decide)) rfl) ?_
 conv=>whnf
 refine .mk _ (fun H hH _=>yv_to (y:=.pt 5 v14 0 3) (yv_indexAddrA rfl Tryz.underlying114 sh53 rfl rfl ((hH _ (by decide)).trans rfl) rfl rfl (by decide)) rfl) ?_
 conv=>whnf
 refine .mk _ (fun H hH _=>yv_to (y:=.pt 5 v14 0 6) (yv_indexAddrA rfl Tryz.underlying114 sh53 rfl rfl ((hH _ (by decide)).trans rfl) rfl rfl (by decide)) rfl) ?_
 conv=>whnf
 refine .mk fun x15 e15=>?_
 conv=>whnf
 refine .mk fun x16=>?_
 conv=>whnf
 refine .mk fun x17=>?_
 conv=>whnf
 refine .mk fun x18=>?_
 conv=>whnf
 refine .mk _ (agr (yv_to (y:=lst 2 GLine.av ([(⟨5,x12.2.a0.Value⟩:GLine),(⟨7,x12.2.a1.Value⟩:GLine),(⟨8,x12.2.a2.Value⟩:GLine),(⟨0,x16⟩:GLine),(⟨0,x17⟩:GLine),(⟨0,x18⟩:GLine)]:List GLine)) (yv_buildSlice (ps:=[(0,_),(1,_),(2,_),(3,_),(4,_),(5,_)]) (rows:=[[int 5,int x12.2.a0.Value],[int 7,int x12.2.a1.Value],[int 8,int x12.2.a2.Value],[int 0,int x16],[int 0,int x17],[int 0,int x18]]) rfl Tryz.underlying120 bz119 (.cons rfl (.cons rfl (.cons rfl (.cons rfl (.cons rfl (.cons rfl .nil)))))) (by kernel_rfl) rfl rfl rfl) rfl)) ?_
 conv=>whnf
 refine .mk fun x19 e19=>?_
 intro v20
 conv=>whnf
 refine .mk fun x21=>?_
 refine .mk .mk ?_
 conv=>whnf
 refine .mk fun x22 e22=>?_
 conv=>whnf
 refine .mk fun x23=>?_
 refine .mk .mk ?_
 conv=>whnf
 refine .mk _ (agr (yv_to (y:=.pt 5 v14 0 0) (yv_indexAddrA rfl Tryz.underlying114 sh53 rfl rfl rfl rfl rfl (by decide)) rfl)) ?_
 conv=>whnf
 refine .mk fun x24 e24=>?_
 exact .mk
noncomputable def t_ref13_Total (n:Nat) (a1:GPool):WT Tryz.prog (.b (GLayer)) :=
 .al 1<|
 .al 2<|
 .cl 8 (d_ref09_Total n a1.Layers) cal225 d_ref09_Total_c fun x4 =>
 .al 3<|
 .ret ((x4.1:GLayer))
def d_ref13_Total (n:Nat) (a1:GPool):Option (GLayer):=(t_ref13_Total n a1).run
theorem d_ref13_Total_c {n:Nat} {a1:GPool} {r:GLayer} (h0:d_ref13_Total n a1=some r):PP Tryz.prog 193 [.agg (GPool.av a1)] (fun y=>y=.agg (GLayer.av r)):=by
 refine wt_pp mixed tbk (fun (r:GLayer)=>.agg (GLayer.av r)) h0 Tryz.func193 (fun r=>(fun (a:GLayer)=>PV.agg (GLayer.pvc a)) r) 100000 ?_
 intro v2
 intro v3
 conv=>whnf
 refine .mk fun x4 e4=>?_
 intro v5
 exact .mk
noncomputable def t_ref14_worth (n:Nat) (a1:GState) (a2:Int) (a3:Int):WT Tryz.prog (.b (GLayer×Int)) :=
 .al 1<|
 .al 2<|
 .jn 2 [6,7] [2] [7,8,9] (fun u2 (a:(List Int)×(List Int)×(List Int))=>[(8,.sl 7 (u2 7) 0 a.1.length),(9,.sl 8 (u2 8) 0 a.2.1.length),(10,.sl 9 (u2 9) 0 a.2.2.length)]) (fun _ a=>[.nw 7 3 1 (a.1.map fI),.nw 8 3 1 (a.2.1.map fI),.nw 9 3 1 (a.2.2.map fI)]) (.no 8 7 3 1<|
 .no 9 8 3 1<|
 .no 10 9 3 1<|
 .lp [1,2,3,6,7] [1,2] [7,8,9] (fun u3 (a:Int×(List Int)×(List Int)×(List Int))=>[(8,.sl 7 (u3 7) 0 a.2.1.length),(9,.sl 8 (u3 8) 0 a.2.2.1.length),(10,.sl 9 (u3 9) 0 a.2.2.2.length),(11,int a.1)]) (fun _ a=>[.nw 7 3 1 (a.2.1.map fI),.nw 8 3 1 (a.2.2.1.map fI),.nw 9 3 1 (a.2.2.2.map fI)]) n ((0:Int),(([]:List Int):List Int),(([]:List Int):List Int),(([]:List Int):List Int)) (pw fun y0_4 q0=>(pw fun y0_5 q1=>(pw fun y0_6 y0_7 =>
 .bB 20 (decide (y0_4<2)) fun x9 =>
 .ifs [20] x9 (.cl 27 (d_ref14_At a1 a2 a3 y0_4) cal147 d_ref14_At_c fun x10 =>
 .cl 28 (d_ref13_Total n x10) cal193 d_ref13_Total_c fun x11 =>
 .al 3<|
 .dr [(1,[3]),(2,[3]),(6,[3]),(7,[3]),(11,[3]),(12,[3])] [(14,[])] [3] [4,9,14] [0,1,2,3,5,6,7,8,10,11,12,13,4,9,14,15,16,17] (.gv 32<|
 .gv 37<|
 .gv 42<|
 .bl (y0_5++([x11.Qty]:List Int):List Int) fun x13 =>
 .as (x13.length≤68719476736) inferInstance<|
 .ge 33<|
 .bl (y0_6++([x11.Value]:List Int):List Int) fun x16 =>
 .as (x16.length≤68719476736) inferInstance<|
 .ge 38<|
 .bl (y0_7++([x11.Profit]:List Int):List Int) fun x19 =>
 .as (x19.length≤68719476736) inferInstance<|
 .ge 43<|
 .bI 22 (w64 (y0_4+1)) fun x22 =>
 .brk (x22,x13,x16,x19))) (.esc (.ret (y0_5,y0_6,y0_7)))) q1) q0))
  (pw fun y1_4 q0=>(pw fun y1_5 y1_6 =>
 .clT 46 (d_ref01_Sum n y1_4) cal194 d_ref01_Sum_c (fun _=>rfl) fun x23 =>
 .clT 51 (d_ref01_Sum n y1_5) cal194 d_ref01_Sum_c (fun _=>rfl) fun x24 =>
 .clT 56 (d_ref01_Sum n y1_6) cal194 d_ref01_Sum_c (fun _=>rfl) fun x25 =>
 .bl (if x25.2>(if x24.2>x23.2 then x24.2 else x23.2) then x25.2 else (if x24.2>x23.2 then x24.2 else x23.2):Int) fun x26 =>
 .gv 66<|
 .ret (((⟨x23.1,x24.1,x25.1⟩:GLayer):GLayer),x26)) q0)
def d_ref14_worth (n:Nat) (a1:GState) (a2:Int) (a3:Int):Option (GLayer×Int):=(t_ref14_worth n a1 a2 a3).run
theorem d_ref14_worth_c {n:Nat} {a1:GState} {a2:Int} {a3:Int} {r:GLayer×Int} (h0:d_ref14_worth n a1 a2 a3=some r):PP Tryz.prog 154 [.agg (GState.av a1),int a2,int a3] (fun y=>y=.tup [.agg (GLayer.av r.1),int r.2]):=by
 refine wt_pp mixed tbk (fun (r:GLayer×Int)=>.tup [.agg (GLayer.av r.1),int r.2]) h0 Tryz.func154 (fun r=>.tup (pvl2 ((fun (a:GLayer)=>PV.agg (GLayer.pvc a)) (r.1)) (pvI (r.2)))) 100000 ?_
 intro v4
 intro v5
 conv=>whnf
 refine .mk ?_ ?_
 intro v6
 intro v7
 intro v8
 refine .mk ?_
 rintro ⟨y0_4,y0_5,y0_6,y0_7⟩ _
 conv=>whnf
 refine .mk fun x9=>?_
 conv=>whnf
 refine .mk ?_ ?_
 conv=>whnf
 refine .mk fun x10 e10=>?_
 conv=>whnf
 refine .mk fun x11 e11=>?_
 intro v12
 refine .mk ?_
 conv=>whnf
 refine .mk _ (fun H hH _=>yv_to (y:=lst 1 fI ([x11.Qty]:List Int)) (yv_buildSlice (ps:=[(0,_)]) (rows:=[[int x11.Qty]]) rfl Tryz.underlying22 bz3 (.cons rfl .nil) (by kernel_rfl) rfl rfl rfl) rfl) ?_
 conv=>whnf
 refine .mk _ (fun H hH _=>yv_to (y:=lst 1 fI ([x11.Value]:List Int)) (yv_buildSlice (ps:=[(0,_)]) (rows:=[[int x11.Value]]) rfl Tryz.underlying22 bz3 (.cons rfl .nil) (by kernel_rfl) rfl rfl rfl) rfl) ?_
 conv=>whnf
 refine .mk _ (fun H hH _=>yv_to (y:=lst 1 fI ([x11.Profit]:List Int)) (yv_buildSlice (ps:=[(0,_)]) (rows:=[[int x11.Profit]]) rfl Tryz.underlying22 bz3 (.cons rfl .nil) (by kernel_rfl) rfl rfl rfl) rfl) ?_
 conv=>whnf
 refine .mk fun x13 e13=>?_
 conv=>whnf
 refine .mk fun p14=>?_
 conv=>whnf
 refine .mk _ ⟨fun _=>yl_appT (g:=fI) (l:=y0_5) (m:=([x11.Qty]:List Int)) .any rfl Tryz.underlying22 bz3 by3 rfl rfl rfl rfl rfl rfl rfl rfl rfl rfl (Eq.symm rfl) (.refl _) (fun _=>rfl) e13 p14,by rintro _ _ ⟨v15,-,rfl,rfl⟩;exact ⟨rfl,trivial⟩⟩ ?_
 rintro _ _ ⟨v15,-,rfl,rfl⟩
 conv=>whnf
 refine .mk fun x16 e16=>?_
 conv=>whnf
 refine .mk fun p17=>?_
 conv=>whnf
 refine .mk _ ⟨fun _=>yl_appT (g:=fI) (l:=y0_6) (m:=([x11.Value]:List Int)) .any rfl Tryz.underlying22 bz3 by3 rfl rfl rfl rfl rfl rfl rfl rfl rfl rfl (Eq.symm rfl) (.refl _) (fun _=>rfl) e16 p17,by rintro _ _ ⟨v18,-,rfl,rfl⟩;exact ⟨rfl,trivial⟩⟩ ?_
 rintro _ _ ⟨v18,-,rfl,rfl⟩
 conv=>whnf
 refine .mk fun x19 e19=>?_
 conv=>whnf
 refine .mk fun p20=>?_
 conv=>whnf
 refine .mk _ ⟨fun _=>yl_appT (g:=fI) (l:=y0_7) (m:=([x11.Profit]:List Int)) .any rfl Tryz.underlying22 bz3 by3 rfl rfl rfl rfl rfl rfl rfl rfl rfl rfl (Eq.symm rfl) (.refl _) (fun _=>rfl) e19 p20,by rintro _ _ ⟨v21,-,rfl,rfl⟩;exact trivial⟩ ?_
 rintro _ _ ⟨v21,-,rfl,rfl⟩
 conv=>whnf
 refine .mk fun x22=>?_
 exact .mk
 conv=>whnf
 exact .mk
 intro _ _
 conv=>whnf
 refine .mk (fun x23 e23=>?_) rfl (by rintro _ rfl;exact (.cons (cv_lst rfl rfl rfl rfl rfl (Eq.symm rfl)) .nil))
 conv=>whnf
 refine .mk (fun x24 e24=>?_) rfl (by rintro _ rfl;exact (.cons (cv_lst rfl rfl rfl rfl rfl (Eq.symm rfl)) .nil))
 conv=>whnf
 refine .mk (fun x25 e25=>?_) rfl (by rintro _ rfl;exact (.cons (cv_lst rfl rfl rfl rfl rfl (Eq.symm rfl)) .nil))
 conv=>whnf
 refine .mk fun x26 e26=>?_
 conv=>whnf
 refine .mk _ (agr (yv_max3 rfl rfl rfl rfl e26)) ?_
 exact .mk
noncomputable def t_ref14_Worth (n:Nat) (a1:GState) (a2:Int) (a3:Int):WT Tryz.prog (.b (GLayer)) :=
 .al 1<|
 .al 2<|
 .cl 13 (d_ref14_worth n a1 a2 a3) cal154 d_ref14_worth_c fun x6 =>
 .al 3<|
 .ret ((x6.1:GLayer))
def d_ref14_Worth (n:Nat) (a1:GState) (a2:Int) (a3:Int):Option (GLayer):=(t_ref14_Worth n a1 a2 a3).run
theorem d_ref14_Worth_c {n:Nat} {a1:GState} {a2:Int} {a3:Int} {r:GLayer} (h0:d_ref14_Worth n a1 a2 a3=some r):PP Tryz.prog 103 [.agg (GState.av a1),int a2,int a3] (fun y=>y=.agg (GLayer.av r)):=by
 refine wt_pp mixed tbk (fun (r:GLayer)=>.agg (GLayer.av r)) h0 Tryz.func103 (fun r=>(fun (a:GLayer)=>PV.agg (GLayer.pvc a)) r) 100000 ?_
 intro v4
 intro v5
 conv=>whnf
 refine .mk fun x6 e6=>?_
 intro v7
 exact .mk
noncomputable def t_ref21_Target (a1:Int) (a2:Int) (a3:Int):WT Tryz.prog (.b (Int)) :=
 .jn 1 [0,1,2,6] [] [] (fun _ (a:Bool)=>[(18,boo a)]) (fun _ _=>[]) (.bB 10 (decide (a1<0)) fun x4 =>
 .ifs [10] x4 (.ret (true:Bool)) (.bB 13 (decide (a2<0)) fun x5 =>
 .ifs [13] x5 (.ret (true:Bool)) (.bB 17 (decide (a3<0)) fun x6 =>
 .ret x6)))
  (fun y0_1 =>
 .ifs [18] y0_1 (.ret ((0:Int))) (.cl 22 (d_ref01_Wide a2 a3) cal192 d_ref01_Wide_c fun x7 =>
 .jn 0 [0,6,8] [] [] (fun _ (a:Bool)=>[(32,boo a)]) (fun _ _=>[]) (.bB 26 (decide (x7.1>0)) fun x8 =>
 .ifs [26] x8 (.ret (true:Bool)) (.bI 30 (wu64 a1) fun x9 =>
 .bB 31 (decide (x7.2≥x9)) fun x10 =>
 .ret x10))
  (fun y1_1 =>
 .ifs [32] y1_1 (.ret ((0:Int))) (.bI 35 (w64 x7.2) fun x11 =>
 .bI 36 (w64 (a1-x11)) fun x12 =>
 .ret (x12)))))
def d_ref21_Target (a1:Int) (a2:Int) (a3:Int):Option (Int):=(t_ref21_Target a1 a2 a3).run
theorem d_ref21_Target_c {a1:Int} {a2:Int} {a3:Int} {r:Int} (h0:d_ref21_Target a1 a2 a3=some r):PP Tryz.prog 153 [int a1,int a2,int a3] (fun y=>y=int r):=by
 refine wt_pp mixed tbk (fun (r:Int)=>int r) h0 Tryz.func153 (fun r=>pvI r) 100000 ?_
 conv=>whnf
 refine .mk ?_ ?_
 conv=>whnf
 refine .mk fun x4=>?_
 refine .mk .mk ?_
 conv=>whnf
 refine .mk fun x5=>?_
 refine .mk .mk ?_
 conv=>whnf
 refine .mk fun x6=>?_
 exact .mk
 intro _ _
 refine .mk .mk ?_
 conv=>whnf
 refine .mk fun x7 e7=>?_
 conv=>whnf
 refine .mk ?_ ?_
 conv=>whnf
 refine .mk fun x8=>?_
 refine .mk .mk ?_
 conv=>whnf
 refine .mk fun x9=>?_
 conv=>whnf
 refine .mk fun x10=>?_
 exact .mk
 intro _ _
 refine .mk .mk ?_
 conv=>whnf
 refine .mk fun x11=>?_
 conv=>whnf
 refine .mk fun x12=>?_
 exact .mk
noncomputable def t_ref21_Mark (n:Nat) (a1:GState) (a2:Int):WT Tryz.prog (.b (GState×Int)) :=
 .al 1<|
 .al 2<|
 .jn 0 [1,2,4,5] [1,2] [] (fun _ (a:Bool)=>[(22,boo a)]) (fun _ _=>[]) (.bB 15 (decide (a2<0)) fun x5 =>
 .ifs [15] x5 (.ret (true:Bool)) (.ln 20 GEnt.av a1.Ents<|
 .bB 21 (decide (a2≥(a1.Ents.length:Int))) fun x6 =>
 .ret x6))
  (fun y0_1 =>
 .ifs [22] y0_1 (.ret ((a1:GState),(4:Int))) (.inl 26 cal10 Tryz.func10 [1,2] [5,6,7,8,9,10] (fun u3 (a:Int×Bool×(List GEnt)×(List GPool)×(List Int)×(List GRoll)×(List Int)×(List Int))=>.agg [int a1.Master.Entities,int a1.Master.Periods,lst 1 fI a1.Master.Weights,lst 1 (fL 1 fI) a1.Master.Methods,lst 1 (fL 1 fI) a1.Master.Costs,.sl 5 (u3 5) 0 a1.Ents.length,lst 8 GReceipt.av a1.Receipts,lst 9 GSale.av a1.Sales,lst 6 GTransit.av a1.Transits,int a1.Done]) (fun u3 a=>[.nw 5 39 8 ((a1.Ents.map GEnt.av).set (Int.toNat a2) [int a.1,boo a.2.1,.sl 6 (u3 6) 0 a.2.2.2.1.length,.sl 7 (u3 7) 0 a.2.2.2.2.1.length,.sl 8 (u3 8) 0 a.2.2.2.2.2.1.length,.sl 9 (u3 9) 0 a.2.2.2.2.2.2.1.length,.sl 10 (u3 10) 0 a.2.2.2.2.2.2.2.length,lst 8 GEnt.av a.2.2.1]),.nw 6 57 4 (a.2.2.2.1.map GPool.av),.nw 7 3 1 (a.2.2.2.2.1.map fI),.nw 8 83 11 (a.2.2.2.2.2.1.map GRoll.av),.nw 9 3 1 (a.2.2.2.2.2.2.1.map fI),.nw 10 3 1 (a.2.2.2.2.2.2.2.map fI)]) (.al 3<|
 .al 4<|
 .as (a1.Ents.length≤68719476736) inferInstance<|
 .ge 8<|
 .bo (ix a1.Ents a2) fun x11 =>
 .gv 13<|
 .dr [(4,[5]),(5,[5]),(6,[5]),(9,[5]),(10,[5]),(11,[5]),(14,[5]),(15,[5]),(16,[5]),(18,[5]),(19,[5]),(21,[5]),(22,[5]),(24,[5]),(25,[5])] [(17,[]),(20,[]),(23,[]),(26,[])] [5] [7,12,17,20,23,26] [0,1,2,3,4,5,6,8,9,10,11,13,14,15,16,7,12,17,18,19,20,21,22,23,24,25,26] (.gv 18<|
 .gv 19<|
 .gv 20<|
 .gv 23<|
 .gv 24<|
 .gv 25<|
 .gv 28<|
 .gv 29<|
 .gv 30<|
 .as (x11.Pools.length≤68719476736) inferInstance<|
 .ge 21<|
 .as (x11.Bal.length≤68719476736) inferInstance<|
 .ge 26<|
 .as (x11.Rolls.length≤68719476736) inferInstance<|
 .ge 31<|
 .gv 32<|
 .gv 33<|
 .ge 1003020<|
 .gv 34<|
 .gv 35<|
 .ge 1003023<|
 .gv 36<|
 .gv 37<|
 .ge 1003026<|
 .dr [(3,[5]),(4,[5]),(5,[5]),(8,[5]),(9,[5]),(10,[5]),(12,[5]),(13,[5]),(15,[5]),(16,[5])] [(11,[]),(14,[]),(17,[])] [5] [6,11,14,17] [0,1,2,3,4,5,7,8,9,10,6,11,12,13,14,15,16,17] (.gv 41<|
 .gv 42<|
 .gv 43<|
 .gv 46<|
 .gv 47<|
 .gv 48<|
 .as (x11.Prices.length≤68719476736) inferInstance<|
 .ge 44<|
 .as (x11.Down.length≤68719476736) inferInstance<|
 .ge 49<|
 .gv 50<|
 .gv 51<|
 .ge 1004014<|
 .gv 52<|
 .gv 53<|
 .ge 1004017<|
 .ret ((x11.Now:Int),(x11.Closed:Bool),(x11.Ahead:List GEnt),(x11.Pools:List GPool),(x11.Bal:List Int),(x11.Rolls:List GRoll),(x11.Prices:List Int),(x11.Down:List Int))))) (pw fun y1_2 q0=>(pw fun y1_3 q1=>(pw fun y1_9 q2=>(pw fun y1_10 q3=>(pw fun y1_11 q4=>(pw fun y1_12 q5=>(pw fun y1_13 y1_14 =>
 .bo (ix a1.Ents a2) fun x22 =>
 .al 11<|
 .jn 2 [1,2,4,5,6] [1,2,6,7,8,9,11] [14] (fun u9 (a:(List GLine)×(List Int))=>[(7,.sl 14 (u9 14) 0 a.1.length)]) (fun u9 a=>[.kp 5 ((a1.Ents.map GEnt.av).set (Int.toNat a2) [int y1_2,boo y1_3,.sl 6 (u9 6) 0 y1_10.length,.sl 7 (u9 7) 0 y1_11.length,.sl 8 (u9 8) 0 y1_12.length,.sl 9 (u9 9) 0 y1_13.length,.sl 10 (u9 10) 0 a.2.length,lst 8 GEnt.av y1_9]),.kp 10 (a.2.map fI),.nw 14 119 2 (a.1.map GLine.av)]) (.no 7 14 119 2<|
 .lp [1,2,4,5,6] [1,2,6,7,8,9,11] [14] (fun u13 (a:Int×(List GLine)×(List Int))=>[(7,.sl 14 (u13 14) 0 a.2.1.length),(8,int a.1)]) (fun u13 a=>[.kp 5 ((a1.Ents.map GEnt.av).set (Int.toNat a2) [int y1_2,boo y1_3,.sl 6 (u13 6) 0 y1_10.length,.sl 7 (u13 7) 0 y1_11.length,.sl 8 (u13 8) 0 y1_12.length,.sl 9 (u13 9) 0 y1_13.length,.sl 10 (u13 10) 0 a.2.2.length,lst 8 GEnt.av y1_9]),.kp 10 (a.2.2.map fI),.nw 14 119 2 (a.2.1.map GLine.av)]) n ((0:Int),(([]:List GLine):List GLine),y1_14) (pw fun y2_2 q0=>(pw fun y2_3 y2_4 =>
 .gv 31<|
 .gv 32<|
 .gv 33<|
 .bB 35 (decide (y2_2<(y1_13.length:Int))) fun x25 =>
 .ifs [35] x25 (.jn 1 [1,2,4,5,6,8] [1,2,6,7,8,9,11] [14] (fun u14 (a:(List GLine)×(List Int))=>[(7,.sl 14 (u14 14) 0 a.1.length)]) (fun u14 a=>[.kp 5 ((a1.Ents.map GEnt.av).set (Int.toNat a2) [int y1_2,boo y1_3,.sl 6 (u14 6) 0 y1_10.length,.sl 7 (u14 7) 0 y1_11.length,.sl 8 (u14 8) 0 y1_12.length,.sl 9 (u14 9) 0 y1_13.length,.sl 10 (u14 10) 0 a.2.length,lst 8 GEnt.av y1_9]),.kp 10 (a.2.map fI),.nw 14 119 2 (a.1.map GLine.av)]) (.gv 41<|
 .gv 42<|
 .gv 43<|
 .bo (ix y1_13 y2_2) fun x26 =>
 .gv 45<|
 .gv 46<|
 .bB 48 (decide (x26≥0)) fun x27 =>
 .ifs [48] x27 (.cl 52 (d_ref14_Worth n a1 a2 y2_2) cal103 d_ref14_Worth_c fun x28 =>
 .al 12<|
 .cl 58 (d_ref21_Target x28.Value x28.Qty x26) cal153 d_ref21_Target_c fun x30 =>
 .gv 63<|
 .gv 64<|
 .gv 65<|
 .bo (ix y2_4 y2_2) fun x31 =>
 .gv 67<|
 .gv 68<|
 .bI 69 (w64 (x30-x31)) fun x32 =>
 .bI 74 (w64 (0-x32)) fun x33 =>
 .gv 76<|
 .bl (y2_3++([(⟨10,x32⟩:GLine),(⟨11,x33⟩:GLine)]:List GLine):List GLine) fun x34 =>
 .as (x34.length≤68719476736) inferInstance<|
 .ge 77<|
 .gv 81<|
 .gv 82<|
 .gv 83<|
 .gv 86<|
 .bl (y2_4.set (Int.toNat y2_2) x30:List Int) fun x37 =>
 .ge 1014009<|
 .ret (x34,x37)) (.ret (y2_3,y2_4)))
  (pw fun y3_2 y3_3 =>
 .bI 37 (w64 (y2_2+1)) fun x38 =>
 .brk (x38,y3_2,y3_3))) (.esc (.ret (y2_3,y2_4)))) q0))
  (pw fun y4_2 y4_3 =>
 .frz 5<|
 .frz 6<|
 .frz 7<|
 .frz 8<|
 .frz 9<|
 .frz 10<|
 .frz 14<|
 .cl 91 (d_ref14_Post n (⟨a1.Master,(a1.Ents.set (Int.toNat a2) (⟨y1_2,y1_3,y1_10,y1_11,y1_12,y1_13,y4_3,y1_9⟩:GEnt)),a1.Receipts,a1.Sales,a1.Transits,a1.Done⟩:GState) a2 y4_2) cal149 d_ref14_Post_c fun x39 =>
 .bB 95 (decide (x39.2≠0)) fun x40 =>
 .ifs [95] x40 (.ret ((a1:GState),(x39.2:Int))) (.ret ((x39.1:GState),(0:Int))))) q5) q4) q3) q2) q1) q0)))
def d_ref21_Mark (n:Nat) (a1:GState) (a2:Int):Option (GState×Int):=(t_ref21_Mark n a1 a2).run
theorem d_ref21_Mark_c {n:Nat} {a1:GState} {a2:Int} {r:GState×Int} (h0:d_ref21_Mark n a1 a2=some r):PP Tryz.prog 102 [.agg (GState.av a1),int a2] (fun y=>y=.tup [.agg (GState.av r.1),int r.2]):=by
 refine wt_pp mixed tbk (fun (r:GState×Int)=>.tup [.agg (GState.av r.1),int r.2]) h0 Tryz.func102 (fun r=>.tup (pvl2 ((fun (a:GState)=>PV.agg (GState.pvc a)) (r.1)) (pvI (r.2)))) 100000 ?_
 intro v3
 intro v4
 conv=>whnf
 refine .mk ?_ ?_
 conv=>whnf
 refine .mk fun x5=>?_
 refine .mk .mk ?_
 refine .mk ?_
 conv=>whnf
 refine .mk fun x6=>?_
 exact .mk
 intro _ _
 refine .mk .mk ?_
 conv=>whnf
 refine .mk ?_ ?_
 intro v7
 intro v8
 conv=>whnf
 refine .mk fun p9=>?_
 conv=>whnf
 refine .mk _ ⟨fun _=>yl_app0T (g:=GEnt.av) (m:=a1.Ents) 5 rfl Tryz.underlying26 bz39 by39 rfl rfl rfl rfl (.refl _) GEnt.one p9,fun _ _ _=>trivial⟩ ?_
 rintro _ _ ⟨v10,rfl,rfl⟩
 conv=>whnf
 refine .mk fun x11 e11=>?_
 conv=>whnf
 refine .mk _ (agr (yv_ixO rfl Tryz.underlying26 sh39 rfl rfl rfl rfl rfl (Eq.symm rfl) (List.length_map _) e11)) ?_
 refine .mk ?_
 conv=>whnf
 refine .mk _ (fun H hH _=>yv_nilCheck rfl rfl (.pt ((hH _ (by decide)).trans rfl) rfl (ix_get' e11 (GEnt.av_eq _)))) ?_
 conv=>whnf
 refine .mk _ (fun H hH _=>yv_fieldAddr rfl fo39_2 rfl (.pt ((hH _ (by decide)).trans rfl) rfl (ix_get' e11 (GEnt.av_eq _))) (.pt _ _ _ _ _)) ?_
 conv=>whnf
 refine .mk _ (fun H hH _=>yv_load rfl sh36 rfl (.pt ((hH _ (by decide)).trans rfl) rfl (ix_get' e11 (GEnt.av_eq _))) rfl) ?_
 conv=>whnf
 refine .mk _ (fun H hH _=>yv_nilCheck rfl rfl (.pt ((hH _ (by decide)).trans rfl) rfl (ix_get' e11 (GEnt.av_eq _)))) ?_
 conv=>whnf
 refine .mk _ (fun H hH _=>yv_fieldAddr rfl fo39_3 rfl (.pt ((hH _ (by decide)).trans rfl) rfl (ix_get' e11 (GEnt.av_eq _))) (.pt _ _ _ _ _)) ?_
 conv=>whnf
 refine .mk _ (fun H hH _=>yv_load rfl sh22 rfl (.pt ((hH _ (by decide)).trans rfl) rfl (ix_get' e11 (GEnt.av_eq _))) rfl) ?_
 conv=>whnf
 refine .mk _ (fun H hH _=>yv_nilCheck rfl rfl (.pt ((hH _ (by decide)).trans rfl) rfl (ix_get' e11 (GEnt.av_eq _)))) ?_
 conv=>whnf
 refine .mk _ (fun H hH _=>yv_fieldAddr rfl fo39_4 rfl (.pt ((hH _ (by decide)).trans rfl) rfl (ix_get' e11 (GEnt.av_eq _))) (.pt _ _ _ _ _)) ?_
 conv=>whnf
 refine .mk _ (fun H hH _=>yv_load rfl sh37 rfl (.pt ((hH _ (by decide)).trans rfl) rfl (ix_get' e11 (GEnt.av_eq _))) rfl) ?_
 conv=>whnf
 refine .mk fun p12=>?_
 conv=>whnf
 refine .mk _ ⟨fun _=>yl_app0T (g:=GPool.av) (m:=x11.Pools) 6 rfl Tryz.underlying36 bz57 by57 rfl rfl rfl rfl (.refl _) (fun _=>rfl) p12,by rintro _ _ ⟨v13,rfl,rfl⟩;exact ⟨rfl,trivial⟩⟩ ?_
 rintro _ _ ⟨v13,rfl,rfl⟩
 conv=>whnf
 refine .mk fun p14=>?_
 conv=>whnf
 refine .mk _ ⟨fun _=>yl_app0T (g:=fI) (m:=x11.Bal) 7 rfl Tryz.underlying22 bz3 by3 rfl rfl rfl rfl (.refl _) (fun _=>rfl) p14,by rintro _ _ ⟨v15,rfl,rfl⟩;exact ⟨rfl,trivial⟩⟩ ?_
 rintro _ _ ⟨v15,rfl,rfl⟩
 conv=>whnf
 refine .mk fun p16=>?_
 conv=>whnf
 refine .mk _ ⟨fun _=>yl_app0T (g:=GRoll.av) (m:=x11.Rolls) 8 rfl Tryz.underlying37 bz83 by83 rfl rfl rfl rfl (.refl _) (fun _=>rfl) p16,by rintro _ _ ⟨v17,rfl,rfl⟩;exact trivial⟩ ?_
 rintro _ _ ⟨v17,rfl,rfl⟩
 conv=>whnf
 refine .mk _ (fun H hH _=>yv_nilCheck rfl rfl (.pt ((hH _ (by decide)).trans rfl) rfl (ix_get' e11 (GEnt.av_eq _)))) ?_
 conv=>whnf
 refine .mk _ (fun H hH _=>yv_fieldAddr rfl fo39_2 rfl (.pt ((hH _ (by decide)).trans rfl) rfl (ix_get' e11 (GEnt.av_eq _))) (.pt _ _ _ _ _)) ?_
 conv=>whnf
 refine .mk _ ⟨fun _=>Yield.weak (yl_ob (ob':=(⟨39,8,true,true,_,(a1.Ents.map GEnt.av).set (Int.toNat a2) [int x11.Now,boo x11.Closed,.sl 6 v13 0 x11.Pools.length,lst 1 fI x11.Bal,lst 11 GRoll.av x11.Rolls,lst 1 fI x11.Prices,lst 1 fI x11.Down,lst 8 GEnt.av x11.Ahead]⟩:AObj)) (yl_store rfl sh36 rfl rfl rfl rfl rfl (ix_get' e11 (GEnt.av_eq _)) rfl rfl rfl) (ob_eq rfl)) (fun _ h=>h) (fun _ _=>trivial),by rintro _ _ ⟨rfl,rfl⟩;exact trivial⟩ ?_
 rintro _ _ ⟨rfl,rfl⟩
 conv=>whnf
 refine .mk _ (fun H hH _=>yv_nilCheck rfl rfl (.pt ((hH _ (by decide)).trans rfl) rfl (set_get e11))) ?_
 conv=>whnf
 refine .mk _ (fun H hH _=>yv_fieldAddr rfl fo39_3 rfl (.pt ((hH _ (by decide)).trans rfl) rfl (set_get e11)) (.pt _ _ _ _ _)) ?_
 conv=>whnf
 refine .mk _ ⟨fun _=>Yield.weak (yl_ob (ob':=(⟨39,8,true,true,_,(a1.Ents.map GEnt.av).set (Int.toNat a2) [int x11.Now,boo x11.Closed,.sl 6 v13 0 x11.Pools.length,.sl 7 v15 0 x11.Bal.length,lst 11 GRoll.av x11.Rolls,lst 1 fI x11.Prices,lst 1 fI x11.Down,lst 8 GEnt.av x11.Ahead]⟩:AObj)) (yl_store rfl sh22 rfl rfl rfl rfl rfl (set_get e11) rfl rfl rfl) (ob_eq set_setV)) (fun _ h=>h) (fun _ _=>trivial),by rintro _ _ ⟨rfl,rfl⟩;exact trivial⟩ ?_
 rintro _ _ ⟨rfl,rfl⟩
 conv=>whnf
 refine .mk _ (fun H hH _=>yv_nilCheck rfl rfl (.pt ((hH _ (by decide)).trans rfl) rfl (set_get e11))) ?_
 conv=>whnf
 refine .mk _ (fun H hH _=>yv_fieldAddr rfl fo39_4 rfl (.pt ((hH _ (by decide)).trans rfl) rfl (set_get e11)) (.pt _ _ _ _ _)) ?_
 conv=>whnf
 refine .mk _ ⟨fun _=>Yield.weak (yl_ob (ob':=(⟨39,8,true,true,_,(a1.Ents.map GEnt.av).set (Int.toNat a2) [int x11.Now,boo x11.Closed,.sl 6 v13 0 x11.Pools.length,.sl 7 v15 0 x11.Bal.length,.sl 8 v17 0 x11.Rolls.length,lst 1 fI x11.Prices,lst 1 fI x11.Down,lst 8 GEnt.av x11.Ahead]⟩:AObj)) (yl_store rfl sh37 rfl rfl rfl rfl rfl (set_get e11) rfl rfl rfl) (ob_eq set_setV)) (fun _ h=>h) (fun _ _=>trivial),by rintro _ _ ⟨rfl,rfl⟩;exact trivial⟩ ?_
 rintro _ _ ⟨rfl,rfl⟩
 refine .mk ?_
 conv=>whnf
 refine .mk _ (fun H hH _=>yv_nilCheck rfl rfl (.pt ((hH _ (by decide)).trans rfl) rfl (set_get e11))) ?_
 conv=>whnf
 refine .mk _ (fun H hH _=>yv_fieldAddr rfl fo39_5 rfl (.pt ((hH _ (by decide)).trans rfl) rfl (set_get e11)) (.pt _ _ _ _ _)) ?_
 conv=>whnf
 refine .mk _ (fun H hH _=>yv_load rfl sh22 rfl (.pt ((hH _ (by decide)).trans rfl) rfl (set_get e11)) rfl) ?_
 conv=>whnf
 refine .mk _ (fun H hH _=>yv_nilCheck rfl rfl (.pt ((hH _ (by decide)).trans rfl) rfl (set_get e11))) ?_
 conv=>whnf
 refine .mk _ (fun H hH _=>yv_fieldAddr rfl fo39_6 rfl (.pt ((hH _ (by decide)).trans rfl) rfl (set_get e11)) (.pt _ _ _ _ _)) ?_
 conv=>whnf
 refine .mk _ (fun H hH _=>yv_load rfl sh22 rfl (.pt ((hH _ (by decide)).trans rfl) rfl (set_get e11)) rfl) ?_
 conv=>whnf
 refine .mk fun p18=>?_
 conv=>whnf
 refine .mk _ ⟨fun _=>yl_app0T (g:=fI) (m:=x11.Prices) 9 rfl Tryz.underlying22 bz3 by3 rfl rfl rfl rfl (.refl _) (fun _=>rfl) p18,by rintro _ _ ⟨v19,rfl,rfl⟩;exact ⟨rfl,trivial⟩⟩ ?_
 rintro _ _ ⟨v19,rfl,rfl⟩
 conv=>whnf
 refine .mk fun p20=>?_
 conv=>whnf
 refine .mk _ ⟨fun _=>yl_app0T (g:=fI) (m:=x11.Down) 10 rfl Tryz.underlying22 bz3 by3 rfl rfl rfl rfl (.refl _) (fun _=>rfl) p20,by rintro _ _ ⟨v21,rfl,rfl⟩;exact trivial⟩ ?_
 rintro _ _ ⟨v21,rfl,rfl⟩
 conv=>whnf
 refine .mk _ (fun H hH _=>yv_nilCheck rfl rfl (.pt ((hH _ (by decide)).trans rfl) rfl (set_get e11))) ?_
 conv=>whnf
 refine .mk _ (fun H hH _=>yv_fieldAddr rfl fo39_5 rfl (.pt ((hH _ (by decide)).trans rfl) rfl (set_get e11)) (.pt _ _ _ _ _)) ?_
 conv=>whnf
 refine .mk _ ⟨fun _=>Yield.weak (yl_ob (ob':=(⟨39,8,true,true,_,(a1.Ents.map GEnt.av).set (Int.toNat a2) [int x11.Now,boo x11.Closed,.sl 6 v13 0 x11.Pools.length,.sl 7 v15 0 x11.Bal.length,.sl 8 v17 0 x11.Rolls.length,.sl 9 v19 0 x11.Prices.length,lst 1 fI x11.Down,lst 8 GEnt.av x11.Ahead]⟩:AObj)) (yl_store rfl sh22 rfl rfl rfl rfl rfl (set_get e11) rfl rfl rfl) (ob_eq set_setV)) (fun _ h=>h) (fun _ _=>trivial),by rintro _ _ ⟨rfl,rfl⟩;exact trivial⟩ ?_
 rintro _ _ ⟨rfl,rfl⟩
 conv=>whnf
 refine .mk _ (fun H hH _=>yv_nilCheck rfl rfl (.pt ((hH _ (by decide)).trans rfl) rfl (set_get e11))) ?_
 conv=>whnf
 refine .mk _ (fun H hH _=>yv_fieldAddr rfl fo39_6 rfl (.pt ((hH _ (by decide)).trans rfl) rfl (set_get e11)) (.pt _ _ _ _ _)) ?_
 conv=>whnf
 refine .mk _ ⟨fun _=>Yield.weak (yl_ob (ob':=(⟨39,8,true,true,_,(a1.Ents.map GEnt.av).set (Int.toNat a2) [int x11.Now,boo x11.Closed,.sl 6 v13 0 x11.Pools.length,.sl 7 v15 0 x11.Bal.length,.sl 8 v17 0 x11.Rolls.length,.sl 9 v19 0 x11.Prices.length,.sl 10 v21 0 x11.Down.length,lst 8 GEnt.av x11.Ahead]⟩:AObj)) (yl_store rfl sh22 rfl rfl rfl rfl rfl (set_get e11) rfl rfl rfl) (ob_eq set_setV)) (fun _ h=>h) (fun _ _=>trivial),by rintro _ _ ⟨rfl,rfl⟩;exact trivial⟩ ?_
 rintro _ _ ⟨rfl,rfl⟩
 exact .mk
 intro _ _
 conv=>whnf
 refine .mk trivial ?_
 conv=>whnf
 refine .mk fun x22 e22=>?_
 intro v23
 conv=>whnf
 refine .mk ?_ ?_
 intro v24
 refine .mk ?_
 rintro ⟨y2_2,y2_3,y2_4⟩ _
 conv=>whnf
 refine .mk _ (agr (yv_ixO rfl Tryz.underlying26 sh39 rfl rfl rfl rfl rfl (Eq.symm rfl) len_ov e22)) ?_
 conv=>whnf
 refine .mk _ (agr (yv_fieldAddr rfl fo39_5 rfl (.pt rfl rfl (set_get e22)) (.pt _ _ _ _ _))) ?_
 conv=>whnf
 refine .mk _ (agr (yv_load rfl sh22 rfl (.pt rfl rfl (set_get e22)) rfl)) ?_
 conv=>whnf
 refine .mk fun x25=>?_
 conv=>whnf
 refine .mk ?_ ?_
 conv=>whnf
 refine .mk ?_ ?_
 conv=>whnf
 refine .mk _ (agr (yv_ixO rfl Tryz.underlying26 sh39 rfl rfl rfl rfl rfl (Eq.symm rfl) len_ov e22)) ?_
 conv=>whnf
 refine .mk _ (agr (yv_fieldAddr rfl fo39_5 rfl (.pt rfl rfl (set_get e22)) (.pt _ _ _ _ _))) ?_
 conv=>whnf
 refine .mk _ (agr (yv_load rfl sh22 rfl (.pt rfl rfl (set_get e22)) rfl)) ?_
 conv=>whnf
 refine .mk fun x26 e26=>?_
 conv=>whnf
 refine .mk _ (agr (yv_ixO rfl Tryz.underlying22 sh3 rfl rfl rfl rfl rfl (Eq.symm rfl) (List.length_map _) e26)) ?_
 conv=>whnf
 refine .mk _ (agr (yv_load rfl sh3 rfl (.pt rfl rfl (ix_get e26)) rfl)) ?_
 conv=>whnf
 refine .mk fun x27=>?_
 conv=>whnf
 refine .mk ?_ ?_
 conv=>whnf
 refine .mk fun x28 e28=>?_
 intro v29
 conv=>whnf
 refine .mk fun x30 e30=>?_
 conv=>whnf
 refine .mk _ (agr (yv_ixO rfl Tryz.underlying26 sh39 rfl rfl rfl rfl rfl (Eq.symm rfl) len_ov e22)) ?_
 conv=>whnf
 refine .mk _ (agr (yv_fieldAddr rfl fo39_6 rfl (.pt rfl rfl (set_get e22)) (.pt _ _ _ _ _))) ?_
 conv=>whnf
 refine .mk _ (agr (yv_load rfl sh22 rfl (.pt rfl rfl (set_get e22)) rfl)) ?_
 conv=>whnf
 refine .mk fun x31 e31=>?_
 conv=>whnf
 refine .mk _ (agr (yv_ixO rfl Tryz.underlying22 sh3 rfl rfl rfl rfl rfl (Eq.symm rfl) (List.length_map _) e31)) ?_
 conv=>whnf
 refine .mk _ (agr (yv_load rfl sh3 rfl (.pt rfl rfl (ix_get e31)) rfl)) ?_
 conv=>whnf
 refine .mk fun x32=>?_
 conv=>whnf
 refine .mk fun x33=>?_
 conv=>whnf
 refine .mk _ (agr (yv_to (y:=lst 2 GLine.av ([(⟨10,x32⟩:GLine),(⟨11,x33⟩:GLine)]:List GLine)) (yv_buildSlice (ps:=[(0,_),(1,_)]) (rows:=[[int 10,int x32],[int 11,int x33]]) rfl Tryz.underlying120 bz119 (.cons rfl (.cons rfl .nil)) (by kernel_rfl) rfl rfl rfl) rfl)) ?_
 conv=>whnf
 refine .mk fun x34 e34=>?_
 conv=>whnf
 refine .mk fun p35=>?_
 conv=>whnf
 refine .mk _ ⟨fun _=>yl_appT (g:=GLine.av) (l:=y2_3) (m:=([(⟨10,x32⟩:GLine),(⟨11,x33⟩:GLine)]:List GLine)) .any rfl Tryz.underlying120 bz119 by119 rfl rfl rfl rfl rfl rfl rfl rfl rfl rfl (Eq.symm rfl) (.refl _) (fun _=>rfl) e34 p35,fun _ _ _=>trivial⟩ ?_
 rintro _ _ ⟨v36,-,rfl,rfl⟩
 conv=>whnf
 refine .mk _ (agr (yv_ixO rfl Tryz.underlying26 sh39 rfl rfl rfl rfl rfl (Eq.symm rfl) len_ov e22)) ?_
 conv=>whnf
 refine .mk _ (agr (yv_fieldAddr rfl fo39_6 rfl (.pt rfl rfl (set_get e22)) (.pt _ _ _ _ _))) ?_
 conv=>whnf
 refine .mk _ (agr (yv_load rfl sh22 rfl (.pt rfl rfl (set_get e22)) rfl)) ?_
 conv=>whnf
 refine .mk _ (agr (yv_ixO rfl Tryz.underlying22 sh3 rfl rfl rfl rfl rfl (Eq.symm rfl) (List.length_map _) e31)) ?_
 conv=>whnf
 refine .mk fun x37 e37=>?_
 have fx37:=ix_set e31 e37;have lx37:=len_setV e37 (rfl:y2_4.length=y2_4.length)
 conv=>whnf
 refine .mk _ ⟨fun _=>Yield.weak (yl_ob (ob':=(⟨3,1,true,true,_,x37.map fI⟩:AObj)) (yl_store rfl sh3 rfl rfl rfl rfl rfl (ix_get e31) rfl rfl rfl) (ob_eq (map_setV e37))) (fun _ h=>h) (fun _ _=>trivial),fun _ _ _=>trivial⟩ ?_
 rintro _ _ ⟨rfl,rfl⟩
 conv=>whnf
 exact .mk ⟨⟨⟨_,rfl,(.refl _)⟩,⟨_,rfl,(.refl _)⟩,⟨_,rfl,(.refl _)⟩,⟨_,rfl,(.refl _)⟩,⟨_,rfl,(.refl _)⟩,⟨_,rfl,(.refl _)⟩,⟨_,rfl,(.refl _)⟩,trivial⟩,⟨⟨_,rfl,⟨rfl,cvll_set (.cons (.refl _) (.cons (.refl _) (.cons (.refl _) (.cons (.refl _) (.cons (.refl _) (.cons (.refl _) (.cons (cv_slen (Eq.symm lx37)) (.cons (.refl _) .nil))))))))⟩⟩,⟨_,rfl,(.refl _)⟩,⟨_,rfl,(.refl _)⟩,⟨_,rfl,(.refl _)⟩,⟨_,rfl,(.refl _)⟩,⟨_,rfl,(.refl _)⟩,⟨_,rfl,(.refl _)⟩,⟨_,rfl,(.refl _)⟩,⟨_,rfl,(.refl _)⟩,⟨_,rfl,(.refl _)⟩,trivial⟩⟩
 exact .mk
 intro _ _
 conv=>whnf
 refine .mk fun x38=>?_
 exact .mk
 conv=>whnf
 exact .mk
 intro _ _
 conv=>whnf
 refine .mk (fun x39 e39=>?_) rfl (by rintro _ rfl;exact (.cons (CvL.agg (.cons (.refl _) (.cons (.refl _) (.cons (.refl _) (.cons (.refl _) (.cons (.refl _) (.cons (cv_ov rfl rfl rfl rfl rfl (Eq.symm rfl) e22 (cvl_to (.cons (.refl _) (.cons (.refl _) (.cons (cv_lst rfl rfl rfl rfl rfl (Eq.symm rfl)) (.cons (cv_lst rfl rfl rfl rfl rfl (Eq.symm rfl)) (.cons (cv_lst rfl rfl rfl rfl rfl (Eq.symm rfl)) (.cons (cv_lst rfl rfl rfl rfl rfl (Eq.symm rfl)) (.cons (cv_lst rfl rfl rfl rfl rfl (Eq.symm rfl)) (.cons (.refl _) .nil)))))))) (GEnt.av_eq _))) (.cons (.refl _) (.cons (.refl _) (.cons (.refl _) (.cons (.refl _) .nil))))))))))) (.cons (.refl _) (.cons (cv_lst rfl rfl rfl rfl rfl (Eq.symm rfl)) .nil))))
 conv=>whnf
 refine .mk fun x40=>?_
 refine .mk .mk ?_
 exact .mk
noncomputable def t_ref23_Close (n:Nat) (a1:GState) (a2:Int):WT Tryz.prog (.b (GState×Int)) :=
 .al 1<|
 .al 2<|
 .jn 1 [1,2,4,5] [1,2] [] (fun _ (a:Bool)=>[(12,boo a)]) (fun _ _=>[]) (.bB 14 (decide (a2<0)) fun x5 =>
 .ifs [14] x5 (.ret (true:Bool)) (.ln 19 GEnt.av a1.Ents<|
 .bB 20 (decide (a2≥(a1.Ents.length:Int))) fun x6 =>
 .ret x6))
  (fun y0_1 =>
 .ifs [12] y0_1 (.ret ((a1:GState),(4:Int))) (.ixE 27 GEnt.av gE GEnt.av_eq a1.Ents a2 fun x7 =>
 .wt 23 <|.ifs [23] x7.Closed (.ret ((a1:GState),(7:Int))) (.al 3<|
 .jnE 1 [1,2,4,5,6] [1,2] [] (fun _ (a:GState)=>[]) (fun _ a=>[.kp 3 [(GState.av a)]]) (.lp [1,2,4,5,6] [1,2] [] (fun _ (a:Int×GState)=>[(7,int a.1)]) (fun _ a=>[.kp 3 [(GState.av a.2)]]) n ((0:Int),(a1:GState)) (pw fun y1_1 y1_2 =>
 .ln 36 fI a1.Master.Weights<|
 .bB 37 (decide (y1_1<(a1.Master.Weights.length:Int))) fun x9 =>
 .ifs [37] x9 (.jnE 1 [1,2,4,5,6,7] [1,2] [] (fun _ (a:GState)=>[]) (fun _ a=>[.kp 3 [(GState.av a)]]) (.jnE 2 [1,2,4,5,6,7] [1,2] [] (fun _ (a:GState)=>[]) (fun _ a=>[.kp 3 [(GState.av a)]]) (.lp [1,2,4,5,6,7] [1,2] [] (fun _ (a:Int×GState)=>[(8,int a.1)]) (fun _ a=>[.kp 3 [(GState.av a.2)]]) n ((0:Int),y1_2) (pw fun y2_1 y2_2 =>
 .jn 0 [1,2,4,5,6,7,8] [1,2,3] [] (fun _ (a:Bool)=>[(53,boo a)]) (fun _ _=>[]) (.bB 41 (decide (y2_1<2)) fun x10 =>
 .ifs [41] x10 (.ix 47 (fL 1 fI) a1.Master.Methods a2 fun x11 =>
 .ix 50 fI x11 y1_1 fun x12 =>
 .bB 52 (decide (x12=3)) fun x13 =>
 .ret x13) (.ret (false:Bool)))
  (fun y3_1 =>
 .ifs [53] y3_1 (.cl 61 (d_ref23_settle n y2_2 a2 y1_1 y2_1) cal101 d_ref23_settle_c fun x14 =>
 .al 4<|
 .bB 65 (decide (x14.2≠0)) fun x16 =>
 .ifs [65] x16 (.esc (.esc (.esc (.esc (.esc (.ret ((a1:GState),(x14.2:Int)))))))) (.bI 55 (w64 (y2_1+1)) fun x17 =>
 .brk (x17,(x14.1:GState)))) (.esc (.brk y2_2)))))
  (fun y4_1 =>
 .brk y4_1))
  (fun y5_1 =>
 .bI 39 (w64 (y1_1+1)) fun x18 =>
 .brk (x18,y5_1))) (.esc (.brk y1_2))))
  (fun y6_1 =>
 .cl 72 (d_ref21_Mark n y6_1 a2) cal102 d_ref21_Mark_c fun x19 =>
 .bB 76 (decide (x19.2≠0)) fun x20 =>
 .ifs [76] x20 (.ret ((a1:GState),(x19.2:Int))) (.inl 81 cal10 Tryz.func10 [1,2,3] [7,8,9,10,11,12] (fun u75 (a:Int×Bool×(List GEnt)×(List GPool)×(List Int)×(List GRoll)×(List Int)×(List Int))=>.agg [int x19.1.Master.Entities,int x19.1.Master.Periods,lst 1 fI x19.1.Master.Weights,lst 1 (fL 1 fI) x19.1.Master.Methods,lst 1 (fL 1 fI) x19.1.Master.Costs,.sl 7 (u75 7) 0 x19.1.Ents.length,lst 8 GReceipt.av x19.1.Receipts,lst 9 GSale.av x19.1.Sales,lst 6 GTransit.av x19.1.Transits,int x19.1.Done]) (fun u75 a=>[.nw 7 39 8 ((x19.1.Ents.map GEnt.av).set (Int.toNat a2) [int a.1,boo a.2.1,.sl 8 (u75 8) 0 a.2.2.2.1.length,.sl 9 (u75 9) 0 a.2.2.2.2.1.length,.sl 10 (u75 10) 0 a.2.2.2.2.2.1.length,.sl 11 (u75 11) 0 a.2.2.2.2.2.2.1.length,.sl 12 (u75 12) 0 a.2.2.2.2.2.2.2.length,lst 8 GEnt.av a.2.2.1]),.nw 8 57 4 (a.2.2.2.1.map GPool.av),.nw 9 3 1 (a.2.2.2.2.1.map fI),.nw 10 83 11 (a.2.2.2.2.2.1.map GRoll.av),.nw 11 3 1 (a.2.2.2.2.2.2.1.map fI),.nw 12 3 1 (a.2.2.2.2.2.2.2.map fI)]) (.al 5<|
 .al 6<|
 .as (x19.1.Ents.length≤68719476736) inferInstance<|
 .ge 8<|
 .bo (ix x19.1.Ents a2) fun x25 =>
 .gv 13<|
 .dr [(4,[7]),(5,[7]),(6,[7]),(9,[7]),(10,[7]),(11,[7]),(14,[7]),(15,[7]),(16,[7]),(18,[7]),(19,[7]),(21,[7]),(22,[7]),(24,[7]),(25,[7])] [(17,[]),(20,[]),(23,[]),(26,[])] [7] [7,12,17,20,23,26] [0,1,2,3,4,5,6,8,9,10,11,13,14,15,16,7,12,17,18,19,20,21,22,23,24,25,26] (.gv 18<|
 .gv 19<|
 .gv 20<|
 .gv 23<|
 .gv 24<|
 .gv 25<|
 .gv 28<|
 .gv 29<|
 .gv 30<|
 .as (x25.Pools.length≤68719476736) inferInstance<|
 .ge 21<|
 .as (x25.Bal.length≤68719476736) inferInstance<|
 .ge 26<|
 .as (x25.Rolls.length≤68719476736) inferInstance<|
 .ge 31<|
 .gv 32<|
 .gv 33<|
 .ge 1003020<|
 .gv 34<|
 .gv 35<|
 .ge 1003023<|
 .gv 36<|
 .gv 37<|
 .ge 1003026<|
 .dr [(3,[7]),(4,[7]),(5,[7]),(8,[7]),(9,[7]),(10,[7]),(12,[7]),(13,[7]),(15,[7]),(16,[7])] [(11,[]),(14,[]),(17,[])] [7] [6,11,14,17] [0,1,2,3,4,5,7,8,9,10,6,11,12,13,14,15,16,17] (.gv 41<|
 .gv 42<|
 .gv 43<|
 .gv 46<|
 .gv 47<|
 .gv 48<|
 .as (x25.Prices.length≤68719476736) inferInstance<|
 .ge 44<|
 .as (x25.Down.length≤68719476736) inferInstance<|
 .ge 49<|
 .gv 50<|
 .gv 51<|
 .ge 1004014<|
 .gv 52<|
 .gv 53<|
 .ge 1004017<|
 .ret ((x25.Now:Int),(x25.Closed:Bool),(x25.Ahead:List GEnt),(x25.Pools:List GPool),(x25.Bal:List Int),(x25.Rolls:List GRoll),(x25.Prices:List Int),(x25.Down:List Int))))) (pw fun y7_2 q0=>(pw fun y7_3 q1=>(pw fun y7_9 q2=>(pw fun y7_10 q3=>(pw fun y7_11 q4=>(pw fun y7_12 q5=>(pw fun y7_13 y7_14 =>
 .bo (ix x19.1.Ents a2) fun x36 =>
 .dr [(0,[3]),(1,[3]),(3,[3]),(4,[3]),(6,[1]),(7,[1]),(12,[7]),(13,[7]),(15,[7]),(16,[7])] [(14,[3]),(17,[])] [1,3,7] [14,17] [0,1,2,3,4,5,6,7,8,9,10,11,12,13,14,15,16,17] (.ixE 91 GEnt.av gE GEnt.av_eq a1.Ents a2 fun x37 =>
 .gv 93<|
 .gv 94<|
 .gv 95<|
 .ge 1020014<|
 .gv 96<|
 .gv 97<|
 .ge 1020017<|
 .ret (((⟨x19.1.Master,(x19.1.Ents.set (Int.toNat a2) (⟨y7_2,true,y7_10,y7_11,y7_12,y7_13,y7_14,([x37]:List GEnt)⟩:GEnt)),x19.1.Receipts,x19.1.Sales,x19.1.Transits,x19.1.Done⟩:GState):GState),(0:Int)))) q5) q4) q3) q2) q1) q0))))))
def d_ref23_Close (n:Nat) (a1:GState) (a2:Int):Option (GState×Int):=(t_ref23_Close n a1 a2).run
theorem d_ref23_Close_c {n:Nat} {a1:GState} {a2:Int} {r:GState×Int} (h0:d_ref23_Close n a1 a2=some r):PP Tryz.prog 62 [.agg (GState.av a1),int a2] (fun y=>y=.tup [.agg (GState.av r.1),int r.2]):=by
 refine wt_pp mixed tbk (fun (r:GState×Int)=>.tup [.agg (GState.av r.1),int r.2]) h0 Tryz.func62 (fun r=>.tup (pvl2 ((fun (a:GState)=>PV.agg (GState.pvc a)) (r.1)) (pvI (r.2)))) 100000 ?_
 intro v3
 intro v4
 conv=>whnf
 refine .mk ?_ ?_
 conv=>whnf
 refine .mk fun x5=>?_
 refine .mk .mk ?_
 refine .mk ?_
 conv=>whnf
 refine .mk fun x6=>?_
 exact .mk
 intro _ _
 refine .mk .mk ?_
 conv=>whnf
 refine .mk fun x7 e7=>?_
 refine .mk .mk ?_
 intro v8
 conv=>whnf
 refine .mk ?_ ?_
 refine .mk ?_
 intro _ _
 refine .mk ?_
 conv=>whnf
 refine .mk fun x9=>?_
 conv=>whnf
 refine .mk ?_ ?_
 conv=>whnf
 refine .mk ?_ ?_
 conv=>whnf
 refine .mk ?_ ?_
 refine .mk ?_
 intro _ _
 conv=>whnf
 refine .mk ?_ ?_
 conv=>whnf
 refine .mk fun x10=>?_
 conv=>whnf
 refine .mk ?_ ?_
 conv=>whnf
 refine .mk fun x11 e11=>?_
 conv=>whnf
 refine .mk fun x12 e12=>?_
 conv=>whnf
 refine .mk fun x13=>?_
 exact .mk
 conv=>whnf
 exact .mk
 intro _ _
 conv=>whnf
 refine .mk ?_ ?_
 conv=>whnf
 refine .mk fun x14 e14=>?_
 intro v15
 conv=>whnf
 refine .mk fun x16=>?_
 refine .mk .mk ?_
 conv=>whnf
 refine .mk fun x17=>?_
 exact .mk
 conv=>whnf
 exact .mk
 intro _ _
 exact .mk
 intro _ _
 conv=>whnf
 refine .mk fun x18=>?_
 exact .mk
 conv=>whnf
 exact .mk
 intro _ _
 conv=>whnf
 refine .mk fun x19 e19=>?_
 conv=>whnf
 refine .mk fun x20=>?_
 refine .mk .mk ?_
 conv=>whnf
 refine .mk ?_ ?_
 intro v21
 intro v22
 conv=>whnf
 refine .mk fun p23=>?_
 conv=>whnf
 refine .mk _ ⟨fun _=>yl_app0T (g:=GEnt.av) (m:=x19.1.Ents) 7 rfl Tryz.underlying26 bz39 by39 rfl rfl rfl rfl (.refl _) GEnt.one p23,fun _ _ _=>trivial⟩ ?_
 rintro _ _ ⟨v24,rfl,rfl⟩
 conv=>whnf
 refine .mk fun x25 e25=>?_
 conv=>whnf
 refine .mk _ (agr (yv_ixO rfl Tryz.underlying26 sh39 rfl rfl rfl rfl rfl (Eq.symm rfl) (List.length_map _) e25)) ?_
 refine .mk ?_
 conv=>whnf
 refine .mk _ (fun H hH _=>yv_nilCheck rfl rfl (.pt ((hH _ (by decide)).trans rfl) rfl (ix_get' e25 (GEnt.av_eq _)))) ?_
 conv=>whnf
 refine .mk _ (fun H hH _=>yv_fieldAddr rfl fo39_2 rfl (.pt ((hH _ (by decide)).trans rfl) rfl (ix_get' e25 (GEnt.av_eq _))) (.pt _ _ _ _ _)) ?_
 conv=>whnf
 refine .mk _ (fun H hH _=>yv_load rfl sh36 rfl (.pt ((hH _ (by decide)).trans rfl) rfl (ix_get' e25 (GEnt.av_eq _))) rfl) ?_
 conv=>whnf
 refine .mk _ (fun H hH _=>yv_nilCheck rfl rfl (.pt ((hH _ (by decide)).trans rfl) rfl (ix_get' e25 (GEnt.av_eq _)))) ?_
 conv=>whnf
 refine .mk _ (fun H hH _=>yv_fieldAddr rfl fo39_3 rfl (.pt ((hH _ (by decide)).trans rfl) rfl (ix_get' e25 (GEnt.av_eq _))) (.pt _ _ _ _ _)) ?_
 conv=>whnf
 refine .mk _ (fun H hH _=>yv_load rfl sh22 rfl (.pt ((hH _ (by decide)).trans rfl) rfl (ix_get' e25 (GEnt.av_eq _))) rfl) ?_
 conv=>whnf
 refine .mk _ (fun H hH _=>yv_nilCheck rfl rfl (.pt ((hH _ (by decide)).trans rfl) rfl (ix_get' e25 (GEnt.av_eq _)))) ?_
 conv=>whnf
 refine .mk _ (fun H hH _=>yv_fieldAddr rfl fo39_4 rfl (.pt ((hH _ (by decide)).trans rfl) rfl (ix_get' e25 (GEnt.av_eq _))) (.pt _ _ _ _ _)) ?_
 conv=>whnf
 refine .mk _ (fun H hH _=>yv_load rfl sh37 rfl (.pt ((hH _ (by decide)).trans rfl) rfl (ix_get' e25 (GEnt.av_eq _))) rfl) ?_
 conv=>whnf
 refine .mk fun p26=>?_
 conv=>whnf
 refine .mk _ ⟨fun _=>yl_app0T (g:=GPool.av) (m:=x25.Pools) 8 rfl Tryz.underlying36 bz57 by57 rfl rfl rfl rfl (.refl _) (fun _=>rfl) p26,by rintro _ _ ⟨v27,rfl,rfl⟩;exact ⟨rfl,trivial⟩⟩ ?_
 rintro _ _ ⟨v27,rfl,rfl⟩
 conv=>whnf
 refine .mk fun p28=>?_
 conv=>whnf
 refine .mk _ ⟨fun _=>yl_app0T (g:=fI) (m:=x25.Bal) 9 rfl Tryz.underlying22 bz3 by3 rfl rfl rfl rfl (.refl _) (fun _=>rfl) p28,by rintro _ _ ⟨v29,rfl,rfl⟩;exact ⟨rfl,trivial⟩⟩ ?_
 rintro _ _ ⟨v29,rfl,rfl⟩
 conv=>whnf
 refine .mk fun p30=>?_
 conv=>whnf
 refine .mk _ ⟨fun _=>yl_app0T (g:=GRoll.av) (m:=x25.Rolls) 10 rfl Tryz.underlying37 bz83 by83 rfl rfl rfl rfl (.refl _) (fun _=>rfl) p30,by rintro _ _ ⟨v31,rfl,rfl⟩;exact trivial⟩ ?_
 rintro _ _ ⟨v31,rfl,rfl⟩
 conv=>whnf
 refine .mk _ (fun H hH _=>yv_nilCheck rfl rfl (.pt ((hH _ (by decide)).trans rfl) rfl (ix_get' e25 (GEnt.av_eq _)))) ?_
 conv=>whnf
 refine .mk _ (fun H hH _=>yv_fieldAddr rfl fo39_2 rfl (.pt ((hH _ (by decide)).trans rfl) rfl (ix_get' e25 (GEnt.av_eq _))) (.pt _ _ _ _ _)) ?_
 conv=>whnf
 refine .mk _ ⟨fun _=>Yield.weak (yl_ob (ob':=(⟨39,8,true,true,_,(x19.1.Ents.map GEnt.av).set (Int.toNat a2) [int x25.Now,boo x25.Closed,.sl 8 v27 0 x25.Pools.length,lst 1 fI x25.Bal,lst 11 GRoll.av x25.Rolls,lst 1 fI x25.Prices,lst 1 fI x25.Down,lst 8 GEnt.av x25.Ahead]⟩:AObj)) (yl_store rfl sh36 rfl rfl rfl rfl rfl (ix_get' e25 (GEnt.av_eq _)) rfl rfl rfl) (ob_eq rfl)) (fun _ h=>h) (fun _ _=>trivial),by rintro _ _ ⟨rfl,rfl⟩;exact trivial⟩ ?_
 rintro _ _ ⟨rfl,rfl⟩
 conv=>whnf
 refine .mk _ (fun H hH _=>yv_nilCheck rfl rfl (.pt ((hH _ (by decide)).trans rfl) rfl (set_get e25))) ?_
 conv=>whnf
 refine .mk _ (fun H hH _=>yv_fieldAddr rfl fo39_3 rfl (.pt ((hH _ (by decide)).trans rfl) rfl (set_get e25)) (.pt _ _ _ _ _)) ?_
 conv=>whnf
 refine .mk _ ⟨fun _=>Yield.weak (yl_ob (ob':=(⟨39,8,true,true,_,(x19.1.Ents.map GEnt.av).set (Int.toNat a2) [int x25.Now,boo x25.Closed,.sl 8 v27 0 x25.Pools.length,.sl 9 v29 0 x25.Bal.length,lst 11 GRoll.av x25.Rolls,lst 1 fI x25.Prices,lst 1 fI x25.Down,lst 8 GEnt.av x25.Ahead]⟩:AObj)) (yl_store rfl sh22 rfl rfl rfl rfl rfl (set_get e25) rfl rfl rfl) (ob_eq set_setV)) (fun _ h=>h) (fun _ _=>trivial),by rintro _ _ ⟨rfl,rfl⟩;exact trivial⟩ ?_
 rintro _ _ ⟨rfl,rfl⟩
 conv=>whnf
 refine .mk _ (fun H hH _=>yv_nilCheck rfl rfl (.pt ((hH _ (by decide)).trans rfl) rfl (set_get e25))) ?_
 conv=>whnf
 refine .mk _ (fun H hH _=>yv_fieldAddr rfl fo39_4 rfl (.pt ((hH _ (by decide)).trans rfl) rfl (set_get e25)) (.pt _ _ _ _ _)) ?_
 conv=>whnf
 refine .mk _ ⟨fun _=>Yield.weak (yl_ob (ob':=(⟨39,8,true,true,_,(x19.1.Ents.map GEnt.av).set (Int.toNat a2) [int x25.Now,boo x25.Closed,.sl 8 v27 0 x25.Pools.length,.sl 9 v29 0 x25.Bal.length,.sl 10 v31 0 x25.Rolls.length,lst 1 fI x25.Prices,lst 1 fI x25.Down,lst 8 GEnt.av x25.Ahead]⟩:AObj)) (yl_store rfl sh37 rfl rfl rfl rfl rfl (set_get e25) rfl rfl rfl) (ob_eq set_setV)) (fun _ h=>h) (fun _ _=>trivial),by rintro _ _ ⟨rfl,rfl⟩;exact trivial⟩ ?_
 rintro _ _ ⟨rfl,rfl⟩
 refine .mk ?_
 conv=>whnf
 refine .mk _ (fun H hH _=>yv_nilCheck rfl rfl (.pt ((hH _ (by decide)).trans rfl) rfl (set_get e25))) ?_
 conv=>whnf
 refine .mk _ (fun H hH _=>yv_fieldAddr rfl fo39_5 rfl (.pt ((hH _ (by decide)).trans rfl) rfl (set_get e25)) (.pt _ _ _ _ _)) ?_
 conv=>whnf
 refine .mk _ (fun H hH _=>yv_load rfl sh22 rfl (.pt ((hH _ (by decide)).trans rfl) rfl (set_get e25)) rfl) ?_
 conv=>whnf
 refine .mk _ (fun H hH _=>yv_nilCheck rfl rfl (.pt ((hH _ (by decide)).trans rfl) rfl (set_get e25))) ?_
 conv=>whnf
 refine .mk _ (fun H hH _=>yv_fieldAddr rfl fo39_6 rfl (.pt ((hH _ (by decide)).trans rfl) rfl (set_get e25)) (.pt _ _ _ _ _)) ?_
 conv=>whnf
 refine .mk _ (fun H hH _=>yv_load rfl sh22 rfl (.pt ((hH _ (by decide)).trans rfl) rfl (set_get e25)) rfl) ?_
 conv=>whnf
 refine .mk fun p32=>?_
 conv=>whnf
 refine .mk _ ⟨fun _=>yl_app0T (g:=fI) (m:=x25.Prices) 11 rfl Tryz.underlying22 bz3 by3 rfl rfl rfl rfl (.refl _) (fun _=>rfl) p32,by rintro _ _ ⟨v33,rfl,rfl⟩;exact ⟨rfl,trivial⟩⟩ ?_
 rintro _ _ ⟨v33,rfl,rfl⟩
 conv=>whnf
 refine .mk fun p34=>?_
 conv=>whnf
 refine .mk _ ⟨fun _=>yl_app0T (g:=fI) (m:=x25.Down) 12 rfl Tryz.underlying22 bz3 by3 rfl rfl rfl rfl (.refl _) (fun _=>rfl) p34,by rintro _ _ ⟨v35,rfl,rfl⟩;exact trivial⟩ ?_
 rintro _ _ ⟨v35,rfl,rfl⟩
 conv=>whnf
 refine .mk _ (fun H hH _=>yv_nilCheck rfl rfl (.pt ((hH _ (by decide)).trans rfl) rfl (set_get e25))) ?_
 conv=>whnf
 refine .mk _ (fun H hH _=>yv_fieldAddr rfl fo39_5 rfl (.pt ((hH _ (by decide)).trans rfl) rfl (set_get e25)) (.pt _ _ _ _ _)) ?_
 conv=>whnf
 refine .mk _ ⟨fun _=>Yield.weak (yl_ob (ob':=(⟨39,8,true,true,_,(x19.1.Ents.map GEnt.av).set (Int.toNat a2) [int x25.Now,boo x25.Closed,.sl 8 v27 0 x25.Pools.length,.sl 9 v29 0 x25.Bal.length,.sl 10 v31 0 x25.Rolls.length,.sl 11 v33 0 x25.Prices.length,lst 1 fI x25.Down,lst 8 GEnt.av x25.Ahead]⟩:AObj)) (yl_store rfl sh22 rfl rfl rfl rfl rfl (set_get e25) rfl rfl rfl) (ob_eq set_setV)) (fun _ h=>h) (fun _ _=>trivial),by rintro _ _ ⟨rfl,rfl⟩;exact trivial⟩ ?_
 rintro _ _ ⟨rfl,rfl⟩
 conv=>whnf
 refine .mk _ (fun H hH _=>yv_nilCheck rfl rfl (.pt ((hH _ (by decide)).trans rfl) rfl (set_get e25))) ?_
 conv=>whnf
 refine .mk _ (fun H hH _=>yv_fieldAddr rfl fo39_6 rfl (.pt ((hH _ (by decide)).trans rfl) rfl (set_get e25)) (.pt _ _ _ _ _)) ?_
 conv=>whnf
 refine .mk _ ⟨fun _=>Yield.weak (yl_ob (ob':=(⟨39,8,true,true,_,(x19.1.Ents.map GEnt.av).set (Int.toNat a2) [int x25.Now,boo x25.Closed,.sl 8 v27 0 x25.Pools.length,.sl 9 v29 0 x25.Bal.length,.sl 10 v31 0 x25.Rolls.length,.sl 11 v33 0 x25.Prices.length,.sl 12 v35 0 x25.Down.length,lst 8 GEnt.av x25.Ahead]⟩:AObj)) (yl_store rfl sh22 rfl rfl rfl rfl rfl (set_get e25) rfl rfl rfl) (ob_eq set_setV)) (fun _ h=>h) (fun _ _=>trivial),by rintro _ _ ⟨rfl,rfl⟩;exact trivial⟩ ?_
 rintro _ _ ⟨rfl,rfl⟩
 exact .mk
 rintro ⟨y7_2,y7_3,y7_9,y7_10,y7_11,y7_12,y7_13,y7_14⟩ u75
 conv=>whnf
 refine .mk trivial ?_
 conv=>whnf
 refine .mk fun x36 e36=>?_
 refine .mk ?_
 conv=>whnf
 refine .mk fun x37 e37=>?_
 conv=>whnf
 refine .mk _ (fun H hH _=>yv_to (y:=lst 8 GEnt.av ([x37]:List GEnt)) (yv_buildSlice (ps:=[(0,_)]) (rows:=[[int x37.Now,boo x37.Closed,lst 4 GPool.av x37.Pools,lst 1 fI x37.Bal,lst 11 GRoll.av x37.Rolls,lst 1 fI x37.Prices,lst 1 fI x37.Down,lst 8 GEnt.av x37.Ahead]]) rfl Tryz.underlying26 bz39 (.cons rfl .nil) (by kernel_rfl) rfl rfl rfl) (congrArg (AV.list 8) (by simp only [List.map_cons,List.map_nil,GEnt.av_eq]))) ?_
 conv=>whnf
 refine .mk _ (fun H hH _=>yv_ixO rfl Tryz.underlying26 sh39 rfl rfl ((hH _ (by decide)).trans rfl) rfl rfl (Eq.symm rfl) len_ov e36) ?_
 conv=>whnf
 refine .mk _ (fun H hH _=>yv_fieldAddr rfl fo39_7 rfl (.pt ((hH _ (by decide)).trans rfl) rfl (set_get e36)) (.pt _ _ _ _ _)) ?_
 conv=>whnf
 refine .mk _ ⟨fun _=>Yield.weak (yl_ob (ob':=(⟨39,8,true,true,_,(x19.1.Ents.map GEnt.av).set (Int.toNat a2) [int y7_2,boo y7_3,.sl 8 (u75 8) 0 y7_10.length,.sl 9 (u75 9) 0 y7_11.length,.sl 10 (u75 10) 0 y7_12.length,.sl 11 (u75 11) 0 y7_13.length,.sl 12 (u75 12) 0 y7_14.length,lst 8 GEnt.av ([x37]:List GEnt)]⟩:AObj)) (yl_store rfl sh26 rfl rfl rfl rfl rfl (set_get e36) rfl rfl rfl) (ob_eq set_setV)) (fun _ h=>h) (fun _ _=>trivial),by rintro _ _ ⟨rfl,rfl⟩;exact ⟨rfl,trivial⟩⟩ ?_
 rintro _ _ ⟨rfl,rfl⟩
 conv=>whnf
 refine .mk _ (fun H hH _=>yv_ixO rfl Tryz.underlying26 sh39 rfl rfl ((hH _ (by decide)).trans rfl) rfl rfl (Eq.symm rfl) len_ov e36) ?_
 conv=>whnf
 refine .mk _ (fun H hH _=>yv_fieldAddr rfl fo39_1 rfl (.pt ((hH _ (by decide)).trans rfl) rfl (set_get e36)) (.pt _ _ _ _ _)) ?_
 conv=>whnf
 refine .mk _ ⟨fun _=>Yield.weak (yl_ob (ob':=(⟨39,8,true,true,_,(x19.1.Ents.map GEnt.av).set (Int.toNat a2) [int y7_2,boo true,.sl 8 (u75 8) 0 y7_10.length,.sl 9 (u75 9) 0 y7_11.length,.sl 10 (u75 10) 0 y7_12.length,.sl 11 (u75 11) 0 y7_13.length,.sl 12 (u75 12) 0 y7_14.length,lst 8 GEnt.av ([x37]:List GEnt)]⟩:AObj)) (yl_store rfl sh4 rfl rfl rfl rfl rfl (set_get e36) rfl rfl rfl) (ob_eq set_setV)) (fun _ h=>h) (fun _ _=>trivial),by rintro _ _ ⟨rfl,rfl⟩;exact trivial⟩ ?_
 rintro _ _ ⟨rfl,rfl⟩
 conv=>whnf
 exact .mk (CvL.tup (.cons (CvL.agg (.cons (.refl _) (.cons (.refl _) (.cons (.refl _) (.cons (.refl _) (.cons (.refl _) (.cons (cv_ov rfl rfl rfl rfl rfl (Eq.symm rfl) e36 (cvl_to (.cons (.refl _) (.cons (.refl _) (.cons (cv_lst rfl rfl rfl rfl rfl (Eq.symm rfl)) (.cons (cv_lst rfl rfl rfl rfl rfl (Eq.symm rfl)) (.cons (cv_lst rfl rfl rfl rfl rfl (Eq.symm rfl)) (.cons (cv_lst rfl rfl rfl rfl rfl (Eq.symm rfl)) (.cons (cv_lst rfl rfl rfl rfl rfl (Eq.symm rfl)) (.cons (.refl _) .nil)))))))) (GEnt.av_eq _))) (.cons (.refl _) (.cons (.refl _) (.cons (.refl _) (.cons (.refl _) .nil))))))))))) (.cons (.refl _) .nil)))
noncomputable def t_ref23_Reopen (n:Nat) (a1:GState) (a2:Int):WT Tryz.prog (.b (GState×Int)) :=
 .al 1<|
 .al 2<|
 .jn 1 [1,2,4,5] [1,2] [] (fun _ (a:Bool)=>[(8,boo a)]) (fun _ _=>[]) (.bB 10 (decide (a2<0)) fun x5 =>
 .ifs [10] x5 (.ret (true:Bool)) (.ln 15 GEnt.av a1.Ents<|
 .bB 16 (decide (a2≥(a1.Ents.length:Int))) fun x6 =>
 .ret x6))
  (fun y0_1 =>
 .ifs [8] y0_1 (.ret ((a1:GState),(4:Int))) (.ixE 23 GEnt.av gE GEnt.av_eq a1.Ents a2 fun x7 =>
 .bB 26 (!x7.Closed) fun x8 =>
 .ifs [26] x8 (.ret ((a1:GState),(8:Int))) (.as (a1.Ents.length≤68719476736) inferInstance<|
 .ge 30<|
 .dr [(0,[1]),(1,[1]),(3,[1]),(4,[1]),(6,[3]),(7,[3]),(8,[3]),(11,[3])] [(12,[])] [1,3] [12] [0,1,2,3,4,5,6,7,8,9,10,11,12] (.bo (ix a1.Ents a2) fun x11 =>
 .gv 38<|
 .gv 39<|
 .gv 40<|
 .ixE 41 GEnt.av gE GEnt.av_eq x11.Ahead 0 fun x12 =>
 .gv 43<|
 .bl (a1.Ents.set (Int.toNat a2) x12:List GEnt) fun x13 =>
 .ge 1006012<|
 .as (a1.Sales.length≤68719476736) inferInstance<|
 .ge 46<|
 .jn 1 [2,4,5] [2,3] [] (fun _ (a:(List GSale))=>[]) (fun u10 a=>[.kp 1 [[int a1.Master.Entities,int a1.Master.Periods,lst 1 fI a1.Master.Weights,lst 1 (fL 1 fI) a1.Master.Methods,lst 1 (fL 1 fI) a1.Master.Costs,.sl 3 (u10 3) 0 a1.Ents.length,lst 8 GReceipt.av a1.Receipts,.sl 4 (u10 4) 0 a.length,lst 6 GTransit.av a1.Transits,int a1.Done]],.kp 4 (a.map GSale.av)]) (.lp [1,2,4,5] [2,3] [] (fun _ (a:Int×(List GSale))=>[(6,int a.1)]) (fun u13 a=>[.kp 1 [[int a1.Master.Entities,int a1.Master.Periods,lst 1 fI a1.Master.Weights,lst 1 (fL 1 fI) a1.Master.Methods,lst 1 (fL 1 fI) a1.Master.Costs,.sl 3 (u13 3) 0 a1.Ents.length,lst 8 GReceipt.av a1.Receipts,.sl 4 (u13 4) 0 a.2.length,lst 6 GTransit.av a1.Transits,int a1.Done]],.kp 4 (a.2.map GSale.av)]) n ((0:Int),(a1.Sales:List GSale)) (pw fun y1_1 y1_2 =>
 .bB 52 (decide (y1_1<(y1_2.length:Int))) fun x16 =>
 .ifs [52] x16 (.jn 1 [1,2,4,5,6] [2,3] [] (fun _ (a:(List GSale))=>[]) (fun u15 a=>[.kp 1 [[int a1.Master.Entities,int a1.Master.Periods,lst 1 fI a1.Master.Weights,lst 1 (fL 1 fI) a1.Master.Methods,lst 1 (fL 1 fI) a1.Master.Costs,.sl 3 (u15 3) 0 a1.Ents.length,lst 8 GReceipt.av a1.Receipts,.sl 4 (u15 4) 0 a.length,lst 6 GTransit.av a1.Transits,int a1.Done]],.kp 4 (a.map GSale.av)]) (.bo (ix y1_2 y1_1) fun x17 =>
 .gv 58<|
 .gv 59<|
 .al 5<|
 .jn 0 [1,2,4,5,6] [1,2,3,4] [] (fun _ (a:Bool)=>[(78,boo a)]) (fun _ _=>[]) (.dr [(0,[5]),(1,[5]),(3,[5]),(4,[5]),(9,[5]),(10,[5]),(11,[1]),(12,[1]),(14,[3]),(15,[3]),(16,[3])] [] [1,3,5] [] [0,1,2,3,4,5,6,7,8,9,10,11,12,13,14,15,16,17,18] (.bB 62 (x17.Waits) fun x19 =>
 .ifs [62] x19 (.bB 66 (decide (x17.Entity=a2)) fun x20 =>
 .ifs [66] x20 (.gv 74<|
 .gv 75<|
 .gv 76<|
 .bB 77 (decide (x17.Period=(x12.Now))) fun x21 =>
 .ret x21) (.ret (false:Bool))) (.ret (false:Bool))))
  (fun y2_1 =>
 .ifs [78] y2_1 (.dr [(0,[1]),(1,[1]),(3,[1]),(4,[1]),(6,[4]),(7,[4]),(9,[4]),(10,[4])] [(8,[1]),(11,[])] [1,4] [8,11] [0,1,2,3,4,5,6,7,8,9,10,11] (.gv 85<|
 .gv 86<|
 .bl (y1_2.set (Int.toNat y1_1) ((⟨x17.Entity,x17.Item,x17.Loc,x17.Qty,x17.Back,0,x17.Profit,x17.Period,x17.Waits⟩:GSale):GSale):List GSale) fun x22 =>
 .ge 1013008<|
 .gv 87<|
 .gv 88<|
 .bl (x22.set (Int.toNat y1_1) ((⟨x17.Entity,x17.Item,x17.Loc,x17.Qty,x17.Back,0,0,x17.Period,x17.Waits⟩:GSale):GSale):List GSale) fun x23 =>
 .ge 1013011<|
 .ret x23)) (.ret y1_2)))
  (fun y3_1 =>
 .bI 54 (w64 (y1_1+1)) fun x24 =>
 .brk (x24,y3_1))) (.esc (.ret y1_2))))
  (fun y4_1 =>
 .ret (((⟨a1.Master,x13,a1.Receipts,y4_1,a1.Transits,a1.Done⟩:GState):GState),(0:Int)))))))
def d_ref23_Reopen (n:Nat) (a1:GState) (a2:Int):Option (GState×Int):=(t_ref23_Reopen n a1 a2).run
theorem d_ref23_Reopen_c {n:Nat} {a1:GState} {a2:Int} {r:GState×Int} (h0:d_ref23_Reopen n a1 a2=some r):PP Tryz.prog 63 [.agg (GState.av a1),int a2] (fun y=>y=.tup [.agg (GState.av r.1),int r.2]):=by
 refine wt_pp mixed tbk (fun (r:GState×Int)=>.tup [.agg (GState.av r.1),int r.2]) h0 Tryz.func63 (fun r=>.tup (pvl2 ((fun (a:GState)=>PV.agg (GState.pvc a)) (r.1)) (pvI (r.2)))) 100000 ?_
 intro v3
 intro v4
 conv=>whnf
 refine .mk ?_ ?_
 conv=>whnf
 refine .mk fun x5=>?_
 refine .mk .mk ?_
 refine .mk ?_
 conv=>whnf
 refine .mk fun x6=>?_
 exact .mk
 intro _ _
 refine .mk .mk ?_
 conv=>whnf
 refine .mk fun x7 e7=>?_
 conv=>whnf
 refine .mk fun x8=>?_
 refine .mk .mk ?_
 conv=>whnf
 refine .mk fun p9=>?_
 conv=>whnf
 refine .mk _ ⟨fun _=>yl_app0T (g:=GEnt.av) (m:=a1.Ents) 3 rfl Tryz.underlying26 bz39 by39 rfl rfl rfl rfl (.refl _) GEnt.one p9,fun _ _ _=>trivial⟩ ?_
 rintro _ _ ⟨v10,rfl,rfl⟩
 refine .mk ?_
 conv=>whnf
 refine .mk fun x11 e11=>?_
 conv=>whnf
 refine .mk _ (fun H hH _=>yv_ixO rfl Tryz.underlying26 sh39 rfl rfl ((hH _ (by decide)).trans rfl) rfl rfl (Eq.symm rfl) (List.length_map _) e11) ?_
 conv=>whnf
 refine .mk _ (fun H hH _=>yv_fieldAddr rfl fo39_7 rfl (.pt ((hH _ (by decide)).trans rfl) rfl (ix_get' e11 (GEnt.av_eq _))) (.pt _ _ _ _ _)) ?_
 conv=>whnf
 refine .mk _ (fun H hH _=>yv_load rfl sh26 rfl (.pt ((hH _ (by decide)).trans rfl) rfl (ix_get' e11 (GEnt.av_eq _))) rfl) ?_
 conv=>whnf
 refine .mk fun x12 e12=>?_
 conv=>whnf
 refine .mk _ (fun H hH _=>yv_ixO rfl Tryz.underlying26 sh39 rfl rfl ((hH _ (by decide)).trans rfl) rfl rfl (Eq.symm rfl) (List.length_map _) e11) ?_
 conv=>whnf
 refine .mk fun x13 e13=>?_
 have fx13:=ix_set e11 e13;have lx13:=len_setV e13 (rfl:a1.Ents.length=a1.Ents.length)
 conv=>whnf
 refine .mk _ ⟨fun _=>Yield.weak (yl_ob (ob':=(⟨39,8,true,true,_,x13.map GEnt.av⟩:AObj)) (yl_store rfl sh39 rfl rfl rfl rfl rfl (ix_get' e11 (GEnt.av_eq _)) rfl rfl rfl) (ob_eq (map_setR e13 (GEnt.av_eq _)))) (fun _ h=>h) (fun _ _=>trivial),by rintro _ _ ⟨rfl,rfl⟩;exact trivial⟩ ?_
 rintro _ _ ⟨rfl,rfl⟩
 conv=>whnf
 refine .mk fun p14=>?_
 conv=>whnf
 refine .mk _ ⟨fun _=>yl_app0T (g:=GSale.av) (m:=a1.Sales) 4 rfl Tryz.underlying28 bz88 by88 rfl rfl rfl rfl (.refl _) (fun _=>rfl) p14,fun _ _ _=>trivial⟩ ?_
 rintro _ _ ⟨v15,rfl,rfl⟩
 conv=>whnf
 refine .mk ?_ ?_
 refine .mk ?_
 rintro ⟨y1_1,y1_2⟩ _
 conv=>whnf
 refine .mk fun x16=>?_
 conv=>whnf
 refine .mk ?_ ?_
 conv=>whnf
 refine .mk ?_ ?_
 conv=>whnf
 refine .mk fun x17 e17=>?_
 conv=>whnf
 refine .mk _ (agr (yv_ixO rfl Tryz.underlying28 sh88 rfl rfl rfl rfl rfl (Eq.symm rfl) (List.length_map _) e17)) ?_
 conv=>whnf
 refine .mk _ (agr (yv_load rfl sh88 rfl (.pt rfl rfl (ix_get e17)) rfl)) ?_
 intro v18
 conv=>whnf
 refine .mk ?_ ?_
 refine .mk ?_
 conv=>whnf
 refine .mk fun x19=>?_
 conv=>whnf
 refine .mk ?_ ?_
 conv=>whnf
 refine .mk fun x20=>?_
 conv=>whnf
 refine .mk ?_ ?_
 conv=>whnf
 refine .mk _ (fun H hH _=>yv_ixO rfl Tryz.underlying26 sh39 rfl rfl ((hH _ (by decide)).trans rfl) rfl rfl (Eq.symm lx13) (List.length_map _) fx13) ?_
 conv=>whnf
 refine .mk _ (fun H hH _=>yv_fieldAddr rfl fo39_0 rfl (.pt ((hH _ (by decide)).trans rfl) rfl (ix_get' fx13 (GEnt.av_eq _))) (.pt _ _ _ _ _)) ?_
 conv=>whnf
 refine .mk _ (fun H hH _=>yv_load rfl sh3 rfl (.pt ((hH _ (by decide)).trans rfl) rfl (ix_get' fx13 (GEnt.av_eq _))) rfl) ?_
 conv=>whnf
 refine .mk fun x21=>?_
 exact .mk
 conv=>whnf
 exact .mk
 exact .mk
 intro _ _
 conv=>whnf
 refine .mk ?_ ?_
 refine .mk ?_
 conv=>whnf
 refine .mk _ (fun H hH _=>yv_ixO rfl Tryz.underlying28 sh88 rfl rfl ((hH _ (by decide)).trans rfl) rfl rfl (Eq.symm rfl) (List.length_map _) e17) ?_
 conv=>whnf
 refine .mk _ (fun H hH _=>yv_fieldAddr rfl fo88_5 rfl (.pt ((hH _ (by decide)).trans rfl) rfl (ix_get e17)) (.pt _ _ _ _ _)) ?_
 conv=>whnf
 refine .mk fun x22 e22=>?_
 have fx22:=ix_set e17 e22;have lx22:=len_setV e22 (rfl:y1_2.length=y1_2.length)
 conv=>whnf
 refine .mk _ ⟨fun _=>Yield.weak (yl_ob (ob':=(⟨88,9,true,true,_,x22.map GSale.av⟩:AObj)) (yl_store rfl sh3 rfl rfl rfl rfl rfl (ix_get e17) rfl rfl rfl) (ob_eq (map_setV e22))) (fun _ h=>h) (fun _ _=>trivial),by rintro _ _ ⟨rfl,rfl⟩;exact ⟨rfl,trivial⟩⟩ ?_
 rintro _ _ ⟨rfl,rfl⟩
 conv=>whnf
 refine .mk _ (fun H hH _=>yv_ixO rfl Tryz.underlying28 sh88 rfl rfl ((hH _ (by decide)).trans rfl) rfl rfl (Eq.symm lx22) (List.length_map _) fx22) ?_
 conv=>whnf
 refine .mk _ (fun H hH _=>yv_fieldAddr rfl fo88_6 rfl (.pt ((hH _ (by decide)).trans rfl) rfl (ix_get fx22)) (.pt _ _ _ _ _)) ?_
 conv=>whnf
 refine .mk fun x23 e23=>?_
 have fx23:=ix_set fx22 e23;have lx23:=len_setV e23 lx22
 conv=>whnf
 refine .mk _ ⟨fun _=>Yield.weak (yl_ob (ob':=(⟨88,9,true,true,_,x23.map GSale.av⟩:AObj)) (yl_store rfl sh3 rfl rfl rfl rfl rfl (ix_get fx22) rfl rfl rfl) (ob_eq (map_setV e23))) (fun _ h=>h) (fun _ _=>trivial),by rintro _ _ ⟨rfl,rfl⟩;exact trivial⟩ ?_
 rintro _ _ ⟨rfl,rfl⟩
 conv=>whnf
 exact .mk ⟨⟨⟨_,rfl,(.refl _)⟩,⟨_,rfl,(.refl _)⟩,⟨_,rfl,(.refl _)⟩,⟨_,rfl,(.refl _)⟩,⟨_,rfl,(.refl _)⟩,trivial⟩,⟨⟨_,rfl,⟨rfl,(.cons (.cons (.refl _) (.cons (.refl _) (.cons (.refl _) (.cons (.refl _) (.cons (.refl _) (.cons (.refl _) (.cons (.refl _) (.cons (cv_slen (Eq.symm lx23)) (.cons (.refl _) (.cons (.refl _) .nil)))))))))) .nil)⟩⟩,⟨_,rfl,(.refl _)⟩,⟨_,rfl,(.refl _)⟩,⟨_,rfl,(.refl _)⟩,trivial⟩⟩
 exact .mk
 intro _ _
 conv=>whnf
 refine .mk fun x24=>?_
 exact .mk
 conv=>whnf
 exact .mk
 intro _ _
 conv=>whnf
 exact .mk (CvL.tup (.cons (CvL.agg (.cons (.refl _) (.cons (.refl _) (.cons (.refl _) (.cons (.refl _) (.cons (.refl _) (.cons (cv_lst rfl rfl rfl rfl rfl (Eq.symm lx13)) (.cons (.refl _) (.cons (cv_lst rfl rfl rfl rfl rfl (Eq.symm rfl)) (.cons (.refl _) (.cons (.refl _) .nil))))))))))) (.cons (.refl _) .nil)))
noncomputable def t_ref23_Next (n:Nat) (a1:GState) (a2:Int):WT Tryz.prog (.b (GState×Int)) :=
 .al 1<|
 .al 2<|
 .jn 1 [1,2,4,5] [1,2] [] (fun _ (a:Bool)=>[(9,boo a)]) (fun _ _=>[]) (.bB 11 (decide (a2<0)) fun x5 =>
 .ifs [11] x5 (.ret (true:Bool)) (.ln 16 GEnt.av a1.Ents<|
 .bB 17 (decide (a2≥(a1.Ents.length:Int))) fun x6 =>
 .ret x6))
  (fun y0_1 =>
 .ifs [9] y0_1 (.ret ((a1:GState),(4:Int))) (.ixE 24 GEnt.av gE GEnt.av_eq a1.Ents a2 fun x7 =>
 .bB 27 (!x7.Closed) fun x8 =>
 .ifs [27] x8 (.ret ((a1:GState),(8:Int))) (.dr [(0,[1]),(1,[1]),(6,[1]),(7,[1]),(8,[1])] [] [1] [] [0,1,2,3,4,5,6,7,8,9,10] (.ixE 33 GEnt.av gE GEnt.av_eq a1.Ents a2 fun x9 =>
 .bB 39 (decide (x9.Now≥a1.Master.Periods)) fun x10 =>
 .ifs [39] x10 (.ret ((a1:GState),(11:Int))) (.inl 43 cal10 Tryz.func10 [1,2] [5,6,7,8,9,10] (fun u4 (a:Int×Bool×(List GEnt)×(List GPool)×(List Int)×(List GRoll)×(List Int)×(List Int))=>.agg [int a1.Master.Entities,int a1.Master.Periods,lst 1 fI a1.Master.Weights,lst 1 (fL 1 fI) a1.Master.Methods,lst 1 (fL 1 fI) a1.Master.Costs,.sl 5 (u4 5) 0 a1.Ents.length,lst 8 GReceipt.av a1.Receipts,lst 9 GSale.av a1.Sales,lst 6 GTransit.av a1.Transits,int a1.Done]) (fun u4 a=>[.nw 5 39 8 ((a1.Ents.map GEnt.av).set (Int.toNat a2) [int a.1,boo a.2.1,.sl 6 (u4 6) 0 a.2.2.2.1.length,.sl 7 (u4 7) 0 a.2.2.2.2.1.length,.sl 8 (u4 8) 0 a.2.2.2.2.2.1.length,.sl 9 (u4 9) 0 a.2.2.2.2.2.2.1.length,.sl 10 (u4 10) 0 a.2.2.2.2.2.2.2.length,lst 8 GEnt.av a.2.2.1]),.nw 6 57 4 (a.2.2.2.1.map GPool.av),.nw 7 3 1 (a.2.2.2.2.1.map fI),.nw 8 83 11 (a.2.2.2.2.2.1.map GRoll.av),.nw 9 3 1 (a.2.2.2.2.2.2.1.map fI),.nw 10 3 1 (a.2.2.2.2.2.2.2.map fI)]) (.al 3<|
 .al 4<|
 .as (a1.Ents.length≤68719476736) inferInstance<|
 .ge 8<|
 .bo (ix a1.Ents a2) fun x15 =>
 .gv 13<|
 .dr [(4,[5]),(5,[5]),(6,[5]),(9,[5]),(10,[5]),(11,[5]),(14,[5]),(15,[5]),(16,[5]),(18,[5]),(19,[5]),(21,[5]),(22,[5]),(24,[5]),(25,[5])] [(17,[]),(20,[]),(23,[]),(26,[])] [5] [7,12,17,20,23,26] [0,1,2,3,4,5,6,8,9,10,11,13,14,15,16,7,12,17,18,19,20,21,22,23,24,25,26] (.gv 18<|
 .gv 19<|
 .gv 20<|
 .gv 23<|
 .gv 24<|
 .gv 25<|
 .gv 28<|
 .gv 29<|
 .gv 30<|
 .as (x15.Pools.length≤68719476736) inferInstance<|
 .ge 21<|
 .as (x15.Bal.length≤68719476736) inferInstance<|
 .ge 26<|
 .as (x15.Rolls.length≤68719476736) inferInstance<|
 .ge 31<|
 .gv 32<|
 .gv 33<|
 .ge 1003020<|
 .gv 34<|
 .gv 35<|
 .ge 1003023<|
 .gv 36<|
 .gv 37<|
 .ge 1003026<|
 .dr [(3,[5]),(4,[5]),(5,[5]),(8,[5]),(9,[5]),(10,[5]),(12,[5]),(13,[5]),(15,[5]),(16,[5])] [(11,[]),(14,[]),(17,[])] [5] [6,11,14,17] [0,1,2,3,4,5,7,8,9,10,6,11,12,13,14,15,16,17] (.gv 41<|
 .gv 42<|
 .gv 43<|
 .gv 46<|
 .gv 47<|
 .gv 48<|
 .as (x15.Prices.length≤68719476736) inferInstance<|
 .ge 44<|
 .as (x15.Down.length≤68719476736) inferInstance<|
 .ge 49<|
 .gv 50<|
 .gv 51<|
 .ge 1004014<|
 .gv 52<|
 .gv 53<|
 .ge 1004017<|
 .ret ((x15.Now:Int),(x15.Closed:Bool),(x15.Ahead:List GEnt),(x15.Pools:List GPool),(x15.Bal:List Int),(x15.Rolls:List GRoll),(x15.Prices:List Int),(x15.Down:List Int))))) (pw fun y1_2 q0=>(pw fun y1_3 q1=>(pw fun y1_9 q2=>(pw fun y1_10 q3=>(pw fun y1_11 q4=>(pw fun y1_12 q5=>(pw fun y1_13 y1_14 =>
 .bo (ix a1.Ents a2) fun x26 =>
 .al 11<|
 .gv 47<|
 .gv 52<|
 .gv 53<|
 .gv 54<|
 .bI 55 (w64 (y1_2+1)) fun x28 =>
 .gv 56<|
 .gv 57<|
 .ge 1009010<|
 .gv 58<|
 .gv 59<|
 .ge 1009013<|
 .gv 60<|
 .gv 61<|
 .ge 1009016<|
 .jn 1 [4,5,6] [2,6,7,9,10,11] [] (fun _ (a:(List GRoll))=>[]) (fun u6 a=>[.kp 5 ((a1.Ents.map GEnt.av).set (Int.toNat a2) [int x28,boo false,.sl 6 (u6 6) 0 y1_10.length,.sl 7 (u6 7) 0 y1_11.length,.sl 8 (u6 8) 0 a.length,.sl 9 (u6 9) 0 y1_13.length,.sl 10 (u6 10) 0 y1_14.length,.sc (.slice none 0 0)]),.kp 8 (a.map GRoll.av)]) (.lp [1,2,4,5,6,7] [1,2,6,7,9,10,11] [] (fun _ (a:Int×(List GRoll))=>[(8,int a.1)]) (fun u7 a=>[.kp 5 ((a1.Ents.map GEnt.av).set (Int.toNat a2) [int x28,boo false,.sl 6 (u7 6) 0 y1_10.length,.sl 7 (u7 7) 0 y1_11.length,.sl 8 (u7 8) 0 a.2.length,.sl 9 (u7 9) 0 y1_13.length,.sl 10 (u7 10) 0 y1_14.length,.sc (.slice none 0 0)]),.kp 8 (a.2.map GRoll.av)]) n ((0:Int),y1_12) (pw fun y2_1 y2_2 =>
 .gv 64<|
 .gv 65<|
 .gv 66<|
 .bB 68 (decide (y2_1<(y2_2.length:Int))) fun x29 =>
 .ifs [68] x29 (.dr [(1,[5]),(2,[5]),(3,[5]),(5,[1]),(11,[8])] [(12,[])] [1,5,8] [12] [0,1,2,3,4,5,6,7,8,9,10,11,12] (.gv 72<|
 .gv 73<|
 .gv 74<|
 .cl 79 (d_ref14_Worth n a1 a2 y2_1) cal103 d_ref14_Worth_c fun x30 =>
 .bo (ix y2_2 y2_1) fun x31 =>
 .gv 82<|
 .bl (y2_2.set (Int.toNat y2_1) ((⟨x30.Value,0,0,0,0,0,0,0,0,0,0⟩:GRoll):GRoll):List GRoll) fun x32 =>
 .ge 1013012<|
 .bI 70 (w64 (y2_1+1)) fun x33 =>
 .brk (x33,x32))) (.esc (.ret y2_2))))
  (fun y3_1 =>
 .ret (((⟨a1.Master,(a1.Ents.set (Int.toNat a2) (⟨x28,false,y1_10,y1_11,y3_1,y1_13,y1_14,[]⟩:GEnt)),a1.Receipts,a1.Sales,a1.Transits,a1.Done⟩:GState):GState),(0:Int)))) q5) q4) q3) q2) q1) q0))))))
def d_ref23_Next (n:Nat) (a1:GState) (a2:Int):Option (GState×Int):=(t_ref23_Next n a1 a2).run
theorem d_ref23_Next_c {n:Nat} {a1:GState} {a2:Int} {r:GState×Int} (h0:d_ref23_Next n a1 a2=some r):PP Tryz.prog 64 [.agg (GState.av a1),int a2] (fun y=>y=.tup [.agg (GState.av r.1),int r.2]):=by
 refine wt_pp mixed tbk (fun (r:GState×Int)=>.tup [.agg (GState.av r.1),int r.2]) h0 Tryz.func64 (fun r=>.tup (pvl2 ((fun (a:GState)=>PV.agg (GState.pvc a)) (r.1)) (pvI (r.2)))) 100000 ?_
 intro v3
 intro v4
 conv=>whnf
 refine .mk ?_ ?_
 conv=>whnf
 refine .mk fun x5=>?_
 refine .mk .mk ?_
 refine .mk ?_
 conv=>whnf
 refine .mk fun x6=>?_
 exact .mk
 intro _ _
 refine .mk .mk ?_
 conv=>whnf
 refine .mk fun x7 e7=>?_
 conv=>whnf
 refine .mk fun x8=>?_
 refine .mk .mk ?_
 refine .mk ?_
 conv=>whnf
 refine .mk fun x9 e9=>?_
 conv=>whnf
 refine .mk fun x10=>?_
 refine .mk .mk ?_
 conv=>whnf
 refine .mk ?_ ?_
 intro v11
 intro v12
 conv=>whnf
 refine .mk fun p13=>?_
 conv=>whnf
 refine .mk _ ⟨fun _=>yl_app0T (g:=GEnt.av) (m:=a1.Ents) 5 rfl Tryz.underlying26 bz39 by39 rfl rfl rfl rfl (.refl _) GEnt.one p13,fun _ _ _=>trivial⟩ ?_
 rintro _ _ ⟨v14,rfl,rfl⟩
 conv=>whnf
 refine .mk fun x15 e15=>?_
 conv=>whnf
 refine .mk _ (agr (yv_ixO rfl Tryz.underlying26 sh39 rfl rfl rfl rfl rfl (Eq.symm rfl) (List.length_map _) e15)) ?_
 refine .mk ?_
 conv=>whnf
 refine .mk _ (fun H hH _=>yv_nilCheck rfl rfl (.pt ((hH _ (by decide)).trans rfl) rfl (ix_get' e15 (GEnt.av_eq _)))) ?_
 conv=>whnf
 refine .mk _ (fun H hH _=>yv_fieldAddr rfl fo39_2 rfl (.pt ((hH _ (by decide)).trans rfl) rfl (ix_get' e15 (GEnt.av_eq _))) (.pt _ _ _ _ _)) ?_
 conv=>whnf
 refine .mk _ (fun H hH _=>yv_load rfl sh36 rfl (.pt ((hH _ (by decide)).trans rfl) rfl (ix_get' e15 (GEnt.av_eq _))) rfl) ?_
 conv=>whnf
 refine .mk _ (fun H hH _=>yv_nilCheck rfl rfl (.pt ((hH _ (by decide)).trans rfl) rfl (ix_get' e15 (GEnt.av_eq _)))) ?_
 conv=>whnf
 refine .mk _ (fun H hH _=>yv_fieldAddr rfl fo39_3 rfl (.pt ((hH _ (by decide)).trans rfl) rfl (ix_get' e15 (GEnt.av_eq _))) (.pt _ _ _ _ _)) ?_
 conv=>whnf
 refine .mk _ (fun H hH _=>yv_load rfl sh22 rfl (.pt ((hH _ (by decide)).trans rfl) rfl (ix_get' e15 (GEnt.av_eq _))) rfl) ?_
 conv=>whnf
 refine .mk _ (fun H hH _=>yv_nilCheck rfl rfl (.pt ((hH _ (by decide)).trans rfl) rfl (ix_get' e15 (GEnt.av_eq _)))) ?_
 conv=>whnf
 refine .mk _ (fun H hH _=>yv_fieldAddr rfl fo39_4 rfl (.pt ((hH _ (by decide)).trans rfl) rfl (ix_get' e15 (GEnt.av_eq _))) (.pt _ _ _ _ _)) ?_
 conv=>whnf
 refine .mk _ (fun H hH _=>yv_load rfl sh37 rfl (.pt ((hH _ (by decide)).trans rfl) rfl (ix_get' e15 (GEnt.av_eq _))) rfl) ?_
 conv=>whnf
 refine .mk fun p16=>?_
 conv=>whnf
 refine .mk _ ⟨fun _=>yl_app0T (g:=GPool.av) (m:=x15.Pools) 6 rfl Tryz.underlying36 bz57 by57 rfl rfl rfl rfl (.refl _) (fun _=>rfl) p16,by rintro _ _ ⟨v17,rfl,rfl⟩;exact ⟨rfl,trivial⟩⟩ ?_
 rintro _ _ ⟨v17,rfl,rfl⟩
 conv=>whnf
 refine .mk fun p18=>?_
 conv=>whnf
 refine .mk _ ⟨fun _=>yl_app0T (g:=fI) (m:=x15.Bal) 7 rfl Tryz.underlying22 bz3 by3 rfl rfl rfl rfl (.refl _) (fun _=>rfl) p18,by rintro _ _ ⟨v19,rfl,rfl⟩;exact ⟨rfl,trivial⟩⟩ ?_
 rintro _ _ ⟨v19,rfl,rfl⟩
 conv=>whnf
 refine .mk fun p20=>?_
 conv=>whnf
 refine .mk _ ⟨fun _=>yl_app0T (g:=GRoll.av) (m:=x15.Rolls) 8 rfl Tryz.underlying37 bz83 by83 rfl rfl rfl rfl (.refl _) (fun _=>rfl) p20,by rintro _ _ ⟨v21,rfl,rfl⟩;exact trivial⟩ ?_
 rintro _ _ ⟨v21,rfl,rfl⟩
 conv=>whnf
 refine .mk _ (fun H hH _=>yv_nilCheck rfl rfl (.pt ((hH _ (by decide)).trans rfl) rfl (ix_get' e15 (GEnt.av_eq _)))) ?_
 conv=>whnf
 refine .mk _ (fun H hH _=>yv_fieldAddr rfl fo39_2 rfl (.pt ((hH _ (by decide)).trans rfl) rfl (ix_get' e15 (GEnt.av_eq _))) (.pt _ _ _ _ _)) ?_
 conv=>whnf
 refine .mk _ ⟨fun _=>Yield.weak (yl_ob (ob':=(⟨39,8,true,true,_,(a1.Ents.map GEnt.av).set (Int.toNat a2) [int x15.Now,boo x15.Closed,.sl 6 v17 0 x15.Pools.length,lst 1 fI x15.Bal,lst 11 GRoll.av x15.Rolls,lst 1 fI x15.Prices,lst 1 fI x15.Down,lst 8 GEnt.av x15.Ahead]⟩:AObj)) (yl_store rfl sh36 rfl rfl rfl rfl rfl (ix_get' e15 (GEnt.av_eq _)) rfl rfl rfl) (ob_eq rfl)) (fun _ h=>h) (fun _ _=>trivial),by rintro _ _ ⟨rfl,rfl⟩;exact trivial⟩ ?_
 rintro _ _ ⟨rfl,rfl⟩
 conv=>whnf
 refine .mk _ (fun H hH _=>yv_nilCheck rfl rfl (.pt ((hH _ (by decide)).trans rfl) rfl (set_get e15))) ?_
 conv=>whnf
 refine .mk _ (fun H hH _=>yv_fieldAddr rfl fo39_3 rfl (.pt ((hH _ (by decide)).trans rfl) rfl (set_get e15)) (.pt _ _ _ _ _)) ?_
 conv=>whnf
 refine .mk _ ⟨fun _=>Yield.weak (yl_ob (ob':=(⟨39,8,true,true,_,(a1.Ents.map GEnt.av).set (Int.toNat a2) [int x15.Now,boo x15.Closed,.sl 6 v17 0 x15.Pools.length,.sl 7 v19 0 x15.Bal.length,lst 11 GRoll.av x15.Rolls,lst 1 fI x15.Prices,lst 1 fI x15.Down,lst 8 GEnt.av x15.Ahead]⟩:AObj)) (yl_store rfl sh22 rfl rfl rfl rfl rfl (set_get e15) rfl rfl rfl) (ob_eq set_setV)) (fun _ h=>h) (fun _ _=>trivial),by rintro _ _ ⟨rfl,rfl⟩;exact trivial⟩ ?_
 rintro _ _ ⟨rfl,rfl⟩
 conv=>whnf
 refine .mk _ (fun H hH _=>yv_nilCheck rfl rfl (.pt ((hH _ (by decide)).trans rfl) rfl (set_get e15))) ?_
 conv=>whnf
 refine .mk _ (fun H hH _=>yv_fieldAddr rfl fo39_4 rfl (.pt ((hH _ (by decide)).trans rfl) rfl (set_get e15)) (.pt _ _ _ _ _)) ?_
 conv=>whnf
 refine .mk _ ⟨fun _=>Yield.weak (yl_ob (ob':=(⟨39,8,true,true,_,(a1.Ents.map GEnt.av).set (Int.toNat a2) [int x15.Now,boo x15.Closed,.sl 6 v17 0 x15.Pools.length,.sl 7 v19 0 x15.Bal.length,.sl 8 v21 0 x15.Rolls.length,lst 1 fI x15.Prices,lst 1 fI x15.Down,lst 8 GEnt.av x15.Ahead]⟩:AObj)) (yl_store rfl sh37 rfl rfl rfl rfl rfl (set_get e15) rfl rfl rfl) (ob_eq set_setV)) (fun _ h=>h) (fun _ _=>trivial),by rintro _ _ ⟨rfl,rfl⟩;exact trivial⟩ ?_
 rintro _ _ ⟨rfl,rfl⟩
 refine .mk ?_
 conv=>whnf
 refine .mk _ (fun H hH _=>yv_nilCheck rfl rfl (.pt ((hH _ (by decide)).trans rfl) rfl (set_get e15))) ?_
 conv=>whnf
 refine .mk _ (fun H hH _=>yv_fieldAddr rfl fo39_5 rfl (.pt ((hH _ (by decide)).trans rfl) rfl (set_get e15)) (.pt _ _ _ _ _)) ?_
 conv=>whnf
 refine .mk _ (fun H hH _=>yv_load rfl sh22 rfl (.pt ((hH _ (by decide)).trans rfl) rfl (set_get e15)) rfl) ?_
 conv=>whnf
 refine .mk _ (fun H hH _=>yv_nilCheck rfl rfl (.pt ((hH _ (by decide)).trans rfl) rfl (set_get e15))) ?_
 conv=>whnf
 refine .mk _ (fun H hH _=>yv_fieldAddr rfl fo39_6 rfl (.pt ((hH _ (by decide)).trans rfl) rfl (set_get e15)) (.pt _ _ _ _ _)) ?_
 conv=>whnf
 refine .mk _ (fun H hH _=>yv_load rfl sh22 rfl (.pt ((hH _ (by decide)).trans rfl) rfl (set_get e15)) rfl) ?_
 conv=>whnf
 refine .mk fun p22=>?_
 conv=>whnf
 refine .mk _ ⟨fun _=>yl_app0T (g:=fI) (m:=x15.Prices) 9 rfl Tryz.underlying22 bz3 by3 rfl rfl rfl rfl (.refl _) (fun _=>rfl) p22,by rintro _ _ ⟨v23,rfl,rfl⟩;exact ⟨rfl,trivial⟩⟩ ?_
 rintro _ _ ⟨v23,rfl,rfl⟩
 conv=>whnf
 refine .mk fun p24=>?_
 conv=>whnf
 refine .mk _ ⟨fun _=>yl_app0T (g:=fI) (m:=x15.Down) 10 rfl Tryz.underlying22 bz3 by3 rfl rfl rfl rfl (.refl _) (fun _=>rfl) p24,by rintro _ _ ⟨v25,rfl,rfl⟩;exact trivial⟩ ?_
 rintro _ _ ⟨v25,rfl,rfl⟩
 conv=>whnf
 refine .mk _ (fun H hH _=>yv_nilCheck rfl rfl (.pt ((hH _ (by decide)).trans rfl) rfl (set_get e15))) ?_
 conv=>whnf
 refine .mk _ (fun H hH _=>yv_fieldAddr rfl fo39_5 rfl (.pt ((hH _ (by decide)).trans rfl) rfl (set_get e15)) (.pt _ _ _ _ _)) ?_
 conv=>whnf
 refine .mk _ ⟨fun _=>Yield.weak (yl_ob (ob':=(⟨39,8,true,true,_,(a1.Ents.map GEnt.av).set (Int.toNat a2) [int x15.Now,boo x15.Closed,.sl 6 v17 0 x15.Pools.length,.sl 7 v19 0 x15.Bal.length,.sl 8 v21 0 x15.Rolls.length,.sl 9 v23 0 x15.Prices.length,lst 1 fI x15.Down,lst 8 GEnt.av x15.Ahead]⟩:AObj)) (yl_store rfl sh22 rfl rfl rfl rfl rfl (set_get e15) rfl rfl rfl) (ob_eq set_setV)) (fun _ h=>h) (fun _ _=>trivial),by rintro _ _ ⟨rfl,rfl⟩;exact trivial⟩ ?_
 rintro _ _ ⟨rfl,rfl⟩
 conv=>whnf
 refine .mk _ (fun H hH _=>yv_nilCheck rfl rfl (.pt ((hH _ (by decide)).trans rfl) rfl (set_get e15))) ?_
 conv=>whnf
 refine .mk _ (fun H hH _=>yv_fieldAddr rfl fo39_6 rfl (.pt ((hH _ (by decide)).trans rfl) rfl (set_get e15)) (.pt _ _ _ _ _)) ?_
 conv=>whnf
 refine .mk _ ⟨fun _=>Yield.weak (yl_ob (ob':=(⟨39,8,true,true,_,(a1.Ents.map GEnt.av).set (Int.toNat a2) [int x15.Now,boo x15.Closed,.sl 6 v17 0 x15.Pools.length,.sl 7 v19 0 x15.Bal.length,.sl 8 v21 0 x15.Rolls.length,.sl 9 v23 0 x15.Prices.length,.sl 10 v25 0 x15.Down.length,lst 8 GEnt.av x15.Ahead]⟩:AObj)) (yl_store rfl sh22 rfl rfl rfl rfl rfl (set_get e15) rfl rfl rfl) (ob_eq set_setV)) (fun _ h=>h) (fun _ _=>trivial),by rintro _ _ ⟨rfl,rfl⟩;exact trivial⟩ ?_
 rintro _ _ ⟨rfl,rfl⟩
 exact .mk
 rintro ⟨y1_2,y1_3,y1_9,y1_10,y1_11,y1_12,y1_13,y1_14⟩ u4
 conv=>whnf
 refine .mk trivial ?_
 conv=>whnf
 refine .mk fun x26 e26=>?_
 intro v27
 conv=>whnf
 refine .mk _ (agr (yv_ixO rfl Tryz.underlying26 sh39 rfl rfl rfl rfl rfl (Eq.symm rfl) len_ov e26)) ?_
 conv=>whnf
 refine .mk _ (agr (yv_nilCheck rfl rfl (.pt rfl rfl (set_get e26)))) ?_
 conv=>whnf
 refine .mk _ (agr (yv_fieldAddr rfl fo39_0 rfl (.pt rfl rfl (set_get e26)) (.pt _ _ _ _ _))) ?_
 conv=>whnf
 refine .mk _ (agr (yv_load rfl sh3 rfl (.pt rfl rfl (set_get e26)) rfl)) ?_
 conv=>whnf
 refine .mk fun x28=>?_
 conv=>whnf
 refine .mk _ (agr (yv_nilCheck rfl rfl (.pt rfl rfl (set_get e26)))) ?_
 conv=>whnf
 refine .mk _ (agr (yv_fieldAddr rfl fo39_0 rfl (.pt rfl rfl (set_get e26)) (.pt _ _ _ _ _))) ?_
 conv=>whnf
 refine .mk _ ⟨fun _=>Yield.weak (yl_ob (ob':=(⟨39,8,true,true,_,(a1.Ents.map GEnt.av).set (Int.toNat a2) [int x28,boo y1_3,.sl 6 (u4 6) 0 y1_10.length,.sl 7 (u4 7) 0 y1_11.length,.sl 8 (u4 8) 0 y1_12.length,.sl 9 (u4 9) 0 y1_13.length,.sl 10 (u4 10) 0 y1_14.length,lst 8 GEnt.av y1_9]⟩:AObj)) (yl_store rfl sh3 rfl rfl rfl rfl rfl (set_get e26) rfl rfl rfl) (ob_eq set_setV)) (fun _ h=>h) (fun _ _=>trivial),fun _ _ _=>trivial⟩ ?_
 rintro _ _ ⟨rfl,rfl⟩
 conv=>whnf
 refine .mk _ (agr (yv_nilCheck rfl rfl (.pt rfl rfl (set_get e26)))) ?_
 conv=>whnf
 refine .mk _ (agr (yv_fieldAddr rfl fo39_1 rfl (.pt rfl rfl (set_get e26)) (.pt _ _ _ _ _))) ?_
 conv=>whnf
 refine .mk _ ⟨fun _=>Yield.weak (yl_ob (ob':=(⟨39,8,true,true,_,(a1.Ents.map GEnt.av).set (Int.toNat a2) [int x28,boo false,.sl 6 (u4 6) 0 y1_10.length,.sl 7 (u4 7) 0 y1_11.length,.sl 8 (u4 8) 0 y1_12.length,.sl 9 (u4 9) 0 y1_13.length,.sl 10 (u4 10) 0 y1_14.length,lst 8 GEnt.av y1_9]⟩:AObj)) (yl_store rfl sh4 rfl rfl rfl rfl rfl (set_get e26) rfl rfl rfl) (ob_eq set_setV)) (fun _ h=>h) (fun _ _=>trivial),fun _ _ _=>trivial⟩ ?_
 rintro _ _ ⟨rfl,rfl⟩
 conv=>whnf
 refine .mk _ (agr (yv_nilCheck rfl rfl (.pt rfl rfl (set_get e26)))) ?_
 conv=>whnf
 refine .mk _ (agr (yv_fieldAddr rfl fo39_7 rfl (.pt rfl rfl (set_get e26)) (.pt _ _ _ _ _))) ?_
 conv=>whnf
 refine .mk _ ⟨fun _=>Yield.weak (yl_ob (ob':=(⟨39,8,true,true,_,(a1.Ents.map GEnt.av).set (Int.toNat a2) [int x28,boo false,.sl 6 (u4 6) 0 y1_10.length,.sl 7 (u4 7) 0 y1_11.length,.sl 8 (u4 8) 0 y1_12.length,.sl 9 (u4 9) 0 y1_13.length,.sl 10 (u4 10) 0 y1_14.length,.sc (.slice none 0 0)]⟩:AObj)) (yl_store rfl sh26 rfl rfl rfl rfl rfl (set_get e26) rfl rfl rfl) (ob_eq set_setV)) (fun _ h=>h) (fun _ _=>trivial),fun _ _ _=>trivial⟩ ?_
 rintro _ _ ⟨rfl,rfl⟩
 conv=>whnf
 refine .mk ?_ ?_
 refine .mk ?_
 rintro ⟨y2_1,y2_2⟩ _
 conv=>whnf
 refine .mk _ (agr (yv_nilCheck rfl rfl (.pt rfl rfl (set_get e26)))) ?_
 conv=>whnf
 refine .mk _ (agr (yv_fieldAddr rfl fo39_4 rfl (.pt rfl rfl (set_get e26)) (.pt _ _ _ _ _))) ?_
 conv=>whnf
 refine .mk _ (agr (yv_load rfl sh37 rfl (.pt rfl rfl (set_get e26)) rfl)) ?_
 conv=>whnf
 refine .mk fun x29=>?_
 conv=>whnf
 refine .mk ?_ ?_
 refine .mk ?_
 conv=>whnf
 refine .mk _ (fun H hH _=>yv_nilCheck rfl rfl (.pt ((hH _ (by decide)).trans rfl) rfl (set_get e26))) ?_
 conv=>whnf
 refine .mk _ (fun H hH _=>yv_fieldAddr rfl fo39_4 rfl (.pt ((hH _ (by decide)).trans rfl) rfl (set_get e26)) (.pt _ _ _ _ _)) ?_
 conv=>whnf
 refine .mk _ (fun H hH _=>yv_load rfl sh37 rfl (.pt ((hH _ (by decide)).trans rfl) rfl (set_get e26)) rfl) ?_
 conv=>whnf
 refine .mk fun x30 e30=>?_
 conv=>whnf
 refine .mk fun x31 e31=>?_
 conv=>whnf
 refine .mk _ (fun H hH _=>yv_ixO rfl Tryz.underlying37 sh83 rfl rfl ((hH _ (by decide)).trans rfl) rfl rfl (Eq.symm rfl) (List.length_map _) e31) ?_
 conv=>whnf
 refine .mk fun x32 e32=>?_
 have fx32:=ix_set e31 e32;have lx32:=len_setV e32 (rfl:y2_2.length=y2_2.length)
 conv=>whnf
 refine .mk _ ⟨fun _=>Yield.weak (yl_ob (ob':=(⟨83,11,true,true,_,x32.map GRoll.av⟩:AObj)) (yl_store rfl sh83 rfl rfl rfl rfl rfl (ix_get e31) rfl rfl rfl) (ob_eq (map_setV e32))) (fun _ h=>h) (fun _ _=>trivial),by rintro _ _ ⟨rfl,rfl⟩;exact trivial⟩ ?_
 rintro _ _ ⟨rfl,rfl⟩
 conv=>whnf
 refine .mk fun x33=>?_
 conv=>whnf
 exact .mk ⟨⟨⟨_,rfl,(.refl _)⟩,⟨_,rfl,(.refl _)⟩,⟨_,rfl,(.refl _)⟩,⟨_,rfl,(.refl _)⟩,⟨_,rfl,(.refl _)⟩,⟨_,rfl,(.refl _)⟩,⟨_,rfl,(.refl _)⟩,trivial⟩,⟨⟨_,rfl,⟨rfl,cvll_set (.cons (.refl _) (.cons (.refl _) (.cons (.refl _) (.cons (.refl _) (.cons (cv_slen (Eq.symm lx32)) (.cons (.refl _) (.cons (.refl _) (.cons (.refl _) .nil))))))))⟩⟩,⟨_,rfl,(.refl _)⟩,⟨_,rfl,(.refl _)⟩,⟨_,rfl,(.refl _)⟩,⟨_,rfl,(.refl _)⟩,⟨_,rfl,(.refl _)⟩,⟨_,rfl,(.refl _)⟩,⟨_,rfl,(.refl _)⟩,⟨_,rfl,(.refl _)⟩,trivial⟩⟩
 exact .mk
 intro _ _
 conv=>whnf
 exact .mk (CvL.tup (.cons (CvL.agg (.cons (.refl _) (.cons (.refl _) (.cons (.refl _) (.cons (.refl _) (.cons (.refl _) (.cons (cv_ov rfl rfl rfl rfl rfl (Eq.symm rfl) e26 (cvl_to (.cons (.refl _) (.cons (.refl _) (.cons (cv_lst rfl rfl rfl rfl rfl (Eq.symm rfl)) (.cons (cv_lst rfl rfl rfl rfl rfl (Eq.symm rfl)) (.cons (cv_lst rfl rfl rfl rfl rfl (Eq.symm rfl)) (.cons (cv_lst rfl rfl rfl rfl rfl (Eq.symm rfl)) (.cons (cv_lst rfl rfl rfl rfl rfl (Eq.symm rfl)) (.cons (.nil _) .nil)))))))) (GEnt.av_eq _))) (.cons (.refl _) (.cons (.refl _) (.cons (.refl _) (.cons (.refl _) .nil))))))))))) (.cons (.refl _) .nil)))
noncomputable def t_ref14_Ready (a1:GState) (a2:Int) (a3:Int):WT Tryz.prog (.b (Int)) :=
 .al 1<|
 .cl 11 (d_ref14_there a1 a2 a3) cal183 d_ref14_there_c fun x5 =>
 .bB 12 (!x5) fun x6 =>
 .ifs [12] x6 (.ret ((4:Int))) (.ixE 17 GEnt.av gE GEnt.av_eq a1.Ents a2 fun x7 =>
 .wt 13 <|.ifs [13] x7.Closed (.ret ((7:Int))) (.ret ((0:Int))))
def d_ref14_Ready (a1:GState) (a2:Int) (a3:Int):Option (Int):=(t_ref14_Ready a1 a2 a3).run
theorem d_ref14_Ready_c {a1:GState} {a2:Int} {a3:Int} {r:Int} (h0:d_ref14_Ready a1 a2 a3=some r):PP Tryz.prog 195 [.agg (GState.av a1),int a2,int a3] (fun y=>y=int r):=by
 refine wt_pp mixed tbk (fun (r:Int)=>int r) h0 Tryz.func195 (fun r=>pvI r) 100000 ?_
 intro v4
 conv=>whnf
 refine .mk fun x5 e5=>?_
 conv=>whnf
 refine .mk fun x6=>?_
 refine .mk .mk ?_
 conv=>whnf
 refine .mk fun x7 e7=>?_
 refine .mk .mk ?_
 exact .mk
noncomputable def t_ref09_Swing (n:Nat) (a1:List GLayer):WT Tryz.prog (.b (Int×Int)) :=
 .jnE 3 [2,3] [] [] (fun _ (a:Int)=>[(4,int a)]) (fun _ _=>[]) (.lp [0,2,3] [] [] (fun _ (a:Int×Int)=>[(4,int a.1),(5,int a.2)]) (fun _ _=>[]) n ((0:Int),(0:Int)) (pw fun y0_1 y0_2 =>
 .ln 10 GLayer.av a1<|
 .bB 11 (decide (y0_2<(a1.length:Int))) fun x2 =>
 .ifs [11] x2 (.dr [] [] [] [] [0,1,2,3,4,5,6,7,8,9,10,11,12,13,14,15,16,17,18] (.ix 18 GLayer.av a1 y0_2 fun x3 =>
 .ix 23 GLayer.av a1 y0_2 fun x4 =>
 .bI 26 (w64 (0-x4.Profit)) fun x5 =>
 .bl (if x5>x3.Profit then x5 else x3.Profit:Int) fun x6 =>
 .gv 27<|
 .cl 28 (d_ref01_Add y0_1 x6) cal188 d_ref01_Add_c fun x7 =>
 .jn 0 [0,2,3,4,5,6] [] [] (fun _ (a:Bool)=>[(40,boo a)]) (fun _ _=>[]) (.bB 32 (decide (x7.2≠0)) fun x8 =>
 .ifs [32] x8 (.ret (true:Bool)) (.ix 36 GLayer.av a1 y0_2 fun x9 =>
 .bB 39 (decide (x9.Profit<(-288230376151711744))) fun x10 =>
 .ret x10))
  (fun y1_1 =>
 .ifs [40] y1_1 (.esc (.esc (.ret ((0:Int),(2:Int))))) (.bI 13 (w64 (y0_2+1)) fun x11 =>
 .brk ((x7.1:Int),x11))))) (.esc (.brk y0_1))))
  (fun y2_1 =>
 .ret (y2_1,(0:Int)))
def d_ref09_Swing (n:Nat) (a1:List GLayer):Option (Int×Int):=(t_ref09_Swing n a1).run
theorem d_ref09_Swing_c {n:Nat} {a1:List GLayer} {r:Int×Int} (h0:d_ref09_Swing n a1=some r):PP Tryz.prog 227 [lst 3 GLayer.av a1] (fun y=>y=.tup [int r.1,int r.2]):=by
 refine wt_pp mixed tbk (fun (r:Int×Int)=>.tup [int r.1,int r.2]) h0 Tryz.func227 (fun r=>.tup (pvl2 (pvI (r.1)) (pvI (r.2)))) 100000 ?_
 conv=>whnf
 refine .mk ?_ ?_
 refine .mk ?_
 intro _ _
 refine .mk ?_
 conv=>whnf
 refine .mk fun x2=>?_
 conv=>whnf
 refine .mk ?_ ?_
 refine .mk ?_
 conv=>whnf
 refine .mk fun x3 e3=>?_
 conv=>whnf
 refine .mk fun x4 e4=>?_
 conv=>whnf
 refine .mk fun x5=>?_
 conv=>whnf
 refine .mk fun x6 e6=>?_
 conv=>whnf
 refine .mk _ (fun H hH _=>yv_max rfl rfl rfl e6) ?_
 conv=>whnf
 refine .mk fun x7 e7=>?_
 conv=>whnf
 refine .mk ?_ ?_
 conv=>whnf
 refine .mk fun x8=>?_
 refine .mk .mk ?_
 conv=>whnf
 refine .mk fun x9 e9=>?_
 conv=>whnf
 refine .mk fun x10=>?_
 exact .mk
 intro _ _
 refine .mk .mk ?_
 conv=>whnf
 refine .mk fun x11=>?_
 exact .mk
 conv=>whnf
 exact .mk
 intro _ _
 exact .mk
noncomputable def t_ref09_Right (n:Nat) (a1:List GLayer):WT Tryz.prog (.b (Bool)) :=
 .jnE 2 [0,2] [] [] (fun _ (a:Unit)=>[]) (fun _ _=>[]) (.lp [0,2] [] [] (fun _ (a:Int)=>[(3,int a)]) (fun _ _=>[]) n (0:Int) (fun y0_1 =>
 .ln 11 GLayer.av a1<|
 .bB 12 (decide (y0_1<(a1.length:Int))) fun x2 =>
 .ifs [12] x2 (.ix 17 GLayer.av a1 y0_1 fun x3 =>
 .al 1<|
 .jn 0 [0,2,3] [] [] (fun _ (a:Bool)=>[(42,boo a)]) (fun _ _=>[]) (.bB 21 (decide (x3.Qty<1)) fun x5 =>
 .ifs [21] x5 (.ret (true:Bool)) (.bB 25 (decide (x3.Qty>288230376151711744)) fun x6 =>
 .ifs [25] x6 (.ret (true:Bool)) (.bB 30 (decide (x3.Value<0)) fun x7 =>
 .ifs [30] x7 (.ret (true:Bool)) (.bB 35 (decide (x3.Value>288230376151711744)) fun x8 =>
 .ifs [35] x8 (.ret (true:Bool)) (.cl 40 (d_ref01_In x3.Profit) cal224 d_ref01_In_c fun x9 =>
 .bB 41 (!x9) fun x10 =>
 .ret x10)))))
  (fun y1_1 =>
 .ifs [42] y1_1 (.esc (.esc (.ret ((false:Bool))))) (.bI 14 (w64 (y0_1+1)) fun x11 =>
 .brk x11))) (.esc (.brk ()))))
  (fun _ =>
 .cl 45 (d_ref09_Total n a1) cal225 d_ref09_Total_c fun x12 =>
 .al 2<|
 .cl 50 (d_ref09_Swing n a1) cal227 d_ref09_Swing_c fun x14 =>
 .jn 0 [] [] [] (fun _ (a:Bool)=>[(2,boo a)]) (fun _ _=>[]) (.ln 54 GLayer.av a1<|
 .bB 55 (decide ((a1.length:Int)≤30)) fun x15 =>
 .ifs [55] x15 (.bB 58 (decide (x12.2=0)) fun x16 =>
 .ifs [58] x16 (.bB 62 (decide (x14.2=0)) fun x17 =>
 .ret x17) (.ret (false:Bool))) (.ret (false:Bool)))
  (fun y3_1 =>
 .ret (y3_1)))
def d_ref09_Right (n:Nat) (a1:List GLayer):Option (Bool):=(t_ref09_Right n a1).run
theorem d_ref09_Right_c {n:Nat} {a1:List GLayer} {r:Bool} (h0:d_ref09_Right n a1=some r):PP Tryz.prog 253 [lst 3 GLayer.av a1] (fun y=>y=boo r):=by
 refine wt_pp mixed tbk (fun (r:Bool)=>boo r) h0 Tryz.func253 (fun r=>pvB r) 100000 ?_
 conv=>whnf
 refine .mk ?_ ?_
 refine .mk ?_
 intro _ _
 refine .mk ?_
 conv=>whnf
 refine .mk fun x2=>?_
 conv=>whnf
 refine .mk ?_ ?_
 conv=>whnf
 refine .mk fun x3 e3=>?_
 intro v4
 conv=>whnf
 refine .mk ?_ ?_
 conv=>whnf
 refine .mk fun x5=>?_
 refine .mk .mk ?_
 conv=>whnf
 refine .mk fun x6=>?_
 refine .mk .mk ?_
 conv=>whnf
 refine .mk fun x7=>?_
 refine .mk .mk ?_
 conv=>whnf
 refine .mk fun x8=>?_
 refine .mk .mk ?_
 conv=>whnf
 refine .mk fun x9 e9=>?_
 conv=>whnf
 refine .mk fun x10=>?_
 exact .mk
 intro _ _
 refine .mk .mk ?_
 conv=>whnf
 refine .mk fun x11=>?_
 exact .mk
 conv=>whnf
 exact .mk
 intro _ _
 conv=>whnf
 refine .mk fun x12 e12=>?_
 intro v13
 conv=>whnf
 refine .mk fun x14 e14=>?_
 conv=>whnf
 refine .mk ?_ ?_
 refine .mk ?_
 conv=>whnf
 refine .mk fun x15=>?_
 conv=>whnf
 refine .mk ?_ ?_
 conv=>whnf
 refine .mk fun x16=>?_
 conv=>whnf
 refine .mk ?_ ?_
 conv=>whnf
 refine .mk fun x17=>?_
 exact .mk
 conv=>whnf
 exact .mk
 exact .mk
 intro _ _
 exact .mk
noncomputable def t_ref09_In (n:Nat) (a1:List GLayer) (a2:GLayer):WT Tryz.prog (.b ((List GLayer)×Int)) :=
 .al 1<|
 .dr [(2,[1])] [(4,[])] [1] [1,4] [0,2,3,1,4,5] (.gv 10<|
 .as (a1.length≤68719476736) inferInstance<|
 .ge 8<|
 .bl (a1++([a2]:List GLayer):List GLayer) fun x6 =>
 .as (x6.length≤68719476736) inferInstance<|
 .ge 11<|
 .jn 1 [0,4,5,6] [2] [] (fun _ (a:Bool)=>[(12,boo a)]) (fun _ _=>[]) (.bB 15 (decide (a2.Qty<1)) fun x9 =>
 .ifs [15] x9 (.ret (true:Bool)) (.bB 19 (decide (a2.Value<0)) fun x10 =>
 .ret x10))
  (fun y0_1 =>
 .ifs [12] y0_1 (.ret ((a1:List GLayer),(1:Int))) (.ln 24 GLayer.av a1<|
 .bB 25 (decide ((a1.length:Int)≥30)) fun x11 =>
 .ifs [25] x11 (.ret ((a1:List GLayer),(6:Int))) (.clT 29 (d_ref09_Right n x6) cal253 d_ref09_Right_c (fun _=>rfl) fun x12 =>
 .bB 30 (!x12) fun x13 =>
 .ifs [30] x13 (.ret ((a1:List GLayer),(2:Int))) (.ret (x6,(0:Int)))))))
def d_ref09_In (n:Nat) (a1:List GLayer) (a2:GLayer):Option ((List GLayer)×Int):=(t_ref09_In n a1 a2).run
theorem d_ref09_In_c {n:Nat} {a1:List GLayer} {a2:GLayer} {r:(List GLayer)×Int} (h0:d_ref09_In n a1 a2=some r):PP Tryz.prog 246 [lst 3 GLayer.av a1,.agg (GLayer.av a2)] (fun y=>y=.tup [lst 3 GLayer.av r.1,int r.2]):=by
 refine wt_pp mixed tbk (fun (r:(List GLayer)×Int)=>.tup [lst 3 GLayer.av r.1,int r.2]) h0 Tryz.func246 (fun r=>.tup (pvl2 ((pvLs GLayer.pvc) (r.1)) (pvI (r.2)))) 100000 ?_
 intro v3
 refine .mk ?_
 conv=>whnf
 refine .mk _ (fun H hH _=>yv_to (y:=lst 3 GLayer.av ([a2]:List GLayer)) (yv_buildSlice (ps:=[(0,_)]) (rows:=[[int a2.Qty,int a2.Value,int a2.Profit]]) rfl Tryz.underlying54 bz53 (.cons rfl .nil) (by kernel_rfl) rfl rfl rfl) rfl) ?_
 conv=>whnf
 refine .mk fun p4=>?_
 conv=>whnf
 refine .mk _ ⟨fun _=>yl_app0T (g:=GLayer.av) (m:=a1) 2 rfl Tryz.underlying54 bz53 by53 rfl rfl rfl rfl (.refl _) (fun _=>rfl) p4,by rintro _ _ ⟨v5,rfl,rfl⟩;exact ⟨rfl,trivial⟩⟩ ?_
 rintro _ _ ⟨v5,rfl,rfl⟩
 conv=>whnf
 refine .mk fun x6 e6=>?_
 conv=>whnf
 refine .mk fun p7=>?_
 conv=>whnf
 refine .mk _ ⟨fun _=>yl_appT (g:=GLayer.av) (l:=a1) (m:=([a2]:List GLayer)) .any rfl Tryz.underlying54 bz53 by53 rfl rfl rfl rfl rfl rfl rfl rfl rfl rfl (Eq.symm rfl) (.refl _) (fun _=>rfl) e6 p7,by rintro _ _ ⟨v8,-,rfl,rfl⟩;exact trivial⟩ ?_
 rintro _ _ ⟨v8,-,rfl,rfl⟩
 conv=>whnf
 refine .mk ?_ ?_
 conv=>whnf
 refine .mk fun x9=>?_
 refine .mk .mk ?_
 conv=>whnf
 refine .mk fun x10=>?_
 exact .mk
 intro _ _
 refine .mk .mk ?_
 refine .mk ?_
 conv=>whnf
 refine .mk fun x11=>?_
 refine .mk .mk ?_
 conv=>whnf
 refine .mk (fun x12 e12=>?_) rfl (by rintro _ rfl;exact (.cons (cv_lst rfl rfl rfl rfl rfl (Eq.symm rfl)) .nil))
 conv=>whnf
 refine .mk fun x13=>?_
 refine .mk .mk ?_
 conv=>whnf
 exact .mk (CvL.tup (.cons (cv_lst rfl rfl rfl rfl rfl (Eq.symm rfl)) (.cons (.refl _) .nil)))
end
end Go.Pv
