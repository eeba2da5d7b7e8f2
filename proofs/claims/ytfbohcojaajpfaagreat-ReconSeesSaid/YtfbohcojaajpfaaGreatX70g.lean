import Derived.Test.YtfbohcojaajpfaaGreatX70f
set_option linter.unusedVariables false
set_option linter.unusedSimpArgs false
namespace Go.Pv
open Go.Proofs
set_option maxRecDepth 100000
set_option maxHeartbeats 4000000
noncomputable section
noncomputable def t_ref21_Do (a1:GState) (a2:GOp):WT Tryz.prog (.b (GState×Int)) :=
 .al 1<|
 .al 2<|
 .al 3<|
 .bB 10 (decide (a2.Kind≠10)) fun x6 =>
 .ifs [10] x6 (.ret ((a1:GState),(1:Int))) (.cl 17 (d_ref14_Ready a1 a2.E a2.Item) cal195 d_ref14_Ready_c fun x7 =>
 .bB 19 (decide (x7≠0)) fun x8 =>
 .ifs [19] x8 (.ret ((a1:GState),x7)) (.inl 25 cal10 Tryz.func10 [1,2,3] [6,7,8,9,10,11] (fun u2 (a:Int×Bool×(List GEnt)×(List GPool)×(List Int)×(List GRoll)×(List Int)×(List Int))=>.agg [int a1.Master.Entities,int a1.Master.Periods,lst 1 fI a1.Master.Weights,lst 1 (fL 1 fI) a1.Master.Methods,lst 1 (fL 1 fI) a1.Master.Costs,.sl 6 (u2 6) 0 a1.Ents.length,lst 8 GReceipt.av a1.Receipts,lst 9 GSale.av a1.Sales,lst 6 GTransit.av a1.Transits,int a1.Done]) (fun u2 a=>[.nw 6 39 8 ((a1.Ents.map GEnt.av).set (Int.toNat a2.E) [int a.1,boo a.2.1,.sl 7 (u2 7) 0 a.2.2.2.1.length,.sl 8 (u2 8) 0 a.2.2.2.2.1.length,.sl 9 (u2 9) 0 a.2.2.2.2.2.1.length,.sl 10 (u2 10) 0 a.2.2.2.2.2.2.1.length,.sl 11 (u2 11) 0 a.2.2.2.2.2.2.2.length,lst 8 GEnt.av a.2.2.1]),.nw 7 57 4 (a.2.2.2.1.map GPool.av),.nw 8 3 1 (a.2.2.2.2.1.map fI),.nw 9 83 11 (a.2.2.2.2.2.1.map GRoll.av),.nw 10 3 1 (a.2.2.2.2.2.2.1.map fI),.nw 11 3 1 (a.2.2.2.2.2.2.2.map fI)]) (.al 4<|
 .al 5<|
 .as (a1.Ents.length≤68719476736) inferInstance<|
 .ge 8<|
 .bo (ix a1.Ents a2.E) fun x13 =>
 .gv 13<|
 .dr [(4,[6]),(5,[6]),(6,[6]),(9,[6]),(10,[6]),(11,[6]),(14,[6]),(15,[6]),(16,[6]),(18,[6]),(19,[6]),(21,[6]),(22,[6]),(24,[6]),(25,[6])] [(17,[]),(20,[]),(23,[]),(26,[])] [6] [7,12,17,20,23,26] [0,1,2,3,4,5,6,8,9,10,11,13,14,15,16,7,12,17,18,19,20,21,22,23,24,25,26] (.gv 18<|
 .gv 19<|
 .gv 20<|
 .gv 23<|
 .gv 24<|
 .gv 25<|
 .gv 28<|
 .gv 29<|
 .gv 30<|
 .as (x13.Pools.length≤68719476736) inferInstance<|
 .ge 21<|
 .as (x13.Bal.length≤68719476736) inferInstance<|
 .ge 26<|
 .as (x13.Rolls.length≤68719476736) inferInstance<|
 .ge 31<|
 .gv 32<|
 .gv 33<|
 .ge 1003020<|
 .gv 34<|
 .gv 35<|
 .ge 1003023<|
 .gv 36<|
 .gv 37<|
 .ge 1003026<|
 .dr [(3,[6]),(4,[6]),(5,[6]),(8,[6]),(9,[6]),(10,[6]),(12,[6]),(13,[6]),(15,[6]),(16,[6])] [(11,[]),(14,[]),(17,[])] [6] [6,11,14,17] [0,1,2,3,4,5,7,8,9,10,6,11,12,13,14,15,16,17] (.gv 41<|
 .gv 42<|
 .gv 43<|
 .gv 46<|
 .gv 47<|
 .gv 48<|
 .as (x13.Prices.length≤68719476736) inferInstance<|
 .ge 44<|
 .as (x13.Down.length≤68719476736) inferInstance<|
 .ge 49<|
 .gv 50<|
 .gv 51<|
 .ge 1004014<|
 .gv 52<|
 .gv 53<|
 .ge 1004017<|
 .ret ((x13.Now:Int),(x13.Closed:Bool),(x13.Ahead:List GEnt),(x13.Pools:List GPool),(x13.Bal:List Int),(x13.Rolls:List GRoll),(x13.Prices:List Int),(x13.Down:List Int))))) (pw fun y0_2 q0=>(pw fun y0_3 q1=>(pw fun y0_9 q2=>(pw fun y0_10 q3=>(pw fun y0_11 q4=>(pw fun y0_12 q5=>(pw fun y0_13 y0_14 =>
 .bo (ix a1.Ents a2.E) fun x24 =>
 .al 12<|
 .dr [(0,[12]),(1,[12]),(2,[2]),(3,[2]),(4,[6]),(5,[6]),(6,[6]),(7,[2]),(8,[2]),(9,[2]),(10,[2]),(11,[10])] [(12,[])] [2,6,10,12] [12] [0,1,2,3,4,5,6,7,8,9,10,11,12] (.gv 30<|
 .gv 31<|
 .gv 32<|
 .bo (ix y0_13 a2.Item) fun x26 =>
 .gv 37<|
 .bl (y0_13.set (Int.toNat a2.Item) (a2.Amount:Int):List Int) fun x27 =>
 .ge 1007012<|
 .ret (((⟨a1.Master,(a1.Ents.set (Int.toNat a2.E) (⟨y0_2,y0_3,y0_10,y0_11,y0_12,x27,y0_14,y0_9⟩:GEnt)),a1.Receipts,a1.Sales,a1.Transits,a1.Done⟩:GState):GState),(0:Int)))) q5) q4) q3) q2) q1) q0)))
def d_ref21_Do (a1:GState) (a2:GOp):Option (GState×Int):=(t_ref21_Do a1 a2).run
theorem d_ref21_Do_c {a1:GState} {a2:GOp} {r:GState×Int} (h0:d_ref21_Do a1 a2=some r):PP Tryz.prog 161 [.agg (GState.av a1),.agg (GOp.av a2)] (fun y=>y=.tup [.agg (GState.av r.1),int r.2]):=by
 refine wt_pp mixed tbk (fun (r:GState×Int)=>.tup [.agg (GState.av r.1),int r.2]) h0 Tryz.func161 (fun r=>.tup (pvl2 ((fun (a:GState)=>PV.agg (GState.pvc a)) (r.1)) (pvI (r.2)))) 100000 ?_
 intro v3
 intro v4
 intro v5
 conv=>whnf
 refine .mk fun x6=>?_
 refine .mk .mk ?_
 conv=>whnf
 refine .mk fun x7 e7=>?_
 conv=>whnf
 refine .mk fun x8=>?_
 refine .mk .mk ?_
 conv=>whnf
 refine .mk ?_ ?_
 intro v9
 intro v10
 conv=>whnf
 refine .mk fun p11=>?_
 conv=>whnf
 refine .mk _ ⟨fun _=>yl_app0T (g:=GEnt.av) (m:=a1.Ents) 6 rfl Tryz.underlying26 bz39 by39 rfl rfl rfl rfl (.refl _) GEnt.one p11,fun _ _ _=>trivial⟩ ?_
 rintro _ _ ⟨v12,rfl,rfl⟩
 conv=>whnf
 refine .mk fun x13 e13=>?_
 conv=>whnf
 refine .mk _ (agr (yv_ixO rfl Tryz.underlying26 sh39 rfl rfl rfl rfl rfl (Eq.symm rfl) (List.length_map _) e13)) ?_
 refine .mk ?_
 conv=>whnf
 refine .mk _ (fun H hH _=>yv_nilCheck rfl rfl (.pt ((hH _ (by decide)).trans rfl) rfl (ix_get' e13 (GEnt.av_eq _)))) ?_
 conv=>whnf
 refine .mk _ (fun H hH _=>yv_fieldAddr rfl fo39_2 rfl (.pt ((hH _ (by decide)).trans rfl) rfl (ix_get' e13 (GEnt.av_eq _))) (.pt _ _ _ _ _)) ?_
 conv=>whnf
 refine .mk _ (fun H hH _=>yv_load rfl sh36 rfl (.pt ((hH _ (by decide)).trans rfl) rfl (ix_get' e13 (GEnt.av_eq _))) rfl) ?_
 conv=>whnf
 refine .mk _ (fun H hH _=>yv_nilCheck rfl rfl (.pt ((hH _ (by decide)).trans rfl) rfl (ix_get' e13 (GEnt.av_eq _)))) ?_
 conv=>whnf
 refine .mk _ (fun H hH _=>yv_fieldAddr rfl fo39_3 rfl (.pt ((hH _ (by decide)).trans rfl) rfl (ix_get' e13 (GEnt.av_eq _))) (.pt _ _ _ _ _)) ?_
 conv=>whnf
 refine .mk _ (fun H hH _=>yv_load rfl sh22 rfl (.pt ((hH _ (by decide)).trans rfl) rfl (ix_get' e13 (GEnt.av_eq _))) rfl) ?_
 conv=>whnf
 refine .mk _ (fun H hH _=>yv_nilCheck rfl rfl (.pt ((hH _ (by decide)).trans rfl) rfl (ix_get' e13 (GEnt.av_eq _)))) ?_
 conv=>whnf
 refine .mk _ (fun H hH _=>yv_fieldAddr rfl fo39_4 rfl (.pt ((hH _ (by decide)).trans rfl) rfl (ix_get' e13 (GEnt.av_eq _))) (.pt _ _ _ _ _)) ?_
 conv=>whnf
 refine .mk _ (fun H hH _=>yv_load rfl sh37 rfl (.pt ((hH _ (by decide)).trans rfl) rfl (ix_get' e13 (GEnt.av_eq _))) rfl) ?_
 conv=>whnf
 refine .mk fun p14=>?_
 conv=>whnf
 refine .mk _ ⟨fun _=>yl_app0T (g:=GPool.av) (m:=x13.Pools) 7 rfl Tryz.underlying36 bz57 by57 rfl rfl rfl rfl (.refl _) (fun _=>rfl) p14,by rintro _ _ ⟨v15,rfl,rfl⟩;exact ⟨rfl,trivial⟩⟩ ?_
 rintro _ _ ⟨v15,rfl,rfl⟩
 conv=>whnf
 refine .mk fun p16=>?_
 conv=>whnf
 refine .mk _ ⟨fun _=>yl_app0T (g:=fI) (m:=x13.Bal) 8 rfl Tryz.underlying22 bz3 by3 rfl rfl rfl rfl (.refl _) (fun _=>rfl) p16,by rintro _ _ ⟨v17,rfl,rfl⟩;exact ⟨rfl,trivial⟩⟩ ?_
 rintro _ _ ⟨v17,rfl,rfl⟩
 conv=>whnf
 refine .mk fun p18=>?_
 conv=>whnf
 refine .mk _ ⟨fun _=>yl_app0T (g:=GRoll.av) (m:=x13.Rolls) 9 rfl Tryz.underlying37 bz83 by83 rfl rfl rfl rfl (.refl _) (fun _=>rfl) p18,by rintro _ _ ⟨v19,rfl,rfl⟩;exact trivial⟩ ?_
 rintro _ _ ⟨v19,rfl,rfl⟩
 conv=>whnf
 refine .mk _ (fun H hH _=>yv_nilCheck rfl rfl (.pt ((hH _ (by decide)).trans rfl) rfl (ix_get' e13 (GEnt.av_eq _)))) ?_
 conv=>whnf
 refine .mk _ (fun H hH _=>yv_fieldAddr rfl fo39_2 rfl (.pt ((hH _ (by decide)).trans rfl) rfl (ix_get' e13 (GEnt.av_eq _))) (.pt _ _ _ _ _)) ?_
 conv=>whnf
 refine .mk _ ⟨fun _=>Yield.weak (yl_ob (ob':=(⟨39,8,true,true,_,(a1.Ents.map GEnt.av).set (Int.toNat a2.E) [int x13.Now,boo x13.Closed,.sl 7 v15 0 x13.Pools.length,lst 1 fI x13.Bal,lst 11 GRoll.av x13.Rolls,lst 1 fI x13.Prices,lst 1 fI x13.Down,lst 8 GEnt.av x13.Ahead]⟩:AObj)) (yl_store rfl sh36 rfl rfl rfl rfl rfl (ix_get' e13 (GEnt.av_eq _)) rfl rfl rfl) (ob_eq rfl)) (fun _ h=>h) (fun _ _=>trivial),by rintro _ _ ⟨rfl,rfl⟩;exact trivial⟩ ?_
 rintro _ _ ⟨rfl,rfl⟩
 conv=>whnf
 refine .mk _ (fun H hH _=>yv_nilCheck rfl rfl (.pt ((hH _ (by decide)).trans rfl) rfl (set_get e13))) ?_
 conv=>whnf
 refine .mk _ (fun H hH _=>yv_fieldAddr rfl fo39_3 rfl (.pt ((hH _ (by decide)).trans rfl) rfl (set_get e13)) (.pt _ _ _ _ _)) ?_
 conv=>whnf
 refine .mk _ ⟨fun _=>Yield.weak (yl_ob (ob':=(⟨39,8,true,true,_,(a1.Ents.map GEnt.av).set (Int.toNat a2.E) [int x13.Now,boo x13.Closed,.sl 7 v15 0 x13.Pools.length,.sl 8 v17 0 x13.Bal.length,lst 11 GRoll.av x13.Rolls,lst 1 fI x13.Prices,lst 1 fI x13.Down,lst 8 GEnt.av x13.Ahead]⟩:AObj)) (yl_store rfl sh22 rfl rfl rfl rfl rfl (set_get e13) rfl rfl rfl) (ob_eq set_setV)) (fun _ h=>h) (fun _ _=>trivial),by rintro _ _ ⟨rfl,rfl⟩;exact trivial⟩ ?_
 rintro _ _ ⟨rfl,rfl⟩
 conv=>whnf
 refine .mk _ (fun H hH _=>yv_nilCheck rfl rfl (.pt ((hH _ (by decide)).trans rfl) rfl (set_get e13))) ?_
 conv=>whnf
 refine .mk _ (fun H hH _=>yv_fieldAddr rfl fo39_4 rfl (.pt ((hH _ (by decide)).trans rfl) rfl (set_get e13)) (.pt _ _ _ _ _)) ?_
 conv=>whnf
 refine .mk _ ⟨fun _=>Yield.weak (yl_ob (ob':=(⟨39,8,true,true,_,(a1.Ents.map GEnt.av).set (Int.toNat a2.E) [int x13.Now,boo x13.Closed,.sl 7 v15 0 x13.Pools.length,.sl 8 v17 0 x13.Bal.length,.sl 9 v19 0 x13.Rolls.length,lst 1 fI x13.Prices,lst 1 fI x13.Down,lst 8 GEnt.av x13.Ahead]⟩:AObj)) (yl_store rfl sh37 rfl rfl rfl rfl rfl (set_get e13) rfl rfl rfl) (ob_eq set_setV)) (fun _ h=>h) (fun _ _=>trivial),by rintro _ _ ⟨rfl,rfl⟩;exact trivial⟩ ?_
 rintro _ _ ⟨rfl,rfl⟩
 refine .mk ?_
 conv=>whnf
 refine .mk _ (fun H hH _=>yv_nilCheck rfl rfl (.pt ((hH _ (by decide)).trans rfl) rfl (set_get e13))) ?_
 conv=>whnf
 refine .mk _ (fun H hH _=>yv_fieldAddr rfl fo39_5 rfl (.pt ((hH _ (by decide)).trans rfl) rfl (set_get e13)) (.pt _ _ _ _ _)) ?_
 conv=>whnf
 refine .mk _ (fun H hH _=>yv_load rfl sh22 rfl (.pt ((hH _ (by decide)).trans rfl) rfl (set_get e13)) rfl) ?_
 conv=>whnf
 refine .mk _ (fun H hH _=>yv_nilCheck rfl rfl (.pt ((hH _ (by decide)).trans rfl) rfl (set_get e13))) ?_
 conv=>whnf
 refine .mk _ (fun H hH _=>yv_fieldAddr rfl fo39_6 rfl (.pt ((hH _ (by decide)).trans rfl) rfl (set_get e13)) (.pt _ _ _ _ _)) ?_
 conv=>whnf
 refine .mk _ (fun H hH _=>yv_load rfl sh22 rfl (.pt ((hH _ (by decide)).trans rfl) rfl (set_get e13)) rfl) ?_
 conv=>whnf
 refine .mk fun p20=>?_
 conv=>whnf
 refine .mk _ ⟨fun _=>yl_app0T (g:=fI) (m:=x13.Prices) 10 rfl Tryz.underlying22 bz3 by3 rfl rfl rfl rfl (.refl _) (fun _=>rfl) p20,by rintro _ _ ⟨v21,rfl,rfl⟩;exact ⟨rfl,trivial⟩⟩ ?_
 rintro _ _ ⟨v21,rfl,rfl⟩
 conv=>whnf
 refine .mk fun p22=>?_
 conv=>whnf
 refine .mk _ ⟨fun _=>yl_app0T (g:=fI) (m:=x13.Down) 11 rfl Tryz.underlying22 bz3 by3 rfl rfl rfl rfl (.refl _) (fun _=>rfl) p22,by rintro _ _ ⟨v23,rfl,rfl⟩;exact trivial⟩ ?_
 rintro _ _ ⟨v23,rfl,rfl⟩
 conv=>whnf
 refine .mk _ (fun H hH _=>yv_nilCheck rfl rfl (.pt ((hH _ (by decide)).trans rfl) rfl (set_get e13))) ?_
 conv=>whnf
 refine .mk _ (fun H hH _=>yv_fieldAddr rfl fo39_5 rfl (.pt ((hH _ (by decide)).trans rfl) rfl (set_get e13)) (.pt _ _ _ _ _)) ?_
 conv=>whnf
 refine .mk _ ⟨fun _=>Yield.weak (yl_ob (ob':=(⟨39,8,true,true,_,(a1.Ents.map GEnt.av).set (Int.toNat a2.E) [int x13.Now,boo x13.Closed,.sl 7 v15 0 x13.Pools.length,.sl 8 v17 0 x13.Bal.length,.sl 9 v19 0 x13.Rolls.length,.sl 10 v21 0 x13.Prices.length,lst 1 fI x13.Down,lst 8 GEnt.av x13.Ahead]⟩:AObj)) (yl_store rfl sh22 rfl rfl rfl rfl rfl (set_get e13) rfl rfl rfl) (ob_eq set_setV)) (fun _ h=>h) (fun _ _=>trivial),by rintro _ _ ⟨rfl,rfl⟩;exact trivial⟩ ?_
 rintro _ _ ⟨rfl,rfl⟩
 conv=>whnf
 refine .mk _ (fun H hH _=>yv_nilCheck rfl rfl (.pt ((hH _ (by decide)).trans rfl) rfl (set_get e13))) ?_
 conv=>whnf
 refine .mk _ (fun H hH _=>yv_fieldAddr rfl fo39_6 rfl (.pt ((hH _ (by decide)).trans rfl) rfl (set_get e13)) (.pt _ _ _ _ _)) ?_
 conv=>whnf
 refine .mk _ ⟨fun _=>Yield.weak (yl_ob (ob':=(⟨39,8,true,true,_,(a1.Ents.map GEnt.av).set (Int.toNat a2.E) [int x13.Now,boo x13.Closed,.sl 7 v15 0 x13.Pools.length,.sl 8 v17 0 x13.Bal.length,.sl 9 v19 0 x13.Rolls.length,.sl 10 v21 0 x13.Prices.length,.sl 11 v23 0 x13.Down.length,lst 8 GEnt.av x13.Ahead]⟩:AObj)) (yl_store rfl sh22 rfl rfl rfl rfl rfl (set_get e13) rfl rfl rfl) (ob_eq set_setV)) (fun _ h=>h) (fun _ _=>trivial),by rintro _ _ ⟨rfl,rfl⟩;exact trivial⟩ ?_
 rintro _ _ ⟨rfl,rfl⟩
 exact .mk
 rintro ⟨y0_2,y0_3,y0_9,y0_10,y0_11,y0_12,y0_13,y0_14⟩ _
 conv=>whnf
 refine .mk trivial ?_
 conv=>whnf
 refine .mk fun x24 e24=>?_
 intro v25
 refine .mk ?_
 conv=>whnf
 refine .mk _ (fun H hH _=>yv_ixO rfl Tryz.underlying26 sh39 rfl rfl ((hH _ (by decide)).trans rfl) rfl rfl (Eq.symm rfl) len_ov e24) ?_
 conv=>whnf
 refine .mk _ (fun H hH _=>yv_fieldAddr rfl fo39_5 rfl (.pt ((hH _ (by decide)).trans rfl) rfl (set_get e24)) (.pt _ _ _ _ _)) ?_
 conv=>whnf
 refine .mk _ (fun H hH _=>yv_load rfl sh22 rfl (.pt ((hH _ (by decide)).trans rfl) rfl (set_get e24)) rfl) ?_
 conv=>whnf
 refine .mk fun x26 e26=>?_
 conv=>whnf
 refine .mk _ (fun H hH _=>yv_ixO rfl Tryz.underlying22 sh3 rfl rfl ((hH _ (by decide)).trans rfl) rfl rfl (Eq.symm rfl) (List.length_map _) e26) ?_
 conv=>whnf
 refine .mk fun x27 e27=>?_
 have fx27:=ix_set e26 e27;have lx27:=len_setV e27 (rfl:y0_13.length=y0_13.length)
 conv=>whnf
 refine .mk _ ⟨fun _=>Yield.weak (yl_ob (ob':=(⟨3,1,true,true,_,x27.map fI⟩:AObj)) (yl_store rfl sh3 rfl rfl rfl rfl rfl (ix_get e26) rfl rfl rfl) (ob_eq (map_setV e27))) (fun _ h=>h) (fun _ _=>trivial),by rintro _ _ ⟨rfl,rfl⟩;exact trivial⟩ ?_
 rintro _ _ ⟨rfl,rfl⟩
 conv=>whnf
 exact .mk (CvL.tup (.cons (CvL.agg (.cons (.refl _) (.cons (.refl _) (.cons (.refl _) (.cons (.refl _) (.cons (.refl _) (.cons (cv_ov rfl rfl rfl rfl rfl (Eq.symm rfl) e24 (cvl_to (.cons (.refl _) (.cons (.refl _) (.cons (cv_lst rfl rfl rfl rfl rfl (Eq.symm rfl)) (.cons (cv_lst rfl rfl rfl rfl rfl (Eq.symm rfl)) (.cons (cv_lst rfl rfl rfl rfl rfl (Eq.symm rfl)) (.cons (cv_lst rfl rfl rfl rfl rfl (Eq.symm lx27)) (.cons (cv_lst rfl rfl rfl rfl rfl (Eq.symm rfl)) (.cons (.refl _) .nil)))))))) (GEnt.av_eq _))) (.cons (.refl _) (.cons (.refl _) (.cons (.refl _) (.cons (.refl _) .nil))))))))))) (.cons (.refl _) .nil)))
noncomputable def t_ref22_by (n:Nat) (a1:GState) (a2:GOp):WT Tryz.prog (.b (GState×Int)) :=
 .al 1<|
 .al 2<|
 .al 3<|
 .bB 9 (decide (a2.Kind=1)) fun x6 =>
 .ifs [9] x6 (.cl 12 (d_ref15_Do n a1 a2) cal155 d_ref15_Do_c fun x7 =>
 .ret ((x7.1:GState),(x7.2:Int))) (.bB 16 (decide (a2.Kind=4)) fun x8 =>
 .jn 0 [2,3,4,5,7] [1,2,3] [] (fun _ (a:Bool)=>[(15,boo a)]) (fun _ _=>[]) (.ifs [15,16] x8 (.ret (true:Bool)) (.bB 17 (decide (a2.Kind=5)) fun x9 =>
 .ret x9))
  (fun y0_1 =>
 .ifs [15] y0_1 (.cl 20 (d_ref16_Do n a1 a2) cal156 d_ref16_Do_c fun x10 =>
 .ret ((x10.1:GState),(x10.2:Int))) (.bB 24 (decide (a2.Kind=6)) fun x11 =>
 .jn 0 [2,3,4,5,7] [1,2,3] [] (fun _ (a:Bool)=>[(23,boo a)]) (fun _ _=>[]) (.ifs [23,24] x11 (.ret (true:Bool)) (.bB 25 (decide (a2.Kind=7)) fun x12 =>
 .ifs [25] x12 (.ret (true:Bool)) (.bB 26 (decide (a2.Kind=8)) fun x13 =>
 .ifs [26] x13 (.ret (true:Bool)) (.bB 27 (decide (a2.Kind=9)) fun x14 =>
 .ret x14))))
  (fun y1_1 =>
 .ifs [23] y1_1 (.cl 30 (d_ref17_Do n a1 a2) cal157 d_ref17_Do_c fun x15 =>
 .ret ((x15.1:GState),(x15.2:Int))) (.bB 34 (decide (a2.Kind=2)) fun x16 =>
 .jn 0 [2,3,4,5,7] [1,2,3] [] (fun _ (a:Bool)=>[(33,boo a)]) (fun _ _=>[]) (.ifs [33,34] x16 (.ret (true:Bool)) (.bB 35 (decide (a2.Kind=3)) fun x17 =>
 .ret x17))
  (fun y2_1 =>
 .ifs [33] y2_1 (.cl 38 (d_ref18_Do n a1 a2) cal158 d_ref18_Do_c fun x18 =>
 .ret ((x18.1:GState),(x18.2:Int))) (.bB 42 (decide (a2.Kind=11)) fun x19 =>
 .ifs [42] x19 (.cl 45 (d_ref19_Do n a1 a2) cal159 d_ref19_Do_c fun x20 =>
 .ret ((x20.1:GState),(x20.2:Int))) (.bB 49 (decide (a2.Kind=12)) fun x21 =>
 .jn 0 [2,3,4,5,7] [1,2,3] [] (fun _ (a:Bool)=>[(48,boo a)]) (fun _ _=>[]) (.ifs [48,49] x21 (.ret (true:Bool)) (.bB 50 (decide (a2.Kind=13)) fun x22 =>
 .ret x22))
  (fun y3_1 =>
 .ifs [48] y3_1 (.cl 53 (d_ref20_Do n a1 a2) cal160 d_ref20_Do_c fun x23 =>
 .ret ((x23.1:GState),(x23.2:Int))) (.bB 57 (decide (a2.Kind=10)) fun x24 =>
 .ifs [57] x24 (.cl 60 (d_ref21_Do a1 a2) cal161 d_ref21_Do_c fun x25 =>
 .ret ((x25.1:GState),(x25.2:Int))) (.ret ((a1:GState),(1:Int)))))))))))))
def d_ref22_by (n:Nat) (a1:GState) (a2:GOp):Option (GState×Int):=(t_ref22_by n a1 a2).run
theorem d_ref22_by_c {n:Nat} {a1:GState} {a2:GOp} {r:GState×Int} (h0:d_ref22_by n a1 a2=some r):PP Tryz.prog 104 [.agg (GState.av a1),.agg (GOp.av a2)] (fun y=>y=.tup [.agg (GState.av r.1),int r.2]):=by
 refine wt_pp mixed tbk (fun (r:GState×Int)=>.tup [.agg (GState.av r.1),int r.2]) h0 Tryz.func104 (fun r=>.tup (pvl2 ((fun (a:GState)=>PV.agg (GState.pvc a)) (r.1)) (pvI (r.2)))) 100000 ?_
 intro v3
 intro v4
 intro v5
 conv=>whnf
 refine .mk fun x6=>?_
 conv=>whnf
 refine .mk ?_ ?_
 conv=>whnf
 refine .mk fun x7 e7=>?_
 exact .mk
 conv=>whnf
 refine .mk fun x8=>?_
 conv=>whnf
 refine .mk ?_ ?_
 refine .mk .mk ?_
 conv=>whnf
 refine .mk fun x9=>?_
 exact .mk
 intro _ _
 conv=>whnf
 refine .mk ?_ ?_
 conv=>whnf
 refine .mk fun x10 e10=>?_
 exact .mk
 conv=>whnf
 refine .mk fun x11=>?_
 conv=>whnf
 refine .mk ?_ ?_
 refine .mk .mk ?_
 conv=>whnf
 refine .mk fun x12=>?_
 refine .mk .mk ?_
 conv=>whnf
 refine .mk fun x13=>?_
 refine .mk .mk ?_
 conv=>whnf
 refine .mk fun x14=>?_
 exact .mk
 intro _ _
 conv=>whnf
 refine .mk ?_ ?_
 conv=>whnf
 refine .mk fun x15 e15=>?_
 exact .mk
 conv=>whnf
 refine .mk fun x16=>?_
 conv=>whnf
 refine .mk ?_ ?_
 refine .mk .mk ?_
 conv=>whnf
 refine .mk fun x17=>?_
 exact .mk
 intro _ _
 conv=>whnf
 refine .mk ?_ ?_
 conv=>whnf
 refine .mk fun x18 e18=>?_
 exact .mk
 conv=>whnf
 refine .mk fun x19=>?_
 conv=>whnf
 refine .mk ?_ ?_
 conv=>whnf
 refine .mk fun x20 e20=>?_
 exact .mk
 conv=>whnf
 refine .mk fun x21=>?_
 conv=>whnf
 refine .mk ?_ ?_
 refine .mk .mk ?_
 conv=>whnf
 refine .mk fun x22=>?_
 exact .mk
 intro _ _
 conv=>whnf
 refine .mk ?_ ?_
 conv=>whnf
 refine .mk fun x23 e23=>?_
 exact .mk
 conv=>whnf
 refine .mk fun x24=>?_
 conv=>whnf
 refine .mk ?_ ?_
 conv=>whnf
 refine .mk fun x25 e25=>?_
 exact .mk
 conv=>whnf
 exact .mk
noncomputable def t_ref22_Do (n:Nat) (a1:GState) (a2:GOp):WT Tryz.prog (.b (GState×Int)) :=
 .al 1<|
 .al 2<|
 .al 3<|
 .cl 9 (d_ref05_Check n a2) cal61 d_ref05_Check_c fun x6 =>
 .bB 10 (!x6) fun x7 =>
 .ifs [10] x7 (.ret ((a1:GState),(1:Int))) (.cl 15 (d_ref22_by n a1 a2) cal104 d_ref22_by_c fun x8 =>
 .al 4<|
 .bB 19 (decide (x8.2≠0)) fun x10 =>
 .ifs [19] x10 (.ret ((a1:GState),(x8.2:Int))) (.bI 24 (w64 (x8.1.Done+1)) fun x11 =>
 .bl (if 288230376151711744<x11 then 288230376151711744 else x11:Int) fun x12 =>
 .gv 25<|
 .ret (((⟨x8.1.Master,x8.1.Ents,x8.1.Receipts,x8.1.Sales,x8.1.Transits,x12⟩:GState):GState),(0:Int))))
def d_ref22_Do (n:Nat) (a1:GState) (a2:GOp):Option (GState×Int):=(t_ref22_Do n a1 a2).run
theorem d_ref22_Do_c {n:Nat} {a1:GState} {a2:GOp} {r:GState×Int} (h0:d_ref22_Do n a1 a2=some r):PP Tryz.prog 65 [.agg (GState.av a1),.agg (GOp.av a2)] (fun y=>y=.tup [.agg (GState.av r.1),int r.2]):=by
 refine wt_pp mixed tbk (fun (r:GState×Int)=>.tup [.agg (GState.av r.1),int r.2]) h0 Tryz.func65 (fun r=>.tup (pvl2 ((fun (a:GState)=>PV.agg (GState.pvc a)) (r.1)) (pvI (r.2)))) 100000 ?_
 intro v3
 intro v4
 intro v5
 conv=>whnf
 refine .mk fun x6 e6=>?_
 conv=>whnf
 refine .mk fun x7=>?_
 refine .mk .mk ?_
 conv=>whnf
 refine .mk fun x8 e8=>?_
 intro v9
 conv=>whnf
 refine .mk fun x10=>?_
 refine .mk .mk ?_
 conv=>whnf
 refine .mk fun x11=>?_
 conv=>whnf
 refine .mk fun x12 e12=>?_
 conv=>whnf
 refine .mk _ (agr (yv_min rfl rfl rfl e12)) ?_
 exact .mk
noncomputable def t_ref23_Step (n:Nat) (a1:GState) (a2:GOp):WT Tryz.prog (.b (GState×Int)) :=
 .al 1<|
 .al 2<|
 .al 3<|
 .cl 9 (d_ref05_Check n a2) cal61 d_ref05_Check_c fun x6 =>
 .bB 10 (!x6) fun x7 =>
 .ifs [10] x7 (.ret ((a1:GState),(1:Int))) (.al 4<|
 .jnE 1 [2,4,5,6] [1,3] [] (fun _ (a:Int×GState)=>[(7,int a.1)]) (fun _ a=>[.kp 4 [(GState.av a.2)]]) (.bB 21 (decide (a2.Kind=14)) fun x9 =>
 .ifs [21] x9 (.cl 26 (d_ref23_Close n a1 a2.E) cal62 d_ref23_Close_c fun x10 =>
 .brk ((x10.2:Int),(x10.1:GState))) (.bB 30 (decide (a2.Kind=15)) fun x11 =>
 .ifs [30] x11 (.cl 35 (d_ref23_Reopen n a1 a2.E) cal63 d_ref23_Reopen_c fun x12 =>
 .brk ((x12.2:Int),(x12.1:GState))) (.bB 39 (decide (a2.Kind=16)) fun x13 =>
 .ifs [39] x13 (.cl 44 (d_ref23_Next n a1 a2.E) cal64 d_ref23_Next_c fun x14 =>
 .brk ((x14.2:Int),(x14.1:GState))) (.cl 17 (d_ref22_Do n a1 a2) cal65 d_ref22_Do_c fun x15 =>
 .esc (.ret ((x15.1:GState),(x15.2:Int)))))))
  (pw fun y0_1 y0_2 =>
 .bB 48 (decide (y0_1≠0)) fun x16 =>
 .ifs [48] x16 (.ret ((a1:GState),y0_1)) (.bI 53 (w64 (y0_2.Done+1)) fun x17 =>
 .ret (((⟨y0_2.Master,y0_2.Ents,y0_2.Receipts,y0_2.Sales,y0_2.Transits,x17⟩:GState):GState),(0:Int)))))
def d_ref23_Step (n:Nat) (a1:GState) (a2:GOp):Option (GState×Int):=(t_ref23_Step n a1 a2).run
theorem d_ref23_Step_c {n:Nat} {a1:GState} {a2:GOp} {r:GState×Int} (h0:d_ref23_Step n a1 a2=some r):PP Tryz.prog 32 [.agg (GState.av a1),.agg (GOp.av a2)] (fun y=>y=.tup [.agg (GState.av r.1),int r.2]):=by
 refine wt_pp mixed tbk (fun (r:GState×Int)=>.tup [.agg (GState.av r.1),int r.2]) h0 Tryz.func32 (fun r=>.tup (pvl2 ((fun (a:GState)=>PV.agg (GState.pvc a)) (r.1)) (pvI (r.2)))) 100000 ?_
 intro v3
 intro v4
 intro v5
 conv=>whnf
 refine .mk fun x6 e6=>?_
 conv=>whnf
 refine .mk fun x7=>?_
 refine .mk .mk ?_
 intro v8
 conv=>whnf
 refine .mk ?_ ?_
 conv=>whnf
 refine .mk fun x9=>?_
 conv=>whnf
 refine .mk ?_ ?_
 conv=>whnf
 refine .mk fun x10 e10=>?_
 exact .mk
 conv=>whnf
 refine .mk fun x11=>?_
 conv=>whnf
 refine .mk ?_ ?_
 conv=>whnf
 refine .mk fun x12 e12=>?_
 exact .mk
 conv=>whnf
 refine .mk fun x13=>?_
 conv=>whnf
 refine .mk ?_ ?_
 conv=>whnf
 refine .mk fun x14 e14=>?_
 exact .mk
 conv=>whnf
 refine .mk fun x15 e15=>?_
 exact .mk
 intro _ _
 conv=>whnf
 refine .mk fun x16=>?_
 refine .mk .mk ?_
 conv=>whnf
 refine .mk fun x17=>?_
 exact .mk
noncomputable def t_law00_State (n:Nat) (a1:GMaster) (a2:List Int):WT Tryz.prog (.b (GState)) :=
 .al 1<|
 .al 2<|
 .cl 11 (d_ref04_Start n a1) cal30 d_ref04_Start_c fun x5 =>
 .al 3<|
 .cl 16 (d_law00_Ops n a1 a2) cal31 d_law00_Ops_c fun x7 =>
 .jn 1 [4,5] [2] [] (fun _ (a:GState)=>[]) (fun _ a=>[.kp 3 [(GState.av a)]]) (.lp [4,5,7] [2] [] (fun _ (a:Int×GState)=>[(8,int a.1)]) (fun _ a=>[.kp 3 [(GState.av a.2)]]) n ((0:Int),(x5.1:GState)) (pw fun y0_1 y0_2 =>
 .ln 19 GOp.av x7<|
 .bB 20 (decide (y0_1<(x7.length:Int))) fun x8 =>
 .ifs [20] x8 (.dr [(0,[3])] [(9,[])] [3] [9] [0,1,2,3,4,5,6,7,8,9] (.ix 27 GOp.av x7 y0_1 fun x9 =>
 .cl 29 (d_ref23_Step n y0_2 x9) cal32 d_ref23_Step_c fun x10 =>
 .bI 22 (w64 (y0_1+1)) fun x11 =>
 .brk (x11,(x10.1:GState)))) (.esc (.ret y0_2))))
  (fun y1_1 =>
 .ret (y1_1))
def d_law00_State (n:Nat) (a1:GMaster) (a2:List Int):Option (GState):=(t_law00_State n a1 a2).run
theorem d_law00_State_c {n:Nat} {a1:GMaster} {a2:List Int} {r:GState} (h0:d_law00_State n a1 a2=some r):PP Tryz.prog 7 [.agg (GMaster.av a1),lst 1 fI a2] (fun y=>y=.agg (GState.av r)):=by
 refine wt_pp mixed tbk (fun (r:GState)=>.agg (GState.av r)) h0 Tryz.func7 (fun r=>(fun (a:GState)=>PV.agg (GState.pvc a)) r) 100000 ?_
 intro v3
 intro v4
 conv=>whnf
 refine .mk fun x5 e5=>?_
 intro v6
 conv=>whnf
 refine .mk fun x7 e7=>?_
 conv=>whnf
 refine .mk ?_ ?_
 refine .mk ?_
 intro _ _
 refine .mk ?_
 conv=>whnf
 refine .mk fun x8=>?_
 conv=>whnf
 refine .mk ?_ ?_
 refine .mk ?_
 conv=>whnf
 refine .mk fun x9 e9=>?_
 conv=>whnf
 refine .mk fun x10 e10=>?_
 conv=>whnf
 refine .mk fun x11=>?_
 exact .mk
 conv=>whnf
 exact .mk
 intro _ _
 exact .mk
noncomputable def t_stock_is (a1:GState) (a2:Int) (a3:Int):WT Tryz.prog (.b (Bool)) :=
 .al 1<|
 .jn 0 [1,3,6] [1] [] (fun _ (a:Bool)=>[(29,boo a)]) (fun _ _=>[]) (.bB 10 (decide (a2<0)) fun x5 =>
 .ifs [10] x5 (.ret (true:Bool)) (.ln 15 GEnt.av a1.Ents<|
 .bB 16 (decide (a2≥(a1.Ents.length:Int))) fun x6 =>
 .ifs [16] x6 (.ret (true:Bool)) (.bB 20 (decide (a3<0)) fun x7 =>
 .ifs [20] x7 (.ret (true:Bool)) (.ln 27 fI a1.Master.Weights<|
 .bB 28 (decide (a3≥(a1.Master.Weights.length:Int))) fun x8 =>
 .ret x8))))
  (fun y0_1 =>
 .ifs [29] y0_1 (.ret ((false:Bool))) (.dr [(0,[1]),(1,[1]),(5,[1]),(6,[1]),(7,[1])] [] [1] [9,10] [0,1,2,3,4,5,6,7,8,9,10,11] (.ixE 33 GEnt.av gE GEnt.av_eq a1.Ents a2 fun x9 =>
 .ln 38 fI a1.Master.Weights<|
 .al 2<|
 .jn 0 [] [] [] (fun _ (a:Bool)=>[(6,boo a)]) (fun _ _=>[]) (.ln 41 GPool.av x9.Pools<|
 .bI 43 (w64 ((a1.Master.Weights.length:Int)*2)) fun x11 =>
 .bB 44 (decide ((x9.Pools.length:Int)≥x11)) fun x12 =>
 .ifs [44] x12 (.ln 48 GRoll.av x9.Rolls<|
 .bB 50 (decide ((x9.Rolls.length:Int)≥(a1.Master.Weights.length:Int))) fun x13 =>
 .ifs [50] x13 (.ln 57 (fL 1 fI) a1.Master.Methods<|
 .bB 58 (decide (a2<(a1.Master.Methods.length:Int))) fun x14 =>
 .ifs [58] x14 (.ln 65 (fL 1 fI) a1.Master.Costs<|
 .bB 66 (decide (a2<(a1.Master.Costs.length:Int))) fun x15 =>
 .ifs [66] x15 (.ix 73 (fL 1 fI) a1.Master.Methods a2 fun x16 =>
 .ln 75 fI x16<|
 .bB 77 (decide ((x16.length:Int)≥(a1.Master.Weights.length:Int))) fun x17 =>
 .ifs [77] x17 (.ix 84 (fL 1 fI) a1.Master.Costs a2 fun x18 =>
 .ln 86 fI x18<|
 .bB 88 (decide ((x18.length:Int)≥(a1.Master.Weights.length:Int))) fun x19 =>
 .ret x19) (.ret (false:Bool))) (.ret (false:Bool))) (.ret (false:Bool))) (.ret (false:Bool))) (.ret (false:Bool)))
  (fun y1_1 =>
 .ret (y1_1)))))
def d_stock_is (a1:GState) (a2:Int) (a3:Int):Option (Bool):=(t_stock_is a1 a2 a3).run
theorem d_stock_is_c {a1:GState} {a2:Int} {a3:Int} {r:Bool} (h0:d_stock_is a1 a2 a3=some r):PP Tryz.prog 81 [.agg (GState.av a1),int a2,int a3] (fun y=>y=boo r):=by
 refine wt_pp mixed tbk (fun (r:Bool)=>boo r) h0 Tryz.func81 (fun r=>pvB r) 100000 ?_
 intro v4
 conv=>whnf
 refine .mk ?_ ?_
 conv=>whnf
 refine .mk fun x5=>?_
 refine .mk .mk ?_
 refine .mk ?_
 conv=>whnf
 refine .mk fun x6=>?_
 refine .mk .mk ?_
 conv=>whnf
 refine .mk fun x7=>?_
 refine .mk .mk ?_
 refine .mk ?_
 conv=>whnf
 refine .mk fun x8=>?_
 exact .mk
 intro _ _
 refine .mk .mk ?_
 refine .mk ?_
 conv=>whnf
 refine .mk fun x9 e9=>?_
 refine .mk ?_
 intro v10
 conv=>whnf
 refine .mk ?_ ?_
 refine .mk ?_
 conv=>whnf
 refine .mk fun x11=>?_
 conv=>whnf
 refine .mk fun x12=>?_
 conv=>whnf
 refine .mk ?_ ?_
 refine .mk ?_
 conv=>whnf
 refine .mk fun x13=>?_
 conv=>whnf
 refine .mk ?_ ?_
 refine .mk ?_
 conv=>whnf
 refine .mk fun x14=>?_
 conv=>whnf
 refine .mk ?_ ?_
 refine .mk ?_
 conv=>whnf
 refine .mk fun x15=>?_
 conv=>whnf
 refine .mk ?_ ?_
 conv=>whnf
 refine .mk fun x16 e16=>?_
 refine .mk ?_
 conv=>whnf
 refine .mk fun x17=>?_
 conv=>whnf
 refine .mk ?_ ?_
 conv=>whnf
 refine .mk fun x18 e18=>?_
 refine .mk ?_
 conv=>whnf
 refine .mk fun x19=>?_
 exact .mk
 conv=>whnf
 exact .mk
 exact .mk
 conv=>whnf
 exact .mk
 exact .mk
 conv=>whnf
 exact .mk
 intro _ _
 exact .mk
noncomputable def t_stock_in (a1:Int) (a2:Int) (a3:Int):WT Tryz.prog (.b (Bool)) :=
 .jn 1 [] [] [] (fun _ (a:Bool)=>[(6,boo a)]) (fun _ _=>[]) (.bB 9 (decide (a1≥a2)) fun x4 =>
 .ifs [9] x4 (.bB 13 (decide (a1≤a3)) fun x5 =>
 .ret x5) (.ret (false:Bool)))
  (fun y0_1 =>
 .ret (y0_1))
def d_stock_in (a1:Int) (a2:Int) (a3:Int):Option (Bool):=(t_stock_in a1 a2 a3).run
theorem d_stock_in_c {a1:Int} {a2:Int} {a3:Int} {r:Bool} (h0:d_stock_in a1 a2 a3=some r):PP Tryz.prog 70 [int a1,int a2,int a3] (fun y=>y=boo r):=by
 refine wt_pp mixed tbk (fun (r:Bool)=>boo r) h0 Tryz.func70 (fun r=>pvB r) 100000 ?_
 conv=>whnf
 refine .mk ?_ ?_
 conv=>whnf
 refine .mk fun x4=>?_
 conv=>whnf
 refine .mk ?_ ?_
 conv=>whnf
 refine .mk fun x5=>?_
 exact .mk
 conv=>whnf
 exact .mk
 intro _ _
 exact .mk
noncomputable def t_stock_place (a1:GState) (a2:Int) (a3:Int) (a4:Int):WT Tryz.prog (.b (Int)) :=
 .al 1<|
 .jn 0 [2,3,8] [] [] (fun _ (a:Bool)=>[(18,boo a)]) (fun _ _=>[]) (.cl 12 (d_stock_is a1 a2 a3) cal81 d_stock_is_c fun x6 =>
 .bB 13 (!x6) fun x7 =>
 .ifs [13] x7 (.ret (true:Bool)) (.cl 16 (d_stock_in a4 0 1) cal70 d_stock_in_c fun x8 =>
 .bB 17 (!x8) fun x9 =>
 .ret x9))
  (fun y0_1 =>
 .ifs [18] y0_1 (.ret (((-1):Int))) (.bI 20 (w64 (a3*2)) fun x10 =>
 .bI 22 (w64 (x10+a4)) fun x11 =>
 .ret (x11)))
def d_stock_place (a1:GState) (a2:Int) (a3:Int) (a4:Int):Option (Int):=(t_stock_place a1 a2 a3 a4).run
theorem d_stock_place_c {a1:GState} {a2:Int} {a3:Int} {a4:Int} {r:Int} (h0:d_stock_place a1 a2 a3 a4=some r):PP Tryz.prog 47 [.agg (GState.av a1),int a2,int a3,int a4] (fun y=>y=int r):=by
 refine wt_pp mixed tbk (fun (r:Int)=>int r) h0 Tryz.func47 (fun r=>pvI r) 100000 ?_
 intro v5
 conv=>whnf
 refine .mk ?_ ?_
 conv=>whnf
 refine .mk fun x6 e6=>?_
 conv=>whnf
 refine .mk fun x7=>?_
 refine .mk .mk ?_
 conv=>whnf
 refine .mk fun x8 e8=>?_
 conv=>whnf
 refine .mk fun x9=>?_
 exact .mk
 intro _ _
 refine .mk .mk ?_
 conv=>whnf
 refine .mk fun x10=>?_
 conv=>whnf
 refine .mk fun x11=>?_
 exact .mk
noncomputable def t_stock_At (a1:GState) (a2:Int) (a3:Int) (a4:Int):WT Tryz.prog (.b (GPool)) :=
 .al 1<|
 .al 2<|
 .cl 15 (d_stock_place a1 a2 a3 a4) cal47 d_stock_place_c fun x7 =>
 .bB 17 (decide (x7<0)) fun x8 =>
 .ifs [17] x8 (.ret (((⟨[],(⟨0,0,0⟩:A3_Int)⟩:GPool):GPool))) (.ixE 22 GEnt.av gE GEnt.av_eq a1.Ents a2 fun x9 =>
 .ix 26 GPool.av x9.Pools x7 fun x10 =>
 .al 3<|
 .as (x10.Layers.length≤68719476736) inferInstance<|
 .ge 30<|
 .ret (x10))
def d_stock_At (a1:GState) (a2:Int) (a3:Int) (a4:Int):Option (GPool):=(t_stock_At a1 a2 a3 a4).run
theorem d_stock_At_c {a1:GState} {a2:Int} {a3:Int} {a4:Int} {r:GPool} (h0:d_stock_At a1 a2 a3 a4=some r):PP Tryz.prog 26 [.agg (GState.av a1),int a2,int a3,int a4] (fun y=>y=.agg (GPool.av r)):=by
 refine wt_pp mixed tbk (fun (r:GPool)=>.agg (GPool.av r)) h0 Tryz.func26 (fun r=>(fun (a:GPool)=>PV.agg (GPool.pvc a)) r) 100000 ?_
 intro v5
 intro v6
 conv=>whnf
 refine .mk fun x7 e7=>?_
 conv=>whnf
 refine .mk fun x8=>?_
 conv=>whnf
 refine .mk ?_ ?_
 conv=>whnf
 exact .mk (CvL.agg (.cons (.nil _) (.cons (.refl _) (.cons (.refl _) (.cons (.refl _) .nil)))))
 conv=>whnf
 refine .mk fun x9 e9=>?_
 conv=>whnf
 refine .mk fun x10 e10=>?_
 intro v11
 conv=>whnf
 refine .mk fun p12=>?_
 conv=>whnf
 refine .mk _ ⟨fun _=>yl_call rfl rfl (.cons rfl .nil) cal56 (pc_cv (clone56_c (id:=4) (l:=x10.Layers) rfl p12) (.cons (.refl _) .nil)),fun _ _ _=>trivial⟩ ?_
 rintro _ _ ⟨v13,rfl,rfl⟩
 conv=>whnf
 exact .mk (CvL.agg (.cons (cv_lst rfl rfl rfl rfl rfl (Eq.symm rfl)) (.cons (.refl _) (.cons (.refl _) (.cons (.refl _) .nil)))))
noncomputable def t_money_in (a1:Int):WT Tryz.prog (.b (Bool)) :=
 .jn 1 [] [] [] (fun _ (a:Bool)=>[(2,boo a)]) (fun _ _=>[]) (.bB 4 (decide (a1≥(-288230376151711744))) fun x2 =>
 .ifs [4] x2 (.bB 7 (decide (a1≤288230376151711744)) fun x3 =>
 .ret x3) (.ret (false:Bool)))
  (fun y0_1 =>
 .ret (y0_1))
def d_money_in (a1:Int):Option (Bool):=(t_money_in a1).run
theorem d_money_in_c {a1:Int} {r:Bool} (h0:d_money_in a1=some r):PP Tryz.prog 144 [int a1] (fun y=>y=boo r):=by
 refine wt_pp mixed tbk (fun (r:Bool)=>boo r) h0 Tryz.func144 (fun r=>pvB r) 100000 ?_
 conv=>whnf
 refine .mk ?_ ?_
 conv=>whnf
 refine .mk fun x2=>?_
 conv=>whnf
 refine .mk ?_ ?_
 conv=>whnf
 refine .mk fun x3=>?_
 exact .mk
 conv=>whnf
 exact .mk
 intro _ _
 exact .mk
noncomputable def t_money_Add (a1:Int) (a2:Int):WT Tryz.prog (.b (Int×Int)) :=
 .jn 1 [0,1,4,5] [] [] (fun _ (a:Bool)=>[(20,boo a)]) (fun _ _=>[]) (.cl 7 (d_money_in a1) cal144 d_money_in_c fun x3 =>
 .bB 8 (!x3) fun x4 =>
 .ifs [8] x4 (.ret (true:Bool)) (.cl 11 (d_money_in a2) cal144 d_money_in_c fun x5 =>
 .bB 12 (!x5) fun x6 =>
 .ifs [12] x6 (.ret (true:Bool)) (.bI 17 (w64 (a1+a2)) fun x7 =>
 .cl 18 (d_money_in x7) cal144 d_money_in_c fun x8 =>
 .bB 19 (!x8) fun x9 =>
 .ret x9)))
  (fun y0_1 =>
 .ifs [20] y0_1 (.ret ((0:Int),(2:Int))) (.bI 23 (w64 (a1+a2)) fun x10 =>
 .ret (x10,(0:Int))))
def d_money_Add (a1:Int) (a2:Int):Option (Int×Int):=(t_money_Add a1 a2).run
theorem d_money_Add_c {a1:Int} {a2:Int} {r:Int×Int} (h0:d_money_Add a1 a2=some r):PP Tryz.prog 96 [int a1,int a2] (fun y=>y=.tup [int r.1,int r.2]):=by
 refine wt_pp mixed tbk (fun (r:Int×Int)=>.tup [int r.1,int r.2]) h0 Tryz.func96 (fun r=>.tup (pvl2 (pvI (r.1)) (pvI (r.2)))) 100000 ?_
 conv=>whnf
 refine .mk ?_ ?_
 conv=>whnf
 refine .mk fun x3 e3=>?_
 conv=>whnf
 refine .mk fun x4=>?_
 refine .mk .mk ?_
 conv=>whnf
 refine .mk fun x5 e5=>?_
 conv=>whnf
 refine .mk fun x6=>?_
 refine .mk .mk ?_
 conv=>whnf
 refine .mk fun x7=>?_
 conv=>whnf
 refine .mk fun x8 e8=>?_
 conv=>whnf
 refine .mk fun x9=>?_
 exact .mk
 intro _ _
 refine .mk .mk ?_
 conv=>whnf
 refine .mk fun x10=>?_
 exact .mk
noncomputable def t_money_Sum (n:Nat) (a1:List Int):WT Tryz.prog (.b (Int×Int)) :=
 .ln 9 fI a1<|
 .jnE 0 [2,3] [] [] (fun _ (a:Int)=>[(4,int a)]) (fun _ _=>[]) (.lp [2,3,8,9] [] [] (fun _ (a:Int×Int)=>[(4,int a.1),(10,int a.2)]) (fun _ _=>[]) n ((0:Int),(0:Int)) (pw fun y0_1 y0_2 =>
 .bB 11 (decide (y0_2<(a1.length:Int))) fun x2 =>
 .ifs [11] x2 (.ix 12 fI a1 y0_2 fun x3 =>
 .cl 17 (d_money_Add y0_1 x3) cal96 d_money_Add_c fun x4 =>
 .bB 21 (decide (x4.2≠0)) fun x5 =>
 .ifs [21] x5 (.esc (.esc (.ret ((0:Int),(x4.2:Int))))) (.bI 23 (w64 (y0_2+1)) fun x6 =>
 .brk ((x4.1:Int),x6))) (.esc (.brk y0_1))))
  (fun y1_1 =>
 .ret (y1_1,(0:Int)))
def d_money_Sum (n:Nat) (a1:List Int):Option (Int×Int):=(t_money_Sum n a1).run
theorem d_money_Sum_c {n:Nat} {a1:List Int} {r:Int×Int} (h0:d_money_Sum n a1=some r):PP Tryz.prog 58 [lst 1 fI a1] (fun y=>y=.tup [int r.1,int r.2]):=by
 refine wt_pp mixed tbk (fun (r:Int×Int)=>.tup [int r.1,int r.2]) h0 Tryz.func58 (fun r=>.tup (pvl2 (pvI (r.1)) (pvI (r.2)))) 100000 ?_
 refine .mk ?_
 conv=>whnf
 refine .mk ?_ ?_
 refine .mk ?_
 intro _ _
 conv=>whnf
 refine .mk fun x2=>?_
 conv=>whnf
 refine .mk ?_ ?_
 conv=>whnf
 refine .mk fun x3 e3=>?_
 conv=>whnf
 refine .mk fun x4 e4=>?_
 conv=>whnf
 refine .mk fun x5=>?_
 refine .mk .mk ?_
 conv=>whnf
 refine .mk fun x6=>?_
 exact .mk
 conv=>whnf
 exact .mk
 intro _ _
 exact .mk
noncomputable def t_fifo_Total (n:Nat) (a1:List GLayer):WT Tryz.prog (.b (GLayer×Int)) :=
 .al 1<|
 .ln 15 GLayer.av a1<|
 .jn 0 [2,3] [1] [6,7,8] (fun u2 (a:(List Int)×(List Int)×(List Int))=>[(4,.sl 6 (u2 6) 0 a.1.length),(5,.sl 7 (u2 7) 0 a.2.1.length),(6,.sl 8 (u2 8) 0 a.2.2.length)]) (fun _ a=>[.nw 6 3 1 (a.1.map fI),.nw 7 3 1 (a.2.1.map fI),.nw 8 3 1 (a.2.2.map fI)]) (.no 4 6 3 1<|
 .no 5 7 3 1<|
 .no 6 8 3 1<|
 .lp [2,3,14,15] [1] [6,7,8] (fun u3 (a:Int×(List Int)×(List Int)×(List Int))=>[(4,.sl 6 (u3 6) 0 a.2.1.length),(5,.sl 7 (u3 7) 0 a.2.2.1.length),(6,.sl 8 (u3 8) 0 a.2.2.2.length),(16,int a.1)]) (fun _ a=>[.nw 6 3 1 (a.2.1.map fI),.nw 7 3 1 (a.2.2.1.map fI),.nw 8 3 1 (a.2.2.2.map fI)]) n ((0:Int),(([]:List Int):List Int),(([]:List Int):List Int),(([]:List Int):List Int)) (pw fun y0_4 q0=>(pw fun y0_5 q1=>(pw fun y0_6 y0_7 =>
 .bB 17 (decide (y0_4<(a1.length:Int))) fun x6 =>
 .ifs [17] x6 (.ix 18 GLayer.av a1 y0_4 fun x7 =>
 .al 2<|
 .dr [(1,[2]),(2,[2]),(6,[2]),(7,[2]),(11,[2]),(12,[2])] [(14,[])] [2] [4,9,14] [0,1,2,3,5,6,7,8,10,11,12,13,4,9,14,15,16,17] (.gv 23<|
 .gv 28<|
 .gv 33<|
 .bl (y0_5++([x7.Qty]:List Int):List Int) fun x9 =>
 .as (x9.length≤68719476736) inferInstance<|
 .ge 24<|
 .bl (y0_6++([x7.Value]:List Int):List Int) fun x12 =>
 .as (x12.length≤68719476736) inferInstance<|
 .ge 29<|
 .bl (y0_7++([x7.Profit]:List Int):List Int) fun x15 =>
 .as (x15.length≤68719476736) inferInstance<|
 .ge 34<|
 .bI 35 (w64 (y0_4+1)) fun x18 =>
 .brk (x18,x9,x12,x15))) (.esc (.ret (y0_5,y0_6,y0_7)))) q1) q0))
  (pw fun y1_4 q0=>(pw fun y1_5 y1_6 =>
 .al 9<|
 .gv 45<|
 .jnE 0 [2,3,9] [1] [] (fun _ (a:GLayer)=>[]) (fun _ a=>[.kp 9 [[int a.Qty,int a.Value,int a.Profit]]]) (.un 24 (.kB 48 true<|
 .gv 49<|
 .al 10<|
 .clT 54 (d_money_Sum n y1_4) cal58 d_money_Sum_c (fun _=>rfl) fun x21 =>
 .bB 58 (decide (x21.2≠0)) fun x22 =>
 .ifs [58] x22 (.esc (.ret (((⟨0,0,0⟩:GLayer):GLayer),(x21.2:Int)))) (.kI 65 1<|
 .kB 48 true<|
 .gv 49<|
 .al 11<|
 .clT 54 (d_money_Sum n y1_5) cal58 d_money_Sum_c (fun _=>rfl) fun x24 =>
 .bB 58 (decide (x24.2≠0)) fun x25 =>
 .ifs [58] x25 (.esc (.ret (((⟨0,0,0⟩:GLayer):GLayer),(x24.2:Int)))) (.kI 65 2<|
 .kB 48 true<|
 .gv 49<|
 .al 12<|
 .clT 54 (d_money_Sum n y1_6) cal58 d_money_Sum_c (fun _=>rfl) fun x27 =>
 .bB 58 (decide (x27.2≠0)) fun x28 =>
 .ifs [58] x28 (.esc (.ret (((⟨0,0,0⟩:GLayer):GLayer),(x27.2:Int)))) (.kI 65 3<|
 .kB 48 false<|
 .brk ((⟨x21.1,x24.1,x27.1⟩:GLayer):GLayer))))))
  (fun y2_1 =>
 .ret (y2_1,(0:Int)))) q0)
def d_fifo_Total (n:Nat) (a1:List GLayer):Option (GLayer×Int):=(t_fifo_Total n a1).run
theorem d_fifo_Total_c {n:Nat} {a1:List GLayer} {r:GLayer×Int} (h0:d_fifo_Total n a1=some r):PP Tryz.prog 85 [lst 3 GLayer.av a1] (fun y=>y=.tup [.agg (GLayer.av r.1),int r.2]):=by
 refine wt_pp mixed tbk (fun (r:GLayer×Int)=>.tup [.agg (GLayer.av r.1),int r.2]) h0 Tryz.func85 (fun r=>.tup (pvl2 ((fun (a:GLayer)=>PV.agg (GLayer.pvc a)) (r.1)) (pvI (r.2)))) 100000 ?_
 intro v2
 refine .mk ?_
 conv=>whnf
 refine .mk ?_ ?_
 intro v3
 intro v4
 intro v5
 refine .mk ?_
 rintro ⟨y0_4,y0_5,y0_6,y0_7⟩ _
 conv=>whnf
 refine .mk fun x6=>?_
 conv=>whnf
 refine .mk ?_ ?_
 conv=>whnf
 refine .mk fun x7 e7=>?_
 intro v8
 refine .mk ?_
 conv=>whnf
 refine .mk _ (fun H hH _=>yv_to (y:=lst 1 fI ([x7.Qty]:List Int)) (yv_buildSlice (ps:=[(0,_)]) (rows:=[[int x7.Qty]]) rfl Tryz.underlying22 bz3 (.cons rfl .nil) (by kernel_rfl) rfl rfl rfl) rfl) ?_
 conv=>whnf
 refine .mk _ (fun H hH _=>yv_to (y:=lst 1 fI ([x7.Value]:List Int)) (yv_buildSlice (ps:=[(0,_)]) (rows:=[[int x7.Value]]) rfl Tryz.underlying22 bz3 (.cons rfl .nil) (by kernel_rfl) rfl rfl rfl) rfl) ?_
 conv=>whnf
 refine .mk _ (fun H hH _=>yv_to (y:=lst 1 fI ([x7.Profit]:List Int)) (yv_buildSlice (ps:=[(0,_)]) (rows:=[[int x7.Profit]]) rfl Tryz.underlying22 bz3 (.cons rfl .nil) (by kernel_rfl) rfl rfl rfl) rfl) ?_
 conv=>whnf
 refine .mk fun x9 e9=>?_
 conv=>whnf
 refine .mk fun p10=>?_
 conv=>whnf
 refine .mk _ ⟨fun _=>yl_appT (g:=fI) (l:=y0_5) (m:=([x7.Qty]:List Int)) .any rfl Tryz.underlying22 bz3 by3 rfl rfl rfl rfl rfl rfl rfl rfl rfl rfl (Eq.symm rfl) (.refl _) (fun _=>rfl) e9 p10,by rintro _ _ ⟨v11,-,rfl,rfl⟩;exact ⟨rfl,trivial⟩⟩ ?_
 rintro _ _ ⟨v11,-,rfl,rfl⟩
 conv=>whnf
 refine .mk fun x12 e12=>?_
 conv=>whnf
 refine .mk fun p13=>?_
 conv=>whnf
 refine .mk _ ⟨fun _=>yl_appT (g:=fI) (l:=y0_6) (m:=([x7.Value]:List Int)) .any rfl Tryz.underlying22 bz3 by3 rfl rfl rfl rfl rfl rfl rfl rfl rfl rfl (Eq.symm rfl) (.refl _) (fun _=>rfl) e12 p13,by rintro _ _ ⟨v14,-,rfl,rfl⟩;exact ⟨rfl,trivial⟩⟩ ?_
 rintro _ _ ⟨v14,-,rfl,rfl⟩
 conv=>whnf
 refine .mk fun x15 e15=>?_
 conv=>whnf
 refine .mk fun p16=>?_
 conv=>whnf
 refine .mk _ ⟨fun _=>yl_appT (g:=fI) (l:=y0_7) (m:=([x7.Profit]:List Int)) .any rfl Tryz.underlying22 bz3 by3 rfl rfl rfl rfl rfl rfl rfl rfl rfl rfl (Eq.symm rfl) (.refl _) (fun _=>rfl) e15 p16,by rintro _ _ ⟨v17,-,rfl,rfl⟩;exact trivial⟩ ?_
 rintro _ _ ⟨v17,-,rfl,rfl⟩
 conv=>whnf
 refine .mk fun x18=>?_
 exact .mk
 conv=>whnf
 exact .mk
 rintro ⟨y1_4,y1_5,y1_6⟩ u2
 intro v19
 conv=>whnf
 refine .mk _ (agr (yv_buildSlice (ps:=[(0,_),(1,_),(2,_)]) (rows:=[[.pt 9 v19 0 0,.sl 6 (u2 6) 0 y1_4.length],[.pt 9 v19 0 1,.sl 7 (u2 7) 0 y1_5.length],[.pt 9 v19 0 2,.sl 8 (u2 8) 0 y1_6.length]]) rfl Tryz.underlying186 bz185 (.cons rfl (.cons rfl (.cons rfl .nil))) (by kernel_rfl) rfl rfl rfl)) ?_
 conv=>whnf
 refine .mk ?_ ?_
 refine .mk ?_
 conv=>whnf
 refine .mk _ (agr (yv_indexAddr (j:=0) rfl Tryz.underlying186 sh185 rfl rfl rfl (.list rfl))) ?_
 intro v20
 conv=>whnf
 refine .mk (fun x21 e21=>?_) rfl (by rintro _ rfl;exact (.cons (cv_lst rfl rfl rfl rfl rfl (Eq.symm rfl)) .nil))
 conv=>whnf
 refine .mk fun x22=>?_
 refine .mk .mk ?_
 refine .mk ?_
 conv=>whnf
 refine .mk ?_
 conv=>whnf
 refine .mk _ (agr (yv_indexAddr (j:=1) rfl Tryz.underlying186 sh185 rfl rfl rfl (.list rfl))) ?_
 intro v23
 conv=>whnf
 refine .mk (fun x24 e24=>?_) rfl (by rintro _ rfl;exact (.cons (cv_lst rfl rfl rfl rfl rfl (Eq.symm rfl)) .nil))
 conv=>whnf
 refine .mk fun x25=>?_
 refine .mk .mk ?_
 refine .mk ?_
 conv=>whnf
 refine .mk ?_
 conv=>whnf
 refine .mk _ (agr (yv_indexAddr (j:=2) rfl Tryz.underlying186 sh185 rfl rfl rfl (.list rfl))) ?_
 intro v26
 conv=>whnf
 refine .mk (fun x27 e27=>?_) rfl (by rintro _ rfl;exact (.cons (cv_lst rfl rfl rfl rfl rfl (Eq.symm rfl)) .nil))
 conv=>whnf
 refine .mk fun x28=>?_
 refine .mk .mk ?_
 refine .mk ?_
 conv=>whnf
 refine .mk ?_
 exact .mk
 intro _ _
 exact .mk
noncomputable def t_stock_worth (n:Nat) (a1:GState) (a2:Int) (a3:Int):WT Tryz.prog (.b (GLayer×Bool)) :=
 .al 1<|
 .al 2<|
 .jn 2 [6,7] [2] [7,8,9] (fun u2 (a:(List Int)×(List Int)×(List Int))=>[(8,.sl 7 (u2 7) 0 a.1.length),(9,.sl 8 (u2 8) 0 a.2.1.length),(10,.sl 9 (u2 9) 0 a.2.2.length)]) (fun _ a=>[.nw 7 3 1 (a.1.map fI),.nw 8 3 1 (a.2.1.map fI),.nw 9 3 1 (a.2.2.map fI)]) (.no 8 7 3 1<|
 .no 9 8 3 1<|
 .no 10 9 3 1<|
 .lp [1,2,3,6,7] [1,2] [7,8,9] (fun u3 (a:Int×(List Int)×(List Int)×(List Int))=>[(8,.sl 7 (u3 7) 0 a.2.1.length),(9,.sl 8 (u3 8) 0 a.2.2.1.length),(10,.sl 9 (u3 9) 0 a.2.2.2.length),(20,int a.1)]) (fun _ a=>[.nw 7 3 1 (a.2.1.map fI),.nw 8 3 1 (a.2.2.1.map fI),.nw 9 3 1 (a.2.2.2.map fI)]) n ((0:Int),(([]:List Int):List Int),(([]:List Int):List Int),(([]:List Int):List Int)) (pw fun y0_4 q0=>(pw fun y0_5 q1=>(pw fun y0_6 y0_7 =>
 .bB 21 (decide (y0_4<2)) fun x9 =>
 .ifs [21] x9 (.cl 28 (d_stock_At a1 a2 a3 y0_4) cal26 d_stock_At_c fun x10 =>
 .cl 30 (d_fifo_Total n x10.Layers) cal85 d_fifo_Total_c fun x11 =>
 .al 3<|
 .dr [(1,[3]),(2,[3]),(6,[3]),(7,[3]),(11,[3]),(12,[3])] [(14,[])] [3] [4,9,14] [0,1,2,3,5,6,7,8,10,11,12,13,4,9,14,15,16,17] (.gv 36<|
 .gv 41<|
 .gv 46<|
 .bl (y0_5++([x11.1.Qty]:List Int):List Int) fun x13 =>
 .as (x13.length≤68719476736) inferInstance<|
 .ge 37<|
 .bl (y0_6++([x11.1.Value]:List Int):List Int) fun x16 =>
 .as (x16.length≤68719476736) inferInstance<|
 .ge 42<|
 .bl (y0_7++([x11.1.Profit]:List Int):List Int) fun x19 =>
 .as (x19.length≤68719476736) inferInstance<|
 .ge 47<|
 .bI 48 (w64 (y0_4+1)) fun x22 =>
 .brk (x22,x13,x16,x19))) (.esc (.ret (y0_5,y0_6,y0_7)))) q1) q0))
  (pw fun y1_4 q0=>(pw fun y1_5 y1_6 =>
 .clT 51 (d_money_Sum n y1_4) cal58 d_money_Sum_c (fun _=>rfl) fun x23 =>
 .clT 56 (d_money_Sum n y1_5) cal58 d_money_Sum_c (fun _=>rfl) fun x24 =>
 .clT 61 (d_money_Sum n y1_6) cal58 d_money_Sum_c (fun _=>rfl) fun x25 =>
 .bl (if x25.2>(if x24.2>x23.2 then x24.2 else x23.2) then x25.2 else (if x24.2>x23.2 then x24.2 else x23.2):Int) fun x26 =>
 .gv 71<|
 .bB 72 (decide (x26=0)) fun x27 =>
 .ret (((⟨x23.1,x24.1,x25.1⟩:GLayer):GLayer),x27)) q0)
def d_stock_worth (n:Nat) (a1:GState) (a2:Int) (a3:Int):Option (GLayer×Bool):=(t_stock_worth n a1 a2 a3).run
theorem d_stock_worth_c {n:Nat} {a1:GState} {a2:Int} {a3:Int} {r:GLayer×Bool} (h0:d_stock_worth n a1 a2 a3=some r):PP Tryz.prog 50 [.agg (GState.av a1),int a2,int a3] (fun y=>y=.tup [.agg (GLayer.av r.1),boo r.2]):=by
 refine wt_pp mixed tbk (fun (r:GLayer×Bool)=>.tup [.agg (GLayer.av r.1),boo r.2]) h0 Tryz.func50 (fun r=>.tup (pvl2 ((fun (a:GLayer)=>PV.agg (GLayer.pvc a)) (r.1)) (pvB (r.2)))) 100000 ?_
 intro v4
 intro v5
 conv=>whnf
 refine .mk ?_ ?_
 intro v6
 intro v7
 intro v8
 refine .mk ?_
 rintro ⟨y0_4,y0_5,y0_6,y0_7⟩ _
 conv=>whnf
 refine .mk fun x9=>?_
 conv=>whnf
 refine .mk ?_ ?_
 conv=>whnf
 refine .mk fun x10 e10=>?_
 conv=>whnf
 refine .mk fun x11 e11=>?_
 intro v12
 refine .mk ?_
 conv=>whnf
 refine .mk _ (fun H hH _=>yv_to (y:=lst 1 fI ([x11.1.Qty]:List Int)) (yv_buildSlice (ps:=[(0,_)]) (rows:=[[int x11.1.Qty]]) rfl Tryz.underlying22 bz3 (.cons rfl .nil) (by kernel_rfl) rfl rfl rfl) rfl) ?_
 conv=>whnf
 refine .mk _ (fun H hH _=>yv_to (y:=lst 1 fI ([x11.1.Value]:List Int)) (yv_buildSlice (ps:=[(0,_)]) (rows:=[[int x11.1.Value]]) rfl Tryz.underlying22 bz3 (.cons rfl .nil) (by kernel_rfl) rfl rfl rfl) rfl) ?_
 conv=>whnf
 refine .mk _ (fun H hH _=>yv_to (y:=lst 1 fI ([x11.1.Profit]:List Int)) (yv_buildSlice (ps:=[(0,_)]) (rows:=[[int x11.1.Profit]]) rfl Tryz.underlying22 bz3 (.cons rfl .nil) (by kernel_rfl) rfl rfl rfl) rfl) ?_
 conv=>whnf
 refine .mk fun x13 e13=>?_
 conv=>whnf
 refine .mk fun p14=>?_
 conv=>whnf
 refine .mk _ ⟨fun _=>yl_appT (g:=fI) (l:=y0_5) (m:=([x11.1.Qty]:List Int)) .any rfl Tryz.underlying22 bz3 by3 rfl rfl rfl rfl rfl rfl rfl rfl rfl rfl (Eq.symm rfl) (.refl _) (fun _=>rfl) e13 p14,by rintro _ _ ⟨v15,-,rfl,rfl⟩;exact ⟨rfl,trivial⟩⟩ ?_
 rintro _ _ ⟨v15,-,rfl,rfl⟩
 conv=>whnf
 refine .mk fun x16 e16=>?_
 conv=>whnf
 refine .mk fun p17=>?_
 conv=>whnf
 refine .mk _ ⟨fun _=>yl_appT (g:=fI) (l:=y0_6) (m:=([x11.1.Value]:List Int)) .any rfl Tryz.underlying22 bz3 by3 rfl rfl rfl rfl rfl rfl rfl rfl rfl rfl (Eq.symm rfl) (.refl _) (fun _=>rfl) e16 p17,by rintro _ _ ⟨v18,-,rfl,rfl⟩;exact ⟨rfl,trivial⟩⟩ ?_
 rintro _ _ ⟨v18,-,rfl,rfl⟩
 conv=>whnf
 refine .mk fun x19 e19=>?_
 conv=>whnf
 refine .mk fun p20=>?_
 conv=>whnf
 refine .mk _ ⟨fun _=>yl_appT (g:=fI) (l:=y0_7) (m:=([x11.1.Profit]:List Int)) .any rfl Tryz.underlying22 bz3 by3 rfl rfl rfl rfl rfl rfl rfl rfl rfl rfl (Eq.symm rfl) (.refl _) (fun _=>rfl) e19 p20,by rintro _ _ ⟨v21,-,rfl,rfl⟩;exact trivial⟩ ?_
 rintro _ _ ⟨v21,-,rfl,rfl⟩
 conv=>whnf
 refine .mk fun x22=>?_
 exact .mk
 conv=>whnf
 exact .mk
 intro _ _
 conv=>whnf
 refine .mk (fun x23 e23=>?_) rfl (by rintro _ rfl;exact (.cons (cv_lst rfl rfl rfl rfl rfl (Eq.symm rfl)) .nil))
 conv=>whnf
 refine .mk (fun x24 e24=>?_) rfl (by rintro _ rfl;exact (.cons (cv_lst rfl rfl rfl rfl rfl (Eq.symm rfl)) .nil))
 conv=>whnf
 refine .mk (fun x25 e25=>?_) rfl (by rintro _ rfl;exact (.cons (cv_lst rfl rfl rfl rfl rfl (Eq.symm rfl)) .nil))
 conv=>whnf
 refine .mk fun x26 e26=>?_
 conv=>whnf
 refine .mk _ (agr (yv_max3 rfl rfl rfl rfl e26)) ?_
 conv=>whnf
 refine .mk fun x27=>?_
 exact .mk
noncomputable def t_stock_Worth (n:Nat) (a1:GState) (a2:Int) (a3:Int):WT Tryz.prog (.b (GLayer)) :=
 .al 1<|
 .al 2<|
 .cl 13 (d_stock_worth n a1 a2 a3) cal50 d_stock_worth_c fun x6 =>
 .al 3<|
 .ret ((x6.1:GLayer))
def d_stock_Worth (n:Nat) (a1:GState) (a2:Int) (a3:Int):Option (GLayer):=(t_stock_Worth n a1 a2 a3).run
theorem d_stock_Worth_c {n:Nat} {a1:GState} {a2:Int} {a3:Int} {r:GLayer} (h0:d_stock_Worth n a1 a2 a3=some r):PP Tryz.prog 28 [.agg (GState.av a1),int a2,int a3] (fun y=>y=.agg (GLayer.av r)):=by
 refine wt_pp mixed tbk (fun (r:GLayer)=>.agg (GLayer.av r)) h0 Tryz.func28 (fun r=>(fun (a:GLayer)=>PV.agg (GLayer.pvc a)) r) 100000 ?_
 intro v4
 intro v5
 conv=>whnf
 refine .mk fun x6 e6=>?_
 intro v7
 exact .mk
noncomputable def t_stock_All (n:Nat) (a1:GState) (a2:Int):WT Tryz.prog (.b (Int)) :=
 .al 1<|
 .ln 12 fI a1.Master.Weights<|
 .jn 0 [4] [] [3] (fun u2 (a:(List Int))=>[(5,.sl 3 (u2 3) 0 a.length)]) (fun _ a=>[.nw 3 3 1 (a.map fI)]) (.no 5 3 3 1<|
 .lp [1,2,4,12] [1] [3] (fun u3 (a:Int×(List Int))=>[(5,.sl 3 (u3 3) 0 a.2.length),(13,int a.1)]) (fun _ a=>[.nw 3 3 1 (a.2.map fI)]) n ((0:Int),(([]:List Int):List Int)) (pw fun y0_2 y0_3 =>
 .bB 14 (decide (y0_2<(a1.Master.Weights.length:Int))) fun x5 =>
 .ifs [14] x5 (.cl 20 (d_stock_Worth n a1 a2 y0_2) cal28 d_stock_Worth_c fun x6 =>
 .gv 22<|
 .bl (y0_3++([x6.Value]:List Int):List Int) fun x7 =>
 .as (x7.length≤68719476736) inferInstance<|
 .ge 23<|
 .bI 24 (w64 (y0_2+1)) fun x10 =>
 .brk (x10,x7)) (.esc (.ret y0_3))))
  (fun y1_2 =>
 .clT 27 (d_money_Sum n y1_2) cal58 d_money_Sum_c (fun _=>rfl) fun x11 =>
 .ret ((x11.1:Int)))
def d_stock_All (n:Nat) (a1:GState) (a2:Int):Option (Int):=(t_stock_All n a1 a2).run
theorem d_stock_All_c {n:Nat} {a1:GState} {a2:Int} {r:Int} (h0:d_stock_All n a1 a2=some r):PP Tryz.prog 29 [.agg (GState.av a1),int a2] (fun y=>y=int r):=by
 refine wt_pp mixed tbk (fun (r:Int)=>int r) h0 Tryz.func29 (fun r=>pvI r) 100000 ?_
 intro v3
 refine .mk ?_
 conv=>whnf
 refine .mk ?_ ?_
 intro v4
 refine .mk ?_
 rintro ⟨y0_2,y0_3⟩ _
 conv=>whnf
 refine .mk fun x5=>?_
 conv=>whnf
 refine .mk ?_ ?_
 conv=>whnf
 refine .mk fun x6 e6=>?_
 conv=>whnf
 refine .mk _ (agr (yv_to (y:=lst 1 fI ([x6.Value]:List Int)) (yv_buildSlice (ps:=[(0,_)]) (rows:=[[int x6.Value]]) rfl Tryz.underlying22 bz3 (.cons rfl .nil) (by kernel_rfl) rfl rfl rfl) rfl)) ?_
 conv=>whnf
 refine .mk fun x7 e7=>?_
 conv=>whnf
 refine .mk fun p8=>?_
 conv=>whnf
 refine .mk _ ⟨fun _=>yl_appT (g:=fI) (l:=y0_3) (m:=([x6.Value]:List Int)) .any rfl Tryz.underlying22 bz3 by3 rfl rfl rfl rfl rfl rfl rfl rfl rfl rfl (Eq.symm rfl) (.refl _) (fun _=>rfl) e7 p8,fun _ _ _=>trivial⟩ ?_
 rintro _ _ ⟨v9,-,rfl,rfl⟩
 conv=>whnf
 refine .mk fun x10=>?_
 exact .mk
 conv=>whnf
 exact .mk
 intro _ _
 conv=>whnf
 refine .mk (fun x11 e11=>?_) rfl (by rintro _ rfl;exact (.cons (cv_lst rfl rfl rfl rfl rfl (Eq.symm rfl)) .nil))
 exact .mk
noncomputable def t_recon_bal (a1:GState) (a2:Int) (a3:Int):WT Tryz.prog (.b (Int×Bool)) :=
 .al 1<|
 .jn 0 [1,2,3,6,7] [1] [] (fun _ (a:Bool)=>[(27,boo a)]) (fun _ _=>[]) (.bB 9 (decide (a2<0)) fun x5 =>
 .ifs [9] x5 (.ret (true:Bool)) (.ln 14 GEnt.av a1.Ents<|
 .bB 15 (decide (a2≥(a1.Ents.length:Int))) fun x6 =>
 .ifs [15] x6 (.ret (true:Bool)) (.ixE 22 GEnt.av gE GEnt.av_eq a1.Ents a2 fun x7 =>
 .ln 25 fI x7.Bal<|
 .bB 26 (decide (a3≥(x7.Bal.length:Int))) fun x8 =>
 .ret x8)))
  (fun y0_1 =>
 .ifs [27] y0_1 (.ret ((0:Int),(false:Bool))) (.ixE 31 GEnt.av gE GEnt.av_eq a1.Ents a2 fun x9 =>
 .ix 35 fI x9.Bal a3 fun x10 =>
 .ret (x10,(true:Bool))))
def d_recon_bal (a1:GState) (a2:Int) (a3:Int):Option (Int×Bool):=(t_recon_bal a1 a2 a3).run
theorem d_recon_bal_c {a1:GState} {a2:Int} {a3:Int} {r:Int×Bool} (h0:d_recon_bal a1 a2 a3=some r):PP Tryz.prog 36 [.agg (GState.av a1),int a2,int a3] (fun y=>y=.tup [int r.1,boo r.2]):=by
 refine wt_pp mixed tbk (fun (r:Int×Bool)=>.tup [int r.1,boo r.2]) h0 Tryz.func36 (fun r=>.tup (pvl2 (pvI (r.1)) (pvB (r.2)))) 100000 ?_
 intro v4
 conv=>whnf
 refine .mk ?_ ?_
 conv=>whnf
 refine .mk fun x5=>?_
 refine .mk .mk ?_
 refine .mk ?_
 conv=>whnf
 refine .mk fun x6=>?_
 refine .mk .mk ?_
 conv=>whnf
 refine .mk fun x7 e7=>?_
 refine .mk ?_
 conv=>whnf
 refine .mk fun x8=>?_
 exact .mk
 intro _ _
 refine .mk .mk ?_
 conv=>whnf
 refine .mk fun x9 e9=>?_
 conv=>whnf
 refine .mk fun x10 e10=>?_
 exact .mk
noncomputable def t_recon_agree (n:Nat) (a1:GState) (a2:Int) (a3:Int) (a4:List Int) (a5:Int):WT Tryz.prog (.b (Bool)) :=
 .al 1<|
 .cl 19 (d_recon_bal a1 a2 a3) cal36 d_recon_bal_c fun x7 =>
 .cl 24 (d_money_Sum n a4) cal58 d_money_Sum_c fun x8 =>
 .jn 0 [] [] [] (fun _ (a:Bool)=>[(10,boo a)]) (fun _ _=>[]) (.ifs [12,21] x7.2 (.bB 30 (decide (x8.2=0)) fun x9 =>
 .ifs [30] x9 (.bI 35 (w64 (x8.1*a5)) fun x10 =>
 .bB 37 (decide (x10=x7.1)) fun x11 =>
 .ret x11) (.ret (false:Bool))) (.ret (false:Bool)))
  (fun y0_1 =>
 .ret (y0_1))
def d_recon_agree (n:Nat) (a1:GState) (a2:Int) (a3:Int) (a4:List Int) (a5:Int):Option (Bool):=(t_recon_agree n a1 a2 a3 a4 a5).run
theorem d_recon_agree_c {n:Nat} {a1:GState} {a2:Int} {a3:Int} {a4:List Int} {a5:Int} {r:Bool} (h0:d_recon_agree n a1 a2 a3 a4 a5=some r):PP Tryz.prog 35 [.agg (GState.av a1),int a2,int a3,lst 1 fI a4,int a5] (fun y=>y=boo r):=by
 refine wt_pp mixed tbk (fun (r:Bool)=>boo r) h0 Tryz.func35 (fun r=>pvB r) 100000 ?_
 intro v6
 conv=>whnf
 refine .mk fun x7 e7=>?_
 conv=>whnf
 refine .mk fun x8 e8=>?_
 conv=>whnf
 refine .mk ?_ ?_
 conv=>whnf
 refine .mk ?_ ?_
 conv=>whnf
 refine .mk fun x9=>?_
 conv=>whnf
 refine .mk ?_ ?_
 conv=>whnf
 refine .mk fun x10=>?_
 conv=>whnf
 refine .mk fun x11=>?_
 exact .mk
 conv=>whnf
 exact .mk
 exact .mk
 intro _ _
 exact .mk
noncomputable def t_recon_Control (n:Nat) (a1:GState) (a2:Int):WT Tryz.prog (.b (Bool)) :=
 .al 1<|
 .dr [(0,[1]),(2,[1])] [] [1] [] [0,1,2,3,4,5,6,7] (.cl 9 (d_stock_All n a1 a2) cal29 d_stock_All_c fun x4 =>
 .gv 10<|
 .cl 11 (d_recon_agree n a1 a2 0 ([x4]:List Int) 1) cal35 d_recon_agree_c fun x5 =>
 .ret (x5))
def d_recon_Control (n:Nat) (a1:GState) (a2:Int):Option (Bool):=(t_recon_Control n a1 a2).run
theorem d_recon_Control_c {n:Nat} {a1:GState} {a2:Int} {r:Bool} (h0:d_recon_Control n a1 a2=some r):PP Tryz.prog 13 [.agg (GState.av a1),int a2] (fun y=>y=boo r):=by
 refine wt_pp mixed tbk (fun (r:Bool)=>boo r) h0 Tryz.func13 (fun r=>pvB r) 100000 ?_
 intro v3
 refine .mk ?_
 conv=>whnf
 refine .mk fun x4 e4=>?_
 conv=>whnf
 refine .mk _ (fun H hH _=>yv_to (y:=lst 1 fI ([x4]:List Int)) (yv_buildSlice (ps:=[(0,_)]) (rows:=[[int x4]]) rfl Tryz.underlying22 bz3 (.cons rfl .nil) (by kernel_rfl) rfl rfl rfl) rfl) ?_
 conv=>whnf
 refine .mk fun x5 e5=>?_
 exact .mk
noncomputable def t_recon_Accrued (n:Nat) (a1:GState) (a2:Int):WT Tryz.prog (.b (Bool)) :=
 .al 1<|
 .ln 10 GReceipt.av a1.Receipts<|
 .jn 0 [1,2,4] [1] [4] (fun u6 (a:(List Int))=>[(5,.sl 4 (u6 4) 0 a.length)]) (fun _ a=>[.nw 4 3 1 (a.map fI)]) (.no 5 4 3 1<|
 .lp [1,2,4,9,10] [1] [4] (fun u10 (a:Int×(List Int))=>[(5,.sl 4 (u10 4) 0 a.2.length),(11,int a.1)]) (fun _ a=>[.nw 4 3 1 (a.2.map fI)]) n ((0:Int),(([]:List Int):List Int)) (pw fun y0_2 y0_3 =>
 .bB 12 (decide (y0_2<(a1.Receipts.length:Int))) fun x5 =>
 .ifs [12] x5 (.jn 1 [1,2,4,9,10,11] [1] [4] (fun u11 (a:(List Int))=>[(5,.sl 4 (u11 4) 0 a.length)]) (fun _ a=>[.nw 4 3 1 (a.map fI)]) (.ix 13 GReceipt.av a1.Receipts y0_2 fun x6 =>
 .al 2<|
 .bB 18 (decide (x6.Entity=a2)) fun x8 =>
 .ifs [18] x8 (.gv 22<|
 .bl (y0_3++([x6.Accrued]:List Int):List Int) fun x9 =>
 .as (x9.length≤68719476736) inferInstance<|
 .ge 23<|
 .ret x9) (.ret y0_3))
  (fun y1_2 =>
 .bI 24 (w64 (y0_2+1)) fun x12 =>
 .brk (x12,y1_2))) (.esc (.ret y0_3))))
  (fun y2_2 =>
 .clT 28 (d_recon_agree n a1 a2 1 y2_2 (-1)) cal35 d_recon_agree_c (fun _=>rfl) fun x13 =>
 .ret (x13))
def d_recon_Accrued (n:Nat) (a1:GState) (a2:Int):Option (Bool):=(t_recon_Accrued n a1 a2).run
theorem d_recon_Accrued_c {n:Nat} {a1:GState} {a2:Int} {r:Bool} (h0:d_recon_Accrued n a1 a2=some r):PP Tryz.prog 14 [.agg (GState.av a1),int a2] (fun y=>y=boo r):=by
 refine wt_pp mixed tbk (fun (r:Bool)=>boo r) h0 Tryz.func14 (fun r=>pvB r) 100000 ?_
 intro v3
 refine .mk ?_
 conv=>whnf
 refine .mk ?_ ?_
 intro v4
 refine .mk ?_
 rintro ⟨y0_2,y0_3⟩ _
 conv=>whnf
 refine .mk fun x5=>?_
 conv=>whnf
 refine .mk ?_ ?_
 conv=>whnf
 refine .mk ?_ ?_
 conv=>whnf
 refine .mk fun x6 e6=>?_
 intro v7
 conv=>whnf
 refine .mk fun x8=>?_
 conv=>whnf
 refine .mk ?_ ?_
 conv=>whnf
 refine .mk _ (agr (yv_to (y:=lst 1 fI ([x6.Accrued]:List Int)) (yv_buildSlice (ps:=[(0,_)]) (rows:=[[int x6.Accrued]]) rfl Tryz.underlying22 bz3 (.cons rfl .nil) (by kernel_rfl) rfl rfl rfl) rfl)) ?_
 conv=>whnf
 refine .mk fun x9 e9=>?_
 conv=>whnf
 refine .mk fun p10=>?_
 conv=>whnf
 refine .mk _ ⟨fun _=>yl_appT (g:=fI) (l:=y0_3) (m:=([x6.Accrued]:List Int)) .any rfl Tryz.underlying22 bz3 by3 rfl rfl rfl rfl rfl rfl rfl rfl rfl rfl (Eq.symm rfl) (.refl _) (fun _=>rfl) e9 p10,fun _ _ _=>trivial⟩ ?_
 rintro _ _ ⟨v11,-,rfl,rfl⟩
 exact .mk
 conv=>whnf
 exact .mk
 intro _ _
 conv=>whnf
 refine .mk fun x12=>?_
 exact .mk
 conv=>whnf
 exact .mk
 intro _ _
 conv=>whnf
 refine .mk (fun x13 e13=>?_) rfl (by rintro _ rfl;exact (.cons (.refl _) (.cons (.refl _) (.cons (.refl _) (.cons (cv_lst rfl rfl rfl rfl rfl (Eq.symm rfl)) (.cons (.refl _) .nil))))))
 exact .mk
noncomputable def t_recon_Way (n:Nat) (a1:GState) (a2:Int):WT Tryz.prog (.b (Bool)) :=
 .al 1<|
 .ln 10 GTransit.av a1.Transits<|
 .jn 0 [1,2,4] [1] [4] (fun u6 (a:(List Int))=>[(5,.sl 4 (u6 4) 0 a.length)]) (fun _ a=>[.nw 4 3 1 (a.map fI)]) (.no 5 4 3 1<|
 .lp [1,2,4,9,10] [1] [4] (fun u10 (a:Int×(List Int))=>[(5,.sl 4 (u10 4) 0 a.2.length),(11,int a.1)]) (fun _ a=>[.nw 4 3 1 (a.2.map fI)]) n ((0:Int),(([]:List Int):List Int)) (pw fun y0_2 y0_3 =>
 .bB 12 (decide (y0_2<(a1.Transits.length:Int))) fun x5 =>
 .ifs [12] x5 (.jn 1 [1,2,4,9,10,11] [1] [4] (fun u11 (a:(List Int))=>[(5,.sl 4 (u11 4) 0 a.length)]) (fun _ a=>[.nw 4 3 1 (a.map fI)]) (.ix 13 GTransit.av a1.Transits y0_2 fun x6 =>
 .al 2<|
 .bB 18 (decide (x6.To=a2)) fun x8 =>
 .ifs [18] x8 (.gv 22<|
 .bl (y0_3++([x6.Value]:List Int):List Int) fun x9 =>
 .as (x9.length≤68719476736) inferInstance<|
 .ge 23<|
 .ret x9) (.ret y0_3))
  (fun y1_2 =>
 .bI 24 (w64 (y0_2+1)) fun x12 =>
 .brk (x12,y1_2))) (.esc (.ret y0_3))))
  (fun y2_2 =>
 .clT 28 (d_recon_agree n a1 a2 12 y2_2 1) cal35 d_recon_agree_c (fun _=>rfl) fun x13 =>
 .ret (x13))
def d_recon_Way (n:Nat) (a1:GState) (a2:Int):Option (Bool):=(t_recon_Way n a1 a2).run
theorem d_recon_Way_c {n:Nat} {a1:GState} {a2:Int} {r:Bool} (h0:d_recon_Way n a1 a2=some r):PP Tryz.prog 15 [.agg (GState.av a1),int a2] (fun y=>y=boo r):=by
 refine wt_pp mixed tbk (fun (r:Bool)=>boo r) h0 Tryz.func15 (fun r=>pvB r) 100000 ?_
 intro v3
 refine .mk ?_
 conv=>whnf
 refine .mk ?_ ?_
 intro v4
 refine .mk ?_
 rintro ⟨y0_2,y0_3⟩ _
 conv=>whnf
 refine .mk fun x5=>?_
 conv=>whnf
 refine .mk ?_ ?_
 conv=>whnf
 refine .mk ?_ ?_
 conv=>whnf
 refine .mk fun x6 e6=>?_
 intro v7
 conv=>whnf
 refine .mk fun x8=>?_
 conv=>whnf
 refine .mk ?_ ?_
 conv=>whnf
 refine .mk _ (agr (yv_to (y:=lst 1 fI ([x6.Value]:List Int)) (yv_buildSlice (ps:=[(0,_)]) (rows:=[[int x6.Value]]) rfl Tryz.underlying22 bz3 (.cons rfl .nil) (by kernel_rfl) rfl rfl rfl) rfl)) ?_
 conv=>whnf
 refine .mk fun x9 e9=>?_
 conv=>whnf
 refine .mk fun p10=>?_
 conv=>whnf
 refine .mk _ ⟨fun _=>yl_appT (g:=fI) (l:=y0_3) (m:=([x6.Value]:List Int)) .any rfl Tryz.underlying22 bz3 by3 rfl rfl rfl rfl rfl rfl rfl rfl rfl rfl (Eq.symm rfl) (.refl _) (fun _=>rfl) e9 p10,fun _ _ _=>trivial⟩ ?_
 rintro _ _ ⟨v11,-,rfl,rfl⟩
 exact .mk
 conv=>whnf
 exact .mk
 intro _ _
 conv=>whnf
 refine .mk fun x12=>?_
 exact .mk
 conv=>whnf
 exact .mk
 intro _ _
 conv=>whnf
 refine .mk (fun x13 e13=>?_) rfl (by rintro _ rfl;exact (.cons (.refl _) (.cons (.refl _) (.cons (.refl _) (.cons (cv_lst rfl rfl rfl rfl rfl (Eq.symm rfl)) (.cons (.refl _) .nil))))))
 exact .mk
noncomputable def t_recon_Written (n:Nat) (a1:GState) (a2:Int):WT Tryz.prog (.b (Bool)) :=
 .al 1<|
 .jn 0 [1,2,4] [1] [] (fun _ (a:Bool)=>[(13,boo a)]) (fun _ _=>[]) (.bB 6 (decide (a2<0)) fun x4 =>
 .ifs [6] x4 (.ret (true:Bool)) (.ln 11 GEnt.av a1.Ents<|
 .bB 12 (decide (a2≥(a1.Ents.length:Int))) fun x5 =>
 .ret x5))
  (fun y0_1 =>
 .ifs [13] y0_1 (.ret ((false:Bool))) (.dr [(0,[1]),(2,[1]),(3,[1])] [] [1] [] [0,1,2,3,4,5,6,7,8,9] (.ixE 19 GEnt.av gE GEnt.av_eq a1.Ents a2 fun x6 =>
 .cl 22 (d_recon_agree n a1 a2 11 x6.Down (-1)) cal35 d_recon_agree_c fun x7 =>
 .ret (x7))))
def d_recon_Written (n:Nat) (a1:GState) (a2:Int):Option (Bool):=(t_recon_Written n a1 a2).run
theorem d_recon_Written_c {n:Nat} {a1:GState} {a2:Int} {r:Bool} (h0:d_recon_Written n a1 a2=some r):PP Tryz.prog 16 [.agg (GState.av a1),int a2] (fun y=>y=boo r):=by
 refine wt_pp mixed tbk (fun (r:Bool)=>boo r) h0 Tryz.func16 (fun r=>pvB r) 100000 ?_
 intro v3
 conv=>whnf
 refine .mk ?_ ?_
 conv=>whnf
 refine .mk fun x4=>?_
 refine .mk .mk ?_
 refine .mk ?_
 conv=>whnf
 refine .mk fun x5=>?_
 exact .mk
 intro _ _
 refine .mk .mk ?_
 refine .mk ?_
 conv=>whnf
 refine .mk fun x6 e6=>?_
 conv=>whnf
 refine .mk fun x7 e7=>?_
 exact .mk
noncomputable def t_gl_Trial (n:Nat) (a1:List Int):WT Tryz.prog (.b (Int×Int×Int)) :=
 .ln 8 fI a1<|
 .bB 9 (decide ((a1.length:Int)≠17)) fun x2 =>
 .ifs [9] x2 (.ret ((0:Int),(0:Int),(1:Int))) (.ln 11 fI a1<|
 .jnE 0 [4] [] [] (fun _ (a:Int×Int)=>[(2,int a.1),(3,int a.2)]) (fun _ _=>[]) (.lp [4,10,11] [] [] (fun _ (a:Int×Int×Int)=>[(2,int a.1),(3,int a.2.1),(12,int a.2.2)]) (fun _ _=>[]) n ((0:Int),(0:Int),(0:Int)) (pw fun y0_1 q0=>(pw fun y0_2 y0_3 =>
 .bB 13 (decide (y0_3<(a1.length:Int))) fun x3 =>
 .ifs [13] x3 (.jnE 1 [4,10,11,12] [] [] (fun _ (a:Int×Int)=>[(2,int a.1),(3,int a.2)]) (fun _ _=>[]) (.ix 14 fI a1 y0_3 fun x4 =>
 .jn 1 [2,3,4,6,10,11,12] [] [] (fun _ (a:Bool)=>[(19,boo a)]) (fun _ _=>[]) (.bB 21 (decide (x4<(-288230376151711744))) fun x5 =>
 .ifs [21] x5 (.ret (true:Bool)) (.bB 24 (decide (x4>288230376151711744)) fun x6 =>
 .ret x6))
  (fun y1_1 =>
 .ifs [19] y1_1 (.esc (.esc (.esc (.ret ((0:Int),(0:Int),(2:Int)))))) (.bB 28 (decide (x4>0)) fun x7 =>
 .ifs [28] x7 (.bI 31 (w64 (y0_1+x4)) fun x8 =>
 .brk (x8,y0_2)) (.bI 18 (w64 (y0_2-x4)) fun x9 =>
 .brk (y0_1,x9)))))
  (pw fun y2_1 y2_2 =>
 .bI 32 (w64 (y0_3+1)) fun x10 =>
 .brk (y2_1,y2_2,x10))) (.esc (.brk (y0_1,y0_2)))) q0))
  (pw fun y3_1 y3_2 =>
 .ret (y3_1,y3_2,(0:Int))))
def d_gl_Trial (n:Nat) (a1:List Int):Option (Int×Int×Int):=(t_gl_Trial n a1).run
theorem d_gl_Trial_c {n:Nat} {a1:List Int} {r:Int×Int×Int} (h0:d_gl_Trial n a1=some r):PP Tryz.prog 33 [lst 1 fI a1] (fun y=>y=.tup [int r.1,int r.2.1,int r.2.2]):=by
 refine wt_pp mixed tbk (fun (r:Int×Int×Int)=>.tup [int r.1,int r.2.1,int r.2.2]) h0 Tryz.func33 (fun r=>.tup (pvl3 (pvI (r.1)) (pvI (r.2.1)) (pvI (r.2.2)))) 100000 ?_
 refine .mk ?_
 conv=>whnf
 refine .mk fun x2=>?_
 refine .mk .mk ?_
 refine .mk ?_
 conv=>whnf
 refine .mk ?_ ?_
 refine .mk ?_
 intro _ _
 conv=>whnf
 refine .mk fun x3=>?_
 conv=>whnf
 refine .mk ?_ ?_
 conv=>whnf
 refine .mk ?_ ?_
 conv=>whnf
 refine .mk fun x4 e4=>?_
 conv=>whnf
 refine .mk ?_ ?_
 conv=>whnf
 refine .mk fun x5=>?_
 refine .mk .mk ?_
 conv=>whnf
 refine .mk fun x6=>?_
 exact .mk
 intro _ _
 refine .mk .mk ?_
 conv=>whnf
 refine .mk fun x7=>?_
 conv=>whnf
 refine .mk ?_ ?_
 conv=>whnf
 refine .mk fun x8=>?_
 exact .mk
 conv=>whnf
 refine .mk fun x9=>?_
 exact .mk
 intro _ _
 conv=>whnf
 refine .mk fun x10=>?_
 exact .mk
 conv=>whnf
 exact .mk
 intro _ _
 exact .mk
noncomputable def t_recon_Balanced (n:Nat) (a1:GState) (a2:Int):WT Tryz.prog (.b (Bool)) :=
 .al 1<|
 .jn 0 [1,2,4] [1] [] (fun _ (a:Bool)=>[(16,boo a)]) (fun _ _=>[]) (.bB 9 (decide (a2<0)) fun x4 =>
 .ifs [9] x4 (.ret (true:Bool)) (.ln 14 GEnt.av a1.Ents<|
 .bB 15 (decide (a2≥(a1.Ents.length:Int))) fun x5 =>
 .ret x5))
  (fun y0_1 =>
 .ifs [16] y0_1 (.ret ((false:Bool))) (.ixE 21 GEnt.av gE GEnt.av_eq a1.Ents a2 fun x6 =>
 .cl 24 (d_gl_Trial n x6.Bal) cal33 d_gl_Trial_c fun x7 =>
 .jn 0 [] [] [] (fun _ (a:Bool)=>[(4,boo a)]) (fun _ _=>[]) (.bB 29 (decide (x7.2.2=0)) fun x8 =>
 .ifs [29] x8 (.bB 33 (decide (x7.1=x7.2.1)) fun x9 =>
 .ret x9) (.ret (false:Bool)))
  (fun y1_1 =>
 .ret (y1_1))))
def d_recon_Balanced (n:Nat) (a1:GState) (a2:Int):Option (Bool):=(t_recon_Balanced n a1 a2).run
theorem d_recon_Balanced_c {n:Nat} {a1:GState} {a2:Int} {r:Bool} (h0:d_recon_Balanced n a1 a2=some r):PP Tryz.prog 11 [.agg (GState.av a1),int a2] (fun y=>y=boo r):=by
 refine wt_pp mixed tbk (fun (r:Bool)=>boo r) h0 Tryz.func11 (fun r=>pvB r) 100000 ?_
 intro v3
 conv=>whnf
 refine .mk ?_ ?_
 conv=>whnf
 refine .mk fun x4=>?_
 refine .mk .mk ?_
 refine .mk ?_
 conv=>whnf
 refine .mk fun x5=>?_
 exact .mk
 intro _ _
 refine .mk .mk ?_
 conv=>whnf
 refine .mk fun x6 e6=>?_
 conv=>whnf
 refine .mk fun x7 e7=>?_
 conv=>whnf
 refine .mk ?_ ?_
 conv=>whnf
 refine .mk fun x8=>?_
 conv=>whnf
 refine .mk ?_ ?_
 conv=>whnf
 refine .mk fun x9=>?_
 exact .mk
 conv=>whnf
 exact .mk
 intro _ _
 exact .mk
noncomputable def t_recon_Rolled (n:Nat) (a1:GState) (a2:Int) (a3:Int):WT Tryz.prog (.b (Bool)) :=
 .al 1<|
 .jn 0 [1,2,3,6] [1] [] (fun _ (a:Bool)=>[(41,boo a)]) (fun _ _=>[]) (.bB 11 (decide (a2<0)) fun x5 =>
 .ifs [11] x5 (.ret (true:Bool)) (.ln 16 GEnt.av a1.Ents<|
 .bB 17 (decide (a2≥(a1.Ents.length:Int))) fun x6 =>
 .ifs [17] x6 (.ret (true:Bool)) (.bB 21 (decide (a3<0)) fun x7 =>
 .ifs [21] x7 (.ret (true:Bool)) (.ixE 28 GEnt.av gE GEnt.av_eq a1.Ents a2 fun x8 =>
 .ln 31 GRoll.av x8.Rolls<|
 .bB 32 (decide (a3≥(x8.Rolls.length:Int))) fun x9 =>
 .ifs [32] x9 (.ret (true:Bool)) (.ln 39 fI a1.Master.Weights<|
 .bB 40 (decide (a3≥(a1.Master.Weights.length:Int))) fun x10 =>
 .ret x10)))))
  (fun y0_1 =>
 .ifs [41] y0_1 (.ret ((false:Bool))) (.ixE 45 GEnt.av gE GEnt.av_eq a1.Ents a2 fun x11 =>
 .ix 49 GRoll.av x11.Rolls a3 fun x12 =>
 .al 2<|
 .bI 55 (w64 (x12.Open+x12.Bought)) fun x14 =>
 .bI 58 (w64 (x14+x12.Landed)) fun x15 =>
 .bI 61 (w64 (x15+x12.Arrived)) fun x16 =>
 .bI 64 (w64 (x16+x12.Returned)) fun x17 =>
 .bI 67 (w64 (x17+x12.Revalued)) fun x18 =>
 .bI 72 (w64 (x12.Sold+x12.Shipped)) fun x19 =>
 .bI 75 (w64 (x19+x12.SentBack)) fun x20 =>
 .bI 78 (w64 (x20+x12.Scrapped)) fun x21 =>
 .bI 81 (w64 (x21+x12.Lost)) fun x22 =>
 .bI 84 (w64 (x18-x22)) fun x23 =>
 .cl 88 (d_stock_Worth n a1 a2 a3) cal28 d_stock_Worth_c fun x24 =>
 .bB 90 (decide (x23=x24.Value)) fun x25 =>
 .ret (x25)))
def d_recon_Rolled (n:Nat) (a1:GState) (a2:Int) (a3:Int):Option (Bool):=(t_recon_Rolled n a1 a2 a3).run
theorem d_recon_Rolled_c {n:Nat} {a1:GState} {a2:Int} {a3:Int} {r:Bool} (h0:d_recon_Rolled n a1 a2 a3=some r):PP Tryz.prog 19 [.agg (GState.av a1),int a2,int a3] (fun y=>y=boo r):=by
 refine wt_pp mixed tbk (fun (r:Bool)=>boo r) h0 Tryz.func19 (fun r=>pvB r) 100000 ?_
 intro v4
 conv=>whnf
 refine .mk ?_ ?_
 conv=>whnf
 refine .mk fun x5=>?_
 refine .mk .mk ?_
 refine .mk ?_
 conv=>whnf
 refine .mk fun x6=>?_
 refine .mk .mk ?_
 conv=>whnf
 refine .mk fun x7=>?_
 refine .mk .mk ?_
 conv=>whnf
 refine .mk fun x8 e8=>?_
 refine .mk ?_
 conv=>whnf
 refine .mk fun x9=>?_
 refine .mk .mk ?_
 refine .mk ?_
 conv=>whnf
 refine .mk fun x10=>?_
 exact .mk
 intro _ _
 refine .mk .mk ?_
 conv=>whnf
 refine .mk fun x11 e11=>?_
 conv=>whnf
 refine .mk fun x12 e12=>?_
 intro v13
 conv=>whnf
 refine .mk fun x14=>?_
 conv=>whnf
 refine .mk fun x15=>?_
 conv=>whnf
 refine .mk fun x16=>?_
 conv=>whnf
 refine .mk fun x17=>?_
 conv=>whnf
 refine .mk fun x18=>?_
 conv=>whnf
 refine .mk fun x19=>?_
 conv=>whnf
 refine .mk fun x20=>?_
 conv=>whnf
 refine .mk fun x21=>?_
 conv=>whnf
 refine .mk fun x22=>?_
 conv=>whnf
 refine .mk fun x23=>?_
 conv=>whnf
 refine .mk fun x24 e24=>?_
 conv=>whnf
 refine .mk fun x25=>?_
 exact .mk
noncomputable def t_master_in (a1:Int) (a2:Int) (a3:Int):WT Tryz.prog (.b (Bool)) :=
 .jn 1 [] [] [] (fun _ (a:Bool)=>[(6,boo a)]) (fun _ _=>[]) (.bB 9 (decide (a1≥a2)) fun x4 =>
 .ifs [9] x4 (.bB 13 (decide (a1≤a3)) fun x5 =>
 .ret x5) (.ret (false:Bool)))
  (fun y0_1 =>
 .ret (y0_1))
def d_master_in (a1:Int) (a2:Int) (a3:Int):Option (Bool):=(t_master_in a1 a2 a3).run
theorem d_master_in_c {a1:Int} {a2:Int} {a3:Int} {r:Bool} (h0:d_master_in a1 a2 a3=some r):PP Tryz.prog 106 [int a1,int a2,int a3] (fun y=>y=boo r):=by
 refine wt_pp mixed tbk (fun (r:Bool)=>boo r) h0 Tryz.func106 (fun r=>pvB r) 100000 ?_
 conv=>whnf
 refine .mk ?_ ?_
 conv=>whnf
 refine .mk fun x4=>?_
 conv=>whnf
 refine .mk ?_ ?_
 conv=>whnf
 refine .mk fun x5=>?_
 exact .mk
 conv=>whnf
 exact .mk
 intro _ _
 exact .mk
noncomputable def t_master_Check_1 (a1:Int):WT Tryz.prog (.b (Bool)) :=
 .cl 4 (d_master_in a1 0 1073741824) cal106 d_master_in_c fun x2 =>
 .ret (x2)
def d_master_Check_1 (a1:Int):Option (Bool):=(t_master_Check_1 a1).run
theorem d_master_Check_1_c {a1:Int} {r:Bool} (h0:d_master_Check_1 a1=some r):PP Tryz.prog 105 [int a1] (fun y=>y=boo r):=by
 refine wt_pp mixed tbk (fun (r:Bool)=>boo r) h0 Tryz.func105 (fun r=>pvB r) 100000 ?_
 conv=>whnf
 refine .mk fun x2 e2=>?_
 exact .mk
noncomputable def t_master_Check_2_1 (a1:Int):WT Tryz.prog (.b (Bool)) :=
 .cl 4 (d_master_in a1 1 4) cal106 d_master_in_c fun x2 =>
 .ret (x2)
def d_master_Check_2_1 (a1:Int):Option (Bool):=(t_master_Check_2_1 a1).run
theorem d_master_Check_2_1_c {a1:Int} {r:Bool} (h0:d_master_Check_2_1 a1=some r):PP Tryz.prog 109 [int a1] (fun y=>y=boo r):=by
 refine wt_pp mixed tbk (fun (r:Bool)=>boo r) h0 Tryz.func109 (fun r=>pvB r) 100000 ?_
 conv=>whnf
 refine .mk fun x2 e2=>?_
 exact .mk
noncomputable def t_master_Check (n:Nat) (a1:GMaster):WT Tryz.prog (.b (Bool)) :=
 .al 1<|
 .ln 9 fI a1.Weights<|
 .al 2<|
 .al 3<|
 .jn 2 [] [] [] (fun _ (a:Bool)=>[(2,boo a)]) (fun _ _=>[]) (.cl 14 (d_master_in a1.Entities 1 4) cal106 d_master_in_c fun x5 =>
 .ifs [14] x5 (.cl 18 (d_master_in a1.Periods 1 12) cal106 d_master_in_c fun x6 =>
 .ifs [18] x6 (.cl 22 (d_master_in (a1.Weights.length:Int) 1 5) cal106 d_master_in_c fun x7 =>
 .ifs [22] x7 (.inl 29 cal108 Tryz.func108 [1,2,3] [] (fun _ (a:Bool)=>boo a) (fun _ _=>[]) (.al 4<|
 .jn 0 [] [1,2,3] [] (fun _ (a:Bool)=>[(6,boo a)]) (fun _ _=>[]) (.ln 8 fI a1.Weights<|
 .bB 10 (decide ((a1.Weights.length:Int)=(a1.Weights.length:Int))) fun x9 =>
 .ifs [10] x9 (.inl 14 cal112 Tryz.func112 [1,2,3,4] [] (fun _ (a:Bool)=>boo a) (fun _ _=>[]) (.inl 7 cal165 Tryz.func165 [1,2,3,4] [] (fun _ (a:Int)=>int a) (fun _ _=>[]) (.ln 7 fI a1.Weights<|
 .jnE 0 [4] [1,2,3,4] [] (fun _ (a:Unit)=>[]) (fun _ _=>[]) (.lp [0,1,4,7] [1,2,3,4] [] (fun _ (a:Int)=>[(8,int a)]) (fun _ _=>[]) n (0:Int) (fun y0_1 =>
 .bB 9 (decide (y0_1<(a1.Weights.length:Int))) fun x10 =>
 .ifs [9] x10 (.ix 14 fI a1.Weights y0_1 fun x11 =>
 .inl 16 cal162 Tryz.func162 [1,2,3,4] [] (fun _ (a:Bool)=>boo a) (fun _ _=>[]) (.cl 6 (d_master_Check_1 x11) cal105 d_master_Check_1_c fun x12 =>
 .bB 7 (!x12) fun x13 =>
 .ret x13) (fun y1_1 =>
 .ifs [16] y1_1 (.esc (.esc (.ret y0_1))) (.bI 18 (w64 (y0_1+1)) fun x14 =>
 .brk x14))) (.esc (.brk ()))))
  (fun _ =>
 .ret ((-1):Int))) (fun y3_1 =>
 .bB 8 (decide (y3_1≥0)) fun x15 =>
 .ret x15)) (fun y4_1 =>
 .bB 15 (!y4_1) fun x16 =>
 .ret x16)) (.ret (false:Bool)))
  (fun y5_1 =>
 .ret y5_1)) (fun y6_1 =>
 .ifs [29] y6_1 (.inl 37 cal111 Tryz.func111 [1,2,3] [] (fun _ (a:Bool)=>boo a) (fun _ _=>[]) (.al 5<|
 .jn 0 [] [1,2,3] [] (fun _ (a:Bool)=>[(6,boo a)]) (fun _ _=>[]) (.ln 8 (fL 1 fI) a1.Methods<|
 .bB 10 (decide ((a1.Methods.length:Int)=a1.Entities)) fun x18 =>
 .ifs [10] x18 (.inl 14 cal163 Tryz.func163 [1,2,3,5] [] (fun _ (a:Bool)=>boo a) (fun _ _=>[]) (.inl 7 cal210 Tryz.func210 [1,2,3,5] [] (fun _ (a:Int)=>int a) (fun _ _=>[]) (.ln 7 (fL 1 fI) a1.Methods<|
 .jnE 0 [4] [1,2,3,5] [] (fun _ (a:Unit)=>[]) (fun _ _=>[]) (.lp [0,1,4,7] [1,2,3,5] [] (fun _ (a:Int)=>[(8,int a)]) (fun _ _=>[]) n (0:Int) (fun y7_1 =>
 .bB 9 (decide (y7_1<(a1.Methods.length:Int))) fun x19 =>
 .ifs [9] x19 (.ix 14 (fL 1 fI) a1.Methods y7_1 fun x20 =>
 .inl 16 cal164 Tryz.func164 [1,2,3,5] [] (fun _ (a:Bool)=>boo a) (fun _ _=>[]) (.inl 6 cal107 Tryz.func107 [1,2,3,5] [] (fun _ (a:Bool)=>boo a) (fun _ _=>[]) (.inl 6 cal108 Tryz.func108 [1,2,3,5] [] (fun _ (a:Bool)=>boo a) (fun _ _=>[]) (.al 6<|
 .jn 0 [] [1,2,3,5] [] (fun _ (a:Bool)=>[(6,boo a)]) (fun _ _=>[]) (.ln 8 fI x20<|
 .bB 10 (decide ((x20.length:Int)=(a1.Weights.length:Int))) fun x22 =>
 .ifs [10] x22 (.inl 14 cal112 Tryz.func112 [1,2,3,5,6] [] (fun _ (a:Bool)=>boo a) (fun _ _=>[]) (.inl 7 cal165 Tryz.func165 [1,2,3,5,6] [] (fun _ (a:Int)=>int a) (fun _ _=>[]) (.ln 7 fI x20<|
 .jnE 0 [4] [1,2,3,5,6] [] (fun _ (a:Unit)=>[]) (fun _ _=>[]) (.lp [0,1,4,7] [1,2,3,5,6] [] (fun _ (a:Int)=>[(8,int a)]) (fun _ _=>[]) n (0:Int) (fun y8_1 =>
 .bB 9 (decide (y8_1<(x20.length:Int))) fun x23 =>
 .ifs [9] x23 (.ix 14 fI x20 y8_1 fun x24 =>
 .inl 16 cal162 Tryz.func162 [1,2,3,5,6] [] (fun _ (a:Bool)=>boo a) (fun _ _=>[]) (.cl 6 (d_master_Check_2_1 x24) cal109 d_master_Check_2_1_c fun x25 =>
 .bB 7 (!x25) fun x26 =>
 .ret x26) (fun y9_1 =>
 .ifs [16] y9_1 (.esc (.esc (.ret y8_1))) (.bI 18 (w64 (y8_1+1)) fun x27 =>
 .brk x27))) (.esc (.brk ()))))
  (fun _ =>
 .ret ((-1):Int))) (fun y11_1 =>
 .bB 8 (decide (y11_1≥0)) fun x28 =>
 .ret x28)) (fun y12_1 =>
 .bB 15 (!y12_1) fun x29 =>
 .ret x29)) (.ret (false:Bool)))
  (fun y13_1 =>
 .ret y13_1)) (fun y14_1 =>
 .ret y14_1)) (fun y15_1 =>
 .bB 7 (!y15_1) fun x30 =>
 .ret x30)) (fun y16_1 =>
 .ifs [16] y16_1 (.esc (.esc (.ret y7_1))) (.bI 18 (w64 (y7_1+1)) fun x31 =>
 .brk x31))) (.esc (.brk ()))))
  (fun _ =>
 .ret ((-1):Int))) (fun y18_1 =>
 .bB 8 (decide (y18_1≥0)) fun x32 =>
 .ret x32)) (fun y19_1 =>
 .bB 15 (!y19_1) fun x33 =>
 .ret x33)) (.ret (false:Bool)))
  (fun y20_1 =>
 .ret y20_1)) (fun y21_1 =>
 .ifs [37] y21_1 (.inl 45 cal111 Tryz.func111 [1,2,3] [] (fun _ (a:Bool)=>boo a) (fun _ _=>[]) (.al 7<|
 .jn 0 [] [1,2,3] [] (fun _ (a:Bool)=>[(6,boo a)]) (fun _ _=>[]) (.ln 8 (fL 1 fI) a1.Costs<|
 .bB 10 (decide ((a1.Costs.length:Int)=a1.Entities)) fun x35 =>
 .ifs [10] x35 (.inl 14 cal163 Tryz.func163 [1,2,3,7] [] (fun _ (a:Bool)=>boo a) (fun _ _=>[]) (.inl 7 cal210 Tryz.func210 [1,2,3,7] [] (fun _ (a:Int)=>int a) (fun _ _=>[]) (.ln 7 (fL 1 fI) a1.Costs<|
 .jnE 0 [4] [1,2,3,7] [] (fun _ (a:Unit)=>[]) (fun _ _=>[]) (.lp [0,1,4,7] [1,2,3,7] [] (fun _ (a:Int)=>[(8,int a)]) (fun _ _=>[]) n (0:Int) (fun y22_1 =>
 .bB 9 (decide (y22_1<(a1.Costs.length:Int))) fun x36 =>
 .ifs [9] x36 (.ix 14 (fL 1 fI) a1.Costs y22_1 fun x37 =>
 .inl 16 cal164 Tryz.func164 [1,2,3,7] [] (fun _ (a:Bool)=>boo a) (fun _ _=>[]) (.inl 6 cal110 Tryz.func110 [1,2,3,7] [] (fun _ (a:Bool)=>boo a) (fun _ _=>[]) (.inl 8 cal108 Tryz.func108 [1,2,3,7] [] (fun _ (a:Bool)=>boo a) (fun _ _=>[]) (.al 8<|
 .jn 0 [] [1,2,3,7] [] (fun _ (a:Bool)=>[(6,boo a)]) (fun _ _=>[]) (.ln 8 fI x37<|
 .bB 10 (decide ((x37.length:Int)=(a1.Weights.length:Int))) fun x39 =>
 .ifs [10] x39 (.inl 14 cal112 Tryz.func112 [1,2,3,7,8] [] (fun _ (a:Bool)=>boo a) (fun _ _=>[]) (.inl 7 cal165 Tryz.func165 [1,2,3,7,8] [] (fun _ (a:Int)=>int a) (fun _ _=>[]) (.ln 7 fI x37<|
 .jnE 0 [4] [1,2,3,7,8] [] (fun _ (a:Unit)=>[]) (fun _ _=>[]) (.lp [0,1,4,7] [1,2,3,7,8] [] (fun _ (a:Int)=>[(8,int a)]) (fun _ _=>[]) n (0:Int) (fun y23_1 =>
 .bB 9 (decide (y23_1<(x37.length:Int))) fun x40 =>
 .ifs [9] x40 (.ix 14 fI x37 y23_1 fun x41 =>
 .inl 16 cal162 Tryz.func162 [1,2,3,7,8] [] (fun _ (a:Bool)=>boo a) (fun _ _=>[]) (.cl 6 (d_master_Check_1 x41) cal105 d_master_Check_1_c fun x42 =>
 .bB 7 (!x42) fun x43 =>
 .ret x43) (fun y24_1 =>
 .ifs [16] y24_1 (.esc (.esc (.ret y23_1))) (.bI 18 (w64 (y23_1+1)) fun x44 =>
 .brk x44))) (.esc (.brk ()))))
  (fun _ =>
 .ret ((-1):Int))) (fun y26_1 =>
 .bB 8 (decide (y26_1≥0)) fun x45 =>
 .ret x45)) (fun y27_1 =>
 .bB 15 (!y27_1) fun x46 =>
 .ret x46)) (.ret (false:Bool)))
  (fun y28_1 =>
 .ret y28_1)) (fun y29_1 =>
 .ret y29_1)) (fun y30_1 =>
 .bB 7 (!y30_1) fun x47 =>
 .ret x47)) (fun y31_1 =>
 .ifs [16] y31_1 (.esc (.esc (.ret y22_1))) (.bI 18 (w64 (y22_1+1)) fun x48 =>
 .brk x48))) (.esc (.brk ()))))
  (fun _ =>
 .ret ((-1):Int))) (fun y33_1 =>
 .bB 8 (decide (y33_1≥0)) fun x49 =>
 .ret x49)) (fun y34_1 =>
 .bB 15 (!y34_1) fun x50 =>
 .ret x50)) (.ret (false:Bool)))
  (fun y35_1 =>
 .ret y35_1)) (fun y36_1 =>
 .ret y36_1)) (.ret (false:Bool)))) (.ret (false:Bool)))) (.ret (false:Bool))) (.ret (false:Bool))) (.ret (false:Bool)))
  (fun y37_1 =>
 .ret (y37_1))
def d_master_Check (n:Nat) (a1:GMaster):Option (Bool):=(t_master_Check n a1).run
theorem d_master_Check_c {n:Nat} {a1:GMaster} {r:Bool} (h0:d_master_Check n a1=some r):PP Tryz.prog 66 [.agg (GMaster.av a1)] (fun y=>y=boo r):=by
 refine wt_pp mixed tbk (fun (r:Bool)=>boo r) h0 Tryz.func66 (fun r=>pvB r) 100000 ?_
 intro v2
 refine .mk ?_
 intro v3
 intro v4
 conv=>whnf
 refine .mk ?_ ?_
 conv=>whnf
 refine .mk fun x5 e5=>?_
 conv=>whnf
 refine .mk ?_ ?_
 conv=>whnf
 refine .mk fun x6 e6=>?_
 conv=>whnf
 refine .mk ?_ ?_
 conv=>whnf
 refine .mk fun x7 e7=>?_
 conv=>whnf
 refine .mk ?_ ?_
 conv=>whnf
 refine .mk ?_ ?_
 intro v8
 conv=>whnf
 refine .mk ?_ ?_
 refine .mk ?_
 conv=>whnf
 refine .mk fun x9=>?_
 conv=>whnf
 refine .mk ?_ ?_
 conv=>whnf
 refine .mk ?_ ?_
 conv=>whnf
 refine .mk ?_ ?_
 refine .mk ?_
 conv=>whnf
 refine .mk ?_ ?_
 refine .mk ?_
 intro _ _
 conv=>whnf
 refine .mk fun x10=>?_
 conv=>whnf
 refine .mk ?_ ?_
 conv=>whnf
 refine .mk fun x11 e11=>?_
 conv=>whnf
 refine .mk ?_ ?_
 conv=>whnf
 refine .mk fun x12 e12=>?_
 conv=>whnf
 refine .mk fun x13=>?_
 exact .mk
 intro _ _
 conv=>whnf
 refine .mk trivial ?_
 refine .mk .mk ?_
 conv=>whnf
 refine .mk fun x14=>?_
 exact .mk
 conv=>whnf
 exact .mk
 intro _ _
 exact .mk
 intro _ _
 conv=>whnf
 refine .mk trivial ?_
 conv=>whnf
 refine .mk fun x15=>?_
 exact .mk
 intro _ _
 conv=>whnf
 refine .mk trivial ?_
 conv=>whnf
 refine .mk fun x16=>?_
 exact .mk
 conv=>whnf
 exact .mk
 intro _ _
 exact .mk
 intro _ _
 conv=>whnf
 refine .mk trivial ?_
 conv=>whnf
 refine .mk ?_ ?_
 conv=>whnf
 refine .mk ?_ ?_
 intro v17
 conv=>whnf
 refine .mk ?_ ?_
 refine .mk ?_
 conv=>whnf
 refine .mk fun x18=>?_
 conv=>whnf
 refine .mk ?_ ?_
 conv=>whnf
 refine .mk ?_ ?_
 conv=>whnf
 refine .mk ?_ ?_
 refine .mk ?_
 conv=>whnf
 refine .mk ?_ ?_
 refine .mk ?_
 intro _ _
 conv=>whnf
 refine .mk fun x19=>?_
 conv=>whnf
 refine .mk ?_ ?_
 conv=>whnf
 refine .mk fun x20 e20=>?_
 conv=>whnf
 refine .mk ?_ ?_
 conv=>whnf
 refine .mk ?_ ?_
 conv=>whnf
 refine .mk ?_ ?_
 intro v21
 conv=>whnf
 refine .mk ?_ ?_
 refine .mk ?_
 conv=>whnf
 refine .mk fun x22=>?_
 conv=>whnf
 refine .mk ?_ ?_
 conv=>whnf
 refine .mk ?_ ?_
 conv=>whnf
 refine .mk ?_ ?_
 refine .mk ?_
 conv=>whnf
 refine .mk ?_ ?_
 refine .mk ?_
 intro _ _
 conv=>whnf
 refine .mk fun x23=>?_
 conv=>whnf
 refine .mk ?_ ?_
 conv=>whnf
 refine .mk fun x24 e24=>?_
 conv=>whnf
 refine .mk ?_ ?_
 conv=>whnf
 refine .mk fun x25 e25=>?_
 conv=>whnf
 refine .mk fun x26=>?_
 exact .mk
 intro _ _
 conv=>whnf
 refine .mk trivial ?_
 refine .mk .mk ?_
 conv=>whnf
 refine .mk fun x27=>?_
 exact .mk
 conv=>whnf
 exact .mk
 intro _ _
 exact .mk
 intro _ _
 conv=>whnf
 refine .mk trivial ?_
 conv=>whnf
 refine .mk fun x28=>?_
 exact .mk
 intro _ _
 conv=>whnf
 refine .mk trivial ?_
 conv=>whnf
 refine .mk fun x29=>?_
 exact .mk
 conv=>whnf
 exact .mk
 intro _ _
 exact .mk
 intro _ _
 conv=>whnf
 refine .mk trivial ?_
 exact .mk
 intro _ _
 conv=>whnf
 refine .mk trivial ?_
 conv=>whnf
 refine .mk fun x30=>?_
 exact .mk
 intro _ _
 conv=>whnf
 refine .mk trivial ?_
 refine .mk .mk ?_
 conv=>whnf
 refine .mk fun x31=>?_
 exact .mk
 conv=>whnf
 exact .mk
 intro _ _
 exact .mk
 intro _ _
 conv=>whnf
 refine .mk trivial ?_
 conv=>whnf
 refine .mk fun x32=>?_
 exact .mk
 intro _ _
 conv=>whnf
 refine .mk trivial ?_
 conv=>whnf
 refine .mk fun x33=>?_
 exact .mk
 conv=>whnf
 exact .mk
 intro _ _
 exact .mk
 intro _ _
 conv=>whnf
 refine .mk trivial ?_
 conv=>whnf
 refine .mk ?_ ?_
 conv=>whnf
 refine .mk ?_ ?_
 intro v34
 conv=>whnf
 refine .mk ?_ ?_
 refine .mk ?_
 conv=>whnf
 refine .mk fun x35=>?_
 conv=>whnf
 refine .mk ?_ ?_
 conv=>whnf
 refine .mk ?_ ?_
 conv=>whnf
 refine .mk ?_ ?_
 refine .mk ?_
 conv=>whnf
 refine .mk ?_ ?_
 refine .mk ?_
 intro _ _
 conv=>whnf
 refine .mk fun x36=>?_
 conv=>whnf
 refine .mk ?_ ?_
 conv=>whnf
 refine .mk fun x37 e37=>?_
 conv=>whnf
 refine .mk ?_ ?_
 conv=>whnf
 refine .mk ?_ ?_
 conv=>whnf
 refine .mk ?_ ?_
 intro v38
 conv=>whnf
 refine .mk ?_ ?_
 refine .mk ?_
 conv=>whnf
 refine .mk fun x39=>?_
 conv=>whnf
 refine .mk ?_ ?_
 conv=>whnf
 refine .mk ?_ ?_
 conv=>whnf
 refine .mk ?_ ?_
 refine .mk ?_
 conv=>whnf
 refine .mk ?_ ?_
 refine .mk ?_
 intro _ _
 conv=>whnf
 refine .mk fun x40=>?_
 conv=>whnf
 refine .mk ?_ ?_
 conv=>whnf
 refine .mk fun x41 e41=>?_
 conv=>whnf
 refine .mk ?_ ?_
 conv=>whnf
 refine .mk fun x42 e42=>?_
 conv=>whnf
 refine .mk fun x43=>?_
 exact .mk
 intro _ _
 conv=>whnf
 refine .mk trivial ?_
 refine .mk .mk ?_
 conv=>whnf
 refine .mk fun x44=>?_
 exact .mk
 conv=>whnf
 exact .mk
 intro _ _
 exact .mk
 intro _ _
 conv=>whnf
 refine .mk trivial ?_
 conv=>whnf
 refine .mk fun x45=>?_
 exact .mk
 intro _ _
 conv=>whnf
 refine .mk trivial ?_
 conv=>whnf
 refine .mk fun x46=>?_
 exact .mk
 conv=>whnf
 exact .mk
 intro _ _
 exact .mk
 intro _ _
 conv=>whnf
 refine .mk trivial ?_
 exact .mk
 intro _ _
 conv=>whnf
 refine .mk trivial ?_
 conv=>whnf
 refine .mk fun x47=>?_
 exact .mk
 intro _ _
 conv=>whnf
 refine .mk trivial ?_
 refine .mk .mk ?_
 conv=>whnf
 refine .mk fun x48=>?_
 exact .mk
 conv=>whnf
 exact .mk
 intro _ _
 exact .mk
 intro _ _
 conv=>whnf
 refine .mk trivial ?_
 conv=>whnf
 refine .mk fun x49=>?_
 exact .mk
 intro _ _
 conv=>whnf
 refine .mk trivial ?_
 conv=>whnf
 refine .mk fun x50=>?_
 exact .mk
 conv=>whnf
 exact .mk
 intro _ _
 exact .mk
 intro _ _
 conv=>whnf
 refine .mk trivial ?_
 exact .mk
 conv=>whnf
 exact .mk
 exact .mk
 conv=>whnf
 exact .mk
 exact .mk
 conv=>whnf
 exact .mk
 intro _ _
 exact .mk
noncomputable def t_stock_sums (n:Nat) (a1:Int) (a2:List Int):WT Tryz.prog (.b (Bool)) :=
 .al 1<|
 .inl 7 cal112 Tryz.func112 [1] [] (fun _ (a:Bool)=>boo a) (fun _ _=>[]) (.inl 7 cal165 Tryz.func165 [1] [] (fun _ (a:Int)=>int a) (fun _ _=>[]) (.ln 7 fI a2<|
 .jnE 0 [4] [1] [] (fun _ (a:Unit)=>[]) (fun _ _=>[]) (.lp [0,1,4,7] [1] [] (fun _ (a:Int)=>[(8,int a)]) (fun _ _=>[]) n (0:Int) (fun y0_1 =>
 .bB 9 (decide (y0_1<(a2.length:Int))) fun x4 =>
 .ifs [9] x4 (.ix 14 fI a2 y0_1 fun x5 =>
 .inl 16 cal113 Tryz.func113 [1] [] (fun _ (a:Bool)=>boo a) (fun _ _=>[]) (.cl 6 (d_stock_in x5 a1 288230376151711744) cal70 d_stock_in_c fun x6 =>
 .bB 7 (!x6) fun x7 =>
 .ret x7) (fun y1_1 =>
 .ifs [16] y1_1 (.esc (.esc (.ret y0_1))) (.bI 18 (w64 (y0_1+1)) fun x8 =>
 .brk x8))) (.esc (.brk ()))))
  (fun _ =>
 .ret ((-1):Int))) (fun y3_1 =>
 .bB 8 (decide (y3_1≥0)) fun x9 =>
 .ret x9)) (fun y4_1 =>
 .bB 8 (!y4_1) fun x10 =>
 .ret (x10))
def d_stock_sums (n:Nat) (a1:Int) (a2:List Int):Option (Bool):=(t_stock_sums n a1 a2).run
theorem d_stock_sums_c {n:Nat} {a1:Int} {a2:List Int} {r:Bool} (h0:d_stock_sums n a1 a2=some r):PP Tryz.prog 67 [int a1,lst 1 fI a2] (fun y=>y=boo r):=by
 refine wt_pp mixed tbk (fun (r:Bool)=>boo r) h0 Tryz.func67 (fun r=>pvB r) 100000 ?_
 intro v3
 conv=>whnf
 refine .mk ?_ ?_
 conv=>whnf
 refine .mk ?_ ?_
 refine .mk ?_
 conv=>whnf
 refine .mk ?_ ?_
 refine .mk ?_
 intro _ _
 conv=>whnf
 refine .mk fun x4=>?_
 conv=>whnf
 refine .mk ?_ ?_
 conv=>whnf
 refine .mk fun x5 e5=>?_
 conv=>whnf
 refine .mk ?_ ?_
 conv=>whnf
 refine .mk fun x6 e6=>?_
 conv=>whnf
 refine .mk fun x7=>?_
 exact .mk
 intro _ _
 conv=>whnf
 refine .mk trivial ?_
 refine .mk .mk ?_
 conv=>whnf
 refine .mk fun x8=>?_
 exact .mk
 conv=>whnf
 exact .mk
 intro _ _
 exact .mk
 intro _ _
 conv=>whnf
 refine .mk trivial ?_
 conv=>whnf
 refine .mk fun x9=>?_
 exact .mk
 intro _ _
 conv=>whnf
 refine .mk trivial ?_
 conv=>whnf
 refine .mk fun x10=>?_
 exact .mk
noncomputable def t_fifo_wrong (a1:GLayer):WT Tryz.prog (.b (Bool)) :=
 .al 1<|
 .jn 0 [] [] [] (fun _ (a:Bool)=>[(2,boo a)]) (fun _ _=>[]) (.bB 5 (decide (a1.Qty<1)) fun x3 =>
 .ifs [5] x3 (.ret (true:Bool)) (.bB 9 (decide (a1.Qty>288230376151711744)) fun x4 =>
 .ifs [9] x4 (.ret (true:Bool)) (.bB 14 (decide (a1.Value<0)) fun x5 =>
 .ifs [14] x5 (.ret (true:Bool)) (.bB 19 (decide (a1.Value>288230376151711744)) fun x6 =>
 .ifs [19] x6 (.ret (true:Bool)) (.bB 24 (decide (a1.Profit<(-288230376151711744))) fun x7 =>
 .ifs [24] x7 (.ret (true:Bool)) (.bB 29 (decide (a1.Profit>288230376151711744)) fun x8 =>
 .ret x8))))))
  (fun y0_1 =>
 .ret (y0_1))
def d_fifo_wrong (a1:GLayer):Option (Bool):=(t_fifo_wrong a1).run
theorem d_fifo_wrong_c {a1:GLayer} {r:Bool} (h0:d_fifo_wrong a1=some r):PP Tryz.prog 212 [.agg (GLayer.av a1)] (fun y=>y=boo r):=by
 refine wt_pp mixed tbk (fun (r:Bool)=>boo r) h0 Tryz.func212 (fun r=>pvB r) 100000 ?_
 intro v2
 conv=>whnf
 refine .mk ?_ ?_
 conv=>whnf
 refine .mk fun x3=>?_
 refine .mk .mk ?_
 conv=>whnf
 refine .mk fun x4=>?_
 refine .mk .mk ?_
 conv=>whnf
 refine .mk fun x5=>?_
 refine .mk .mk ?_
 conv=>whnf
 refine .mk fun x6=>?_
 refine .mk .mk ?_
 conv=>whnf
 refine .mk fun x7=>?_
 refine .mk .mk ?_
 conv=>whnf
 refine .mk fun x8=>?_
 exact .mk
 intro _ _
 exact .mk
noncomputable def t_fifo_steady (n:Nat) (a1:List GLayer):WT Tryz.prog (.b (Bool)) :=
 .ln 9 GLayer.av a1<|
 .jn 0 [2] [] [3] (fun u2 (a:(List Int))=>[(3,.sl 3 (u2 3) 0 a.length)]) (fun _ a=>[.nw 3 3 1 (a.map fI)]) (.no 3 3 3 1<|
 .lp [2,8,9] [] [3] (fun u3 (a:Int×(List Int))=>[(3,.sl 3 (u3 3) 0 a.2.length),(10,int a.1)]) (fun _ a=>[.nw 3 3 1 (a.2.map fI)]) n ((0:Int),(([]:List Int):List Int)) (pw fun y0_2 y0_3 =>
 .bB 11 (decide (y0_2<(a1.length:Int))) fun x3 =>
 .ifs [11] x3 (.ix 12 GLayer.av a1 y0_2 fun x4 =>
 .al 1<|
 .bI 19 (w64 (0-x4.Profit)) fun x6 =>
 .bl (if x6>x4.Profit then x6 else x4.Profit:Int) fun x7 =>
 .gv 20<|
 .gv 21<|
 .bl (y0_3++([x7]:List Int):List Int) fun x8 =>
 .as (x8.length≤68719476736) inferInstance<|
 .ge 22<|
 .bI 23 (w64 (y0_2+1)) fun x11 =>
 .brk (x11,x8)) (.esc (.ret y0_3))))
  (fun y1_2 =>
 .clT 26 (d_money_Sum n y1_2) cal58 d_money_Sum_c (fun _=>rfl) fun x12 =>
 .bB 30 (decide (x12.2=0)) fun x13 =>
 .ret (x13))
def d_fifo_steady (n:Nat) (a1:List GLayer):Option (Bool):=(t_fifo_steady n a1).run
theorem d_fifo_steady_c {n:Nat} {a1:List GLayer} {r:Bool} (h0:d_fifo_steady n a1=some r):PP Tryz.prog 213 [lst 3 GLayer.av a1] (fun y=>y=boo r):=by
 refine wt_pp mixed tbk (fun (r:Bool)=>boo r) h0 Tryz.func213 (fun r=>pvB r) 100000 ?_
 refine .mk ?_
 conv=>whnf
 refine .mk ?_ ?_
 intro v2
 refine .mk ?_
 rintro ⟨y0_2,y0_3⟩ _
 conv=>whnf
 refine .mk fun x3=>?_
 conv=>whnf
 refine .mk ?_ ?_
 conv=>whnf
 refine .mk fun x4 e4=>?_
 intro v5
 conv=>whnf
 refine .mk fun x6=>?_
 conv=>whnf
 refine .mk fun x7 e7=>?_
 conv=>whnf
 refine .mk _ (agr (yv_max rfl rfl rfl e7)) ?_
 conv=>whnf
 refine .mk _ (agr (yv_to (y:=lst 1 fI ([x7]:List Int)) (yv_buildSlice (ps:=[(0,_)]) (rows:=[[int x7]]) rfl Tryz.underlying22 bz3 (.cons rfl .nil) (by kernel_rfl) rfl rfl rfl) rfl)) ?_
 conv=>whnf
 refine .mk fun x8 e8=>?_
 conv=>whnf
 refine .mk fun p9=>?_
 conv=>whnf
 refine .mk _ ⟨fun _=>yl_appT (g:=fI) (l:=y0_3) (m:=([x7]:List Int)) .any rfl Tryz.underlying22 bz3 by3 rfl rfl rfl rfl rfl rfl rfl rfl rfl rfl (Eq.symm rfl) (.refl _) (fun _=>rfl) e8 p9,fun _ _ _=>trivial⟩ ?_
 rintro _ _ ⟨v10,-,rfl,rfl⟩
 conv=>whnf
 refine .mk fun x11=>?_
 exact .mk
 conv=>whnf
 exact .mk
 intro _ _
 conv=>whnf
 refine .mk (fun x12 e12=>?_) rfl (by rintro _ rfl;exact (.cons (cv_lst rfl rfl rfl rfl rfl (Eq.symm rfl)) .nil))
 conv=>whnf
 refine .mk fun x13=>?_
 exact .mk
end
end Go.Pv
