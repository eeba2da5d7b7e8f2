import Derived.Test.YtfbohcojaajpfaaGreatX70b
set_option linter.unusedVariables false
set_option linter.unusedSimpArgs false
namespace Go.Pv
open Go.Proofs
set_option maxRecDepth 100000
set_option maxHeartbeats 4000000
noncomputable section
noncomputable def t_ref08_Post (n:Nat) (a1:List Int) (a2:List GLine):WT Tryz.prog (.b ((List Int)×Int)) :=
 .ln 14 fI a1<|
 .bB 15 (decide ((a1.length:Int)≠17)) fun x3 =>
 .ifs [15] x3 (.ret (([]:List Int),(1:Int))) (.as (a1.length≤68719476736) inferInstance<|
 .ge 17<|
 .cl 20 (d_ref07_Plain n a2) cal186 d_ref07_Plain_c fun x6 =>
 .jn 0 [0,4,5,6,7] [1] [] (fun _ (a:Bool)=>[(34,boo a)]) (fun _ _=>[]) (.bB 24 (decide (x6.2≠0)) fun x7 =>
 .ifs [24] x7 (.ret (true:Bool)) (.ln 27 GLine.av x6.1<|
 .bB 28 (decide ((x6.1.length:Int)>0)) fun x8 =>
 .ifs [28] x8 (.cl 31 (d_ref07_Check n x6.1) cal223 d_ref07_Check_c fun x9 =>
 .bB 32 (!x9) fun x10 =>
 .ret x10) (.ret (false:Bool))))
  (fun y0_1 =>
 .ifs [34] y0_1 (.ret ((a1:List Int),(10:Int))) (.as (a1.length≤68719476736) inferInstance<|
 .ge 37<|
 .jnE 1 [4,5] [] [] (fun u3 (a:(List Int))=>[(9,.sl 2 (u3 2) 0 a.length)]) (fun _ a=>[.kp 2 (a.map fI)]) (.lp [4,5,6,7] [1] [] (fun u4 (a:Int×(List Int))=>[(9,.sl 2 (u4 2) 0 a.2.length),(10,int a.1)]) (fun _ a=>[.kp 2 (a.2.map fI)]) n ((0:Int),(a1:List Int)) (pw fun y1_1 y1_2 =>
 .ln 40 GLine.av x6.1<|
 .bB 41 (decide (y1_1<(x6.1.length:Int))) fun x13 =>
 .ifs [41] x13 (.dr [(6,[2]),(7,[2])] [] [2] [] [0,1,2,3,4,5,6,7,8,9,10,11,12,13,14,15,16,17,18] (.ix 48 GLine.av x6.1 y1_1 fun x14 =>
 .bo (ix y1_2 x14.Account) fun x15 =>
 .gv 51<|
 .gv 52<|
 .ix 55 GLine.av x6.1 y1_1 fun x16 =>
 .cl 58 (d_ref01_Add x15 x16.Amount) cal188 d_ref01_Add_c fun x17 =>
 .bB 62 (decide (x17.2≠0)) fun x18 =>
 .ifs [62] x18 (.esc (.esc (.ret ((a1:List Int),(x17.2:Int))))) (.ix 68 GLine.av x6.1 y1_1 fun x19 =>
 .bo (ix y1_2 x19.Account) fun x20 =>
 .gv 72<|
 .bl (y1_2.set (Int.toNat x19.Account) (x17.1:Int):List Int) fun x21 =>
 .ge 1014008<|
 .bI 43 (w64 (y1_1+1)) fun x22 =>
 .brk (x22,x21)))) (.esc (.brk y1_2))))
  (fun y2_1 =>
 .ret (y2_1,(0:Int))))))
def d_ref08_Post (n:Nat) (a1:List Int) (a2:List GLine):Option ((List Int)×Int):=(t_ref08_Post n a1 a2).run
theorem d_ref08_Post_c {n:Nat} {a1:List Int} {a2:List GLine} {r:(List Int)×Int} (h0:d_ref08_Post n a1 a2=some r):PP Tryz.prog 187 [lst 1 fI a1,lst 2 GLine.av a2] (fun y=>y=.tup [lst 1 fI r.1,int r.2]):=by
 refine wt_pp mixed tbk (fun (r:(List Int)×Int)=>.tup [lst 1 fI r.1,int r.2]) h0 Tryz.func187 (fun r=>.tup (pvl2 ((pvLs pvcI) (r.1)) (pvI (r.2)))) 100000 ?_
 refine .mk ?_
 conv=>whnf
 refine .mk fun x3=>?_
 conv=>whnf
 refine .mk ?_ ?_
 conv=>whnf
 exact .mk (CvL.tup (.cons (.nil _) (.cons (.refl _) .nil)))
 conv=>whnf
 refine .mk fun p4=>?_
 conv=>whnf
 refine .mk _ ⟨fun _=>yl_app0T (g:=fI) (m:=a1) 1 rfl Tryz.underlying22 bz3 by3 rfl rfl rfl rfl (.refl _) (fun _=>rfl) p4,fun _ _ _=>trivial⟩ ?_
 rintro _ _ ⟨v5,rfl,rfl⟩
 conv=>whnf
 refine .mk fun x6 e6=>?_
 conv=>whnf
 refine .mk ?_ ?_
 conv=>whnf
 refine .mk fun x7=>?_
 refine .mk .mk ?_
 refine .mk ?_
 conv=>whnf
 refine .mk fun x8=>?_
 conv=>whnf
 refine .mk ?_ ?_
 conv=>whnf
 refine .mk fun x9 e9=>?_
 conv=>whnf
 refine .mk fun x10=>?_
 exact .mk
 conv=>whnf
 exact .mk
 intro _ _
 conv=>whnf
 refine .mk ?_ ?_
 conv=>whnf
 exact .mk (CvL.tup (.cons (cv_lst rfl rfl rfl rfl rfl (Eq.symm rfl)) (.cons (.refl _) .nil)))
 conv=>whnf
 refine .mk fun p11=>?_
 conv=>whnf
 refine .mk _ ⟨fun _=>yl_app0T (g:=fI) (m:=a1) 2 rfl Tryz.underlying22 bz3 by3 rfl rfl rfl rfl (.refl _) (fun _=>rfl) p11,fun _ _ _=>trivial⟩ ?_
 rintro _ _ ⟨v12,rfl,rfl⟩
 conv=>whnf
 refine .mk ?_ ?_
 refine .mk ?_
 rintro ⟨y1_1,y1_2⟩ _
 refine .mk ?_
 conv=>whnf
 refine .mk fun x13=>?_
 conv=>whnf
 refine .mk ?_ ?_
 refine .mk ?_
 conv=>whnf
 refine .mk fun x14 e14=>?_
 conv=>whnf
 refine .mk fun x15 e15=>?_
 conv=>whnf
 refine .mk _ (fun H hH _=>yv_ixO rfl Tryz.underlying22 sh3 rfl rfl ((hH _ (by decide)).trans rfl) rfl rfl (Eq.symm rfl) (List.length_map _) e15) ?_
 conv=>whnf
 refine .mk _ (fun H hH _=>yv_load rfl sh3 rfl (.pt ((hH _ (by decide)).trans rfl) rfl (ix_get e15)) rfl) ?_
 conv=>whnf
 refine .mk fun x16 e16=>?_
 conv=>whnf
 refine .mk fun x17 e17=>?_
 conv=>whnf
 refine .mk fun x18=>?_
 conv=>whnf
 refine .mk ?_ ?_
 conv=>whnf
 exact .mk (CvL.tup (.cons (cv_lst rfl rfl rfl rfl rfl (Eq.symm rfl)) (.cons (.refl _) .nil)))
 conv=>whnf
 refine .mk fun x19 e19=>?_
 conv=>whnf
 refine .mk fun x20 e20=>?_
 conv=>whnf
 refine .mk _ (agr (yv_ixO rfl Tryz.underlying22 sh3 rfl rfl rfl rfl rfl (Eq.symm rfl) (List.length_map _) e20)) ?_
 conv=>whnf
 refine .mk fun x21 e21=>?_
 have fx21:=ix_set e20 e21;have lx21:=len_setV e21 (rfl:y1_2.length=y1_2.length)
 conv=>whnf
 refine .mk _ ⟨fun _=>Yield.weak (yl_ob (ob':=(⟨3,1,true,true,_,x21.map fI⟩:AObj)) (yl_store rfl sh3 rfl rfl rfl rfl rfl (ix_get e20) rfl rfl rfl) (ob_eq (map_setV e21))) (fun _ h=>h) (fun _ _=>trivial),fun _ _ _=>trivial⟩ ?_
 rintro _ _ ⟨rfl,rfl⟩
 conv=>whnf
 refine .mk fun x22=>?_
 conv=>whnf
 exact .mk ⟨⟨⟨_,rfl,(cv_slen (Eq.symm lx21))⟩,⟨_,rfl,(.refl _)⟩,⟨_,rfl,(.refl _)⟩,⟨_,rfl,(.refl _)⟩,⟨_,rfl,(.refl _)⟩,⟨_,rfl,(.refl _)⟩,trivial⟩,⟨⟨_,rfl,(.refl _)⟩,⟨_,rfl,(.refl _)⟩,trivial⟩⟩
 exact .mk
 intro _ _
 conv=>whnf
 exact .mk (CvL.tup (.cons (cv_lst rfl rfl rfl rfl rfl (Eq.symm rfl)) (.cons (.refl _) .nil)))
noncomputable def t_ref14_Post (n:Nat) (a1:GState) (a2:Int) (a3:List GLine):WT Tryz.prog (.b (GState×Int)) :=
 .al 1<|
 .al 2<|
 .ln 15 GEnt.av a1.Ents<|
 .bI 16 (w64 ((a1.Ents.length:Int)-1)) fun x6 =>
 .cl 17 (d_ref14_to a2 x6) cal184 d_ref14_to_c fun x7 =>
 .bB 18 (!x7) fun x8 =>
 .ifs [18] x8 (.ret ((a1:GState),(4:Int))) (.cl 22 (d_ref07_Plain n a3) cal186 d_ref07_Plain_c fun x9 =>
 .bB 26 (decide (x9.2≠0)) fun x10 =>
 .ifs [26] x10 (.ret ((a1:GState),(x9.2:Int))) (.ixE 33 GEnt.av gE GEnt.av_eq a1.Ents a2 fun x11 =>
 .cl 37 (d_ref08_Post n x11.Bal x9.1) cal187 d_ref08_Post_c fun x12 =>
 .bB 41 (decide (x12.2≠0)) fun x13 =>
 .ifs [41] x13 (.ret ((a1:GState),(x12.2:Int))) (.inl 46 cal10 Tryz.func10 [1,2] [5,6,7,8,9,10] (fun u2 (a:Int×Bool×(List GEnt)×(List GPool)×(List Int)×(List GRoll)×(List Int)×(List Int))=>.agg [int a1.Master.Entities,int a1.Master.Periods,lst 1 fI a1.Master.Weights,lst 1 (fL 1 fI) a1.Master.Methods,lst 1 (fL 1 fI) a1.Master.Costs,.sl 5 (u2 5) 0 a1.Ents.length,lst 8 GReceipt.av a1.Receipts,lst 9 GSale.av a1.Sales,lst 6 GTransit.av a1.Transits,int a1.Done]) (fun u2 a=>[.nw 5 39 8 ((a1.Ents.map GEnt.av).set (Int.toNat a2) [int a.1,boo a.2.1,.sl 6 (u2 6) 0 a.2.2.2.1.length,.sl 7 (u2 7) 0 a.2.2.2.2.1.length,.sl 8 (u2 8) 0 a.2.2.2.2.2.1.length,.sl 9 (u2 9) 0 a.2.2.2.2.2.2.1.length,.sl 10 (u2 10) 0 a.2.2.2.2.2.2.2.length,lst 8 GEnt.av a.2.2.1]),.nw 6 57 4 (a.2.2.2.1.map GPool.av),.nw 7 3 1 (a.2.2.2.2.1.map fI),.nw 8 83 11 (a.2.2.2.2.2.1.map GRoll.av),.nw 9 3 1 (a.2.2.2.2.2.2.1.map fI),.nw 10 3 1 (a.2.2.2.2.2.2.2.map fI)]) (.al 3<|
 .al 4<|
 .as (a1.Ents.length≤68719476736) inferInstance<|
 .ge 8<|
 .bo (ix a1.Ents a2) fun x18 =>
 .gv 13<|
 .dr [(4,[5]),(5,[5]),(6,[5]),(9,[5]),(10,[5]),(11,[5]),(14,[5]),(15,[5]),(16,[5]),(18,[5]),(19,[5]),(21,[5]),(22,[5]),(24,[5]),(25,[5])] [(17,[]),(20,[]),(23,[]),(26,[])] [5] [7,12,17,20,23,26] [0,1,2,3,4,5,6,8,9,10,11,13,14,15,16,7,12,17,18,19,20,21,22,23,24,25,26] (.gv 18<|
 .gv 19<|
 .gv 20<|
 .gv 23<|
 .gv 24<|
 .gv 25<|
 .gv 28<|
 .gv 29<|
 .gv 30<|
 .as (x18.Pools.length≤68719476736) inferInstance<|
 .ge 21<|
 .as (x18.Bal.length≤68719476736) inferInstance<|
 .ge 26<|
 .as (x18.Rolls.length≤68719476736) inferInstance<|
 .ge 31<|
 .gv 32<|
 .gv 33<|
 .ge 1003020<|
 .gv 34<|
 .gv 35<|
 .ge 1003023<|
 .gv 36<|
 .gv 37<|
 .ge 1003026<|
 .dr [(3,[5]),(4,[5]),(5,[5]),(8,[5]),(9,[5]),(10,[5]),(12,[5]),(13,[5]),(15,[5]),(16,[5])] [(11,[]),(14,[]),(17,[])] [5] [6,11,14,17] [0,1,2,3,4,5,7,8,9,10,6,11,12,13,14,15,16,17] (.gv 41<|
 .gv 42<|
 .gv 43<|
 .gv 46<|
 .gv 47<|
 .gv 48<|
 .as (x18.Prices.length≤68719476736) inferInstance<|
 .ge 44<|
 .as (x18.Down.length≤68719476736) inferInstance<|
 .ge 49<|
 .gv 50<|
 .gv 51<|
 .ge 1004014<|
 .gv 52<|
 .gv 53<|
 .ge 1004017<|
 .ret ((x18.Now:Int),(x18.Closed:Bool),(x18.Ahead:List GEnt),(x18.Pools:List GPool),(x18.Bal:List Int),(x18.Rolls:List GRoll),(x18.Prices:List Int),(x18.Down:List Int))))) (pw fun y0_2 q0=>(pw fun y0_3 q1=>(pw fun y0_9 q2=>(pw fun y0_10 q3=>(pw fun y0_11 q4=>(pw fun y0_12 q5=>(pw fun y0_13 y0_14 =>
 .bo (ix a1.Ents a2) fun x29 =>
 .al 11<|
 .gv 51<|
 .gv 52<|
 .ge 1010006<|
 .ret (((⟨a1.Master,(a1.Ents.set (Int.toNat a2) (⟨y0_2,y0_3,y0_10,x12.1,y0_12,y0_13,y0_14,y0_9⟩:GEnt)),a1.Receipts,a1.Sales,a1.Transits,a1.Done⟩:GState):GState),(0:Int))) q5) q4) q3) q2) q1) q0))))
def d_ref14_Post (n:Nat) (a1:GState) (a2:Int) (a3:List GLine):Option (GState×Int):=(t_ref14_Post n a1 a2 a3).run
theorem d_ref14_Post_c {n:Nat} {a1:GState} {a2:Int} {a3:List GLine} {r:GState×Int} (h0:d_ref14_Post n a1 a2 a3=some r):PP Tryz.prog 149 [.agg (GState.av a1),int a2,lst 2 GLine.av a3] (fun y=>y=.tup [.agg (GState.av r.1),int r.2]):=by
 refine wt_pp mixed tbk (fun (r:GState×Int)=>.tup [.agg (GState.av r.1),int r.2]) h0 Tryz.func149 (fun r=>.tup (pvl2 ((fun (a:GState)=>PV.agg (GState.pvc a)) (r.1)) (pvI (r.2)))) 100000 ?_
 intro v4
 intro v5
 refine .mk ?_
 conv=>whnf
 refine .mk fun x6=>?_
 conv=>whnf
 refine .mk fun x7 e7=>?_
 conv=>whnf
 refine .mk fun x8=>?_
 refine .mk .mk ?_
 conv=>whnf
 refine .mk fun x9 e9=>?_
 conv=>whnf
 refine .mk fun x10=>?_
 refine .mk .mk ?_
 conv=>whnf
 refine .mk fun x11 e11=>?_
 conv=>whnf
 refine .mk fun x12 e12=>?_
 conv=>whnf
 refine .mk fun x13=>?_
 refine .mk .mk ?_
 conv=>whnf
 refine .mk ?_ ?_
 intro v14
 intro v15
 conv=>whnf
 refine .mk fun p16=>?_
 conv=>whnf
 refine .mk _ ⟨fun _=>yl_app0T (g:=GEnt.av) (m:=a1.Ents) 5 rfl Tryz.underlying26 bz39 by39 rfl rfl rfl rfl (.refl _) GEnt.one p16,fun _ _ _=>trivial⟩ ?_
 rintro _ _ ⟨v17,rfl,rfl⟩
 conv=>whnf
 refine .mk fun x18 e18=>?_
 conv=>whnf
 refine .mk _ (agr (yv_ixO rfl Tryz.underlying26 sh39 rfl rfl rfl rfl rfl (Eq.symm rfl) (List.length_map _) e18)) ?_
 refine .mk ?_
 conv=>whnf
 refine .mk _ (fun H hH _=>yv_nilCheck rfl rfl (.pt ((hH _ (by decide)).trans rfl) rfl (ix_get' e18 (GEnt.av_eq _)))) ?_
 conv=>whnf
 refine .mk _ (fun H hH _=>yv_fieldAddr rfl fo39_2 rfl (.pt ((hH _ (by decide)).trans rfl) rfl (ix_get' e18 (GEnt.av_eq _))) (.pt _ _ _ _ _)) ?_
 conv=>whnf
 refine .mk _ (fun H hH _=>yv_load rfl sh36 rfl (.pt ((hH _ (by decide)).trans rfl) rfl (ix_get' e18 (GEnt.av_eq _))) rfl) ?_
 conv=>whnf
 refine .mk _ (fun H hH _=>yv_nilCheck rfl rfl (.pt ((hH _ (by decide)).trans rfl) rfl (ix_get' e18 (GEnt.av_eq _)))) ?_
 conv=>whnf
 refine .mk _ (fun H hH _=>yv_fieldAddr rfl fo39_3 rfl (.pt ((hH _ (by decide)).trans rfl) rfl (ix_get' e18 (GEnt.av_eq _))) (.pt _ _ _ _ _)) ?_
 conv=>whnf
 refine .mk _ (fun H hH _=>yv_load rfl sh22 rfl (.pt ((hH _ (by decide)).trans rfl) rfl (ix_get' e18 (GEnt.av_eq _))) rfl) ?_
 conv=>whnf
 refine .mk _ (fun H hH _=>yv_nilCheck rfl rfl (.pt ((hH _ (by decide)).trans rfl) rfl (ix_get' e18 (GEnt.av_eq _)))) ?_
 conv=>whnf
 refine .mk _ (fun H hH _=>yv_fieldAddr rfl fo39_4 rfl (.pt ((hH _ (by decide)).trans rfl) rfl (ix_get' e18 (GEnt.av_eq _))) (.pt _ _ _ _ _)) ?_
 conv=>whnf
 refine .mk _ (fun H hH _=>yv_load rfl sh37 rfl (.pt ((hH _ (by decide)).trans rfl) rfl (ix_get' e18 (GEnt.av_eq _))) rfl) ?_
 conv=>whnf
 refine .mk fun p19=>?_
 conv=>whnf
 refine .mk _ ⟨fun _=>yl_app0T (g:=GPool.av) (m:=x18.Pools) 6 rfl Tryz.underlying36 bz57 by57 rfl rfl rfl rfl (.refl _) (fun _=>rfl) p19,by rintro _ _ ⟨v20,rfl,rfl⟩;exact ⟨rfl,trivial⟩⟩ ?_
 rintro _ _ ⟨v20,rfl,rfl⟩
 conv=>whnf
 refine .mk fun p21=>?_
 conv=>whnf
 refine .mk _ ⟨fun _=>yl_app0T (g:=fI) (m:=x18.Bal) 7 rfl Tryz.underlying22 bz3 by3 rfl rfl rfl rfl (.refl _) (fun _=>rfl) p21,by rintro _ _ ⟨v22,rfl,rfl⟩;exact ⟨rfl,trivial⟩⟩ ?_
 rintro _ _ ⟨v22,rfl,rfl⟩
 conv=>whnf
 refine .mk fun p23=>?_
 conv=>whnf
 refine .mk _ ⟨fun _=>yl_app0T (g:=GRoll.av) (m:=x18.Rolls) 8 rfl Tryz.underlying37 bz83 by83 rfl rfl rfl rfl (.refl _) (fun _=>rfl) p23,by rintro _ _ ⟨v24,rfl,rfl⟩;exact trivial⟩ ?_
 rintro _ _ ⟨v24,rfl,rfl⟩
 conv=>whnf
 refine .mk _ (fun H hH _=>yv_nilCheck rfl rfl (.pt ((hH _ (by decide)).trans rfl) rfl (ix_get' e18 (GEnt.av_eq _)))) ?_
 conv=>whnf
 refine .mk _ (fun H hH _=>yv_fieldAddr rfl fo39_2 rfl (.pt ((hH _ (by decide)).trans rfl) rfl (ix_get' e18 (GEnt.av_eq _))) (.pt _ _ _ _ _)) ?_
 conv=>whnf
 refine .mk _ ⟨fun _=>Yield.weak (yl_ob (ob':=(⟨39,8,true,true,_,(a1.Ents.map GEnt.av).set (Int.toNat a2) [int x18.Now,boo x18.Closed,.sl 6 v20 0 x18.Pools.length,lst 1 fI x18.Bal,lst 11 GRoll.av x18.Rolls,lst 1 fI x18.Prices,lst 1 fI x18.Down,lst 8 GEnt.av x18.Ahead]⟩:AObj)) (yl_store rfl sh36 rfl rfl rfl rfl rfl (ix_get' e18 (GEnt.av_eq _)) rfl rfl rfl) (ob_eq rfl)) (fun _ h=>h) (fun _ _=>trivial),by rintro _ _ ⟨rfl,rfl⟩;exact trivial⟩ ?_
 rintro _ _ ⟨rfl,rfl⟩
 conv=>whnf
 refine .mk _ (fun H hH _=>yv_nilCheck rfl rfl (.pt ((hH _ (by decide)).trans rfl) rfl (set_get e18))) ?_
 conv=>whnf
 refine .mk _ (fun H hH _=>yv_fieldAddr rfl fo39_3 rfl (.pt ((hH _ (by decide)).trans rfl) rfl (set_get e18)) (.pt _ _ _ _ _)) ?_
 conv=>whnf
 refine .mk _ ⟨fun _=>Yield.weak (yl_ob (ob':=(⟨39,8,true,true,_,(a1.Ents.map GEnt.av).set (Int.toNat a2) [int x18.Now,boo x18.Closed,.sl 6 v20 0 x18.Pools.length,.sl 7 v22 0 x18.Bal.length,lst 11 GRoll.av x18.Rolls,lst 1 fI x18.Prices,lst 1 fI x18.Down,lst 8 GEnt.av x18.Ahead]⟩:AObj)) (yl_store rfl sh22 rfl rfl rfl rfl rfl (set_get e18) rfl rfl rfl) (ob_eq set_setV)) (fun _ h=>h) (fun _ _=>trivial),by rintro _ _ ⟨rfl,rfl⟩;exact trivial⟩ ?_
 rintro _ _ ⟨rfl,rfl⟩
 conv=>whnf
 refine .mk _ (fun H hH _=>yv_nilCheck rfl rfl (.pt ((hH _ (by decide)).trans rfl) rfl (set_get e18))) ?_
 conv=>whnf
 refine .mk _ (fun H hH _=>yv_fieldAddr rfl fo39_4 rfl (.pt ((hH _ (by decide)).trans rfl) rfl (set_get e18)) (.pt _ _ _ _ _)) ?_
 conv=>whnf
 refine .mk _ ⟨fun _=>Yield.weak (yl_ob (ob':=(⟨39,8,true,true,_,(a1.Ents.map GEnt.av).set (Int.toNat a2) [int x18.Now,boo x18.Closed,.sl 6 v20 0 x18.Pools.length,.sl 7 v22 0 x18.Bal.length,.sl 8 v24 0 x18.Rolls.length,lst 1 fI x18.Prices,lst 1 fI x18.Down,lst 8 GEnt.av x18.Ahead]⟩:AObj)) (yl_store rfl sh37 rfl rfl rfl rfl rfl (set_get e18) rfl rfl rfl) (ob_eq set_setV)) (fun _ h=>h) (fun _ _=>trivial),by rintro _ _ ⟨rfl,rfl⟩;exact trivial⟩ ?_
 rintro _ _ ⟨rfl,rfl⟩
 refine .mk ?_
 conv=>whnf
 refine .mk _ (fun H hH _=>yv_nilCheck rfl rfl (.pt ((hH _ (by decide)).trans rfl) rfl (set_get e18))) ?_
 conv=>whnf
 refine .mk _ (fun H hH _=>yv_fieldAddr rfl fo39_5 rfl (.pt ((hH _ (by decide)).trans rfl) rfl (set_get e18)) (.pt _ _ _ _ _)) ?_
 conv=>whnf
 refine .mk _ (fun H hH _=>yv_load rfl sh22 rfl (.pt ((hH _ (by decide)).trans rfl) rfl (set_get e18)) rfl) ?_
 conv=>whnf
 refine .mk _ (fun H hH _=>yv_nilCheck rfl rfl (.pt ((hH _ (by decide)).trans rfl) rfl (set_get e18))) ?_
 conv=>whnf
 refine .mk _ (fun H hH _=>yv_fieldAddr rfl fo39_6 rfl (.pt ((hH _ (by decide)).trans rfl) rfl (set_get e18)) (.pt _ _ _ _ _)) ?_
 conv=>whnf
 refine .mk _ (fun H hH _=>yv_load rfl sh22 rfl (.pt ((hH _ (by decide)).trans rfl) rfl (set_get e18)) rfl) ?_
 conv=>whnf
 refine .mk fun p25=>?_
 conv=>whnf
 refine .mk _ ⟨fun _=>yl_app0T (g:=fI) (m:=x18.Prices) 9 rfl Tryz.underlying22 bz3 by3 rfl rfl rfl rfl (.refl _) (fun _=>rfl) p25,by rintro _ _ ⟨v26,rfl,rfl⟩;exact ⟨rfl,trivial⟩⟩ ?_
 rintro _ _ ⟨v26,rfl,rfl⟩
 conv=>whnf
 refine .mk fun p27=>?_
 conv=>whnf
 refine .mk _ ⟨fun _=>yl_app0T (g:=fI) (m:=x18.Down) 10 rfl Tryz.underlying22 bz3 by3 rfl rfl rfl rfl (.refl _) (fun _=>rfl) p27,by rintro _ _ ⟨v28,rfl,rfl⟩;exact trivial⟩ ?_
 rintro _ _ ⟨v28,rfl,rfl⟩
 conv=>whnf
 refine .mk _ (fun H hH _=>yv_nilCheck rfl rfl (.pt ((hH _ (by decide)).trans rfl) rfl (set_get e18))) ?_
 conv=>whnf
 refine .mk _ (fun H hH _=>yv_fieldAddr rfl fo39_5 rfl (.pt ((hH _ (by decide)).trans rfl) rfl (set_get e18)) (.pt _ _ _ _ _)) ?_
 conv=>whnf
 refine .mk _ ⟨fun _=>Yield.weak (yl_ob (ob':=(⟨39,8,true,true,_,(a1.Ents.map GEnt.av).set (Int.toNat a2) [int x18.Now,boo x18.Closed,.sl 6 v20 0 x18.Pools.length,.sl 7 v22 0 x18.Bal.length,.sl 8 v24 0 x18.Rolls.length,.sl 9 v26 0 x18.Prices.length,lst 1 fI x18.Down,lst 8 GEnt.av x18.Ahead]⟩:AObj)) (yl_store rfl sh22 rfl rfl rfl rfl rfl (set_get e18) rfl rfl rfl) (ob_eq set_setV)) (fun _ h=>h) (fun _ _=>trivial),by rintro _ _ ⟨rfl,rfl⟩;exact trivial⟩ ?_
 rintro _ _ ⟨rfl,rfl⟩
 conv=>whnf
 refine .mk _ (fun H hH _=>yv_nilCheck rfl rfl (.pt ((hH _ (by decide)).trans rfl) rfl (set_get e18))) ?_
 conv=>whnf
 refine .mk _ (fun H hH _=>yv_fieldAddr rfl fo39_6 rfl (.pt ((hH _ (by decide)).trans rfl) rfl (set_get e18)) (.pt _ _ _ _ _)) ?_
 conv=>whnf
 refine .mk _ ⟨fun _=>Yield.weak (yl_ob (ob':=(⟨39,8,true,true,_,(a1.Ents.map GEnt.av).set (Int.toNat a2) [int x18.Now,boo x18.Closed,.sl 6 v20 0 x18.Pools.length,.sl 7 v22 0 x18.Bal.length,.sl 8 v24 0 x18.Rolls.length,.sl 9 v26 0 x18.Prices.length,.sl 10 v28 0 x18.Down.length,lst 8 GEnt.av x18.Ahead]⟩:AObj)) (yl_store rfl sh22 rfl rfl rfl rfl rfl (set_get e18) rfl rfl rfl) (ob_eq set_setV)) (fun _ h=>h) (fun _ _=>trivial),by rintro _ _ ⟨rfl,rfl⟩;exact trivial⟩ ?_
 rintro _ _ ⟨rfl,rfl⟩
 exact .mk
 rintro ⟨y0_2,y0_3,y0_9,y0_10,y0_11,y0_12,y0_13,y0_14⟩ u2
 conv=>whnf
 refine .mk trivial ?_
 conv=>whnf
 refine .mk fun x29 e29=>?_
 intro v30
 conv=>whnf
 refine .mk _ (agr (yv_ixO rfl Tryz.underlying26 sh39 rfl rfl rfl rfl rfl (Eq.symm rfl) len_ov e29)) ?_
 conv=>whnf
 refine .mk _ (agr (yv_fieldAddr rfl fo39_3 rfl (.pt rfl rfl (set_get e29)) (.pt _ _ _ _ _))) ?_
 conv=>whnf
 refine .mk _ ⟨fun _=>Yield.weak (yl_ob (ob':=(⟨39,8,true,true,_,(a1.Ents.map GEnt.av).set (Int.toNat a2) [int y0_2,boo y0_3,.sl 6 (u2 6) 0 y0_10.length,lst 1 fI x12.1,.sl 8 (u2 8) 0 y0_12.length,.sl 9 (u2 9) 0 y0_13.length,.sl 10 (u2 10) 0 y0_14.length,lst 8 GEnt.av y0_9]⟩:AObj)) (yl_store rfl sh22 rfl rfl rfl rfl rfl (set_get e29) rfl rfl rfl) (ob_eq set_setV)) (fun _ h=>h) (fun _ _=>trivial),fun _ _ _=>trivial⟩ ?_
 rintro _ _ ⟨rfl,rfl⟩
 conv=>whnf
 exact .mk (CvL.tup (.cons (CvL.agg (.cons (.refl _) (.cons (.refl _) (.cons (.refl _) (.cons (.refl _) (.cons (.refl _) (.cons (cv_ov rfl rfl rfl rfl rfl (Eq.symm rfl) e29 (cvl_to (.cons (.refl _) (.cons (.refl _) (.cons (cv_lst rfl rfl rfl rfl rfl (Eq.symm rfl)) (.cons (.refl _) (.cons (cv_lst rfl rfl rfl rfl rfl (Eq.symm rfl)) (.cons (cv_lst rfl rfl rfl rfl rfl (Eq.symm rfl)) (.cons (cv_lst rfl rfl rfl rfl rfl (Eq.symm rfl)) (.cons (.refl _) .nil)))))))) (GEnt.av_eq _))) (.cons (.refl _) (.cons (.refl _) (.cons (.refl _) (.cons (.refl _) .nil))))))))))) (.cons (.refl _) .nil)))
noncomputable def t_ref14_Numbers (a1:GRoll):WT Tryz.prog (.b (A11_Int)) :=
 .al 1<|
 .al 2<|
 .gv 25<|
 .ret (((⟨a1.Open,a1.Bought,a1.Landed,a1.Arrived,a1.Returned,a1.Sold,a1.Shipped,a1.SentBack,a1.Scrapped,a1.Lost,a1.Revalued⟩:A11_Int):A11_Int))
def d_ref14_Numbers (a1:GRoll):Option (A11_Int):=(t_ref14_Numbers a1).run
theorem d_ref14_Numbers_c {a1:GRoll} {r:A11_Int} (h0:d_ref14_Numbers a1=some r):PP Tryz.prog 80 [.agg (GRoll.av a1)] (fun y=>y=.agg (A11_Int.av r)):=by
 refine wt_pp mixed tbk (fun (r:A11_Int)=>.agg (A11_Int.av r)) h0 Tryz.func80 (fun r=>(fun (a:A11_Int)=>PV.agg (A11_Int.pvc a)) r) 100000 ?_
 intro v2
 intro v3
 conv=>whnf
 refine .mk _ (agr (yv_buildA (cs:=[int a1.Open,int a1.Bought,int a1.Landed,int a1.Arrived,int a1.Returned,int a1.Sold,int a1.Shipped,int a1.SentBack,int a1.Scrapped,int a1.Lost,int a1.Revalued]) (ps:=[(0,_),(1,_),(2,_),(3,_),(4,_),(5,_),(6,_),(7,_),(8,_),(9,_),(10,_)]) rfl Tryz.underlying128 sh3 z128 rfl (.cons rfl (.cons rfl (.cons rfl (.cons rfl (.cons rfl (.cons rfl (.cons rfl (.cons rfl (.cons rfl (.cons rfl (.cons rfl .nil))))))))))) (by kernel_rfl))) ?_
 exact .mk
noncomputable def t_ref14_Roll (a1:A11_Int):WT Tryz.prog (.b (GRoll)) :=
 .al 1<|
 .al 2<|
 .gv 3<|
 .gv 5<|
 .gv 7<|
 .gv 9<|
 .gv 11<|
 .gv 13<|
 .gv 15<|
 .gv 17<|
 .gv 19<|
 .gv 21<|
 .gv 23<|
 .ret (((⟨a1.a0,a1.a1,a1.a2,a1.a3,a1.a4,a1.a5,a1.a6,a1.a7,a1.a8,a1.a9,a1.a10⟩:GRoll):GRoll))
def d_ref14_Roll (a1:A11_Int):Option (GRoll):=(t_ref14_Roll a1).run
theorem d_ref14_Roll_c {a1:A11_Int} {r:GRoll} (h0:d_ref14_Roll a1=some r):PP Tryz.prog 189 [.agg (A11_Int.av a1)] (fun y=>y=.agg (GRoll.av r)):=by
 refine wt_pp mixed tbk (fun (r:GRoll)=>.agg (GRoll.av r)) h0 Tryz.func189 (fun r=>(fun (a:GRoll)=>PV.agg (GRoll.pvc a)) r) 100000 ?_
 intro v2
 intro v3
 conv=>whnf
 refine .mk _ (agr (yv_to (y:=.pt 1 v2 0 0) (yv_indexAddrA rfl Tryz.underlying128 sh3 rfl rfl rfl rfl rfl (by decide)) rfl)) ?_
 conv=>whnf
 refine .mk _ (agr (yv_to (y:=.pt 1 v2 0 1) (yv_indexAddrA rfl Tryz.underlying128 sh3 rfl rfl rfl rfl rfl (by decide)) rfl)) ?_
 conv=>whnf
 refine .mk _ (agr (yv_to (y:=.pt 1 v2 0 2) (yv_indexAddrA rfl Tryz.underlying128 sh3 rfl rfl rfl rfl rfl (by decide)) rfl)) ?_
 conv=>whnf
 refine .mk _ (agr (yv_to (y:=.pt 1 v2 0 3) (yv_indexAddrA rfl Tryz.underlying128 sh3 rfl rfl rfl rfl rfl (by decide)) rfl)) ?_
 conv=>whnf
 refine .mk _ (agr (yv_to (y:=.pt 1 v2 0 4) (yv_indexAddrA rfl Tryz.underlying128 sh3 rfl rfl rfl rfl rfl (by decide)) rfl)) ?_
 conv=>whnf
 refine .mk _ (agr (yv_to (y:=.pt 1 v2 0 5) (yv_indexAddrA rfl Tryz.underlying128 sh3 rfl rfl rfl rfl rfl (by decide)) rfl)) ?_
 conv=>whnf
 refine .mk _ (agr (yv_to (y:=.pt 1 v2 0 6) (yv_indexAddrA rfl Tryz.underlying128 sh3 rfl rfl rfl rfl rfl (by decide)) rfl)) ?_
 conv=>whnf
 refine .mk _ (agr (yv_to (y:=.pt 1 v2 0 7) (yv_indexAddrA rfl Tryz.underlying128 sh3 rfl rfl rfl rfl rfl (by decide)) rfl)) ?_
 conv=>whnf
 refine .mk _ (agr (yv_to (y:=.pt 1 v2 0 8) (yv_indexAddrA rfl Tryz.underlying128 sh3 rfl rfl rfl rfl rfl (by decide)) rfl)) ?_
 conv=>whnf
 refine .mk _ (agr (yv_to (y:=.pt 1 v2 0 9) (yv_indexAddrA rfl Tryz.underlying128 sh3 rfl rfl rfl rfl rfl (by decide)) rfl)) ?_
 conv=>whnf
 refine .mk _ (agr (yv_to (y:=.pt 1 v2 0 10) (yv_indexAddrA rfl Tryz.underlying128 sh3 rfl rfl rfl rfl rfl (by decide)) rfl)) ?_
 exact .mk
def d_ref14_Turn_L0 (a1:GState) (a2:Int) (a3:Int) (a4:GRoll) (x13:A11_Int):Nat→Int→(List Int)→Option (((List Int))⊕(GState×Int))
  | 0,_,_=>none
  | n+1,y0_1,y0_2 =>
    bnd (decide (y0_1<11)) fun x17 =>
    cond x17 (asrt ((0:Int)≤y0_1∧y0_1<(11:Int))<|
    (ix y0_2 y0_1).bind fun x19 =>
    asrt ((0:Int)≤y0_1∧y0_1<(11:Int))<|
    (ix ([x13.a0,x13.a1,x13.a2,x13.a3,x13.a4,x13.a5,x13.a6,x13.a7,x13.a8,x13.a9,x13.a10]:List Int) y0_1).bind fun x21 =>
    (d_ref01_Add x19 x21).bind fun x22 =>
    bnd (decide (x22.2≠0)) fun x23 =>
    cond x23 (esc (some ((a1:GState),(x22.2:Int)))) (asrt ((0:Int)≤y0_1∧y0_1<(11:Int))<|
    bnd (y0_2.set (Int.toNat y0_1) x22.1) fun x25 =>
    bnd (w64 (y0_1+1)) fun x26 =>
    d_ref14_Turn_L0 a1 a2 a3 a4 x13 n x26 x25)) (brk y0_2)
def d_ref14_Turn (n:Nat) (a1:GState) (a2:Int) (a3:Int) (a4:GRoll):Option (GState×Int) :=
(d_ref14_there a1 a2 a3).bind fun x8 =>
bnd (!x8) fun x9 =>
cond x9 (some ((a1:GState),(4:Int))) ((ix a1.Ents a2).bind fun x10 =>
(ix x10.Rolls a3).bind fun x11 =>
(d_ref14_Numbers x11).bind fun x12 =>
(d_ref14_Numbers a4).bind fun x13 =>
(show Option (((List Int))⊕(GState×Int)) from
d_ref14_Turn_L0 a1 a2 a3 a4 x13 n (0:Int) (([x12.a0,x12.a1,x12.a2,x12.a3,x12.a4,x12.a5,x12.a6,x12.a7,x12.a8,x12.a9,x12.a10]:List Int):List Int)).bind <| sel <| fun y1_1 =>
(show Option ((Int×Bool×(List GEnt)×(List GPool)×(List Int)×(List GRoll)×(List Int)×(List Int))) from
asrt (a1.Ents.length≤68719476736)<|
(ix a1.Ents a2).bind fun x33 =>
asrt (x33.Pools.length≤68719476736)<|
asrt (x33.Bal.length≤68719476736)<|
asrt (x33.Rolls.length≤68719476736)<|
asrt (x33.Prices.length≤68719476736)<|
asrt (x33.Down.length≤68719476736)<|
some ((x33.Now:Int),(x33.Closed:Bool),(x33.Ahead:List GEnt),(x33.Pools:List GPool),(x33.Bal:List Int),(x33.Rolls:List GRoll),(x33.Prices:List Int),(x33.Down:List Int))).bind <| p2 fun y3_2 (q0:Bool×(List GEnt)×(List GPool)×(List Int)×(List GRoll)×(List Int)×(List Int))=>(p2 fun y3_3 (q1:(List GEnt)×(List GPool)×(List Int)×(List GRoll)×(List Int)×(List Int))=>(p2 fun y3_9 (q2:(List GPool)×(List Int)×(List GRoll)×(List Int)×(List Int))=>(p2 fun y3_10 (q3:(List Int)×(List GRoll)×(List Int)×(List Int))=>(p2 fun y3_11 (q4:(List GRoll)×(List Int)×(List Int))=>(p2 fun y3_12 (q5:(List Int)×(List Int))=>(p2 fun y3_13 y3_14 =>
(ix a1.Ents a2).bind fun x44 =>
asrt (y1_1.length=11)<|
(d_ref14_Roll (⟨(y1_1.getD 0 0),(y1_1.getD 1 0),(y1_1.getD 2 0),(y1_1.getD 3 0),(y1_1.getD 4 0),(y1_1.getD 5 0),(y1_1.getD 6 0),(y1_1.getD 7 0),(y1_1.getD 8 0),(y1_1.getD 9 0),(y1_1.getD 10 0)⟩:A11_Int)).bind fun x47 =>
(ix y3_12 a3).bind fun x48 =>
bnd (y3_12.set (Int.toNat a3) x47) fun x49 =>
some (((⟨a1.Master,(a1.Ents.set (Int.toNat a2) (⟨y3_2,y3_3,y3_10,y3_11,x49,y3_13,y3_14,y3_9⟩:GEnt)),a1.Receipts,a1.Sales,a1.Transits,a1.Done⟩:GState):GState),(0:Int))) q5) q4) q3) q2) q1) q0)
theorem d_ref14_Turn_c {n:Nat} {a1:GState} {a2:Int} {a3:Int} {a4:GRoll} {r:GState×Int} (h0:d_ref14_Turn n a1 a2 a3 a4=some r):PP Tryz.prog 151 [.agg (GState.av a1),int a2,int a3,.agg (GRoll.av a4)] (fun y=>y=.tup [.agg (GState.av r.1),int r.2]):=by
  unfold d_ref14_Turn at h0
  refine pp_of_pc (R0:=fun y H=>Cv (frzH H) y (.tup [.agg (GState.av r.1),int r.2])) ?_ (fun y H hc=>⟨_,rfl,.tup (pvl2 ((fun (a:GState)=>PV.agg (GState.pvc a)) (r.1)) (pvI (r.2))),hc⟩)
  refine pcw (c:=_) Tryz.func151 rfl rfl ?_;intro Q hret hnorm
  refine tc tbk 2 (.mk ?_)
  refine sB 1 fun v5=>?_
  refine sB 2 fun v6=>?_
  refine sA 3 z31 fun v7=>?_
  refine tr tbk 8 (.mk ?_)
  obtain ⟨x8,e8,h0⟩:=bind_e h0
  refine sC cal183 (d_ref14_there_c e8) ?_
  refine nb tbk h0 fun x9 h0=>?_
  refine tr tbk 1 (.mk ?_)
  cases x9
  replace h0:=cf h0
  refine tc tbk 3 (.mk ?_)
  refine c_draw [0,1,0,7,15,31,0,127,255,511,0,2047,0,0,16383,32767] (fun i k=>bif Nat.beq i 0 then (Nat.beq k 1) else bif Nat.beq i 1 then (Nat.beq k 1) else bif Nat.beq i 10 then (Nat.beq k 2) else bif Nat.beq i 14 then (Nat.beq k 4) else bif Nat.beq i 15 then (Nat.beq k 5) else false) (fun i=>bif Nat.beq i 12 then (some 4) else bif Nat.beq i 13 then (some 5) else bif Nat.beq i 14 then (some 4) else bif Nat.beq i 15 then (some 5) else none) mixed (by kernel_rfl) ?_;intro C K hK
  refine dg_pure rfl (fun H hH=>yv_fieldAddr rfl fo31_1 rfl (.pt ((hH _ rfl).trans rfl) rfl rfl) (.pt _ _ _ _ _)) ?_
  refine dg_pure rfl (fun H hH=>yv_load rfl sh26 rfl (.pt ((hH _ rfl).trans rfl) rfl rfl) rfl) ?_
  refine dg_pure rfl (fun H hH=>yv_move rfl rfl) ?_
  obtain ⟨x10,e10,h0⟩:=bind_e h0
  refine dg_pure rfl (fun H hH=>yv_to (y:=.pp [int x10.Now,boo x10.Closed,lst 4 GPool.av x10.Pools,lst 1 fI x10.Bal,lst 11 GRoll.av x10.Rolls,lst 1 fI x10.Prices,lst 1 fI x10.Down,lst 8 GEnt.av x10.Ahead]) (yv_ixT rfl Tryz.underlying26 sh39 rfl rfl e10) (congrArg AV.pp (GEnt.av_eq x10))) ?_
  refine dg_pure rfl (fun H hH=>yv_fieldAddr rfl fo39_4 rfl (.pp _) (.pp _ _)) ?_
  refine dg_pure rfl (fun H hH=>yv_load rfl sh37 rfl (.pp _) rfl) ?_
  refine dg_pure rfl (fun H hH=>yv_move rfl rfl) ?_
  obtain ⟨x11,e11,h0⟩:=bind_e h0
  refine dg_pure rfl (fun H hH=>yv_ixT rfl Tryz.underlying37 sh83 rfl rfl e11) ?_
  refine dg_pure rfl (fun H hH=>yv_load rfl sh83 rfl (.pp _) rfl) ?_
  obtain ⟨x12,e12,h0⟩:=bind_e h0
  refine dg_pure rfl (fun H hH=>yv_callP rfl rfl (.cons rfl .nil) cal80 (CvL.refl _) (d_ref14_Numbers_c e12)) ?_
  refine dg_pure rfl (fun H hH=>yv_load rfl sh83 rfl (.pt ((hH _ rfl).trans rfl) rfl rfl) rfl) ?_
  obtain ⟨x13,e13,h0⟩:=bind_e h0
  refine dg_pure rfl (fun H hH=>yv_callP rfl rfl (.cons rfl .nil) cal80 (CvL.refl _) (d_ref14_Numbers_c e13)) ?_
  refine dg_eff rfl rfl (fun H hH=>yl_alloc1 4 rfl z128 rfl) ?_;generalize C+12=v14
  refine dg_eff rfl rfl (fun H hH=>yl_alloc1 5 rfl z128 rfl) ?_;generalize C+13=v15
  refine dg_store rfl rfl rfl (fun H hH=>yl_ob (ob':=(⟨128,11,true,true,v14,[[int x12.a0,int x12.a1,int x12.a2,int x12.a3,int x12.a4,int x12.a5,int x12.a6,int x12.a7,int x12.a8,int x12.a9,int x12.a10]]⟩:AObj)) (yl_store rfl sh128 rfl rfl ((hH _ rfl).trans rfl) rfl rfl rfl rfl rfl rfl) rfl) ?_
  refine dg_store rfl rfl rfl (fun H hH=>yl_ob (ob':=(⟨128,11,true,true,v15,[[int x13.a0,int x13.a1,int x13.a2,int x13.a3,int x13.a4,int x13.a5,int x13.a6,int x13.a7,int x13.a8,int x13.a9,int x13.a10]]⟩:AObj)) (yl_store rfl sh128 rfl rfl ((hH _ rfl).trans rfl) rfl rfl rfl rfl rfl rfl) rfl) ?_
  refine dg_nil (hK _ ?_)
  refine tc tbk 5 (.mk ?_)
  refine jnE h0 [1,2,4,8,9,10] [1,3] (fun (a:(List Int)) (k:Unit)=>[]) (fun a k=>[(4,⟨128,11,true,true,v14,[a.map int]⟩)]) ⟨fun j16 h1 h0=>?_,?_⟩
  refine tc tbk 1 (.mk ?_)
  refine lp (fun n (a:Int×(List Int))=>d_ref14_Turn_L0 a1 a2 a3 a4 x13 n a.1 a.2) ((0:Int),(([x12.a0,x12.a1,x12.a2,x12.a3,x12.a4,x12.a5,x12.a6,x12.a7,x12.a8,x12.a9,x12.a10]:List Int):List Int)) () h1 [1,2,4,8,9,10,11] [1,3,5] (fun (a:Int×(List Int)) (k:Unit)=>[(12,int a.1)]) (fun a k=>[(4,⟨128,11,true,true,v14,[a.2.map int]⟩)]) (fun _=>rfl) ⟨leA,?_⟩
  rintro n ⟨y0_1,y0_2⟩ _ hm h1
  replace h1:d_ref14_Turn_L0 a1 a2 a3 a4 x13 (n+1) y0_1 y0_2=some _:=h1
  rw [d_ref14_Turn_L0] at h1
  refine tc tbk 4 (.mk ?_)
  refine nb tbk h1 fun x17 h1=>?_
  refine tr tbk 1 (.mk ?_)
  cases x17
  replace h1:=cf h1
  refine tc tbk 2 (.mk ?_)
  exact lfE h1 () leA
  replace h1:=ct h1
  refine tc tbk 5 (.mk ?_)
  refine c_drawE [0,1,3,0,8,24,63,127,255,255,511,2047] (rl [(1,[4]),(2,[4]),(4,[5]),(5,[5])] []) (fun i=>[4,5]) (fun i=>true) [0,1,2,3,4,5,6,7,8,9,10,11] mixed (by kernel_rfl) ?_;intro K hK
  refine eM ?_
  obtain ⟨p18,h1⟩:=asrt_e h1
  obtain ⟨x19,e19,h1⟩:=bind_e h1
  refine de_pure rfl rfl rfl rfl (fun H hH=>yv_ixAR rfl Tryz.underlying128 sh3 rfl rfl ((hH _ (by decide)).trans rfl) rfl rfl p18) ?_
  refine de_pure rfl rfl rfl rfl (fun H hH=>yv_ldAR rfl sh3 rfl ((hH _ (by decide)).trans rfl) rfl rfl e19) ?_
  refine eM ?_
  obtain ⟨p20,h1⟩:=asrt_e h1
  obtain ⟨x21,e21,h1⟩:=bind_e h1
  refine de_pure rfl rfl rfl rfl (fun H hH=>yv_ixAR rfl Tryz.underlying128 sh3 rfl rfl ((hH _ (by decide)).trans rfl) rfl rfl p20) ?_
  refine de_pure rfl rfl rfl rfl (fun H hH=>yv_ldAR rfl sh3 rfl ((hH _ (by decide)).trans rfl) rfl rfl e21) ?_
  obtain ⟨x22,e22,h1⟩:=bind_e h1
  refine eP (fun H hH=>yv_callP rfl rfl (.cons rfl (.cons rfl .nil)) cal188 (CvL.refl _) (d_ref01_Add_c e22)) ?_
  refine eM ?_
  iterate 2 refine eX ?_
  iterate 2 refine eA ?_
  refine de_nil (hK _ ?_)
  refine tc tbk 4 (.mk ?_)
  refine nb tbk h1 fun x23 h1=>?_
  refine tr tbk 1 (.mk ?_)
  cases x23
  replace h1:=cf h1
  refine tc tbk 5 (.mk ?_)
  obtain ⟨p24,h1⟩:=asrt_e h1
  refine sY (yv_ixAR rfl Tryz.underlying128 sh3 rfl rfl rfl rfl rfl p24) ?_
  obtain ⟨x25,e25,h1⟩:=bnd_e h1
  refine rsstore rfl rfl (yl_ob (ob':=(⟨128,11,true,true,v14,[x25.map int]⟩:AObj)) (yl_stAR rfl sh3 rfl rfl rfl rfl rfl rfl e19 e25) rfl) ?_
  refine tr tbk 4 (.mk ?_)
  refine ni tbk h1 fun x26 h1=>?_
  refine tr tbk 2 (.mk ?_)
  exact bk (x26,x25) () h1 leA
  replace h1:=ct h1
  refine tc tbk 5 (.mk ?_)
  refine sS ⟨31,10,true,true,v7,[(GState.av a1)]⟩ sh31 ?_
  refine tr tbk 2 (.mk ?_)
  obtain ⟨c27,hX,hj⟩:=esc_e h1;subst hj;replace h0:=hX.trans (sel_r h0)
  obtain rfl:=nxt_e h0
  refine wR hret (rC sh31 (rT .nil)) ?_
  exact .refl _
  rintro y1_1 _ h0
  refine tc tbk 4 (.mk ?_)
  obtain ⟨j28,h1,h0⟩:=bind_e h0
  refine rse (Out:=fun y H'=>(∃ (a:Int×Bool×(List GEnt)×(List GPool)×(List Int)×(List GRoll)×(List Int)×(List Int)) (k:Nat×Nat×Nat×Nat×Nat×Nat),a=j28∧y=.agg [int a1.Master.Entities,int a1.Master.Periods,lst 1 fI a1.Master.Weights,lst 1 (fL 1 fI) a1.Master.Methods,lst 1 (fL 1 fI) a1.Master.Costs,.sl 8 k.1 0 a1.Ents.length,lst 8 GReceipt.av a1.Receipts,lst 9 GSale.av a1.Sales,lst 6 GTransit.av a1.Transits,int a1.Done]∧H'=hk [(1,⟨31,10,true,true,v5,[(GState.av a1)]⟩),(3,⟨31,10,true,true,v7,[[int 0,int 0,.sc (.slice none 0 0),.sc (.slice none 0 0),.sc (.slice none 0 0),.sc (.slice none 0 0),.sc (.slice none 0 0),.sc (.slice none 0 0),.sc (.slice none 0 0),int 0]]⟩),(4,⟨128,11,true,true,v14,[y1_1.map int]⟩),(8,⟨39,8,true,true,k.1,(a1.Ents.map GEnt.av).set (Int.toNat a2) [int a.1,boo a.2.1,.sl 9 k.2.1 0 a.2.2.2.1.length,.sl 10 k.2.2.1 0 a.2.2.2.2.1.length,.sl 11 k.2.2.2.1 0 a.2.2.2.2.2.1.length,.sl 12 k.2.2.2.2.1 0 a.2.2.2.2.2.2.1.length,.sl 13 k.2.2.2.2.2 0 a.2.2.2.2.2.2.2.length,lst 8 GEnt.av a.2.2.1]⟩),(9,⟨57,4,true,true,k.2.1,a.2.2.2.1.map GPool.av⟩),(10,⟨3,1,true,true,k.2.2.1,a.2.2.2.2.1.map fI⟩),(11,⟨83,11,true,true,k.2.2.2.1,a.2.2.2.2.2.1.map GRoll.av⟩),(12,⟨3,1,true,true,k.2.2.2.2.1,a.2.2.2.2.2.2.1.map fI⟩),(13,⟨3,1,true,true,k.2.2.2.2.2,a.2.2.2.2.2.2.2.map fI⟩)])) rfl rfl rfl (yl_call rfl rfl (.cons rfl (.cons rfl .nil)) cal10 ?_) ?_
  refine pcw (c:=_) Tryz.func10 rfl rfl ?_;intro Q hret hnorm
  refine tc tbk 2 (.mk ?_)
  refine sB 6 fun v29=>?_
  refine sA 7 z31 fun v30=>?_
  refine tr tbk 5 (.mk ?_)
  obtain ⟨p31,h1⟩:=asrt_e h1
  refine rse rfl rfl rfl (yl_app0T (g:=GEnt.av) (m:=a1.Ents) 8 rfl Tryz.underlying26 bz39 by39 rfl rfl rfl rfl (.refl _) GEnt.one p31) ?_;rintro _ _ ⟨v32,rfl,rfl⟩
  refine tr tbk 1 (.mk ?_)
  refine sS ⟨31,10,true,true,v29,[[int a1.Master.Entities,int a1.Master.Periods,lst 1 fI a1.Master.Weights,lst 1 (fL 1 fI) a1.Master.Methods,lst 1 (fL 1 fI) a1.Master.Costs,.sl 8 v32 0 a1.Ents.length,lst 8 GReceipt.av a1.Receipts,lst 9 GSale.av a1.Sales,lst 6 GTransit.av a1.Transits,int a1.Done]]⟩ sh26 ?_
  refine tr tbk 6 (.mk ?_)
  obtain ⟨x33,e33,h1⟩:=bind_e h1
  refine sY (yv_ixO rfl Tryz.underlying26 sh39 rfl rfl rfl rfl rfl (Eq.symm rfl) (List.length_map _) e33) ?_
  refine tr tbk 3 (.mk ?_)
  refine c_drawE [0,0,0,0,8,24,56,120,0,256,768,1792,4088,0,8192,24576,57344,131064,262137,524281,1048569,2097147,4194299,8388603,16777215,33554431,67108863] (rl [(4,[8]),(5,[8]),(6,[8]),(9,[8]),(10,[8]),(11,[8]),(14,[8]),(15,[8]),(16,[8]),(18,[8]),(19,[8]),(21,[8]),(22,[8]),(24,[8]),(25,[8])] []) (rl [(17,[]),(20,[]),(23,[]),(26,[])] [8]) (rl [(7,false),(12,false),(17,false),(20,false),(23,false),(26,false)] true) [0,1,2,3,4,5,6,8,9,10,11,13,14,15,16,7,12,17,18,19,20,21,22,23,24,25,26] mixed (by kernel_rfl) ?_;intro K hK
  iterate 4 refine eM ?_
  refine eN (hr:=ix_get' e33 (GEnt.av_eq _)) ?_
  refine eF fo39_2 (hr:=ix_get' e33 (GEnt.av_eq _)) ?_
  refine eL sh36 (hr:=ix_get' e33 (GEnt.av_eq _)) ?_
  refine eM ?_
  refine eN (hr:=ix_get' e33 (GEnt.av_eq _)) ?_
  refine eF fo39_3 (hr:=ix_get' e33 (GEnt.av_eq _)) ?_
  refine eL sh22 (hr:=ix_get' e33 (GEnt.av_eq _)) ?_
  refine eM ?_
  refine eN (hr:=ix_get' e33 (GEnt.av_eq _)) ?_
  refine eF fo39_4 (hr:=ix_get' e33 (GEnt.av_eq _)) ?_
  refine eL sh37 (hr:=ix_get' e33 (GEnt.av_eq _)) ?_
  obtain ⟨p34,h1⟩:=asrt_e h1
  refine de_eff rfl rfl rfl rfl (yl_app0T (g:=GPool.av) (m:=x33.Pools) 9 rfl Tryz.underlying36 bz57 by57 rfl rfl rfl rfl (.refl _) (fun _=>rfl) p34) (by rintro _ _ ⟨v35,rfl,rfl⟩;exact ⟨rfl,trivial⟩) ?_;rintro _ _ ⟨v35,rfl,rfl⟩
  obtain ⟨p36,h1⟩:=asrt_e h1
  refine de_eff rfl rfl rfl rfl (yl_app0T (g:=fI) (m:=x33.Bal) 10 rfl Tryz.underlying22 bz3 by3 rfl rfl rfl rfl (.refl _) (fun _=>rfl) p36) (by rintro _ _ ⟨v37,rfl,rfl⟩;exact ⟨rfl,trivial⟩) ?_;rintro _ _ ⟨v37,rfl,rfl⟩
  obtain ⟨p38,h1⟩:=asrt_e h1
  refine de_eff rfl rfl rfl rfl (yl_app0T (g:=GRoll.av) (m:=x33.Rolls) 11 rfl Tryz.underlying37 bz83 by83 rfl rfl rfl rfl (.refl _) (fun _=>rfl) p38) (by rintro _ _ ⟨v39,rfl,rfl⟩;exact trivial) ?_;rintro _ _ ⟨v39,rfl,rfl⟩
  refine eN (hr:=ix_get' e33 (GEnt.av_eq _)) ?_
  refine eF fo39_2 (hr:=ix_get' e33 (GEnt.av_eq _)) ?_
  refine de_eff0 rfl rfl rfl rfl (Yield.weak (yl_ob (ob':=(⟨39,8,true,true,v32,(a1.Ents.map GEnt.av).set (Int.toNat a2) [int x33.Now,boo x33.Closed,.sl 9 v35 0 x33.Pools.length,lst 1 fI x33.Bal,lst 11 GRoll.av x33.Rolls,lst 1 fI x33.Prices,lst 1 fI x33.Down,lst 8 GEnt.av x33.Ahead]⟩:AObj)) (yl_store rfl sh36 rfl rfl rfl rfl rfl (ix_get' e33 (GEnt.av_eq _)) rfl rfl rfl) (ob_eq rfl)) (fun _ h=>h) (fun _ _=>trivial)) (by rintro _ _ ⟨rfl,rfl⟩;exact trivial) ?_;rintro _ _ ⟨rfl,rfl⟩
  refine eN (hr:=set_get e33) ?_
  refine eF fo39_3 (hr:=set_get e33) ?_
  refine de_eff0 rfl rfl rfl rfl (Yield.weak (yl_ob (ob':=(⟨39,8,true,true,v32,(a1.Ents.map GEnt.av).set (Int.toNat a2) [int x33.Now,boo x33.Closed,.sl 9 v35 0 x33.Pools.length,.sl 10 v37 0 x33.Bal.length,lst 11 GRoll.av x33.Rolls,lst 1 fI x33.Prices,lst 1 fI x33.Down,lst 8 GEnt.av x33.Ahead]⟩:AObj)) (yl_store rfl sh22 rfl rfl rfl rfl rfl (set_get e33) rfl rfl rfl) (ob_eq set_setV)) (fun _ h=>h) (fun _ _=>trivial)) (by rintro _ _ ⟨rfl,rfl⟩;exact trivial) ?_;rintro _ _ ⟨rfl,rfl⟩
  refine eN (hr:=set_get e33) ?_
  refine eF fo39_4 (hr:=set_get e33) ?_
  refine de_eff0 rfl rfl rfl rfl (Yield.weak (yl_ob (ob':=(⟨39,8,true,true,v32,(a1.Ents.map GEnt.av).set (Int.toNat a2) [int x33.Now,boo x33.Closed,.sl 9 v35 0 x33.Pools.length,.sl 10 v37 0 x33.Bal.length,.sl 11 v39 0 x33.Rolls.length,lst 1 fI x33.Prices,lst 1 fI x33.Down,lst 8 GEnt.av x33.Ahead]⟩:AObj)) (yl_store rfl sh37 rfl rfl rfl rfl rfl (set_get e33) rfl rfl rfl) (ob_eq set_setV)) (fun _ h=>h) (fun _ _=>trivial)) (by rintro _ _ ⟨rfl,rfl⟩;exact trivial) ?_;rintro _ _ ⟨rfl,rfl⟩
  refine de_nil (hK _ ?_)
  refine tc tbk 1 (.mk ?_)
  refine c_drawE [0,0,0,4,12,28,60,0,128,384,896,2044,4093,8189,16381,32767,65535,131071] (rl [(3,[8]),(4,[8]),(5,[8]),(8,[8]),(9,[8]),(10,[8]),(12,[8]),(13,[8]),(15,[8]),(16,[8])] []) (rl [(11,[]),(14,[]),(17,[])] [8]) (rl [(6,false),(11,false),(14,false),(17,false)] true) [0,1,2,3,4,5,7,8,9,10,6,11,12,13,14,15,16,17] mixed (by kernel_rfl) ?_;intro K hK
  iterate 3 refine eM ?_
  refine eN (hr:=set_get e33) ?_
  refine eF fo39_5 (hr:=set_get e33) ?_
  refine eL sh22 (hr:=set_get e33) ?_
  refine eM ?_
  refine eN (hr:=set_get e33) ?_
  refine eF fo39_6 (hr:=set_get e33) ?_
  refine eL sh22 (hr:=set_get e33) ?_
  obtain ⟨p40,h1⟩:=asrt_e h1
  refine de_eff rfl rfl rfl rfl (yl_app0T (g:=fI) (m:=x33.Prices) 12 rfl Tryz.underlying22 bz3 by3 rfl rfl rfl rfl (.refl _) (fun _=>rfl) p40) (by rintro _ _ ⟨v41,rfl,rfl⟩;exact ⟨rfl,trivial⟩) ?_;rintro _ _ ⟨v41,rfl,rfl⟩
  obtain ⟨p42,h1⟩:=asrt_e h1
  refine de_eff rfl rfl rfl rfl (yl_app0T (g:=fI) (m:=x33.Down) 13 rfl Tryz.underlying22 bz3 by3 rfl rfl rfl rfl (.refl _) (fun _=>rfl) p42) (by rintro _ _ ⟨v43,rfl,rfl⟩;exact trivial) ?_;rintro _ _ ⟨v43,rfl,rfl⟩
  refine eN (hr:=set_get e33) ?_
  refine eF fo39_5 (hr:=set_get e33) ?_
  refine de_eff0 rfl rfl rfl rfl (Yield.weak (yl_ob (ob':=(⟨39,8,true,true,v32,(a1.Ents.map GEnt.av).set (Int.toNat a2) [int x33.Now,boo x33.Closed,.sl 9 v35 0 x33.Pools.length,.sl 10 v37 0 x33.Bal.length,.sl 11 v39 0 x33.Rolls.length,.sl 12 v41 0 x33.Prices.length,lst 1 fI x33.Down,lst 8 GEnt.av x33.Ahead]⟩:AObj)) (yl_store rfl sh22 rfl rfl rfl rfl rfl (set_get e33) rfl rfl rfl) (ob_eq set_setV)) (fun _ h=>h) (fun _ _=>trivial)) (by rintro _ _ ⟨rfl,rfl⟩;exact trivial) ?_;rintro _ _ ⟨rfl,rfl⟩
  refine eN (hr:=set_get e33) ?_
  refine eF fo39_6 (hr:=set_get e33) ?_
  refine de_eff0 rfl rfl rfl rfl (Yield.weak (yl_ob (ob':=(⟨39,8,true,true,v32,(a1.Ents.map GEnt.av).set (Int.toNat a2) [int x33.Now,boo x33.Closed,.sl 9 v35 0 x33.Pools.length,.sl 10 v37 0 x33.Bal.length,.sl 11 v39 0 x33.Rolls.length,.sl 12 v41 0 x33.Prices.length,.sl 13 v43 0 x33.Down.length,lst 8 GEnt.av x33.Ahead]⟩:AObj)) (yl_store rfl sh22 rfl rfl rfl rfl rfl (set_get e33) rfl rfl rfl) (ob_eq set_setV)) (fun _ h=>h) (fun _ _=>trivial)) (by rintro _ _ ⟨rfl,rfl⟩;exact trivial) ?_;rintro _ _ ⟨rfl,rfl⟩
  refine de_nil (hK _ ?_)
  refine tc tbk 3 (.mk ?_)
  refine sS ⟨31,10,true,true,v30,[[int a1.Master.Entities,int a1.Master.Periods,lst 1 fI a1.Master.Weights,lst 1 (fL 1 fI) a1.Master.Methods,lst 1 (fL 1 fI) a1.Master.Costs,.sl 8 v32 0 a1.Ents.length,lst 8 GReceipt.av a1.Receipts,lst 9 GSale.av a1.Sales,lst 6 GTransit.av a1.Transits,int a1.Done]]⟩ sh31 ?_
  refine tr tbk 1 (.mk ?_)
  obtain rfl:=nxt_e h1
  refine w_ret (hret _ _ (hk [(1,⟨31,10,true,true,v5,[(GState.av a1)]⟩),(3,⟨31,10,true,true,v7,[[int 0,int 0,.sc (.slice none 0 0),.sc (.slice none 0 0),.sc (.slice none 0 0),.sc (.slice none 0 0),.sc (.slice none 0 0),.sc (.slice none 0 0),.sc (.slice none 0 0),int 0]]⟩),(4,⟨128,11,true,true,v14,[y1_1.map int]⟩),(8,⟨39,8,true,true,v32,(a1.Ents.map GEnt.av).set (Int.toNat a2) [int x33.Now,boo x33.Closed,.sl 9 v35 0 x33.Pools.length,.sl 10 v37 0 x33.Bal.length,.sl 11 v39 0 x33.Rolls.length,.sl 12 v41 0 x33.Prices.length,.sl 13 v43 0 x33.Down.length,lst 8 GEnt.av x33.Ahead]⟩),(9,⟨57,4,true,true,v35,x33.Pools.map GPool.av⟩),(10,⟨3,1,true,true,v37,x33.Bal.map fI⟩),(11,⟨83,11,true,true,v39,x33.Rolls.map GRoll.av⟩),(12,⟨3,1,true,true,v41,x33.Prices.map fI⟩),(13,⟨3,1,true,true,v43,x33.Down.map fI⟩)]) (.cell rfl (.pt rfl rfl rfl) sh31 rfl .nil) (HK.le ⟨rfl,rfl,rfl,rfl,rfl,rfl,rfl,rfl,rfl,trivial⟩) ?_)
  exact ⟨(x33.Now,x33.Closed,x33.Ahead,x33.Pools,x33.Bal,x33.Rolls,x33.Prices,x33.Down),(v32,v35,v37,v39,v41,v43),rfl,rfl,rfl⟩
  rintro y _ ⟨⟨y3_2,y3_3,y3_9,y3_10,y3_11,y3_12,y3_13,y3_14⟩,⟨w3_1,w3_4,w3_5,w3_6,w3_7,w3_8⟩,rfl,hc,rfl⟩
  replace h0:=p2_e h0
  replace h0:=p2_e h0
  replace h0:=p2_e h0
  replace h0:=p2_e h0
  replace h0:=p2_e h0
  replace h0:=p2_e h0
  replace h0:=p2_e h0
  subst hc
  obtain ⟨x44,e44,h0⟩:=bind_e h0
  refine sA 14 z31 fun v45=>?_
  refine sS ⟨31,10,true,true,v45,[[int a1.Master.Entities,int a1.Master.Periods,lst 1 fI a1.Master.Weights,lst 1 (fL 1 fI) a1.Master.Methods,lst 1 (fL 1 fI) a1.Master.Costs,.sl 8 w3_1 0 a1.Ents.length,lst 8 GReceipt.av a1.Receipts,lst 9 GSale.av a1.Sales,lst 6 GTransit.av a1.Transits,int a1.Done]]⟩ sh31 ?_
  refine tr tbk 2 (.mk ?_)
  refine c_drawE [0,1,0,7,15,31,0,0,128,511,1023] (rl [(0,[14]),(1,[14]),(3,[8]),(4,[8]),(5,[8]),(7,[4]),(9,[11])] []) (rl [(10,[])] [4,8,11,14]) (rl [(10,false)] true) [0,1,2,3,4,5,6,7,8,9,10] mixed (by kernel_rfl) ?_;intro K hK
  refine eF fo31_1 ?_
  refine eL sh26 ?_
  refine eM ?_
  refine de_pure rfl rfl rfl rfl (fun H hH=>yv_ixO rfl Tryz.underlying26 sh39 rfl rfl ((hH _ (by decide)).trans rfl) rfl rfl (Eq.symm rfl) len_ov e44) ?_
  refine eF fo39_4 (hr:=set_get e44) ?_
  refine eL sh37 (hr:=set_get e44) ?_
  refine eM ?_
  obtain ⟨p46,h0⟩:=asrt_e h0
  refine de_pure rfl rfl rfl rfl (fun H hH=>yv_ldARw rfl sh128 rfl ((hH _ (by decide)).trans rfl) rfl rfl p46) ?_
  obtain ⟨x47,e47,h0⟩:=bind_e h0
  refine eP (fun H hH=>yv_callP rfl rfl (.cons rfl .nil) cal189 (CvL.refl _) (d_ref14_Roll_c e47)) ?_
  obtain ⟨x48,e48,h0⟩:=bind_e h0
  refine de_pure rfl rfl rfl rfl (fun H hH=>yv_ixO rfl Tryz.underlying37 sh83 rfl rfl ((hH _ (by decide)).trans rfl) rfl rfl (Eq.symm rfl) (List.length_map _) e48) ?_
  obtain ⟨x49,e49,h0⟩:=bnd_e h0
  have fx49:=ix_set e48 e49;have lx49:=len_setV e49 (rfl:y3_12.length=y3_12.length)
  refine de_eff0 rfl rfl rfl rfl (Yield.weak (yl_ob (ob':=(⟨83,11,true,true,w3_6,x49.map GRoll.av⟩:AObj)) (yl_store rfl sh83 rfl rfl rfl rfl rfl (ix_get e48) rfl rfl rfl) (ob_eq (map_setV e49))) (fun _ h=>h) (fun _ _=>trivial)) (by rintro _ _ ⟨rfl,rfl⟩;exact trivial) ?_;rintro _ _ ⟨rfl,rfl⟩
  refine de_nil (hK _ ?_)
  refine tc tbk 3 (.mk ?_)
  refine sS ⟨31,10,true,true,v7,[[int a1.Master.Entities,int a1.Master.Periods,lst 1 fI a1.Master.Weights,lst 1 (fL 1 fI) a1.Master.Methods,lst 1 (fL 1 fI) a1.Master.Costs,.sl 8 w3_1 0 a1.Ents.length,lst 8 GReceipt.av a1.Receipts,lst 9 GSale.av a1.Sales,lst 6 GTransit.av a1.Transits,int a1.Done]]⟩ sh31 ?_
  refine tr tbk 2 (.mk ?_)
  obtain rfl:=nxt_e h0
  refine wR hret (rC sh31 (rT .nil)) ?_
  exact CvL.tup (.cons (CvL.agg (.cons (.refl _) (.cons (.refl _) (.cons (.refl _) (.cons (.refl _) (.cons (.refl _) (.cons (cv_ov rfl rfl rfl rfl rfl (Eq.symm rfl) e44 (cvl_to (.cons (.refl _) (.cons (.refl _) (.cons (cv_lst rfl rfl rfl rfl rfl (Eq.symm rfl)) (.cons (cv_lst rfl rfl rfl rfl rfl (Eq.symm rfl)) (.cons (cv_lst rfl rfl rfl rfl rfl (Eq.symm lx49)) (.cons (cv_lst rfl rfl rfl rfl rfl (Eq.symm rfl)) (.cons (cv_lst rfl rfl rfl rfl rfl (Eq.symm rfl)) (.cons (.refl _) .nil)))))))) (GEnt.av_eq _))) (.cons (.refl _) (.cons (.refl _) (.cons (.refl _) (.cons (.refl _) .nil))))))))))) (.cons (.refl _) .nil))
  replace h0:=ct h0
  refine tc tbk 4 (.mk ?_)
  refine sS ⟨31,10,true,true,v7,[(GState.av a1)]⟩ sh31 ?_
  refine tr tbk 2 (.mk ?_)
  obtain rfl:=nxt_e h0
  refine wR hret (rC sh31 (rT .nil)) ?_
  exact .refl _
noncomputable def t_ref23_waits (a1:GState) (a2:GSale) (a3:Int) (a4:Int) (a5:Int):WT Tryz.prog (.b (Bool)) :=
 .al 1<|
 .al 2<|
 .jn 0 [] [] [] (fun _ (a:Bool)=>[(10,boo a)]) (fun _ _=>[]) (.dr [(0,[2]),(1,[2]),(3,[2]),(4,[2]),(9,[2]),(10,[2]),(15,[2]),(16,[2]),(21,[2]),(22,[2]),(23,[1]),(24,[1])] [] [1,2] [] [0,1,2,3,4,5,6,7,8,9,10,11,12,13,14,15,16,17,18,19,20,21,22,23,24,25,26,27,28,29,30,31] (.bB 13 (a2.Waits) fun x8 =>
 .ifs [13] x8 (.bB 17 (decide (a2.Entity=a3)) fun x9 =>
 .ifs [17] x9 (.bB 23 (decide (a2.Item=a4)) fun x10 =>
 .ifs [23] x10 (.bB 29 (decide (a2.Loc=a5)) fun x11 =>
 .ifs [29] x11 (.ixE 37 GEnt.av gE GEnt.av_eq a1.Ents a3 fun x12 =>
 .bB 40 (decide (a2.Period=x12.Now)) fun x13 =>
 .ret x13) (.ret (false:Bool))) (.ret (false:Bool))) (.ret (false:Bool))) (.ret (false:Bool))))
  (fun y0_1 =>
 .ret (y0_1))
def d_ref23_waits (a1:GState) (a2:GSale) (a3:Int) (a4:Int) (a5:Int):Option (Bool):=(t_ref23_waits a1 a2 a3 a4 a5).run
theorem d_ref23_waits_c {a1:GState} {a2:GSale} {a3:Int} {a4:Int} {a5:Int} {r:Bool} (h0:d_ref23_waits a1 a2 a3 a4 a5=some r):PP Tryz.prog 190 [.agg (GState.av a1),.agg (GSale.av a2),int a3,int a4,int a5] (fun y=>y=boo r):=by
 refine wt_pp mixed tbk (fun (r:Bool)=>boo r) h0 Tryz.func190 (fun r=>pvB r) 100000 ?_
 intro v6
 intro v7
 conv=>whnf
 refine .mk ?_ ?_
 refine .mk ?_
 conv=>whnf
 refine .mk fun x8=>?_
 conv=>whnf
 refine .mk ?_ ?_
 conv=>whnf
 refine .mk fun x9=>?_
 conv=>whnf
 refine .mk ?_ ?_
 conv=>whnf
 refine .mk fun x10=>?_
 conv=>whnf
 refine .mk ?_ ?_
 conv=>whnf
 refine .mk fun x11=>?_
 conv=>whnf
 refine .mk ?_ ?_
 conv=>whnf
 refine .mk fun x12 e12=>?_
 conv=>whnf
 refine .mk fun x13=>?_
 exact .mk
 conv=>whnf
 exact .mk
 exact .mk
 conv=>whnf
 exact .mk
 exact .mk
 intro _ _
 exact .mk
noncomputable def t_ref23_signed (n:Nat) (a1:Int) (a2:List Int):WT Tryz.prog (.b ((List Int)×Int)) :=
 .bB 10 (decide (a1≥0)) fun x3 =>
 .ifs [10] x3 (.inl 13 cal205 Tryz.func205 [] [3] (B:=(Int)⊕((List Int))) (fun u90=>Sum.elim (fun a=>.tup [.sc (.slice none 0 0),int a]) (fun a=>.tup [.sl 3 (u90 3) 0 a.length,int 0])) (fun u90=>Sum.elim (fun a=>[]) (fun a=>[.nw 3 3 1 (a.map fI)])) (.jnE 3 [0,1,4,5] [] [] (fun _ (a:Bool)=>[(6,boo a)]) (fun _ _=>[]) (.lp [0,1,4,5] [] [] (fun _ (a:Bool×Int)=>[(6,boo a.1),(7,int a.2)]) (fun _ _=>[]) n ((false:Bool),(0:Int)) (pw fun y0_1 y0_2 =>
 .ln 21 fI a2<|
 .bB 22 (decide (y0_2<(a2.length:Int))) fun x4 =>
 .ifs [22] x4 (.jn 2 [0,1,4,5,6,7] [] [] (fun _ (a:Bool)=>[(36,boo a)]) (fun _ _=>[]) (.ix 27 fI a2 y0_2 fun x5 =>
 .bB 29 (decide (x5<0)) fun x6 =>
 .ifs [29] x6 (.ret (true:Bool)) (.ix 33 fI a2 y0_2 fun x7 =>
 .bB 35 (decide (x7>288230376151711744)) fun x8 =>
 .ret x8))
  (fun y1_1 =>
 .ifs [36] y1_1 (.esc (.esc (.ret (.inl (1:Int))))) (.jn 1 [0,1,4,5,7] [] [] (fun _ (a:Bool)=>[(6,boo a)]) (fun _ _=>[]) (.ifs [6] y0_1 (.ret (true:Bool)) (.ix 41 fI a2 y0_2 fun x9 =>
 .bB 43 (decide (x9>0)) fun x10 =>
 .ret x10))
  (fun y2_1 =>
 .bI 24 (w64 (y0_2+1)) fun x11 =>
 .brk (y2_1,x11))))) (.esc (.brk y0_1))))
  (fun y3_1 =>
 .jn 0 [0,1,4,5] [] [] (fun _ (a:Bool)=>[(54,boo a)]) (fun _ _=>[]) (.bB 46 (decide (a1<0)) fun x12 =>
 .ifs [46] x12 (.ret (true:Bool)) (.bB 49 (decide (a1>288230376151711744)) fun x13 =>
 .ifs [49] x13 (.ret (true:Bool)) (.bB 53 (!y3_1) fun x14 =>
 .ret x14)))
  (fun y4_1 =>
 .ifs [54] y4_1 (.ret (.inl (1:Int))) (.cl 57 (d_ref01_Sum n a2) cal194 d_ref01_Sum_c fun x15 =>
 .bB 61 (decide (x15.2≠0)) fun x16 =>
 .ifs [61] x16 (.ret (.inl (x15.2:Int))) (.jn 4 [4,5] [] [3,4] (fun u97 (a:Int×(List Int)×(List Int))=>[(10,.sl 3 (u97 3) 0 a.2.1.length),(11,.sl 4 (u97 4) 0 a.2.2.length),(12,int a.1)]) (fun _ a=>[.nw 3 3 1 (a.2.1.map fI),.nw 4 3 1 (a.2.2.map fI)]) (.no 10 3 3 1<|
 .no 11 4 3 1<|
 .lp [0,1,4,5,8] [] [3,4] (fun u98 (a:Int×Int×(List Int)×(List Int))=>[(10,.sl 3 (u98 3) 0 a.2.2.1.length),(11,.sl 4 (u98 4) 0 a.2.2.2.length),(12,int a.1),(13,int a.2.1)]) (fun _ a=>[.nw 3 3 1 (a.2.2.1.map fI),.nw 4 3 1 (a.2.2.2.map fI)]) n ((a1:Int),(0:Int),(([]:List Int):List Int),(([]:List Int):List Int)) (pw fun y5_3 q0=>(pw fun y5_4 q1=>(pw fun y5_5 y5_6 =>
 .ln 66 fI a2<|
 .bB 67 (decide (y5_4<(a2.length:Int))) fun x19 =>
 .ifs [67] x19 (.ix 74 fI a2 y5_4 fun x20 =>
 .cl 77 (d_ref01_MulDiv n a1 x20 x15.1) cal234 d_ref01_MulDiv_c fun x21 =>
 .gv 83<|
 .bl (y5_5++([x21.1]:List Int):List Int) fun x22 =>
 .as (x22.length≤68719476736) inferInstance<|
 .ge 84<|
 .gv 87<|
 .bl (y5_6++([x21.2.1]:List Int):List Int) fun x25 =>
 .as (x25.length≤68719476736) inferInstance<|
 .ge 88<|
 .bI 91 (w64 (y5_3-x21.1)) fun x28 =>
 .bI 69 (w64 (y5_4+1)) fun x29 =>
 .brk (x28,x29,x22,x25)) (.esc (.ret (y5_3,y5_5,y5_6)))) q1) q0))
  (pw fun y6_3 q0=>(pw fun y6_4 y6_5 =>
 .jn 0 [4,5] [] [] (fun u118 (a:(List Int))=>[(10,.sl 3 (u118 3) 0 a.length)]) (fun _ a=>[.kp 3 (a.map fI)]) (.lp [4,5] [] [] (fun u121 (a:Int×(List Int)×(List Int))=>[(10,.sl 3 (u121 3) 0 a.2.1.length),(11,.sl 4 (u121 4) 0 a.2.2.length),(12,int a.1)]) (fun _ a=>[.kp 3 (a.2.1.map fI),.kp 4 (a.2.2.map fI)]) n (y6_3,y6_4,y6_5) (pw fun y7_1 q0=>(pw fun y7_2 y7_3 =>
 .bB 93 (decide (y7_1>0)) fun x30 =>
 .ifs [93] x30 (.jn 1 [4,5,12] [] [] (fun u127 (a:(List Int)×(List Int))=>[(10,.sl 3 (u127 3) 0 a.1.length),(11,.sl 4 (u127 4) 0 a.2.length)]) (fun _ a=>[.kp 3 (a.1.map fI),.kp 4 (a.2.map fI)]) (.jn 3 [4,5,10,11,12] [3,4] [] (fun _ (a:Int)=>[(17,int a)]) (fun _ _=>[]) (.lp [4,5,10,11,12] [3,4] [] (fun _ (a:Int×Int)=>[(17,int a.1),(18,int a.2)]) (fun _ _=>[]) n ((0:Int),(1:Int)) (pw fun y8_1 y8_2 =>
 .bB 99 (decide (y8_2<(y7_3.length:Int))) fun x31 =>
 .ifs [99] x31 (.jn 1 [4,5,10,11,12,18] [3,4] [] (fun _ (a:Int)=>[(17,int a)]) (fun _ _=>[]) (.dr [(2,[4]),(3,[4]),(6,[4]),(7,[4])] [] [4] [] [0,1,2,3,4,5,6,7,8] (.bo (ix y7_3 y8_2) fun x32 =>
 .gv 104<|
 .gv 105<|
 .bo (ix y7_3 y8_1) fun x33 =>
 .gv 108<|
 .gv 109<|
 .bB 110 (decide (x32>x33)) fun x34 =>
 .ifs [110] x34 (.ret y8_2) (.ret y8_1)))
  (fun y9_1 =>
 .bI 101 (w64 (y8_2+1)) fun x35 =>
 .brk (y9_1,x35))) (.esc (.ret y8_1))))
  (fun y10_1 =>
 .bo (ix y7_2 y10_1) fun x36 =>
 .gv 114<|
 .gv 115<|
 .bI 116 (w64 (x36+1)) fun x37 =>
 .gv 117<|
 .bl (y7_2.set (Int.toNat y10_1) x37:List Int) fun x38 =>
 .ge 1028006<|
 .bo (ix y7_3 y10_1) fun x39 =>
 .gv 120<|
 .bl (y7_3.set (Int.toNat y10_1) ((-1):Int):List Int) fun x40 =>
 .ge 1029003<|
 .ret (x38,x40)))
  (pw fun y11_1 y11_2 =>
 .bI 95 (w64 (y7_1-1)) fun x41 =>
 .brk (x41,y11_1,y11_2))) (.esc (.ret y7_2))) q0))
  (fun y12_1 =>
 .ret (.inr y12_1))) q0)))))) (Sum.elim (fun y13_1 =>
 .ret (([]:List Int),y13_1)) (fun y14_2 =>
 .ret (y14_2,(0:Int))))) (.bI 18 (w64 (0-a1)) fun x42 =>
 .inl 20 cal205 Tryz.func205 [] [7] (B:=(Int)⊕((List Int))) (fun u181=>Sum.elim (fun a=>.tup [.sc (.slice none 0 0),int a]) (fun a=>.tup [.sl 7 (u181 7) 0 a.length,int 0])) (fun u181=>Sum.elim (fun a=>[]) (fun a=>[.nw 7 3 1 (a.map fI)])) (.jnE 3 [0,1,4,5] [] [] (fun _ (a:Bool)=>[(6,boo a)]) (fun _ _=>[]) (.lp [0,1,4,5] [] [] (fun _ (a:Bool×Int)=>[(6,boo a.1),(7,int a.2)]) (fun _ _=>[]) n ((false:Bool),(0:Int)) (pw fun y15_1 y15_2 =>
 .ln 21 fI a2<|
 .bB 22 (decide (y15_2<(a2.length:Int))) fun x43 =>
 .ifs [22] x43 (.jn 2 [0,1,4,5,6,7] [] [] (fun _ (a:Bool)=>[(36,boo a)]) (fun _ _=>[]) (.ix 27 fI a2 y15_2 fun x44 =>
 .bB 29 (decide (x44<0)) fun x45 =>
 .ifs [29] x45 (.ret (true:Bool)) (.ix 33 fI a2 y15_2 fun x46 =>
 .bB 35 (decide (x46>288230376151711744)) fun x47 =>
 .ret x47))
  (fun y16_1 =>
 .ifs [36] y16_1 (.esc (.esc (.ret (.inl (1:Int))))) (.jn 1 [0,1,4,5,7] [] [] (fun _ (a:Bool)=>[(6,boo a)]) (fun _ _=>[]) (.ifs [6] y15_1 (.ret (true:Bool)) (.ix 41 fI a2 y15_2 fun x48 =>
 .bB 43 (decide (x48>0)) fun x49 =>
 .ret x49))
  (fun y17_1 =>
 .bI 24 (w64 (y15_2+1)) fun x50 =>
 .brk (y17_1,x50))))) (.esc (.brk y15_1))))
  (fun y18_1 =>
 .jn 0 [0,1,4,5] [] [] (fun _ (a:Bool)=>[(54,boo a)]) (fun _ _=>[]) (.bB 46 (decide (x42<0)) fun x51 =>
 .ifs [46] x51 (.ret (true:Bool)) (.bB 49 (decide (x42>288230376151711744)) fun x52 =>
 .ifs [49] x52 (.ret (true:Bool)) (.bB 53 (!y18_1) fun x53 =>
 .ret x53)))
  (fun y19_1 =>
 .ifs [54] y19_1 (.ret (.inl (1:Int))) (.cl 57 (d_ref01_Sum n a2) cal194 d_ref01_Sum_c fun x54 =>
 .bB 61 (decide (x54.2≠0)) fun x55 =>
 .ifs [61] x55 (.ret (.inl (x54.2:Int))) (.jn 4 [4,5] [] [7,8] (fun u188 (a:Int×(List Int)×(List Int))=>[(10,.sl 7 (u188 7) 0 a.2.1.length),(11,.sl 8 (u188 8) 0 a.2.2.length),(12,int a.1)]) (fun _ a=>[.nw 7 3 1 (a.2.1.map fI),.nw 8 3 1 (a.2.2.map fI)]) (.no 10 7 3 1<|
 .no 11 8 3 1<|
 .lp [0,1,4,5,8] [] [7,8] (fun u189 (a:Int×Int×(List Int)×(List Int))=>[(10,.sl 7 (u189 7) 0 a.2.2.1.length),(11,.sl 8 (u189 8) 0 a.2.2.2.length),(12,int a.1),(13,int a.2.1)]) (fun _ a=>[.nw 7 3 1 (a.2.2.1.map fI),.nw 8 3 1 (a.2.2.2.map fI)]) n (x42,(0:Int),(([]:List Int):List Int),(([]:List Int):List Int)) (pw fun y20_3 q0=>(pw fun y20_4 q1=>(pw fun y20_5 y20_6 =>
 .ln 66 fI a2<|
 .bB 67 (decide (y20_4<(a2.length:Int))) fun x58 =>
 .ifs [67] x58 (.ix 74 fI a2 y20_4 fun x59 =>
 .cl 77 (d_ref01_MulDiv n x42 x59 x54.1) cal234 d_ref01_MulDiv_c fun x60 =>
 .gv 83<|
 .bl (y20_5++([x60.1]:List Int):List Int) fun x61 =>
 .as (x61.length≤68719476736) inferInstance<|
 .ge 84<|
 .gv 87<|
 .bl (y20_6++([x60.2.1]:List Int):List Int) fun x64 =>
 .as (x64.length≤68719476736) inferInstance<|
 .ge 88<|
 .bI 91 (w64 (y20_3-x60.1)) fun x67 =>
 .bI 69 (w64 (y20_4+1)) fun x68 =>
 .brk (x67,x68,x61,x64)) (.esc (.ret (y20_3,y20_5,y20_6)))) q1) q0))
  (pw fun y21_3 q0=>(pw fun y21_4 y21_5 =>
 .jn 0 [4,5] [] [] (fun u209 (a:(List Int))=>[(10,.sl 7 (u209 7) 0 a.length)]) (fun _ a=>[.kp 7 (a.map fI)]) (.lp [4,5] [] [] (fun u212 (a:Int×(List Int)×(List Int))=>[(10,.sl 7 (u212 7) 0 a.2.1.length),(11,.sl 8 (u212 8) 0 a.2.2.length),(12,int a.1)]) (fun _ a=>[.kp 7 (a.2.1.map fI),.kp 8 (a.2.2.map fI)]) n (y21_3,y21_4,y21_5) (pw fun y22_1 q0=>(pw fun y22_2 y22_3 =>
 .bB 93 (decide (y22_1>0)) fun x69 =>
 .ifs [93] x69 (.jn 1 [4,5,12] [] [] (fun u218 (a:(List Int)×(List Int))=>[(10,.sl 7 (u218 7) 0 a.1.length),(11,.sl 8 (u218 8) 0 a.2.length)]) (fun _ a=>[.kp 7 (a.1.map fI),.kp 8 (a.2.map fI)]) (.jn 3 [4,5,10,11,12] [7,8] [] (fun _ (a:Int)=>[(17,int a)]) (fun _ _=>[]) (.lp [4,5,10,11,12] [7,8] [] (fun _ (a:Int×Int)=>[(17,int a.1),(18,int a.2)]) (fun _ _=>[]) n ((0:Int),(1:Int)) (pw fun y23_1 y23_2 =>
 .bB 99 (decide (y23_2<(y22_3.length:Int))) fun x70 =>
 .ifs [99] x70 (.jn 1 [4,5,10,11,12,18] [7,8] [] (fun _ (a:Int)=>[(17,int a)]) (fun _ _=>[]) (.dr [(2,[8]),(3,[8]),(6,[8]),(7,[8])] [] [8] [] [0,1,2,3,4,5,6,7,8] (.bo (ix y22_3 y23_2) fun x71 =>
 .gv 104<|
 .gv 105<|
 .bo (ix y22_3 y23_1) fun x72 =>
 .gv 108<|
 .gv 109<|
 .bB 110 (decide (x71>x72)) fun x73 =>
 .ifs [110] x73 (.ret y23_2) (.ret y23_1)))
  (fun y24_1 =>
 .bI 101 (w64 (y23_2+1)) fun x74 =>
 .brk (y24_1,x74))) (.esc (.ret y23_1))))
  (fun y25_1 =>
 .bo (ix y22_2 y25_1) fun x75 =>
 .gv 114<|
 .gv 115<|
 .bI 116 (w64 (x75+1)) fun x76 =>
 .gv 117<|
 .bl (y22_2.set (Int.toNat y25_1) x76:List Int) fun x77 =>
 .ge 1028006<|
 .bo (ix y22_3 y25_1) fun x78 =>
 .gv 120<|
 .bl (y22_3.set (Int.toNat y25_1) ((-1):Int):List Int) fun x79 =>
 .ge 1029003<|
 .ret (x77,x79)))
  (pw fun y26_1 y26_2 =>
 .bI 95 (w64 (y22_1-1)) fun x80 =>
 .brk (x80,y26_1,y26_2))) (.esc (.ret y22_2))) q0))
  (fun y27_1 =>
 .ret (.inr y27_1))) q0)))))) (Sum.elim (fun y28_1 =>
 .jn 1 [4,5,6,7] [] [] (fun _ (a:Unit)=>[]) (fun _ _=>[]) (.lp [4,5,6,7,8] [] [] (fun _ (a:Unit)=>[]) (fun _ _=>[]) n () (fun _ =>
 .kB 26 false<|
 .esc (.ret ())))
  (fun _ =>
 .ret (([]:List Int),y28_1))) (fun y29_2 =>
 .jn 1 [4,5,7] [] [] (fun u232 (a:(List Int))=>[(6,.sl 7 (u232 7) 0 a.length)]) (fun _ a=>[.kp 7 (a.map fI)]) (.lp [4,5,7] [] [] (fun u233 (a:Int×(List Int))=>[(6,.sl 7 (u233 7) 0 a.2.length),(8,int a.1)]) (fun _ a=>[.kp 7 (a.2.map fI)]) n ((0:Int),y29_2) (pw fun y30_1 y30_2 =>
 .bB 26 (decide (y30_1<(y30_2.length:Int))) fun x81 =>
 .ifs [26] x81 (.bo (ix y30_2 y30_1) fun x82 =>
 .gv 33<|
 .gv 34<|
 .bI 35 (w64 (0-x82)) fun x83 =>
 .gv 36<|
 .bl (y30_2.set (Int.toNat y30_1) x83:List Int) fun x84 =>
 .ge 1007008<|
 .bI 28 (w64 (y30_1+1)) fun x85 =>
 .brk (x85,x84)) (.esc (.ret y30_2))))
  (fun y31_1 =>
 .ret (y31_1,(0:Int))))))
def d_ref23_signed (n:Nat) (a1:Int) (a2:List Int):Option ((List Int)×Int):=(t_ref23_signed n a1 a2).run
theorem d_ref23_signed_c {n:Nat} {a1:Int} {a2:List Int} {r:(List Int)×Int} (h0:d_ref23_signed n a1 a2=some r):PP Tryz.prog 191 [int a1,lst 1 fI a2] (fun y=>y=.tup [lst 1 fI r.1,int r.2]):=by
 refine wt_pp mixed tbk (fun (r:(List Int)×Int)=>.tup [lst 1 fI r.1,int r.2]) h0 Tryz.func191 (fun r=>.tup (pvl2 ((pvLs pvcI) (r.1)) (pvI (r.2)))) 100000 ?_
 conv=>whnf
 refine .mk fun x3=>?_
 conv=>whnf
 refine .mk ?_ ?_
 conv=>whnf
 refine .mk ?_ ?_
 conv=>whnf
 refine .mk ?_ ?_
 refine .mk ?_
 intro _ _
 refine .mk ?_
 conv=>whnf
 refine .mk fun x4=>?_
 conv=>whnf
 refine .mk ?_ ?_
 conv=>whnf
 refine .mk ?_ ?_
 conv=>whnf
 refine .mk fun x5 e5=>?_
 conv=>whnf
 refine .mk fun x6=>?_
 refine .mk .mk ?_
 conv=>whnf
 refine .mk fun x7 e7=>?_
 conv=>whnf
 refine .mk fun x8=>?_
 exact .mk
 intro _ _
 refine .mk .mk ?_
 conv=>whnf
 refine .mk ?_ ?_
 refine .mk .mk ?_
 conv=>whnf
 refine .mk fun x9 e9=>?_
 conv=>whnf
 refine .mk fun x10=>?_
 exact .mk
 intro _ _
 conv=>whnf
 refine .mk fun x11=>?_
 exact .mk
 conv=>whnf
 exact .mk
 intro _ _
 conv=>whnf
 refine .mk ?_ ?_
 conv=>whnf
 refine .mk fun x12=>?_
 refine .mk .mk ?_
 conv=>whnf
 refine .mk fun x13=>?_
 refine .mk .mk ?_
 conv=>whnf
 refine .mk fun x14=>?_
 exact .mk
 intro _ _
 refine .mk .mk ?_
 conv=>whnf
 refine .mk fun x15 e15=>?_
 conv=>whnf
 refine .mk fun x16=>?_
 refine .mk .mk ?_
 conv=>whnf
 refine .mk ?_ ?_
 intro v17
 intro v18
 refine .mk ?_
 rintro ⟨y5_3,y5_4,y5_5,y5_6⟩ _
 refine .mk ?_
 conv=>whnf
 refine .mk fun x19=>?_
 conv=>whnf
 refine .mk ?_ ?_
 conv=>whnf
 refine .mk fun x20 e20=>?_
 conv=>whnf
 refine .mk fun x21 e21=>?_
 conv=>whnf
 refine .mk _ (agr (yv_to (y:=lst 1 fI ([x21.1]:List Int)) (yv_buildSlice (ps:=[(0,_)]) (rows:=[[int x21.1]]) rfl Tryz.underlying22 bz3 (.cons rfl .nil) (by kernel_rfl) rfl rfl rfl) rfl)) ?_
 conv=>whnf
 refine .mk fun x22 e22=>?_
 conv=>whnf
 refine .mk fun p23=>?_
 conv=>whnf
 refine .mk _ ⟨fun _=>yl_appT (g:=fI) (l:=y5_5) (m:=([x21.1]:List Int)) .any rfl Tryz.underlying22 bz3 by3 rfl rfl rfl rfl rfl rfl rfl rfl rfl rfl (Eq.symm rfl) (.refl _) (fun _=>rfl) e22 p23,fun _ _ _=>trivial⟩ ?_
 rintro _ _ ⟨v24,-,rfl,rfl⟩
 conv=>whnf
 refine .mk _ (agr (yv_to (y:=lst 1 fI ([x21.2.1]:List Int)) (yv_buildSlice (ps:=[(0,_)]) (rows:=[[int x21.2.1]]) rfl Tryz.underlying22 bz3 (.cons rfl .nil) (by kernel_rfl) rfl rfl rfl) rfl)) ?_
 conv=>whnf
 refine .mk fun x25 e25=>?_
 conv=>whnf
 refine .mk fun p26=>?_
 conv=>whnf
 refine .mk _ ⟨fun _=>yl_appT (g:=fI) (l:=y5_6) (m:=([x21.2.1]:List Int)) .any rfl Tryz.underlying22 bz3 by3 rfl rfl rfl rfl rfl rfl rfl rfl rfl rfl (Eq.symm rfl) (.refl _) (fun _=>rfl) e25 p26,fun _ _ _=>trivial⟩ ?_
 rintro _ _ ⟨v27,-,rfl,rfl⟩
 conv=>whnf
 refine .mk fun x28=>?_
 conv=>whnf
 refine .mk fun x29=>?_
 exact .mk
 conv=>whnf
 exact .mk
 intro _ _
 conv=>whnf
 refine .mk ?_ ?_
 refine .mk ?_
 rintro ⟨y7_1,y7_2,y7_3⟩ _
 conv=>whnf
 refine .mk fun x30=>?_
 conv=>whnf
 refine .mk ?_ ?_
 conv=>whnf
 refine .mk ?_ ?_
 conv=>whnf
 refine .mk ?_ ?_
 refine .mk ?_
 intro _ _
 conv=>whnf
 refine .mk fun x31=>?_
 conv=>whnf
 refine .mk ?_ ?_
 conv=>whnf
 refine .mk ?_ ?_
 refine .mk ?_
 conv=>whnf
 refine .mk fun x32 e32=>?_
 conv=>whnf
 refine .mk _ (fun H hH _=>yv_ixO rfl Tryz.underlying22 sh3 rfl rfl ((hH _ (by decide)).trans rfl) rfl rfl (Eq.symm rfl) (List.length_map _) e32) ?_
 conv=>whnf
 refine .mk _ (fun H hH _=>yv_load rfl sh3 rfl (.pt ((hH _ (by decide)).trans rfl) rfl (ix_get e32)) rfl) ?_
 conv=>whnf
 refine .mk fun x33 e33=>?_
 conv=>whnf
 refine .mk _ (fun H hH _=>yv_ixO rfl Tryz.underlying22 sh3 rfl rfl ((hH _ (by decide)).trans rfl) rfl rfl (Eq.symm rfl) (List.length_map _) e33) ?_
 conv=>whnf
 refine .mk _ (fun H hH _=>yv_load rfl sh3 rfl (.pt ((hH _ (by decide)).trans rfl) rfl (ix_get e33)) rfl) ?_
 conv=>whnf
 refine .mk fun x34=>?_
 refine .mk .mk ?_
 exact .mk
 intro _ _
 conv=>whnf
 refine .mk fun x35=>?_
 exact .mk
 conv=>whnf
 exact .mk
 intro _ _
 conv=>whnf
 refine .mk fun x36 e36=>?_
 conv=>whnf
 refine .mk _ (agr (yv_ixO rfl Tryz.underlying22 sh3 rfl rfl rfl rfl rfl (Eq.symm rfl) (List.length_map _) e36)) ?_
 conv=>whnf
 refine .mk _ (agr (yv_load rfl sh3 rfl (.pt rfl rfl (ix_get e36)) rfl)) ?_
 conv=>whnf
 refine .mk fun x37=>?_
 conv=>whnf
 refine .mk _ (agr (yv_ixO rfl Tryz.underlying22 sh3 rfl rfl rfl rfl rfl (Eq.symm rfl) (List.length_map _) e36)) ?_
 conv=>whnf
 refine .mk fun x38 e38=>?_
 have fx38:=ix_set e36 e38;have lx38:=len_setV e38 (rfl:y7_2.length=y7_2.length)
 conv=>whnf
 refine .mk _ ⟨fun _=>Yield.weak (yl_ob (ob':=(⟨3,1,true,true,_,x38.map fI⟩:AObj)) (yl_store rfl sh3 rfl rfl rfl rfl rfl (ix_get e36) rfl rfl rfl) (ob_eq (map_setV e38))) (fun _ h=>h) (fun _ _=>trivial),fun _ _ _=>trivial⟩ ?_
 rintro _ _ ⟨rfl,rfl⟩
 conv=>whnf
 refine .mk fun x39 e39=>?_
 conv=>whnf
 refine .mk _ (agr (yv_ixO rfl Tryz.underlying22 sh3 rfl rfl rfl rfl rfl (Eq.symm rfl) (List.length_map _) e39)) ?_
 conv=>whnf
 refine .mk fun x40 e40=>?_
 have fx40:=ix_set e39 e40;have lx40:=len_setV e40 (rfl:y7_3.length=y7_3.length)
 conv=>whnf
 refine .mk _ ⟨fun _=>Yield.weak (yl_ob (ob':=(⟨3,1,true,true,_,x40.map fI⟩:AObj)) (yl_store rfl sh3 rfl rfl rfl rfl rfl (ix_get e39) rfl rfl rfl) (ob_eq (map_setV e40))) (fun _ h=>h) (fun _ _=>trivial),fun _ _ _=>trivial⟩ ?_
 rintro _ _ ⟨rfl,rfl⟩
 conv=>whnf
 exact .mk ⟨⟨⟨_,rfl,(cv_slen (Eq.symm lx38))⟩,⟨_,rfl,(cv_slen (Eq.symm lx40))⟩,⟨_,rfl,(.refl _)⟩,⟨_,rfl,(.refl _)⟩,⟨_,rfl,(.refl _)⟩,trivial⟩,⟨⟨_,rfl,(.refl _)⟩,⟨_,rfl,(.refl _)⟩,trivial⟩⟩
 intro _ _
 conv=>whnf
 refine .mk fun x41=>?_
 exact .mk
 conv=>whnf
 exact .mk
 intro _ _
 exact .mk
 rintro (y13_1 | y14_2) _
 conv=>whnf
 refine .mk trivial ?_
 conv=>whnf
 exact .mk (CvL.tup (.cons (.nil _) (.cons (.refl _) .nil)))
 conv=>whnf
 refine .mk trivial ?_
 conv=>whnf
 exact .mk (CvL.tup (.cons (cv_lst rfl rfl rfl rfl rfl (Eq.symm rfl)) (.cons (.refl _) .nil)))
 conv=>whnf
 refine .mk fun x42=>?_
 conv=>whnf
 refine .mk ?_ ?_
 conv=>whnf
 refine .mk ?_ ?_
 refine .mk ?_
 intro _ _
 refine .mk ?_
 conv=>whnf
 refine .mk fun x43=>?_
 conv=>whnf
 refine .mk ?_ ?_
 conv=>whnf
 refine .mk ?_ ?_
 conv=>whnf
 refine .mk fun x44 e44=>?_
 conv=>whnf
 refine .mk fun x45=>?_
 refine .mk .mk ?_
 conv=>whnf
 refine .mk fun x46 e46=>?_
 conv=>whnf
 refine .mk fun x47=>?_
 exact .mk
 intro _ _
 refine .mk .mk ?_
 conv=>whnf
 refine .mk ?_ ?_
 refine .mk .mk ?_
 conv=>whnf
 refine .mk fun x48 e48=>?_
 conv=>whnf
 refine .mk fun x49=>?_
 exact .mk
 intro _ _
 conv=>whnf
 refine .mk fun x50=>?_
 exact .mk
 conv=>whnf
 exact .mk
 intro _ _
 conv=>whnf
 refine .mk ?_ ?_
 conv=>whnf
 refine .mk fun x51=>?_
 refine .mk .mk ?_
 conv=>whnf
 refine .mk fun x52=>?_
 refine .mk .mk ?_
 conv=>whnf
 refine .mk fun x53=>?_
 exact .mk
 intro _ _
 refine .mk .mk ?_
 conv=>whnf
 refine .mk fun x54 e54=>?_
 conv=>whnf
 refine .mk fun x55=>?_
 refine .mk .mk ?_
 conv=>whnf
 refine .mk ?_ ?_
 intro v56
 intro v57
 refine .mk ?_
 rintro ⟨y20_3,y20_4,y20_5,y20_6⟩ _
 refine .mk ?_
 conv=>whnf
 refine .mk fun x58=>?_
 conv=>whnf
 refine .mk ?_ ?_
 conv=>whnf
 refine .mk fun x59 e59=>?_
 conv=>whnf
 refine .mk fun x60 e60=>?_
 conv=>whnf
 refine .mk _ (agr (yv_to (y:=lst 1 fI ([x60.1]:List Int)) (yv_buildSlice (ps:=[(0,_)]) (rows:=[[int x60.1]]) rfl Tryz.underlying22 bz3 (.cons rfl .nil) (by kernel_rfl) rfl rfl rfl) rfl)) ?_
 conv=>whnf
 refine .mk fun x61 e61=>?_
 conv=>whnf
 refine .mk fun p62=>?_
 conv=>whnf
 refine .mk _ ⟨fun _=>yl_appT (g:=fI) (l:=y20_5) (m:=([x60.1]:List Int)) .any rfl Tryz.underlying22 bz3 by3 rfl rfl rfl rfl rfl rfl rfl rfl rfl rfl (Eq.symm rfl) (.refl _) (fun _=>rfl) e61 p62,fun _ _ _=>trivial⟩ ?_
 rintro _ _ ⟨v63,-,rfl,rfl⟩
 conv=>whnf
 refine .mk _ (agr (yv_to (y:=lst 1 fI ([x60.2.1]:List Int)) (yv_buildSlice (ps:=[(0,_)]) (rows:=[[int x60.2.1]]) rfl Tryz.underlying22 bz3 (.cons rfl .nil) (by kernel_rfl) rfl rfl rfl) rfl)) ?_
 conv=>whnf
 refine .mk fun x64 e64=>?_
 conv=>whnf
 refine .mk fun p65=>?_
 conv=>whnf
 refine .mk _ ⟨fun _=>yl_appT (g:=fI) (l:=y20_6) (m:=([x60.2.1]:List Int)) .any rfl Tryz.underlying22 bz3 by3 rfl rfl rfl rfl rfl rfl rfl rfl rfl rfl (Eq.symm rfl) (.refl _) (fun _=>rfl) e64 p65,fun _ _ _=>trivial⟩ ?_
 rintro _ _ ⟨v66,-,rfl,rfl⟩
 conv=>whnf
 refine .mk fun x67=>?_
 conv=>whnf
 refine .mk fun x68=>?_
 exact .mk
 conv=>whnf
 exact .mk
 intro _ _
 conv=>whnf
 refine .mk ?_ ?_
 refine .mk ?_
 rintro ⟨y22_1,y22_2,y22_3⟩ _
 conv=>whnf
 refine .mk fun x69=>?_
 conv=>whnf
 refine .mk ?_ ?_
 conv=>whnf
 refine .mk ?_ ?_
 conv=>whnf
 refine .mk ?_ ?_
 refine .mk ?_
 intro _ _
 conv=>whnf
 refine .mk fun x70=>?_
 conv=>whnf
 refine .mk ?_ ?_
 conv=>whnf
 refine .mk ?_ ?_
 refine .mk ?_
 conv=>whnf
 refine .mk fun x71 e71=>?_
 conv=>whnf
 refine .mk _ (fun H hH _=>yv_ixO rfl Tryz.underlying22 sh3 rfl rfl ((hH _ (by decide)).trans rfl) rfl rfl (Eq.symm rfl) (List.length_map _) e71) ?_
 conv=>whnf
 refine .mk _ (fun H hH _=>yv_load rfl sh3 rfl (.pt ((hH _ (by decide)).trans rfl) rfl (ix_get e71)) rfl) ?_
 conv=>whnf
 refine .mk fun x72 e72=>?_
 conv=>whnf
 refine .mk _ (fun H hH _=>yv_ixO rfl Tryz.underlying22 sh3 rfl rfl ((hH _ (by decide)).trans rfl) rfl rfl (Eq.symm rfl) (List.length_map _) e72) ?_
 conv=>whnf
 refine .mk _ (fun H hH _=>yv_load rfl sh3 rfl (.pt ((hH _ (by decide)).trans rfl) rfl (ix_get e72)) rfl) ?_
 conv=>whnf
 refine .mk fun x73=>?_
 refine .mk .mk ?_
 exact .mk
 intro _ _
 conv=>whnf
 refine .mk fun x74=>?_
 exact .mk
 conv=>whnf
 exact .mk
 intro _ _
 conv=>whnf
 refine .mk fun x75 e75=>?_
 conv=>whnf
 refine .mk _ (agr (yv_ixO rfl Tryz.underlying22 sh3 rfl rfl rfl rfl rfl (Eq.symm rfl) (List.length_map _) e75)) ?_
 conv=>whnf
 refine .mk _ (agr (yv_load rfl sh3 rfl (.pt rfl rfl (ix_get e75)) rfl)) ?_
 conv=>whnf
 refine .mk fun x76=>?_
 conv=>whnf
 refine .mk _ (agr (yv_ixO rfl Tryz.underlying22 sh3 rfl rfl rfl rfl rfl (Eq.symm rfl) (List.length_map _) e75)) ?_
 conv=>whnf
 refine .mk fun x77 e77=>?_
 have fx77:=ix_set e75 e77;have lx77:=len_setV e77 (rfl:y22_2.length=y22_2.length)
 conv=>whnf
 refine .mk _ ⟨fun _=>Yield.weak (yl_ob (ob':=(⟨3,1,true,true,_,x77.map fI⟩:AObj)) (yl_store rfl sh3 rfl rfl rfl rfl rfl (ix_get e75) rfl rfl rfl) (ob_eq (map_setV e77))) (fun _ h=>h) (fun _ _=>trivial),fun _ _ _=>trivial⟩ ?_
 rintro _ _ ⟨rfl,rfl⟩
 conv=>whnf
 refine .mk fun x78 e78=>?_
 conv=>whnf
 refine .mk _ (agr (yv_ixO rfl Tryz.underlying22 sh3 rfl rfl rfl rfl rfl (Eq.symm rfl) (List.length_map _) e78)) ?_
 conv=>whnf
 refine .mk fun x79 e79=>?_
 have fx79:=ix_set e78 e79;have lx79:=len_setV e79 (rfl:y22_3.length=y22_3.length)
 conv=>whnf
 refine .mk _ ⟨fun _=>Yield.weak (yl_ob (ob':=(⟨3,1,true,true,_,x79.map fI⟩:AObj)) (yl_store rfl sh3 rfl rfl rfl rfl rfl (ix_get e78) rfl rfl rfl) (ob_eq (map_setV e79))) (fun _ h=>h) (fun _ _=>trivial),fun _ _ _=>trivial⟩ ?_
 rintro _ _ ⟨rfl,rfl⟩
 conv=>whnf
 exact .mk ⟨⟨⟨_,rfl,(cv_slen (Eq.symm lx77))⟩,⟨_,rfl,(cv_slen (Eq.symm lx79))⟩,⟨_,rfl,(.refl _)⟩,⟨_,rfl,(.refl _)⟩,⟨_,rfl,(.refl _)⟩,trivial⟩,⟨⟨_,rfl,(.refl _)⟩,⟨_,rfl,(.refl _)⟩,trivial⟩⟩
 intro _ _
 conv=>whnf
 refine .mk fun x80=>?_
 exact .mk
 conv=>whnf
 exact .mk
 intro _ _
 exact .mk
 rintro (y28_1 | y29_2) _
 conv=>whnf
 refine .mk trivial ?_
 conv=>whnf
 refine .mk ?_ ?_
 refine .mk ?_
 intro _ _
 refine .mk ?_
 exact .mk
 intro _ _
 conv=>whnf
 exact .mk (CvL.tup (.cons (.nil _) (.cons (.refl _) .nil)))
 conv=>whnf
 refine .mk trivial ?_
 conv=>whnf
 refine .mk ?_ ?_
 refine .mk ?_
 rintro ⟨y30_1,y30_2⟩ _
 conv=>whnf
 refine .mk fun x81=>?_
 conv=>whnf
 refine .mk ?_ ?_
 conv=>whnf
 refine .mk fun x82 e82=>?_
 conv=>whnf
 refine .mk _ (agr (yv_ixO rfl Tryz.underlying22 sh3 rfl rfl rfl rfl rfl (Eq.symm rfl) (List.length_map _) e82)) ?_
 conv=>whnf
 refine .mk _ (agr (yv_load rfl sh3 rfl (.pt rfl rfl (ix_get e82)) rfl)) ?_
 conv=>whnf
 refine .mk fun x83=>?_
 conv=>whnf
 refine .mk _ (agr (yv_ixO rfl Tryz.underlying22 sh3 rfl rfl rfl rfl rfl (Eq.symm rfl) (List.length_map _) e82)) ?_
 conv=>whnf
 refine .mk fun x84 e84=>?_
 have fx84:=ix_set e82 e84;have lx84:=len_setV e84 (rfl:y30_2.length=y30_2.length)
 conv=>whnf
 refine .mk _ ⟨fun _=>Yield.weak (yl_ob (ob':=(⟨3,1,true,true,_,x84.map fI⟩:AObj)) (yl_store rfl sh3 rfl rfl rfl rfl rfl (ix_get e82) rfl rfl rfl) (ob_eq (map_setV e84))) (fun _ h=>h) (fun _ _=>trivial),fun _ _ _=>trivial⟩ ?_
 rintro _ _ ⟨rfl,rfl⟩
 conv=>whnf
 refine .mk fun x85=>?_
 conv=>whnf
 exact .mk ⟨⟨⟨_,rfl,(cv_slen (Eq.symm lx84))⟩,⟨_,rfl,(.refl _)⟩,⟨_,rfl,(.refl _)⟩,⟨_,rfl,(.refl _)⟩,⟨_,rfl,(.refl _)⟩,trivial⟩,⟨⟨_,rfl,(.refl _)⟩,trivial⟩⟩
 exact .mk
 intro _ _
 conv=>whnf
 exact .mk (CvL.tup (.cons (cv_lst rfl rfl rfl rfl rfl (Eq.symm rfl)) (.cons (.refl _) .nil)))
noncomputable def t_ref23_costed (n:Nat) (a1:GState) (a2:Int) (a3:Int) (a4:Int) (a5:GLayer):WT Tryz.prog (.b (GState×Int)) :=
 .al 1<|
 .al 2<|
 .al 3<|
 .jn 3 [5,9,10,11] [1,2,3] [7,8] (fun u9 (a:Bool×(List Int)×(List Int))=>[(12,.sl 7 (u9 7) 0 a.2.1.length),(13,.sl 8 (u9 8) 0 a.2.2.length),(14,boo a.1)]) (fun _ a=>[.nw 7 3 1 (a.2.1.map fI),.nw 8 3 1 (a.2.2.map fI)]) (.no 12 7 3 1<|
 .no 13 8 3 1<|
 .lp [1,2,3,5,9,10,11] [1,2,3] [7,8] (fun u14 (a:Bool×Int×(List Int)×(List Int))=>[(12,.sl 7 (u14 7) 0 a.2.2.1.length),(13,.sl 8 (u14 8) 0 a.2.2.2.length),(14,boo a.1),(15,int a.2.1)]) (fun _ a=>[.nw 7 3 1 (a.2.2.1.map fI),.nw 8 3 1 (a.2.2.2.map fI)]) n ((false:Bool),(0:Int),(([]:List Int):List Int),(([]:List Int):List Int)) (pw fun y0_3 q0=>(pw fun y0_4 q1=>(pw fun y0_5 y0_6 =>
 .ln 26 GSale.av a1.Sales<|
 .bB 27 (decide (y0_4<(a1.Sales.length:Int))) fun x11 =>
 .ifs [27] x11 (.jn 1 [1,2,3,5,9,10,11,15] [1,2,3] [7,8] (fun u16 (a:Bool×(List Int)×(List Int))=>[(12,.sl 7 (u16 7) 0 a.2.1.length),(13,.sl 8 (u16 8) 0 a.2.2.length),(14,boo a.1)]) (fun _ a=>[.nw 7 3 1 (a.2.1.map fI),.nw 8 3 1 (a.2.2.map fI)]) (.ix 33 GSale.av a1.Sales y0_4 fun x12 =>
 .al 4<|
 .cl 40 (d_ref23_waits a1 x12 a2 a3 a4) cal190 d_ref23_waits_c fun x14 =>
 .ifs [40] x14 (.jn 1 [1,2,3,5,9,10,11,15] [1,2,3] [7,8] (fun u17 (a:Bool×(List Int)×(List Int))=>[(12,.sl 7 (u17 7) 0 a.2.1.length),(13,.sl 8 (u17 8) 0 a.2.2.length),(14,boo a.1)]) (fun _ a=>[.nw 7 3 1 (a.2.1.map fI),.nw 8 3 1 (a.2.2.map fI)]) (.dr [(5,[4]),(6,[4]),(7,[4]),(8,[4]),(14,[4]),(15,[4]),(16,[4]),(17,[4])] [(11,[])] [4] [3,11] [0,1,2,4,5,6,7,8,9,10,12,3,11,13,14,15,16,17,18,19,20,21,22] (.gv 43<|
 .bI 50 (w64 (x12.Qty-x12.Back)) fun x15 =>
 .gv 51<|
 .bl (y0_5++([y0_4]:List Int):List Int) fun x16 =>
 .as (x16.length≤68719476736) inferInstance<|
 .ge 44<|
 .bl (y0_6++([x15]:List Int):List Int) fun x19 =>
 .as (x19.length≤68719476736) inferInstance<|
 .ge 52<|
 .ifs [14,53] y0_3 (.ret ((true:Bool),x16,x19)) (.bB 59 (decide (x12.Qty>x12.Back)) fun x22 =>
 .ret (x22,x16,x19))))
  (pw fun y2_3 q0=>(pw fun y2_4 y2_5 =>
 .ret (y2_3,y2_4,y2_5)) q0)) (.ret (y0_3,y0_5,y0_6)))
  (pw fun y1_3 q0=>(pw fun y1_4 y1_5 =>
 .bI 29 (w64 (y0_4+1)) fun x23 =>
 .brk (y1_3,x23,y1_4,y1_5)) q0)) (.esc (.ret (y0_3,y0_5,y0_6)))) q1) q0))
  (pw fun y3_3 q0=>(pw fun y3_4 y3_5 =>
 .bB 62 (!y3_3) fun x24 =>
 .ifs [62] x24 (.ret ((a1:GState),(0:Int))) (.frz 8<|
 .cl 68 (d_ref23_signed n a5.Value y3_5) cal191 d_ref23_signed_c fun x25 =>
 .cl 75 (d_ref23_signed n a5.Profit y3_5) cal191 d_ref23_signed_c fun x26 =>
 .jn 0 [5,10,11,12,17,18,19,20] [1,3,7] [] (fun _ (a:Bool)=>[(83,boo a)]) (fun _ _=>[]) (.bB 79 (decide (x25.2≠0)) fun x27 =>
 .ifs [79] x27 (.ret (true:Bool)) (.bB 82 (decide (x26.2≠0)) fun x28 =>
 .ret x28))
  (fun y4_1 =>
 .ifs [83] y4_1 (.bl (if x26.2>x25.2 then x26.2 else x25.2:Int) fun x29 =>
 .gv 87<|
 .ret ((a1:GState),x29)) (.as (a1.Sales.length≤68719476736) inferInstance<|
 .ge 90<|
 .jn 1 [5,10,11] [1,3] [] (fun u20 (a:(List GSale))=>[(21,.sl 9 (u20 9) 0 a.length)]) (fun _ a=>[.kp 9 (a.map GSale.av)]) (.lp [5,10,11,12,17,19] [1,3,7] [] (fun u21 (a:Int×(List GSale))=>[(21,.sl 9 (u21 9) 0 a.2.length),(22,int a.1)]) (fun _ a=>[.kp 9 (a.2.map GSale.av)]) n ((0:Int),(a1.Sales:List GSale)) (pw fun y5_1 y5_2 =>
 .bB 94 (decide (y5_1<(y3_4.length:Int))) fun x32 =>
 .ifs [94] x32 (.dr [(3,[7]),(4,[7]),(8,[7]),(9,[7]),(18,[9]),(19,[9]),(21,[9]),(22,[9])] [(20,[]),(23,[])] [7,9] [20,23] [0,1,2,3,4,5,6,7,8,9,10,11,12,13,14,15,16,17,18,19,20,21,22,23] (.bo (ix y3_4 y5_1) fun x33 =>
 .gv 100<|
 .gv 101<|
 .gv 105<|
 .gv 106<|
 .ix 109 fI x25.1 y5_1 fun x34 =>
 .ix 113 fI x26.1 y5_1 fun x35 =>
 .bo (ix y5_2 x33) fun x36 =>
 .gv 115<|
 .gv 116<|
 .bl (y5_2.set (Int.toNat x33) ((⟨x36.Entity,x36.Item,x36.Loc,x36.Qty,x36.Back,x34,x36.Profit,x36.Period,x36.Waits⟩:GSale):GSale):List GSale) fun x37 =>
 .ge 1019020<|
 .gv 117<|
 .gv 118<|
 .bl (x37.set (Int.toNat x33) ((⟨x36.Entity,x36.Item,x36.Loc,x36.Qty,x36.Back,x34,x35,x36.Period,x36.Waits⟩:GSale):GSale):List GSale) fun x38 =>
 .ge 1019023<|
 .bI 96 (w64 (y5_1+1)) fun x39 =>
 .brk (x39,x38))) (.esc (.ret y5_2))))
  (fun y6_1 =>
 .ret (((⟨a1.Master,a1.Ents,a1.Receipts,y6_1,a1.Transits,a1.Done⟩:GState):GState),(0:Int))))))) q0)
def d_ref23_costed (n:Nat) (a1:GState) (a2:Int) (a3:Int) (a4:Int) (a5:GLayer):Option (GState×Int):=(t_ref23_costed n a1 a2 a3 a4 a5).run
theorem d_ref23_costed_c {n:Nat} {a1:GState} {a2:Int} {a3:Int} {a4:Int} {a5:GLayer} {r:GState×Int} (h0:d_ref23_costed n a1 a2 a3 a4 a5=some r):PP Tryz.prog 152 [.agg (GState.av a1),int a2,int a3,int a4,.agg (GLayer.av a5)] (fun y=>y=.tup [.agg (GState.av r.1),int r.2]):=by
 refine wt_pp mixed tbk (fun (r:GState×Int)=>.tup [.agg (GState.av r.1),int r.2]) h0 Tryz.func152 (fun r=>.tup (pvl2 ((fun (a:GState)=>PV.agg (GState.pvc a)) (r.1)) (pvI (r.2)))) 100000 ?_
 intro v6
 intro v7
 intro v8
 conv=>whnf
 refine .mk ?_ ?_
 intro v9
 intro v10
 refine .mk ?_
 rintro ⟨y0_3,y0_4,y0_5,y0_6⟩ _
 refine .mk ?_
 conv=>whnf
 refine .mk fun x11=>?_
 conv=>whnf
 refine .mk ?_ ?_
 conv=>whnf
 refine .mk ?_ ?_
 conv=>whnf
 refine .mk fun x12 e12=>?_
 intro v13
 conv=>whnf
 refine .mk fun x14 e14=>?_
 conv=>whnf
 refine .mk ?_ ?_
 conv=>whnf
 refine .mk ?_ ?_
 refine .mk ?_
 conv=>whnf
 refine .mk _ (fun H hH _=>yv_to (y:=lst 1 fI ([y0_4]:List Int)) (yv_buildSlice (ps:=[(0,_)]) (rows:=[[int y0_4]]) rfl Tryz.underlying22 bz3 (.cons rfl .nil) (by kernel_rfl) rfl rfl rfl) rfl) ?_
 conv=>whnf
 refine .mk fun x15=>?_
 conv=>whnf
 refine .mk _ (fun H hH _=>yv_to (y:=lst 1 fI ([x15]:List Int)) (yv_buildSlice (ps:=[(0,_)]) (rows:=[[int x15]]) rfl Tryz.underlying22 bz3 (.cons rfl .nil) (by kernel_rfl) rfl rfl rfl) rfl) ?_
 conv=>whnf
 refine .mk fun x16 e16=>?_
 conv=>whnf
 refine .mk fun p17=>?_
 conv=>whnf
 refine .mk _ ⟨fun _=>yl_appT (g:=fI) (l:=y0_5) (m:=([y0_4]:List Int)) .any rfl Tryz.underlying22 bz3 by3 rfl rfl rfl rfl rfl rfl rfl rfl rfl rfl (Eq.symm rfl) (.refl _) (fun _=>rfl) e16 p17,by rintro _ _ ⟨v18,-,rfl,rfl⟩;exact ⟨rfl,trivial⟩⟩ ?_
 rintro _ _ ⟨v18,-,rfl,rfl⟩
 conv=>whnf
 refine .mk fun x19 e19=>?_
 conv=>whnf
 refine .mk fun p20=>?_
 conv=>whnf
 refine .mk _ ⟨fun _=>yl_appT (g:=fI) (l:=y0_6) (m:=([x15]:List Int)) .any rfl Tryz.underlying22 bz3 by3 rfl rfl rfl rfl rfl rfl rfl rfl rfl rfl (Eq.symm rfl) (.refl _) (fun _=>rfl) e19 p20,by rintro _ _ ⟨v21,-,rfl,rfl⟩;exact trivial⟩ ?_
 rintro _ _ ⟨v21,-,rfl,rfl⟩
 refine .mk .mk ?_
 conv=>whnf
 refine .mk fun x22=>?_
 exact .mk
 intro _ _
 exact .mk
 conv=>whnf
 exact .mk
 intro _ _
 conv=>whnf
 refine .mk fun x23=>?_
 exact .mk
 conv=>whnf
 exact .mk
 intro _ _
 conv=>whnf
 refine .mk fun x24=>?_
 refine .mk .mk ?_
 conv=>whnf
 refine .mk (fun x25 e25=>?_) rfl (by rintro _ rfl;exact (.cons (.refl _) (.cons (cv_lst rfl rfl rfl rfl rfl (Eq.symm rfl)) .nil)))
 conv=>whnf
 refine .mk (fun x26 e26=>?_) rfl (by rintro _ rfl;exact (.cons (.refl _) (.cons (cv_lst rfl rfl rfl rfl rfl (Eq.symm rfl)) .nil)))
 conv=>whnf
 refine .mk ?_ ?_
 conv=>whnf
 refine .mk fun x27=>?_
 refine .mk .mk ?_
 conv=>whnf
 refine .mk fun x28=>?_
 exact .mk
 intro _ _
 conv=>whnf
 refine .mk ?_ ?_
 conv=>whnf
 refine .mk fun x29 e29=>?_
 conv=>whnf
 refine .mk _ (agr (yv_max rfl rfl rfl e29)) ?_
 exact .mk
 conv=>whnf
 refine .mk fun p30=>?_
 conv=>whnf
 refine .mk _ ⟨fun _=>yl_app0T (g:=GSale.av) (m:=a1.Sales) 9 rfl Tryz.underlying28 bz88 by88 rfl rfl rfl rfl (.refl _) (fun _=>rfl) p30,fun _ _ _=>trivial⟩ ?_
 rintro _ _ ⟨v31,rfl,rfl⟩
 conv=>whnf
 refine .mk ?_ ?_
 refine .mk ?_
 rintro ⟨y5_1,y5_2⟩ _
 conv=>whnf
 refine .mk fun x32=>?_
 conv=>whnf
 refine .mk ?_ ?_
 refine .mk ?_
 conv=>whnf
 refine .mk fun x33 e33=>?_
 conv=>whnf
 refine .mk _ (fun H hH _=>yv_ixO rfl Tryz.underlying22 sh3 rfl rfl ((hH _ (by decide)).trans rfl) rfl rfl (Eq.symm rfl) (List.length_map _) e33) ?_
 conv=>whnf
 refine .mk _ (fun H hH _=>yv_load rfl sh3 rfl (.pt ((hH _ (by decide)).trans rfl) rfl (ix_get e33)) rfl) ?_
 conv=>whnf
 refine .mk _ (fun H hH _=>yv_ixO rfl Tryz.underlying22 sh3 rfl rfl ((hH _ (by decide)).trans rfl) rfl rfl (Eq.symm rfl) (List.length_map _) e33) ?_
 conv=>whnf
 refine .mk _ (fun H hH _=>yv_load rfl sh3 rfl (.pt ((hH _ (by decide)).trans rfl) rfl (ix_get e33)) rfl) ?_
 conv=>whnf
 refine .mk fun x34 e34=>?_
 conv=>whnf
 refine .mk fun x35 e35=>?_
 conv=>whnf
 refine .mk fun x36 e36=>?_
 conv=>whnf
 refine .mk _ (fun H hH _=>yv_ixO rfl Tryz.underlying28 sh88 rfl rfl ((hH _ (by decide)).trans rfl) rfl rfl (Eq.symm rfl) (List.length_map _) e36) ?_
 conv=>whnf
 refine .mk _ (fun H hH _=>yv_fieldAddr rfl fo88_5 rfl (.pt ((hH _ (by decide)).trans rfl) rfl (ix_get e36)) (.pt _ _ _ _ _)) ?_
 conv=>whnf
 refine .mk fun x37 e37=>?_
 have fx37:=ix_set e36 e37;have lx37:=len_setV e37 (rfl:y5_2.length=y5_2.length)
 conv=>whnf
 refine .mk _ ⟨fun _=>Yield.weak (yl_ob (ob':=(⟨88,9,true,true,_,x37.map GSale.av⟩:AObj)) (yl_store rfl sh3 rfl rfl rfl rfl rfl (ix_get e36) rfl rfl rfl) (ob_eq (map_setV e37))) (fun _ h=>h) (fun _ _=>trivial),by rintro _ _ ⟨rfl,rfl⟩;exact trivial⟩ ?_
 rintro _ _ ⟨rfl,rfl⟩
 conv=>whnf
 refine .mk _ (fun H hH _=>yv_ixO rfl Tryz.underlying28 sh88 rfl rfl ((hH _ (by decide)).trans rfl) rfl rfl (Eq.symm lx37) (List.length_map _) fx37) ?_
 conv=>whnf
 refine .mk _ (fun H hH _=>yv_fieldAddr rfl fo88_6 rfl (.pt ((hH _ (by decide)).trans rfl) rfl (ix_get fx37)) (.pt _ _ _ _ _)) ?_
 conv=>whnf
 refine .mk fun x38 e38=>?_
 have fx38:=ix_set fx37 e38;have lx38:=len_setV e38 lx37
 conv=>whnf
 refine .mk _ ⟨fun _=>Yield.weak (yl_ob (ob':=(⟨88,9,true,true,_,x38.map GSale.av⟩:AObj)) (yl_store rfl sh3 rfl rfl rfl rfl rfl (ix_get fx37) rfl rfl rfl) (ob_eq (map_setV e38))) (fun _ h=>h) (fun _ _=>trivial),by rintro _ _ ⟨rfl,rfl⟩;exact trivial⟩ ?_
 rintro _ _ ⟨rfl,rfl⟩
 conv=>whnf
 refine .mk fun x39=>?_
 conv=>whnf
 exact .mk ⟨⟨⟨_,rfl,(cv_slen (Eq.symm lx38))⟩,⟨_,rfl,(.refl _)⟩,⟨_,rfl,(.refl _)⟩,⟨_,rfl,(.refl _)⟩,⟨_,rfl,(.refl _)⟩,⟨_,rfl,(.refl _)⟩,⟨_,rfl,(.refl _)⟩,⟨_,rfl,(.refl _)⟩,trivial⟩,⟨⟨_,rfl,(.refl _)⟩,⟨_,rfl,(.refl _)⟩,⟨_,rfl,(.refl _)⟩,⟨_,rfl,(.refl _)⟩,trivial⟩⟩
 exact .mk
 intro _ _
 conv=>whnf
 exact .mk (CvL.tup (.cons (CvL.agg (.cons (.refl _) (.cons (.refl _) (.cons (.refl _) (.cons (.refl _) (.cons (.refl _) (.cons (.refl _) (.cons (.refl _) (.cons (cv_lst rfl rfl rfl rfl rfl (Eq.symm rfl)) (.cons (.refl _) (.cons (.refl _) .nil))))))))))) (.cons (.refl _) .nil)))
end
end Go.Pv
