import Derived.Test.YtfbohcojaajpfaaGreatE70
set_option linter.unusedVariables false
set_option linter.unusedSimpArgs false
namespace Go.Pv
open Go.Proofs
set_option maxRecDepth 100000
set_option maxHeartbeats 4000000
noncomputable section
noncomputable def t_law24_ReconSees (n:Nat) (a1:Int) (a2:List Int) (a3:Int) (a4:Int):WT Tryz.prog (.b (Bool)) :=
 .cl 14 (d_law00_Master n a1) cal8 d_law00_Master_c fun x5 =>
 .cl 16 (d_law00_State n x5 a2) cal7 d_law00_State_c fun x6 =>
 .al 1<|
 .ln 20 GEnt.av x6.Ents<|
 .cl 21 (d_law00_Place a3 (x6.Ents.length:Int)) cal9 d_law00_Place_c fun x8 =>
 .cl 23 (d_law00_Place a4 17) cal9 d_law00_Place_c fun x9 =>
 .inl 26 cal10 Tryz.func10 [1] [4,5,6,7,8,9] (fun u2 (a:Int×Bool×(List GEnt)×(List GPool)×(List Int)×(List GRoll)×(List Int)×(List Int))=>.agg [int x6.Master.Entities,int x6.Master.Periods,lst 1 fI x6.Master.Weights,lst 1 (fL 1 fI) x6.Master.Methods,lst 1 (fL 1 fI) x6.Master.Costs,.sl 4 (u2 4) 0 x6.Ents.length,lst 8 GReceipt.av x6.Receipts,lst 9 GSale.av x6.Sales,lst 6 GTransit.av x6.Transits,int x6.Done]) (fun u2 a=>[.nw 4 39 8 ((x6.Ents.map GEnt.av).set (Int.toNat x8) [int a.1,boo a.2.1,.sl 5 (u2 5) 0 a.2.2.2.1.length,.sl 6 (u2 6) 0 a.2.2.2.2.1.length,.sl 7 (u2 7) 0 a.2.2.2.2.2.1.length,.sl 8 (u2 8) 0 a.2.2.2.2.2.2.1.length,.sl 9 (u2 9) 0 a.2.2.2.2.2.2.2.length,lst 8 GEnt.av a.2.2.1]),.nw 5 57 4 (a.2.2.2.1.map GPool.av),.nw 6 3 1 (a.2.2.2.2.1.map fI),.nw 7 83 11 (a.2.2.2.2.2.1.map GRoll.av),.nw 8 3 1 (a.2.2.2.2.2.2.1.map fI),.nw 9 3 1 (a.2.2.2.2.2.2.2.map fI)]) (.al 2<|
 .al 3<|
 .as (x6.Ents.length≤68719476736) inferInstance<|
 .ge 8<|
 .bo (ix x6.Ents x8) fun x14 =>
 .gv 13<|
 .dr [(4,[4]),(5,[4]),(6,[4]),(9,[4]),(10,[4]),(11,[4]),(14,[4]),(15,[4]),(16,[4]),(18,[4]),(19,[4]),(21,[4]),(22,[4]),(24,[4]),(25,[4])] [(17,[]),(20,[]),(23,[]),(26,[])] [4] [7,12,17,20,23,26] [0,1,2,3,4,5,6,8,9,10,11,13,14,15,16,7,12,17,18,19,20,21,22,23,24,25,26] (.gv 18<|
 .gv 19<|
 .gv 20<|
 .gv 23<|
 .gv 24<|
 .gv 25<|
 .gv 28<|
 .gv 29<|
 .gv 30<|
 .as (x14.Pools.length≤68719476736) inferInstance<|
 .ge 21<|
 .as (x14.Bal.length≤68719476736) inferInstance<|
 .ge 26<|
 .as (x14.Rolls.length≤68719476736) inferInstance<|
 .ge 31<|
 .gv 32<|
 .gv 33<|
 .ge 1003020<|
 .gv 34<|
 .gv 35<|
 .ge 1003023<|
 .gv 36<|
 .gv 37<|
 .ge 1003026<|
 .dr [(3,[4]),(4,[4]),(5,[4]),(8,[4]),(9,[4]),(10,[4]),(12,[4]),(13,[4]),(15,[4]),(16,[4])] [(11,[]),(14,[]),(17,[])] [4] [6,11,14,17] [0,1,2,3,4,5,7,8,9,10,6,11,12,13,14,15,16,17] (.gv 41<|
 .gv 42<|
 .gv 43<|
 .gv 46<|
 .gv 47<|
 .gv 48<|
 .as (x14.Prices.length≤68719476736) inferInstance<|
 .ge 44<|
 .as (x14.Down.length≤68719476736) inferInstance<|
 .ge 49<|
 .gv 50<|
 .gv 51<|
 .ge 1004014<|
 .gv 52<|
 .gv 53<|
 .ge 1004017<|
 .ret ((x14.Now:Int),(x14.Closed:Bool),(x14.Ahead:List GEnt),(x14.Pools:List GPool),(x14.Bal:List Int),(x14.Rolls:List GRoll),(x14.Prices:List Int),(x14.Down:List Int))))) (pw fun y0_2 q0=>(pw fun y0_3 q1=>(pw fun y0_9 q2=>(pw fun y0_10 q3=>(pw fun y0_11 q4=>(pw fun y0_12 q5=>(pw fun y0_13 y0_14 =>
 .bo (ix x6.Ents x8) fun x25 =>
 .al 10<|
 .gv 30<|
 .gv 31<|
 .gv 32<|
 .bo (ix y0_11 x9) fun x27 =>
 .gv 34<|
 .gv 35<|
 .bI 36 (w64 (x27+1)) fun x28 =>
 .gv 37<|
 .bl (y0_11.set (Int.toNat x9) x28:List Int) fun x29 =>
 .ge 1004011<|
 .jn 0 [8,10,11,12] [4,5,6,7,8,9,10] [] (fun _ (a:Bool)=>[(50,boo a)]) (fun _ _=>[]) (.clT 40 (d_recon_Balanced n (⟨x6.Master,(x6.Ents.set (Int.toNat x8) (⟨y0_2,y0_3,y0_10,x29,y0_12,y0_13,y0_14,y0_9⟩:GEnt)),x6.Receipts,x6.Sales,x6.Transits,x6.Done⟩:GState) x8) cal11 d_recon_Balanced_c (fun _=>rfl) fun x30 =>
 .ifs [40] x30 (.ret (true:Bool)) (.clT 43 (d_recon_Right n (⟨x6.Master,(x6.Ents.set (Int.toNat x8) (⟨y0_2,y0_3,y0_10,x29,y0_12,y0_13,y0_14,y0_9⟩:GEnt)),x6.Receipts,x6.Sales,x6.Transits,x6.Done⟩:GState)) cal12 d_recon_Right_c (fun _=>rfl) fun x31 =>
 .ifs [43] x31 (.ret (true:Bool)) (.cl 48 (d_recon_Balanced n x6 x8) cal11 d_recon_Balanced_c fun x32 =>
 .bB 49 (!x32) fun x33 =>
 .ret x33)))
  (fun y1_1 =>
 .ifs [50] y1_1 (.ret ((false:Bool))) (.jn 1 [] [] [] (fun _ (a:Bool)=>[(8,boo a)]) (fun _ _=>[]) (.clT 53 (d_recon_Control n (⟨x6.Master,(x6.Ents.set (Int.toNat x8) (⟨y0_2,y0_3,y0_10,x29,y0_12,y0_13,y0_14,y0_9⟩:GEnt)),x6.Receipts,x6.Sales,x6.Transits,x6.Done⟩:GState) x8) cal13 d_recon_Control_c (fun _=>rfl) fun x34 =>
 .bB 55 (decide (x9≠0)) fun x35 =>
 .bl (decide (x34=x35):Bool) fun x36 =>
 .gv 56<|
 .ifs [56] x36 (.clT 60 (d_recon_Accrued n (⟨x6.Master,(x6.Ents.set (Int.toNat x8) (⟨y0_2,y0_3,y0_10,x29,y0_12,y0_13,y0_14,y0_9⟩:GEnt)),x6.Receipts,x6.Sales,x6.Transits,x6.Done⟩:GState) x8) cal14 d_recon_Accrued_c (fun _=>rfl) fun x37 =>
 .bB 62 (decide (x9≠1)) fun x38 =>
 .bl (decide (x37=x38):Bool) fun x39 =>
 .gv 63<|
 .ifs [63] x39 (.clT 68 (d_recon_Way n (⟨x6.Master,(x6.Ents.set (Int.toNat x8) (⟨y0_2,y0_3,y0_10,x29,y0_12,y0_13,y0_14,y0_9⟩:GEnt)),x6.Receipts,x6.Sales,x6.Transits,x6.Done⟩:GState) x8) cal15 d_recon_Way_c (fun _=>rfl) fun x40 =>
 .bB 70 (decide (x9≠12)) fun x41 =>
 .bl (decide (x40=x41):Bool) fun x42 =>
 .gv 71<|
 .ifs [71] x42 (.clT 76 (d_recon_Written n (⟨x6.Master,(x6.Ents.set (Int.toNat x8) (⟨y0_2,y0_3,y0_10,x29,y0_12,y0_13,y0_14,y0_9⟩:GEnt)),x6.Receipts,x6.Sales,x6.Transits,x6.Done⟩:GState) x8) cal16 d_recon_Written_c (fun _=>rfl) fun x43 =>
 .bB 78 (decide (x9≠11)) fun x44 =>
 .bl (decide (x43=x44):Bool) fun x45 =>
 .gv 79<|
 .ifs [79] x45 (.clT 83 (d_recon_Mutual n (⟨x6.Master,(x6.Ents.set (Int.toNat x8) (⟨y0_2,y0_3,y0_10,x29,y0_12,y0_13,y0_14,y0_9⟩:GEnt)),x6.Receipts,x6.Sales,x6.Transits,x6.Done⟩:GState)) cal17 d_recon_Mutual_c (fun _=>rfl) fun x46 =>
 .bB 85 (decide (x9≠13)) fun x47 =>
 .ifs [85] x47 (.bB 88 (decide (x9≠14)) fun x48 =>
 .bl (decide (x46=x48):Bool) fun x49 =>
 .gv 90<|
 .ifs [90] x49 (.cl 93 (d_law24_awake n) cal18 d_law24_awake_c fun x50 =>
 .ret x50) (.ret (false:Bool))) (.bl (decide (x46=false):Bool) fun x51 =>
 .gv 90<|
 .ifs [90] x51 (.cl 93 (d_law24_awake n) cal18 d_law24_awake_c fun x52 =>
 .ret x52) (.ret (false:Bool)))) (.ret (false:Bool))) (.ret (false:Bool))) (.ret (false:Bool))) (.ret (false:Bool)))
  (fun y2_1 =>
 .ret (y2_1))))) q5) q4) q3) q2) q1) q0)
def d_law24_ReconSees (n:Nat) (a1:Int) (a2:List Int) (a3:Int) (a4:Int):Option (Bool):=(t_law24_ReconSees n a1 a2 a3 a4).run
theorem d_law24_ReconSees_c {n:Nat} {a1:Int} {a2:List Int} {a3:Int} {a4:Int} {r:Bool} (h0:d_law24_ReconSees n a1 a2 a3 a4=some r):PP Tryz.prog 3 [int a1,lst 1 fI a2,int a3,int a4] (fun y=>y=boo r):=by
 refine wt_pp mixed tbk (fun (r:Bool)=>boo r) h0 Tryz.func3 (fun r=>pvB r) 100000 ?_
 conv=>whnf
 refine .mk fun x5 e5=>?_
 conv=>whnf
 refine .mk fun x6 e6=>?_
 intro v7
 refine .mk ?_
 conv=>whnf
 refine .mk fun x8 e8=>?_
 conv=>whnf
 refine .mk fun x9 e9=>?_
 conv=>whnf
 refine .mk ?_ ?_
 intro v10
 intro v11
 conv=>whnf
 refine .mk fun p12=>?_
 conv=>whnf
 refine .mk _ ⟨fun _=>yl_app0T (g:=GEnt.av) (m:=x6.Ents) 4 rfl Tryz.underlying26 bz39 by39 rfl rfl rfl rfl (.refl _) GEnt.one p12,fun _ _ _=>trivial⟩ ?_
 rintro _ _ ⟨v13,rfl,rfl⟩
 conv=>whnf
 refine .mk fun x14 e14=>?_
 conv=>whnf
 refine .mk _ (agr (yv_ixO rfl Tryz.underlying26 sh39 rfl rfl rfl rfl rfl (Eq.symm rfl) (List.length_map _) e14)) ?_
 refine .mk ?_
 conv=>whnf
 refine .mk _ (fun H hH _=>yv_nilCheck rfl rfl (.pt ((hH _ (by decide)).trans rfl) rfl (ix_get' e14 (GEnt.av_eq _)))) ?_
 conv=>whnf
 refine .mk _ (fun H hH _=>yv_fieldAddr rfl fo39_2 rfl (.pt ((hH _ (by decide)).trans rfl) rfl (ix_get' e14 (GEnt.av_eq _))) (.pt _ _ _ _ _)) ?_
 conv=>whnf
 refine .mk _ (fun H hH _=>yv_load rfl sh36 rfl (.pt ((hH _ (by decide)).trans rfl) rfl (ix_get' e14 (GEnt.av_eq _))) rfl) ?_
 conv=>whnf
 refine .mk _ (fun H hH _=>yv_nilCheck rfl rfl (.pt ((hH _ (by decide)).trans rfl) rfl (ix_get' e14 (GEnt.av_eq _)))) ?_
 conv=>whnf
 refine .mk _ (fun H hH _=>yv_fieldAddr rfl fo39_3 rfl (.pt ((hH _ (by decide)).trans rfl) rfl (ix_get' e14 (GEnt.av_eq _))) (.pt _ _ _ _ _)) ?_
 conv=>whnf
 refine .mk _ (fun H hH _=>yv_load rfl sh22 rfl (.pt ((hH _ (by decide)).trans rfl) rfl (ix_get' e14 (GEnt.av_eq _))) rfl) ?_
 conv=>whnf
 refine .mk _ (fun H hH _=>yv_nilCheck rfl rfl (.pt ((hH _ (by decide)).trans rfl) rfl (ix_get' e14 (GEnt.av_eq _)))) ?_
 conv=>whnf
 refine .mk _ (fun H hH _=>yv_fieldAddr rfl fo39_4 rfl (.pt ((hH _ (by decide)).trans rfl) rfl (ix_get' e14 (GEnt.av_eq _))) (.pt _ _ _ _ _)) ?_
 conv=>whnf
 refine .mk _ (fun H hH _=>yv_load rfl sh37 rfl (.pt ((hH _ (by decide)).trans rfl) rfl (ix_get' e14 (GEnt.av_eq _))) rfl) ?_
 conv=>whnf
 refine .mk fun p15=>?_
 conv=>whnf
 refine .mk _ ⟨fun _=>yl_app0T (g:=GPool.av) (m:=x14.Pools) 5 rfl Tryz.underlying36 bz57 by57 rfl rfl rfl rfl (.refl _) (fun _=>rfl) p15,by rintro _ _ ⟨v16,rfl,rfl⟩;exact ⟨rfl,trivial⟩⟩ ?_
 rintro _ _ ⟨v16,rfl,rfl⟩
 conv=>whnf
 refine .mk fun p17=>?_
 conv=>whnf
 refine .mk _ ⟨fun _=>yl_app0T (g:=fI) (m:=x14.Bal) 6 rfl Tryz.underlying22 bz3 by3 rfl rfl rfl rfl (.refl _) (fun _=>rfl) p17,by rintro _ _ ⟨v18,rfl,rfl⟩;exact ⟨rfl,trivial⟩⟩ ?_
 rintro _ _ ⟨v18,rfl,rfl⟩
 conv=>whnf
 refine .mk fun p19=>?_
 conv=>whnf
 refine .mk _ ⟨fun _=>yl_app0T (g:=GRoll.av) (m:=x14.Rolls) 7 rfl Tryz.underlying37 bz83 by83 rfl rfl rfl rfl (.refl _) (fun _=>rfl) p19,by rintro _ _ ⟨v20,rfl,rfl⟩;exact trivial⟩ ?_
 rintro _ _ ⟨v20,rfl,rfl⟩
 conv=>whnf
 refine .mk _ (fun H hH _=>yv_nilCheck rfl rfl (.pt ((hH _ (by decide)).trans rfl) rfl (ix_get' e14 (GEnt.av_eq _)))) ?_
 conv=>whnf
 refine .mk _ (fun H hH _=>yv_fieldAddr rfl fo39_2 rfl (.pt ((hH _ (by decide)).trans rfl) rfl (ix_get' e14 (GEnt.av_eq _))) (.pt _ _ _ _ _)) ?_
 conv=>whnf
 refine .mk _ ⟨fun _=>Yield.weak (yl_ob (ob':=(⟨39,8,true,true,_,(x6.Ents.map GEnt.av).set (Int.toNat x8) [int x14.Now,boo x14.Closed,.sl 5 v16 0 x14.Pools.length,lst 1 fI x14.Bal,lst 11 GRoll.av x14.Rolls,lst 1 fI x14.Prices,lst 1 fI x14.Down,lst 8 GEnt.av x14.Ahead]⟩:AObj)) (yl_store rfl sh36 rfl rfl rfl rfl rfl (ix_get' e14 (GEnt.av_eq _)) rfl rfl rfl) (ob_eq rfl)) (fun _ h=>h) (fun _ _=>trivial),by rintro _ _ ⟨rfl,rfl⟩;exact trivial⟩ ?_
 rintro _ _ ⟨rfl,rfl⟩
 conv=>whnf
 refine .mk _ (fun H hH _=>yv_nilCheck rfl rfl (.pt ((hH _ (by decide)).trans rfl) rfl (set_get e14))) ?_
 conv=>whnf
 refine .mk _ (fun H hH _=>yv_fieldAddr rfl fo39_3 rfl (.pt ((hH _ (by decide)).trans rfl) rfl (set_get e14)) (.pt _ _ _ _ _)) ?_
 conv=>whnf
 refine .mk _ ⟨fun _=>Yield.weak (yl_ob (ob':=(⟨39,8,true,true,_,(x6.Ents.map GEnt.av).set (Int.toNat x8) [int x14.Now,boo x14.Closed,.sl 5 v16 0 x14.Pools.length,.sl 6 v18 0 x14.Bal.length,lst 11 GRoll.av x14.Rolls,lst 1 fI x14.Prices,lst 1 fI x14.Down,lst 8 GEnt.av x14.Ahead]⟩:AObj)) (yl_store rfl sh22 rfl rfl rfl rfl rfl (set_get e14) rfl rfl rfl) (ob_eq set_setV)) (fun _ h=>h) (fun _ _=>trivial),by rintro _ _ ⟨rfl,rfl⟩;exact trivial⟩ ?_
 rintro _ _ ⟨rfl,rfl⟩
 conv=>whnf
 refine .mk _ (fun H hH _=>yv_nilCheck rfl rfl (.pt ((hH _ (by decide)).trans rfl) rfl (set_get e14))) ?_
 conv=>whnf
 refine .mk _ (fun H hH _=>yv_fieldAddr rfl fo39_4 rfl (.pt ((hH _ (by decide)).trans rfl) rfl (set_get e14)) (.pt _ _ _ _ _)) ?_
 conv=>whnf
 refine .mk _ ⟨fun _=>Yield.weak (yl_ob (ob':=(⟨39,8,true,true,_,(x6.Ents.map GEnt.av).set (Int.toNat x8) [int x14.Now,boo x14.Closed,.sl 5 v16 0 x14.Pools.length,.sl 6 v18 0 x14.Bal.length,.sl 7 v20 0 x14.Rolls.length,lst 1 fI x14.Prices,lst 1 fI x14.Down,lst 8 GEnt.av x14.Ahead]⟩:AObj)) (yl_store rfl sh37 rfl rfl rfl rfl rfl (set_get e14) rfl rfl rfl) (ob_eq set_setV)) (fun _ h=>h) (fun _ _=>trivial),by rintro _ _ ⟨rfl,rfl⟩;exact trivial⟩ ?_
 rintro _ _ ⟨rfl,rfl⟩
 refine .mk ?_
 conv=>whnf
 refine .mk _ (fun H hH _=>yv_nilCheck rfl rfl (.pt ((hH _ (by decide)).trans rfl) rfl (set_get e14))) ?_
 conv=>whnf
 refine .mk _ (fun H hH _=>yv_fieldAddr rfl fo39_5 rfl (.pt ((hH _ (by decide)).trans rfl) rfl (set_get e14)) (.pt _ _ _ _ _)) ?_
 conv=>whnf
 refine .mk _ (fun H hH _=>yv_load rfl sh22 rfl (.pt ((hH _ (by decide)).trans rfl) rfl (set_get e14)) rfl) ?_
 conv=>whnf
 refine .mk _ (fun H hH _=>yv_nilCheck rfl rfl (.pt ((hH _ (by decide)).trans rfl) rfl (set_get e14))) ?_
 conv=>whnf
 refine .mk _ (fun H hH _=>yv_fieldAddr rfl fo39_6 rfl (.pt ((hH _ (by decide)).trans rfl) rfl (set_get e14)) (.pt _ _ _ _ _)) ?_
 conv=>whnf
 refine .mk _ (fun H hH _=>yv_load rfl sh22 rfl (.pt ((hH _ (by decide)).trans rfl) rfl (set_get e14)) rfl) ?_
 conv=>whnf
 refine .mk fun p21=>?_
 conv=>whnf
 refine .mk _ ⟨fun _=>yl_app0T (g:=fI) (m:=x14.Prices) 8 rfl Tryz.underlying22 bz3 by3 rfl rfl rfl rfl (.refl _) (fun _=>rfl) p21,by rintro _ _ ⟨v22,rfl,rfl⟩;exact ⟨rfl,trivial⟩⟩ ?_
 rintro _ _ ⟨v22,rfl,rfl⟩
 conv=>whnf
 refine .mk fun p23=>?_
 conv=>whnf
 refine .mk _ ⟨fun _=>yl_app0T (g:=fI) (m:=x14.Down) 9 rfl Tryz.underlying22 bz3 by3 rfl rfl rfl rfl (.refl _) (fun _=>rfl) p23,by rintro _ _ ⟨v24,rfl,rfl⟩;exact trivial⟩ ?_
 rintro _ _ ⟨v24,rfl,rfl⟩
 conv=>whnf
 refine .mk _ (fun H hH _=>yv_nilCheck rfl rfl (.pt ((hH _ (by decide)).trans rfl) rfl (set_get e14))) ?_
 conv=>whnf
 refine .mk _ (fun H hH _=>yv_fieldAddr rfl fo39_5 rfl (.pt ((hH _ (by decide)).trans rfl) rfl (set_get e14)) (.pt _ _ _ _ _)) ?_
 conv=>whnf
 refine .mk _ ⟨fun _=>Yield.weak (yl_ob (ob':=(⟨39,8,true,true,_,(x6.Ents.map GEnt.av).set (Int.toNat x8) [int x14.Now,boo x14.Closed,.sl 5 v16 0 x14.Pools.length,.sl 6 v18 0 x14.Bal.length,.sl 7 v20 0 x14.Rolls.length,.sl 8 v22 0 x14.Prices.length,lst 1 fI x14.Down,lst 8 GEnt.av x14.Ahead]⟩:AObj)) (yl_store rfl sh22 rfl rfl rfl rfl rfl (set_get e14) rfl rfl rfl) (ob_eq set_setV)) (fun _ h=>h) (fun _ _=>trivial),by rintro _ _ ⟨rfl,rfl⟩;exact trivial⟩ ?_
 rintro _ _ ⟨rfl,rfl⟩
 conv=>whnf
 refine .mk _ (fun H hH _=>yv_nilCheck rfl rfl (.pt ((hH _ (by decide)).trans rfl) rfl (set_get e14))) ?_
 conv=>whnf
 refine .mk _ (fun H hH _=>yv_fieldAddr rfl fo39_6 rfl (.pt ((hH _ (by decide)).trans rfl) rfl (set_get e14)) (.pt _ _ _ _ _)) ?_
 conv=>whnf
 refine .mk _ ⟨fun _=>Yield.weak (yl_ob (ob':=(⟨39,8,true,true,_,(x6.Ents.map GEnt.av).set (Int.toNat x8) [int x14.Now,boo x14.Closed,.sl 5 v16 0 x14.Pools.length,.sl 6 v18 0 x14.Bal.length,.sl 7 v20 0 x14.Rolls.length,.sl 8 v22 0 x14.Prices.length,.sl 9 v24 0 x14.Down.length,lst 8 GEnt.av x14.Ahead]⟩:AObj)) (yl_store rfl sh22 rfl rfl rfl rfl rfl (set_get e14) rfl rfl rfl) (ob_eq set_setV)) (fun _ h=>h) (fun _ _=>trivial),by rintro _ _ ⟨rfl,rfl⟩;exact trivial⟩ ?_
 rintro _ _ ⟨rfl,rfl⟩
 exact .mk
 rintro ⟨y0_2,y0_3,y0_9,y0_10,y0_11,y0_12,y0_13,y0_14⟩ _
 conv=>whnf
 refine .mk trivial ?_
 conv=>whnf
 refine .mk fun x25 e25=>?_
 intro v26
 conv=>whnf
 refine .mk _ (agr (yv_ixO rfl Tryz.underlying26 sh39 rfl rfl rfl rfl rfl (Eq.symm rfl) len_ov e25)) ?_
 conv=>whnf
 refine .mk _ (agr (yv_fieldAddr rfl fo39_3 rfl (.pt rfl rfl (set_get e25)) (.pt _ _ _ _ _))) ?_
 conv=>whnf
 refine .mk _ (agr (yv_load rfl sh22 rfl (.pt rfl rfl (set_get e25)) rfl)) ?_
 conv=>whnf
 refine .mk fun x27 e27=>?_
 conv=>whnf
 refine .mk _ (agr (yv_ixO rfl Tryz.underlying22 sh3 rfl rfl rfl rfl rfl (Eq.symm rfl) (List.length_map _) e27)) ?_
 conv=>whnf
 refine .mk _ (agr (yv_load rfl sh3 rfl (.pt rfl rfl (ix_get e27)) rfl)) ?_
 conv=>whnf
 refine .mk fun x28=>?_
 conv=>whnf
 refine .mk _ (agr (yv_ixO rfl Tryz.underlying22 sh3 rfl rfl rfl rfl rfl (Eq.symm rfl) (List.length_map _) e27)) ?_
 conv=>whnf
 refine .mk fun x29 e29=>?_
 have fx29:=ix_set e27 e29;have lx29:=len_setV e29 (rfl:y0_11.length=y0_11.length)
 conv=>whnf
 refine .mk _ ⟨fun _=>Yield.weak (yl_ob (ob':=(⟨3,1,true,true,_,x29.map fI⟩:AObj)) (yl_store rfl sh3 rfl rfl rfl rfl rfl (ix_get e27) rfl rfl rfl) (ob_eq (map_setV e29))) (fun _ h=>h) (fun _ _=>trivial),fun _ _ _=>trivial⟩ ?_
 rintro _ _ ⟨rfl,rfl⟩
 conv=>whnf
 refine .mk ?_ ?_
 conv=>whnf
 refine .mk (fun x30 e30=>?_) rfl (by rintro _ rfl;exact (.cons (CvL.agg (.cons (.refl _) (.cons (.refl _) (.cons (.refl _) (.cons (.refl _) (.cons (.refl _) (.cons (cv_ov rfl rfl rfl rfl rfl (Eq.symm rfl) e25 (cvl_to (.cons (.refl _) (.cons (.refl _) (.cons (cv_lst rfl rfl rfl rfl rfl (Eq.symm rfl)) (.cons (cv_lst rfl rfl rfl rfl rfl (Eq.symm lx29)) (.cons (cv_lst rfl rfl rfl rfl rfl (Eq.symm rfl)) (.cons (cv_lst rfl rfl rfl rfl rfl (Eq.symm rfl)) (.cons (cv_lst rfl rfl rfl rfl rfl (Eq.symm rfl)) (.cons (.refl _) .nil)))))))) (GEnt.av_eq _))) (.cons (.refl _) (.cons (.refl _) (.cons (.refl _) (.cons (.refl _) .nil))))))))))) (.cons (.refl _) .nil)))
 refine .mk .mk ?_
 conv=>whnf
 refine .mk (fun x31 e31=>?_) rfl (by rintro _ rfl;exact (.cons (CvL.agg (.cons (.refl _) (.cons (.refl _) (.cons (.refl _) (.cons (.refl _) (.cons (.refl _) (.cons (cv_ov rfl rfl rfl rfl rfl (Eq.symm rfl) e25 (cvl_to (.cons (.refl _) (.cons (.refl _) (.cons (cv_lst rfl rfl rfl rfl rfl (Eq.symm rfl)) (.cons (cv_lst rfl rfl rfl rfl rfl (Eq.symm lx29)) (.cons (cv_lst rfl rfl rfl rfl rfl (Eq.symm rfl)) (.cons (cv_lst rfl rfl rfl rfl rfl (Eq.symm rfl)) (.cons (cv_lst rfl rfl rfl rfl rfl (Eq.symm rfl)) (.cons (.refl _) .nil)))))))) (GEnt.av_eq _))) (.cons (.refl _) (.cons (.refl _) (.cons (.refl _) (.cons (.refl _) .nil))))))))))) .nil))
 refine .mk .mk ?_
 conv=>whnf
 refine .mk fun x32 e32=>?_
 conv=>whnf
 refine .mk fun x33=>?_
 exact .mk
 intro _ _
 refine .mk .mk ?_
 conv=>whnf
 refine .mk ?_ ?_
 conv=>whnf
 refine .mk (fun x34 e34=>?_) rfl (by rintro _ rfl;exact (.cons (CvL.agg (.cons (.refl _) (.cons (.refl _) (.cons (.refl _) (.cons (.refl _) (.cons (.refl _) (.cons (cv_ov rfl rfl rfl rfl rfl (Eq.symm rfl) e25 (cvl_to (.cons (.refl _) (.cons (.refl _) (.cons (cv_lst rfl rfl rfl rfl rfl (Eq.symm rfl)) (.cons (cv_lst rfl rfl rfl rfl rfl (Eq.symm lx29)) (.cons (cv_lst rfl rfl rfl rfl rfl (Eq.symm rfl)) (.cons (cv_lst rfl rfl rfl rfl rfl (Eq.symm rfl)) (.cons (cv_lst rfl rfl rfl rfl rfl (Eq.symm rfl)) (.cons (.refl _) .nil)))))))) (GEnt.av_eq _))) (.cons (.refl _) (.cons (.refl _) (.cons (.refl _) (.cons (.refl _) .nil))))))))))) (.cons (.refl _) .nil)))
 conv=>whnf
 refine .mk fun x35=>?_
 conv=>whnf
 refine .mk fun x36 e36=>?_
 conv=>whnf
 refine .mk _ (agr (yv_to (y:=boo x36) (yv_beql rfl Tryz.underlying4 rfl rfl) (congrArg boo e36))) ?_
 conv=>whnf
 refine .mk ?_ ?_
 conv=>whnf
 refine .mk (fun x37 e37=>?_) rfl (by rintro _ rfl;exact (.cons (CvL.agg (.cons (.refl _) (.cons (.refl _) (.cons (.refl _) (.cons (.refl _) (.cons (.refl _) (.cons (cv_ov rfl rfl rfl rfl rfl (Eq.symm rfl) e25 (cvl_to (.cons (.refl _) (.cons (.refl _) (.cons (cv_lst rfl rfl rfl rfl rfl (Eq.symm rfl)) (.cons (cv_lst rfl rfl rfl rfl rfl (Eq.symm lx29)) (.cons (cv_lst rfl rfl rfl rfl rfl (Eq.symm rfl)) (.cons (cv_lst rfl rfl rfl rfl rfl (Eq.symm rfl)) (.cons (cv_lst rfl rfl rfl rfl rfl (Eq.symm rfl)) (.cons (.refl _) .nil)))))))) (GEnt.av_eq _))) (.cons (.refl _) (.cons (.refl _) (.cons (.refl _) (.cons (.refl _) .nil))))))))))) (.cons (.refl _) .nil)))
 conv=>whnf
 refine .mk fun x38=>?_
 conv=>whnf
 refine .mk fun x39 e39=>?_
 conv=>whnf
 refine .mk _ (agr (yv_to (y:=boo x39) (yv_beql rfl Tryz.underlying4 rfl rfl) (congrArg boo e39))) ?_
 conv=>whnf
 refine .mk ?_ ?_
 conv=>whnf
 refine .mk (fun x40 e40=>?_) rfl (by rintro _ rfl;exact (.cons (CvL.agg (.cons (.refl _) (.cons (.refl _) (.cons (.refl _) (.cons (.refl _) (.cons (.refl _) (.cons (cv_ov rfl rfl rfl rfl rfl (Eq.symm rfl) e25 (cvl_to (.cons (.refl _) (.cons (.refl _) (.cons (cv_lst rfl rfl rfl rfl rfl (Eq.symm rfl)) (.cons (cv_lst rfl rfl rfl rfl rfl (Eq.symm lx29)) (.cons (cv_lst rfl rfl rfl rfl rfl (Eq.symm rfl)) (.cons (cv_lst rfl rfl rfl rfl rfl (Eq.symm rfl)) (.cons (cv_lst rfl rfl rfl rfl rfl (Eq.symm rfl)) (.cons (.refl _) .nil)))))))) (GEnt.av_eq _))) (.cons (.refl _) (.cons (.refl _) (.cons (.refl _) (.cons (.refl _) .nil))))))))))) (.cons (.refl _) .nil)))
 conv=>whnf
 refine .mk fun x41=>?_
 conv=>whnf
 refine .mk fun x42 e42=>?_
 conv=>whnf
 refine .mk _ (agr (yv_to (y:=boo x42) (yv_beql rfl Tryz.underlying4 rfl rfl) (congrArg boo e42))) ?_
 conv=>whnf
 refine .mk ?_ ?_
 conv=>whnf
 refine .mk (fun x43 e43=>?_) rfl (by rintro _ rfl;exact (.cons (CvL.agg (.cons (.refl _) (.cons (.refl _) (.cons (.refl _) (.cons (.refl _) (.cons (.refl _) (.cons (cv_ov rfl rfl rfl rfl rfl (Eq.symm rfl) e25 (cvl_to (.cons (.refl _) (.cons (.refl _) (.cons (cv_lst rfl rfl rfl rfl rfl (Eq.symm rfl)) (.cons (cv_lst rfl rfl rfl rfl rfl (Eq.symm lx29)) (.cons (cv_lst rfl rfl rfl rfl rfl (Eq.symm rfl)) (.cons (cv_lst rfl rfl rfl rfl rfl (Eq.symm rfl)) (.cons (cv_lst rfl rfl rfl rfl rfl (Eq.symm rfl)) (.cons (.refl _) .nil)))))))) (GEnt.av_eq _))) (.cons (.refl _) (.cons (.refl _) (.cons (.refl _) (.cons (.refl _) .nil))))))))))) (.cons (.refl _) .nil)))
 conv=>whnf
 refine .mk fun x44=>?_
 conv=>whnf
 refine .mk fun x45 e45=>?_
 conv=>whnf
 refine .mk _ (agr (yv_to (y:=boo x45) (yv_beql rfl Tryz.underlying4 rfl rfl) (congrArg boo e45))) ?_
 conv=>whnf
 refine .mk ?_ ?_
 conv=>whnf
 refine .mk (fun x46 e46=>?_) rfl (by rintro _ rfl;exact (.cons (CvL.agg (.cons (.refl _) (.cons (.refl _) (.cons (.refl _) (.cons (.refl _) (.cons (.refl _) (.cons (cv_ov rfl rfl rfl rfl rfl (Eq.symm rfl) e25 (cvl_to (.cons (.refl _) (.cons (.refl _) (.cons (cv_lst rfl rfl rfl rfl rfl (Eq.symm rfl)) (.cons (cv_lst rfl rfl rfl rfl rfl (Eq.symm lx29)) (.cons (cv_lst rfl rfl rfl rfl rfl (Eq.symm rfl)) (.cons (cv_lst rfl rfl rfl rfl rfl (Eq.symm rfl)) (.cons (cv_lst rfl rfl rfl rfl rfl (Eq.symm rfl)) (.cons (.refl _) .nil)))))))) (GEnt.av_eq _))) (.cons (.refl _) (.cons (.refl _) (.cons (.refl _) (.cons (.refl _) .nil))))))))))) .nil))
 conv=>whnf
 refine .mk fun x47=>?_
 conv=>whnf
 refine .mk ?_ ?_
 conv=>whnf
 refine .mk fun x48=>?_
 conv=>whnf
 refine .mk fun x49 e49=>?_
 conv=>whnf
 refine .mk _ (agr (yv_to (y:=boo x49) (yv_beql rfl Tryz.underlying4 rfl rfl) (congrArg boo e49))) ?_
 conv=>whnf
 refine .mk ?_ ?_
 conv=>whnf
 refine .mk fun x50 e50=>?_
 exact .mk
 conv=>whnf
 exact .mk
 conv=>whnf
 refine .mk fun x51 e51=>?_
 conv=>whnf
 refine .mk _ (agr (yv_to (y:=boo x51) (yv_beql rfl Tryz.underlying4 rfl rfl) (congrArg boo e51))) ?_
 conv=>whnf
 refine .mk ?_ ?_
 conv=>whnf
 refine .mk fun x52 e52=>?_
 exact .mk
 conv=>whnf
 exact .mk
 exact .mk
 conv=>whnf
 exact .mk
 exact .mk
 conv=>whnf
 exact .mk
 intro _ _
 exact .mk
end
end Go.Pv
