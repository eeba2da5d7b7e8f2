import Derived.Test.YtfbohcojaajpfaaGreatX70h
set_option linter.unusedVariables false
namespace Go.Pv
open Go.Proofs
set_option maxRecDepth 100000
set_option maxHeartbeats 4000000
noncomputable section
noncomputable def t_law24_ReconStrangers (n:Nat) (a1:Int) (a2:List Int) (a3:Int):WT Tryz.prog (.b (Bool)) :=
 .cl 12 (d_law00_Master n a1) cal8 d_law00_Master_c fun x4 =>
 .cl 14 (d_law00_State n x4 a2) cal7 d_law00_State_c fun x5 =>
 .al 1<|
 .dr [(0,[1]),(1,[1])] [] [1] [] [0,1,2,3,4,5,6] (.ln 17 GEnt.av x5.Ents<|
 .cl 19 (d_law00_Place a3 100) cal9 d_law00_Place_c fun x7 =>
 .bI 20 (w64 ((x5.Ents.length:Int)+x7)) fun x8 =>
 .dr [(0,[1]),(1,[1]),(2,[1])] [] [1] [] [0,1,2,3,4,5,6,7] (.ln 24 fI x5.Master.Weights<|
 .cl 26 (d_law00_Place a3 100) cal9 d_law00_Place_c fun x9 =>
 .bI 27 (w64 ((x5.Master.Weights.length:Int)+x9)) fun x10 =>
 .inl 29 cal10 Tryz.func10 [1] [4,5,6,7,8,9] (fun u2 (a:Int×Bool×(List GEnt)×(List GPool)×(List Int)×(List GRoll)×(List Int)×(List Int))=>.agg [int x5.Master.Entities,int x5.Master.Periods,lst 1 fI x5.Master.Weights,lst 1 (fL 1 fI) x5.Master.Methods,lst 1 (fL 1 fI) x5.Master.Costs,.sl 4 (u2 4) 0 x5.Ents.length,lst 8 GReceipt.av x5.Receipts,lst 9 GSale.av x5.Sales,lst 6 GTransit.av x5.Transits,int x5.Done]) (fun u2 a=>[.nw 4 39 8 ((x5.Ents.map GEnt.av).set (Int.toNat 0) [int a.1,boo a.2.1,.sl 5 (u2 5) 0 a.2.2.2.1.length,.sl 6 (u2 6) 0 a.2.2.2.2.1.length,.sl 7 (u2 7) 0 a.2.2.2.2.2.1.length,.sl 8 (u2 8) 0 a.2.2.2.2.2.2.1.length,.sl 9 (u2 9) 0 a.2.2.2.2.2.2.2.length,lst 8 GEnt.av a.2.2.1]),.nw 5 57 4 (a.2.2.2.1.map GPool.av),.nw 6 3 1 (a.2.2.2.2.1.map fI),.nw 7 83 11 (a.2.2.2.2.2.1.map GRoll.av),.nw 8 3 1 (a.2.2.2.2.2.2.1.map fI),.nw 9 3 1 (a.2.2.2.2.2.2.2.map fI)]) (.al 2<|
 .al 3<|
 .as (x5.Ents.length≤68719476736) inferInstance<|
 .ge 8<|
 .bo (ix x5.Ents 0) fun x15 =>
 .gv 13<|
 .dr [(4,[4]),(5,[4]),(6,[4]),(9,[4]),(10,[4]),(11,[4]),(14,[4]),(15,[4]),(16,[4]),(18,[4]),(19,[4]),(21,[4]),(22,[4]),(24,[4]),(25,[4])] [(17,[]),(20,[]),(23,[]),(26,[])] [4] [7,12,17,20,23,26] [0,1,2,3,4,5,6,8,9,10,11,13,14,15,16,7,12,17,18,19,20,21,22,23,24,25,26] (.gv 18<|
 .gv 19<|
 .gv 20<|
 .gv 23<|
 .gv 24<|
 .gv 25<|
 .gv 28<|
 .gv 29<|
 .gv 30<|
 .as (x15.Pools.length≤68719476736) inferInstance<|
 .ge 21<|
 .as (x15.Bal.length≤68719476736) inferInstance<|
 .ge 26<|
 .as (x15.Rolls.length≤68719476736) inferInstance<|
 .ge 31<|
 .gv 32<|
 .gv 33<|
 .ge 1003020<|
 .gv 34<|
 .gv 35<|
 .ge 1003023<|
 .gv 36<|
 .gv 37<|
 .ge 1003026<|
 .dr [(3,[4]),(4,[4]),(5,[4]),(8,[4]),(9,[4]),(10,[4]),(12,[4]),(13,[4]),(15,[4]),(16,[4])] [(11,[]),(14,[]),(17,[])] [4] [6,11,14,17] [0,1,2,3,4,5,7,8,9,10,6,11,12,13,14,15,16,17] (.gv 41<|
 .gv 42<|
 .gv 43<|
 .gv 46<|
 .gv 47<|
 .gv 48<|
 .as (x15.Prices.length≤68719476736) inferInstance<|
 .ge 44<|
 .as (x15.Down.length≤68719476736) inferInstance<|
 .ge 49<|
 .gv 50<|
 .gv 51<|
 .ge 1004014<|
 .gv 52<|
 .gv 53<|
 .ge 1004017<|
 .ret ((x15.Now:Int),(x15.Closed:Bool),(x15.Ahead:List GEnt),(x15.Pools:List GPool),(x15.Bal:List Int),(x15.Rolls:List GRoll),(x15.Prices:List Int),(x15.Down:List Int))))) (pw fun y0_2 q0=>(pw fun y0_3 q1=>(pw fun y0_9 q2=>(pw fun y0_10 q3=>(pw fun y0_11 q4=>(pw fun y0_12 q5=>(pw fun y0_13 y0_14 =>
 .bo (ix x5.Ents 0) fun x26 =>
 .al 10<|
 .gv 32<|
 .gv 33<|
 .ge 1005004<|
 .jn 0 [] [] [] (fun _ (a:Bool)=>[(6,boo a)]) (fun _ _=>[]) (.cl 36 (d_recon_Control n x5 x8) cal13 d_recon_Control_c fun x28 =>
 .bB 37 (!x28) fun x29 =>
 .ifs [37] x29 (.cl 41 (d_recon_Accrued n x5 x8) cal14 d_recon_Accrued_c fun x30 =>
 .bB 42 (!x30) fun x31 =>
 .ifs [42] x31 (.bI 47 (w64 ((-1)-x8)) fun x32 =>
 .cl 48 (d_recon_Way n x5 x32) cal15 d_recon_Way_c fun x33 =>
 .bB 49 (!x33) fun x34 =>
 .ifs [49] x34 (.cl 54 (d_recon_Written n x5 x8) cal16 d_recon_Written_c fun x35 =>
 .bB 55 (!x35) fun x36 =>
 .ifs [55] x36 (.cl 60 (d_recon_Balanced n x5 x8) cal11 d_recon_Balanced_c fun x37 =>
 .bB 61 (!x37) fun x38 =>
 .ifs [61] x38 (.cl 66 (d_recon_Rolled n x5 x8 0) cal19 d_recon_Rolled_c fun x39 =>
 .bB 67 (!x39) fun x40 =>
 .ifs [67] x40 (.cl 72 (d_recon_Rolled n x5 0 x10) cal19 d_recon_Rolled_c fun x41 =>
 .bB 73 (!x41) fun x42 =>
 .ifs [73] x42 (.bI 78 (w64 (0-x10)) fun x43 =>
 .cl 79 (d_recon_Rolled n x5 0 x43) cal19 d_recon_Rolled_c fun x44 =>
 .bB 80 (!x44) fun x45 =>
 .ifs [80] x45 (.clT 84 (d_recon_Right n (⟨x5.Master,(x5.Ents.set (Int.toNat 0) (⟨0,y0_3,y0_10,y0_11,y0_12,y0_13,y0_14,y0_9⟩:GEnt)),x5.Receipts,x5.Sales,x5.Transits,x5.Done⟩:GState)) cal12 d_recon_Right_c (fun _=>rfl) fun x46 =>
 .bB 85 (!x46) fun x47 =>
 .ifs [85] x47 (.cl 89 (d_recon_Right n x5) cal12 d_recon_Right_c fun x48 =>
 .ifs [89] x48 (.cl 92 (d_law24_awake n) cal18 d_law24_awake_c fun x49 =>
 .ret x49) (.ret (false:Bool))) (.ret (false:Bool))) (.ret (false:Bool))) (.ret (false:Bool))) (.ret (false:Bool))) (.ret (false:Bool))) (.ret (false:Bool))) (.ret (false:Bool))) (.ret (false:Bool))) (.ret (false:Bool)))
  (fun y1_1 =>
 .ret (y1_1))) q5) q4) q3) q2) q1) q0)))
def d_law24_ReconStrangers (n:Nat) (a1:Int) (a2:List Int) (a3:Int):Option (Bool):=(t_law24_ReconStrangers n a1 a2 a3).run
theorem d_law24_ReconStrangers_c {n:Nat} {a1:Int} {a2:List Int} {a3:Int} {r:Bool} (h0:d_law24_ReconStrangers n a1 a2 a3=some r):PP Tryz.prog 4 [int a1,lst 1 fI a2,int a3] (fun y=>y=boo r):=by
 refine wt_pp mixed tbk (fun (r:Bool)=>boo r) h0 Tryz.func4 (fun r=>pvB r) 100000 ?_
 conv=>whnf
 refine .mk fun x4 e4=>?_
 conv=>whnf
 refine .mk fun x5 e5=>?_
 intro v6
 conv=>whnf
 refine .mk ?_
 conv=>whnf
 refine .mk ?_
 conv=>whnf
 refine .mk fun x7 e7=>?_
 conv=>whnf
 refine .mk fun x8=>?_
 conv=>whnf
 refine .mk ?_
 conv=>whnf
 refine .mk ?_
 conv=>whnf
 refine .mk fun x9 e9=>?_
 conv=>whnf
 refine .mk fun x10=>?_
 conv=>whnf
 refine .mk ?_ ?_
 intro v11
 intro v12
 conv=>whnf
 refine .mk fun p13=>?_
 conv=>whnf
 refine .mk _ ⟨fun _=>yl_app0T (g:=GEnt.av) (m:=x5.Ents) 4 rfl Tryz.underlying26 bz39 by39 rfl rfl rfl rfl (.refl _) GEnt.one p13,fun _ _ _=>trivial⟩ ?_
 rintro _ _ ⟨v14,rfl,rfl⟩
 conv=>whnf
 refine .mk fun x15 e15=>?_
 conv=>whnf
 refine .mk _ (agr (yv_ixO rfl Tryz.underlying26 sh39 rfl rfl rfl rfl rfl (Eq.symm rfl) (List.length_map _) e15)) ?_
 conv=>whnf
 refine .mk ?_
 conv=>whnf
 refine .mk _ (fun H hH _=>yv_nilCheck rfl rfl (.pt ((hH _ (by decide)).trans rfl) rfl (ix_get' e15 (GEnt.av_eq _)))) ?_
 conv=>whnf
 refine .mk _ (fun H hH _=>yv_fieldAddr rfl fo39_2 rfl (.pt ((hH _ (by decide)).trans rfl) rfl (ix_get' e15 (GEnt.av_eq _))) (.pt _ _ _ _ _)) ?_
 conv=>whnf
 refine .mk _ (fun H hH _=>yv_load rfl sh36 rfl (.pt ((hH _ (by decide)).trans rfl) rfl (ix_get' e15 (GEnt.av_eq _))) rfl) ?_
 conv=>whnf
 refine .mk _ (fun H hH _=>yv_nilCheck rfl rfl (.pt ((hH _ (by decide)).trans rfl) rfl (ix_get' e15 (GEnt.av_eq _)))) ?_
 conv=>whnf
 refine .mk _ (fun H hH _=>yv_fieldAddr rfl fo39_3 rfl (.pt ((hH _ (by decide)).trans rfl) rfl (ix_get' e15 (GEnt.av_eq _))) (.pt _ _ _ _ _)) ?_
 conv=>whnf
 refine .mk _ (fun H hH _=>yv_load rfl sh22 rfl (.pt ((hH _ (by decide)).trans rfl) rfl (ix_get' e15 (GEnt.av_eq _))) rfl) ?_
 conv=>whnf
 refine .mk _ (fun H hH _=>yv_nilCheck rfl rfl (.pt ((hH _ (by decide)).trans rfl) rfl (ix_get' e15 (GEnt.av_eq _)))) ?_
 conv=>whnf
 refine .mk _ (fun H hH _=>yv_fieldAddr rfl fo39_4 rfl (.pt ((hH _ (by decide)).trans rfl) rfl (ix_get' e15 (GEnt.av_eq _))) (.pt _ _ _ _ _)) ?_
 conv=>whnf
 refine .mk _ (fun H hH _=>yv_load rfl sh37 rfl (.pt ((hH _ (by decide)).trans rfl) rfl (ix_get' e15 (GEnt.av_eq _))) rfl) ?_
 conv=>whnf
 refine .mk fun p16=>?_
 conv=>whnf
 refine .mk _ ⟨fun _=>yl_app0T (g:=GPool.av) (m:=x15.Pools) 5 rfl Tryz.underlying36 bz57 by57 rfl rfl rfl rfl (.refl _) (fun _=>rfl) p16,by rintro _ _ ⟨v17,rfl,rfl⟩;exact ⟨rfl,trivial⟩⟩ ?_
 rintro _ _ ⟨v17,rfl,rfl⟩
 conv=>whnf
 refine .mk fun p18=>?_
 conv=>whnf
 refine .mk _ ⟨fun _=>yl_app0T (g:=fI) (m:=x15.Bal) 6 rfl Tryz.underlying22 bz3 by3 rfl rfl rfl rfl (.refl _) (fun _=>rfl) p18,by rintro _ _ ⟨v19,rfl,rfl⟩;exact ⟨rfl,trivial⟩⟩ ?_
 rintro _ _ ⟨v19,rfl,rfl⟩
 conv=>whnf
 refine .mk fun p20=>?_
 conv=>whnf
 refine .mk _ ⟨fun _=>yl_app0T (g:=GRoll.av) (m:=x15.Rolls) 7 rfl Tryz.underlying37 bz83 by83 rfl rfl rfl rfl (.refl _) (fun _=>rfl) p20,by rintro _ _ ⟨v21,rfl,rfl⟩;exact trivial⟩ ?_
 rintro _ _ ⟨v21,rfl,rfl⟩
 conv=>whnf
 refine .mk _ (fun H hH _=>yv_nilCheck rfl rfl (.pt ((hH _ (by decide)).trans rfl) rfl (ix_get' e15 (GEnt.av_eq _)))) ?_
 conv=>whnf
 refine .mk _ (fun H hH _=>yv_fieldAddr rfl fo39_2 rfl (.pt ((hH _ (by decide)).trans rfl) rfl (ix_get' e15 (GEnt.av_eq _))) (.pt _ _ _ _ _)) ?_
 conv=>whnf
 refine .mk _ ⟨fun _=>Yield.weak (yl_ob (ob':=(⟨39,8,true,true,_,(x5.Ents.map GEnt.av).set (Int.toNat 0) [int x15.Now,boo x15.Closed,.sl 5 v17 0 x15.Pools.length,lst 1 fI x15.Bal,lst 11 GRoll.av x15.Rolls,lst 1 fI x15.Prices,lst 1 fI x15.Down,lst 8 GEnt.av x15.Ahead]⟩:AObj)) (yl_store rfl sh36 rfl rfl rfl rfl rfl (ix_get' e15 (GEnt.av_eq _)) rfl rfl rfl) (ob_eq rfl)) (fun _ h=>h) (fun _ _=>trivial),by rintro _ _ ⟨rfl,rfl⟩;exact trivial⟩ ?_
 rintro _ _ ⟨rfl,rfl⟩
 conv=>whnf
 refine .mk _ (fun H hH _=>yv_nilCheck rfl rfl (.pt ((hH _ (by decide)).trans rfl) rfl (set_get e15))) ?_
 conv=>whnf
 refine .mk _ (fun H hH _=>yv_fieldAddr rfl fo39_3 rfl (.pt ((hH _ (by decide)).trans rfl) rfl (set_get e15)) (.pt _ _ _ _ _)) ?_
 conv=>whnf
 refine .mk _ ⟨fun _=>Yield.weak (yl_ob (ob':=(⟨39,8,true,true,_,(x5.Ents.map GEnt.av).set (Int.toNat 0) [int x15.Now,boo x15.Closed,.sl 5 v17 0 x15.Pools.length,.sl 6 v19 0 x15.Bal.length,lst 11 GRoll.av x15.Rolls,lst 1 fI x15.Prices,lst 1 fI x15.Down,lst 8 GEnt.av x15.Ahead]⟩:AObj)) (yl_store rfl sh22 rfl rfl rfl rfl rfl (set_get e15) rfl rfl rfl) (ob_eq set_setV)) (fun _ h=>h) (fun _ _=>trivial),by rintro _ _ ⟨rfl,rfl⟩;exact trivial⟩ ?_
 rintro _ _ ⟨rfl,rfl⟩
 conv=>whnf
 refine .mk _ (fun H hH _=>yv_nilCheck rfl rfl (.pt ((hH _ (by decide)).trans rfl) rfl (set_get e15))) ?_
 conv=>whnf
 refine .mk _ (fun H hH _=>yv_fieldAddr rfl fo39_4 rfl (.pt ((hH _ (by decide)).trans rfl) rfl (set_get e15)) (.pt _ _ _ _ _)) ?_
 conv=>whnf
 refine .mk _ ⟨fun _=>Yield.weak (yl_ob (ob':=(⟨39,8,true,true,_,(x5.Ents.map GEnt.av).set (Int.toNat 0) [int x15.Now,boo x15.Closed,.sl 5 v17 0 x15.Pools.length,.sl 6 v19 0 x15.Bal.length,.sl 7 v21 0 x15.Rolls.length,lst 1 fI x15.Prices,lst 1 fI x15.Down,lst 8 GEnt.av x15.Ahead]⟩:AObj)) (yl_store rfl sh37 rfl rfl rfl rfl rfl (set_get e15) rfl rfl rfl) (ob_eq set_setV)) (fun _ h=>h) (fun _ _=>trivial),by rintro _ _ ⟨rfl,rfl⟩;exact trivial⟩ ?_
 rintro _ _ ⟨rfl,rfl⟩
 conv=>whnf
 refine .mk ?_
 conv=>whnf
 refine .mk _ (fun H hH _=>yv_nilCheck rfl rfl (.pt ((hH _ (by decide)).trans rfl) rfl (set_get e15))) ?_
 conv=>whnf
 refine .mk _ (fun H hH _=>yv_fieldAddr rfl fo39_5 rfl (.pt ((hH _ (by decide)).trans rfl) rfl (set_get e15)) (.pt _ _ _ _ _)) ?_
 conv=>whnf
 refine .mk _ (fun H hH _=>yv_load rfl sh22 rfl (.pt ((hH _ (by decide)).trans rfl) rfl (set_get e15)) rfl) ?_
 conv=>whnf
 refine .mk _ (fun H hH _=>yv_nilCheck rfl rfl (.pt ((hH _ (by decide)).trans rfl) rfl (set_get e15))) ?_
 conv=>whnf
 refine .mk _ (fun H hH _=>yv_fieldAddr rfl fo39_6 rfl (.pt ((hH _ (by decide)).trans rfl) rfl (set_get e15)) (.pt _ _ _ _ _)) ?_
 conv=>whnf
 refine .mk _ (fun H hH _=>yv_load rfl sh22 rfl (.pt ((hH _ (by decide)).trans rfl) rfl (set_get e15)) rfl) ?_
 conv=>whnf
 refine .mk fun p22=>?_
 conv=>whnf
 refine .mk _ ⟨fun _=>yl_app0T (g:=fI) (m:=x15.Prices) 8 rfl Tryz.underlying22 bz3 by3 rfl rfl rfl rfl (.refl _) (fun _=>rfl) p22,by rintro _ _ ⟨v23,rfl,rfl⟩;exact ⟨rfl,trivial⟩⟩ ?_
 rintro _ _ ⟨v23,rfl,rfl⟩
 conv=>whnf
 refine .mk fun p24=>?_
 conv=>whnf
 refine .mk _ ⟨fun _=>yl_app0T (g:=fI) (m:=x15.Down) 9 rfl Tryz.underlying22 bz3 by3 rfl rfl rfl rfl (.refl _) (fun _=>rfl) p24,by rintro _ _ ⟨v25,rfl,rfl⟩;exact trivial⟩ ?_
 rintro _ _ ⟨v25,rfl,rfl⟩
 conv=>whnf
 refine .mk _ (fun H hH _=>yv_nilCheck rfl rfl (.pt ((hH _ (by decide)).trans rfl) rfl (set_get e15))) ?_
 conv=>whnf
 refine .mk _ (fun H hH _=>yv_fieldAddr rfl fo39_5 rfl (.pt ((hH _ (by decide)).trans rfl) rfl (set_get e15)) (.pt _ _ _ _ _)) ?_
 conv=>whnf
 refine .mk _ ⟨fun _=>Yield.weak (yl_ob (ob':=(⟨39,8,true,true,_,(x5.Ents.map GEnt.av).set (Int.toNat 0) [int x15.Now,boo x15.Closed,.sl 5 v17 0 x15.Pools.length,.sl 6 v19 0 x15.Bal.length,.sl 7 v21 0 x15.Rolls.length,.sl 8 v23 0 x15.Prices.length,lst 1 fI x15.Down,lst 8 GEnt.av x15.Ahead]⟩:AObj)) (yl_store rfl sh22 rfl rfl rfl rfl rfl (set_get e15) rfl rfl rfl) (ob_eq set_setV)) (fun _ h=>h) (fun _ _=>trivial),by rintro _ _ ⟨rfl,rfl⟩;exact trivial⟩ ?_
 rintro _ _ ⟨rfl,rfl⟩
 conv=>whnf
 refine .mk _ (fun H hH _=>yv_nilCheck rfl rfl (.pt ((hH _ (by decide)).trans rfl) rfl (set_get e15))) ?_
 conv=>whnf
 refine .mk _ (fun H hH _=>yv_fieldAddr rfl fo39_6 rfl (.pt ((hH _ (by decide)).trans rfl) rfl (set_get e15)) (.pt _ _ _ _ _)) ?_
 conv=>whnf
 refine .mk _ ⟨fun _=>Yield.weak (yl_ob (ob':=(⟨39,8,true,true,_,(x5.Ents.map GEnt.av).set (Int.toNat 0) [int x15.Now,boo x15.Closed,.sl 5 v17 0 x15.Pools.length,.sl 6 v19 0 x15.Bal.length,.sl 7 v21 0 x15.Rolls.length,.sl 8 v23 0 x15.Prices.length,.sl 9 v25 0 x15.Down.length,lst 8 GEnt.av x15.Ahead]⟩:AObj)) (yl_store rfl sh22 rfl rfl rfl rfl rfl (set_get e15) rfl rfl rfl) (ob_eq set_setV)) (fun _ h=>h) (fun _ _=>trivial),by rintro _ _ ⟨rfl,rfl⟩;exact trivial⟩ ?_
 rintro _ _ ⟨rfl,rfl⟩
 exact .mk
 rintro ⟨y0_2,y0_3,y0_9,y0_10,y0_11,y0_12,y0_13,y0_14⟩ u2
 conv=>whnf
 refine .mk trivial ?_
 conv=>whnf
 refine .mk fun x26 e26=>?_
 intro v27
 conv=>whnf
 refine .mk _ (agr (yv_ixO rfl Tryz.underlying26 sh39 rfl rfl rfl rfl rfl (Eq.symm rfl) len_ov e26)) ?_
 conv=>whnf
 refine .mk _ (agr (yv_fieldAddr rfl fo39_0 rfl (.pt rfl rfl (set_get e26)) (.pt _ _ _ _ _))) ?_
 conv=>whnf
 refine .mk _ ⟨fun _=>Yield.weak (yl_ob (ob':=(⟨39,8,true,true,_,(x5.Ents.map GEnt.av).set (Int.toNat 0) [int 0,boo y0_3,.sl 5 (u2 5) 0 y0_10.length,.sl 6 (u2 6) 0 y0_11.length,.sl 7 (u2 7) 0 y0_12.length,.sl 8 (u2 8) 0 y0_13.length,.sl 9 (u2 9) 0 y0_14.length,lst 8 GEnt.av y0_9]⟩:AObj)) (yl_store rfl sh3 rfl rfl rfl rfl rfl (set_get e26) rfl rfl rfl) (ob_eq set_setV)) (fun _ h=>h) (fun _ _=>trivial),fun _ _ _=>trivial⟩ ?_
 rintro _ _ ⟨rfl,rfl⟩
 conv=>whnf
 refine .mk ?_ ?_
 conv=>whnf
 refine .mk fun x28 e28=>?_
 conv=>whnf
 refine .mk fun x29=>?_
 conv=>whnf
 refine .mk ?_ ?_
 conv=>whnf
 refine .mk fun x30 e30=>?_
 conv=>whnf
 refine .mk fun x31=>?_
 conv=>whnf
 refine .mk ?_ ?_
 conv=>whnf
 refine .mk fun x32=>?_
 conv=>whnf
 refine .mk fun x33 e33=>?_
 conv=>whnf
 refine .mk fun x34=>?_
 conv=>whnf
 refine .mk ?_ ?_
 conv=>whnf
 refine .mk fun x35 e35=>?_
 conv=>whnf
 refine .mk fun x36=>?_
 conv=>whnf
 refine .mk ?_ ?_
 conv=>whnf
 refine .mk fun x37 e37=>?_
 conv=>whnf
 refine .mk fun x38=>?_
 conv=>whnf
 refine .mk ?_ ?_
 conv=>whnf
 refine .mk fun x39 e39=>?_
 conv=>whnf
 refine .mk fun x40=>?_
 conv=>whnf
 refine .mk ?_ ?_
 conv=>whnf
 refine .mk fun x41 e41=>?_
 conv=>whnf
 refine .mk fun x42=>?_
 conv=>whnf
 refine .mk ?_ ?_
 conv=>whnf
 refine .mk fun x43=>?_
 conv=>whnf
 refine .mk fun x44 e44=>?_
 conv=>whnf
 refine .mk fun x45=>?_
 conv=>whnf
 refine .mk ?_ ?_
 conv=>whnf
 refine .mk (fun x46 e46=>?_) rfl (by rintro _ rfl;exact (.cons (CvL.agg (.cons (.refl _) (.cons (.refl _) (.cons (.refl _) (.cons (.refl _) (.cons (.refl _) (.cons (cv_ov rfl rfl rfl rfl rfl (Eq.symm rfl) e26 (cvl_to (.cons (.refl _) (.cons (.refl _) (.cons (cv_lst rfl rfl rfl rfl rfl (Eq.symm rfl)) (.cons (cv_lst rfl rfl rfl rfl rfl (Eq.symm rfl)) (.cons (cv_lst rfl rfl rfl rfl rfl (Eq.symm rfl)) (.cons (cv_lst rfl rfl rfl rfl rfl (Eq.symm rfl)) (.cons (cv_lst rfl rfl rfl rfl rfl (Eq.symm rfl)) (.cons (.refl _) .nil)))))))) (GEnt.av_eq _))) (.cons (.refl _) (.cons (.refl _) (.cons (.refl _) (.cons (.refl _) .nil))))))))))) .nil))
 conv=>whnf
 refine .mk fun x47=>?_
 conv=>whnf
 refine .mk ?_ ?_
 conv=>whnf
 refine .mk fun x48 e48=>?_
 conv=>whnf
 refine .mk ?_ ?_
 conv=>whnf
 refine .mk fun x49 e49=>?_
 exact .mk
 conv=>whnf
 exact .mk
 exact .mk
 conv=>whnf
 exact .mk
 exact .mk
 conv=>whnf
 exact .mk
 exact .mk
 conv=>whnf
 exact .mk
 exact .mk
 conv=>whnf
 exact .mk
 exact .mk
 intro _ _
 exact .mk
end
end Go.Pv
