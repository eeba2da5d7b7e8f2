import Derived.Test.YtfbohcojaajpfaaGreatX70g
set_option linter.unusedVariables false
set_option linter.unusedSimpArgs false
namespace Go.Pv
open Go.Proofs
set_option maxRecDepth 100000
set_option maxHeartbeats 4000000
noncomputable section
noncomputable def t_fifo_Right (n:Nat) (a1:List GLayer):WT Tryz.prog (.b (Bool)) :=
 .jn 1 [0,2] [] [] (fun _ (a:Bool)=>[(11,boo a)]) (fun _ _=>[]) (.ln 6 GLayer.av a1<|
 .bB 7 (decide ((a1.length:Int)>30)) fun x2 =>
 .ifs [7] x2 (.ret (true:Bool)) (.inl 10 cal211 Tryz.func211 [] [] (fun _ (a:Bool)=>boo a) (fun _ _=>[]) (.inl 7 cal239 Tryz.func239 [] [] (fun _ (a:Int)=>int a) (fun _ _=>[]) (.ln 7 GLayer.av a1<|
 .jnE 0 [4] [] [] (fun _ (a:Unit)=>[]) (fun _ _=>[]) (.lp [0,1,4,7] [] [] (fun _ (a:Int)=>[(8,int a)]) (fun _ _=>[]) n (0:Int) (fun y0_1 =>
 .bB 9 (decide (y0_1<(a1.length:Int))) fun x3 =>
 .ifs [9] x3 (.ix 14 GLayer.av a1 y0_1 fun x4 =>
 .cl 16 (d_fifo_wrong x4) cal212 d_fifo_wrong_c fun x5 =>
 .ifs [16] x5 (.esc (.esc (.ret y0_1))) (.bI 18 (w64 (y0_1+1)) fun x6 =>
 .brk x6)) (.esc (.brk ()))))
  (fun _ =>
 .ret ((-1):Int))) (fun y2_1 =>
 .bB 8 (decide (y2_1≥0)) fun x7 =>
 .ret x7)) (fun y3_1 =>
 .ret y3_1)))
  (fun y4_1 =>
 .ifs [11] y4_1 (.ret ((false:Bool))) (.cl 14 (d_fifo_Total n a1) cal85 d_fifo_Total_c fun x8 =>
 .al 1<|
 .jn 0 [] [] [] (fun _ (a:Bool)=>[(2,boo a)]) (fun _ _=>[]) (.bB 18 (decide (x8.2=0)) fun x10 =>
 .ifs [18] x10 (.cl 21 (d_fifo_steady n a1) cal213 d_fifo_steady_c fun x11 =>
 .ret x11) (.ret (false:Bool)))
  (fun y5_1 =>
 .ret (y5_1))))
def d_fifo_Right (n:Nat) (a1:List GLayer):Option (Bool):=(t_fifo_Right n a1).run
theorem d_fifo_Right_c {n:Nat} {a1:List GLayer} {r:Bool} (h0:d_fifo_Right n a1=some r):PP Tryz.prog 166 [lst 3 GLayer.av a1] (fun y=>y=boo r):=by
 refine wt_pp mixed tbk (fun (r:Bool)=>boo r) h0 Tryz.func166 (fun r=>pvB r) 100000 ?_
 conv=>whnf
 refine .mk ?_ ?_
 refine .mk ?_
 conv=>whnf
 refine .mk fun x2=>?_
 refine .mk .mk ?_
 conv=>whnf
 refine .mk ?_ ?_
 conv=>whnf
 refine .mk ?_ ?_
 refine .mk ?_
 conv=>whnf
 refine .mk ?_ ?_
 refine .mk ?_
 intro _ _
 conv=>whnf
 refine .mk fun x3=>?_
 conv=>whnf
 refine .mk ?_ ?_
 conv=>whnf
 refine .mk fun x4 e4=>?_
 conv=>whnf
 refine .mk fun x5 e5=>?_
 refine .mk .mk ?_
 conv=>whnf
 refine .mk fun x6=>?_
 exact .mk
 conv=>whnf
 exact .mk
 intro _ _
 exact .mk
 intro _ _
 conv=>whnf
 refine .mk trivial ?_
 conv=>whnf
 refine .mk fun x7=>?_
 exact .mk
 intro _ _
 conv=>whnf
 refine .mk trivial ?_
 exact .mk
 intro _ _
 refine .mk .mk ?_
 conv=>whnf
 refine .mk fun x8 e8=>?_
 intro v9
 conv=>whnf
 refine .mk ?_ ?_
 conv=>whnf
 refine .mk fun x10=>?_
 conv=>whnf
 refine .mk ?_ ?_
 conv=>whnf
 refine .mk fun x11 e11=>?_
 exact .mk
 conv=>whnf
 exact .mk
 intro _ _
 exact .mk
noncomputable def t_pool_Total (n:Nat) (a1:GPool):WT Tryz.prog (.b (GLayer)) :=
 .al 1<|
 .al 2<|
 .cl 8 (d_fifo_Total n a1.Layers) cal85 d_fifo_Total_c fun x4 =>
 .al 3<|
 .ret ((x4.1:GLayer))
def d_pool_Total (n:Nat) (a1:GPool):Option (GLayer):=(t_pool_Total n a1).run
theorem d_pool_Total_c {n:Nat} {a1:GPool} {r:GLayer} (h0:d_pool_Total n a1=some r):PP Tryz.prog 167 [.agg (GPool.av a1)] (fun y=>y=.agg (GLayer.av r)):=by
 refine wt_pp mixed tbk (fun (r:GLayer)=>.agg (GLayer.av r)) h0 Tryz.func167 (fun r=>(fun (a:GLayer)=>PV.agg (GLayer.pvc a)) r) 100000 ?_
 intro v2
 intro v3
 conv=>whnf
 refine .mk fun x4 e4=>?_
 intro v5
 exact .mk
noncomputable def t_pool_Right (n:Nat) (a1:Int) (a2:GPool):WT Tryz.prog (.b (Bool)) :=
 .al 1<|
 .inl 10 cal82 Tryz.func82 [1] [] (B:=(Unit)⊕(Unit)⊕(Unit)⊕(Unit)⊕(Unit)) (fun u2=>Sum.elim (fun a=>.ifc 180 (.agg [])) (Sum.elim (fun a=>.ifc 181 (.agg [])) (Sum.elim (fun a=>.ifc 182 (.agg [])) (Sum.elim (fun a=>.ifc 184 (.agg [int 0])) (fun a=>.sc .nilIface))))) (fun u2=>Sum.elim (fun a=>[]) (Sum.elim (fun a=>[]) (Sum.elim (fun a=>[]) (Sum.elim (fun a=>[]) (fun a=>[]))))) (.bB 7 (decide (a1=1)) fun x4 =>
 .ifs [7] x4 (.gv 9<|
 .ret (.inl ())) (.bB 11 (decide (a1=2)) fun x5 =>
 .ifs [11] x5 (.gv 13<|
 .ret (.inr (.inl ()))) (.bB 15 (decide (a1=3)) fun x6 =>
 .ifs [15] x6 (.gv 17<|
 .ret (.inr (.inr (.inl ())))) (.bB 19 (decide (a1=4)) fun x7 =>
 .ifs [19] x7 (.gv 22<|
 .ret (.inr (.inr (.inr (.inl ()))))) (.ret (.inr (.inr (.inr (.inr ()))))))))) (Sum.elim (fun _ =>
 .jn 0 [3,4,5] [1] [] (fun _ (a:Bool)=>[(28,boo a)]) (fun _ _=>[]) (.gv 12<|
 .cl 16 (d_fifo_Right n a2.Layers) cal166 d_fifo_Right_c fun x8 =>
 .bB 17 (!x8) fun x9 =>
 .ifs [17] x9 (.ret (true:Bool)) (.bB 21 (decide (a1≠1)) fun x10 =>
 .ifs [21] x10 (.ln 25 GLayer.av a2.Layers<|
 .bB 26 (decide ((a2.Layers.length:Int)>1)) fun x11 =>
 .ret x11) (.ret (false:Bool))))
  (fun y5_1 =>
 .ifs [28] y5_1 (.ret ((false:Bool))) (.cl 30 (d_pool_Total n a2) cal167 d_pool_Total_c fun x12 =>
 .jnE 1 [4] [] [] (fun _ (a:Unit)=>[]) (fun _ _=>[]) (.lp [4,5,33] [] [] (fun _ (a:Int×Int)=>[(6,int a.1),(34,int a.2)]) (fun _ _=>[]) n ((x12.Qty:Int),(0:Int)) (pw fun y6_1 y6_2 =>
 .bB 35 (decide (y6_2<3)) fun x13 =>
 .ifs [35] x13 (.bo (ix ([a2.Pend.a0,a2.Pend.a1,a2.Pend.a2]:List Int) y6_2) fun x14 =>
 .gv 36<|
 .jn 0 [4,5,6,8,33,34] [] [] (fun _ (a:Bool)=>[(52,boo a)]) (fun _ _=>[]) (.bB 38 (decide (x14<0)) fun x15 =>
 .ifs [38] x15 (.ret (true:Bool)) (.bB 42 (decide (x14>y6_1)) fun x16 =>
 .ifs [42] x16 (.ret (true:Bool)) (.bB 46 (decide (x14>0)) fun x17 =>
 .ifs [46] x17 (.inl 49 cal125 Tryz.func125 [] [] (fun _ (a:Unit)=>boo false) (fun _ _=>[]) (.gv 7<|
 .al 2<|
 .ret ()) (fun _ =>
 .ret (true:Bool))) (.ret (false:Bool)))))
  (fun y8_1 =>
 .ifs [52] y8_1 (.esc (.esc (.ret ((false:Bool))))) (.bI 55 (w64 (y6_1-x14)) fun x19 =>
 .bI 56 (w64 (y6_2+1)) fun x20 =>
 .brk (x19,x20)))) (.esc (.brk ()))))
  (fun _ =>
 .ret ((true:Bool)))))) (Sum.elim (fun _ =>
 .jn 0 [3,4,5] [1] [] (fun _ (a:Bool)=>[(28,boo a)]) (fun _ _=>[]) (.gv 12<|
 .cl 16 (d_fifo_Right n a2.Layers) cal166 d_fifo_Right_c fun x21 =>
 .bB 17 (!x21) fun x22 =>
 .ifs [17] x22 (.ret (true:Bool)) (.bB 21 (decide (a1≠1)) fun x23 =>
 .ifs [21] x23 (.ln 25 GLayer.av a2.Layers<|
 .bB 26 (decide ((a2.Layers.length:Int)>1)) fun x24 =>
 .ret x24) (.ret (false:Bool))))
  (fun y5_1 =>
 .ifs [28] y5_1 (.ret ((false:Bool))) (.cl 30 (d_pool_Total n a2) cal167 d_pool_Total_c fun x25 =>
 .jnE 1 [4] [] [] (fun _ (a:Unit)=>[]) (fun _ _=>[]) (.lp [4,5,33] [] [] (fun _ (a:Int×Int)=>[(6,int a.1),(34,int a.2)]) (fun _ _=>[]) n ((x25.Qty:Int),(0:Int)) (pw fun y6_1 y6_2 =>
 .bB 35 (decide (y6_2<3)) fun x26 =>
 .ifs [35] x26 (.bo (ix ([a2.Pend.a0,a2.Pend.a1,a2.Pend.a2]:List Int) y6_2) fun x27 =>
 .gv 36<|
 .jn 0 [4,5,6,8,33,34] [] [] (fun _ (a:Bool)=>[(52,boo a)]) (fun _ _=>[]) (.bB 38 (decide (x27<0)) fun x28 =>
 .ifs [38] x28 (.ret (true:Bool)) (.bB 42 (decide (x27>y6_1)) fun x29 =>
 .ifs [42] x29 (.ret (true:Bool)) (.bB 46 (decide (x27>0)) fun x30 =>
 .ifs [46] x30 (.inl 49 cal125 Tryz.func125 [] [] (fun _ (a:Unit)=>boo false) (fun _ _=>[]) (.gv 7<|
 .al 2<|
 .ret ()) (fun _ =>
 .ret (true:Bool))) (.ret (false:Bool)))))
  (fun y8_1 =>
 .ifs [52] y8_1 (.esc (.esc (.ret ((false:Bool))))) (.bI 55 (w64 (y6_1-x27)) fun x32 =>
 .bI 56 (w64 (y6_2+1)) fun x33 =>
 .brk (x32,x33)))) (.esc (.brk ()))))
  (fun _ =>
 .ret ((true:Bool)))))) (Sum.elim (fun _ =>
 .jn 0 [3,4,5] [1] [] (fun _ (a:Bool)=>[(28,boo a)]) (fun _ _=>[]) (.gv 12<|
 .cl 16 (d_fifo_Right n a2.Layers) cal166 d_fifo_Right_c fun x34 =>
 .bB 17 (!x34) fun x35 =>
 .ifs [17] x35 (.ret (true:Bool)) (.bB 21 (decide (a1≠1)) fun x36 =>
 .ifs [21] x36 (.ln 25 GLayer.av a2.Layers<|
 .bB 26 (decide ((a2.Layers.length:Int)>1)) fun x37 =>
 .ret x37) (.ret (false:Bool))))
  (fun y5_1 =>
 .ifs [28] y5_1 (.ret ((false:Bool))) (.cl 30 (d_pool_Total n a2) cal167 d_pool_Total_c fun x38 =>
 .jnE 1 [4] [] [] (fun _ (a:Unit)=>[]) (fun _ _=>[]) (.lp [4,5,33] [] [] (fun _ (a:Int×Int)=>[(6,int a.1),(34,int a.2)]) (fun _ _=>[]) n ((x38.Qty:Int),(0:Int)) (pw fun y6_1 y6_2 =>
 .bB 35 (decide (y6_2<3)) fun x39 =>
 .ifs [35] x39 (.bo (ix ([a2.Pend.a0,a2.Pend.a1,a2.Pend.a2]:List Int) y6_2) fun x40 =>
 .gv 36<|
 .jn 0 [4,5,6,8,33,34] [] [] (fun _ (a:Bool)=>[(52,boo a)]) (fun _ _=>[]) (.bB 38 (decide (x40<0)) fun x41 =>
 .ifs [38] x41 (.ret (true:Bool)) (.bB 42 (decide (x40>y6_1)) fun x42 =>
 .ifs [42] x42 (.ret (true:Bool)) (.bB 46 (decide (x40>0)) fun x43 =>
 .ifs [46] x43 (.inl 49 cal125 Tryz.func125 [] [] (fun _ (a:Unit)=>boo true) (fun _ _=>[]) (.gv 7<|
 .al 2<|
 .ret ()) (fun _ =>
 .ret (false:Bool))) (.ret (false:Bool)))))
  (fun y8_1 =>
 .ifs [52] y8_1 (.esc (.esc (.ret ((false:Bool))))) (.bI 55 (w64 (y6_1-x40)) fun x45 =>
 .bI 56 (w64 (y6_2+1)) fun x46 =>
 .brk (x45,x46)))) (.esc (.brk ()))))
  (fun _ =>
 .ret ((true:Bool)))))) (Sum.elim (fun _ =>
 .jn 0 [3,4,5] [1] [] (fun _ (a:Bool)=>[(28,boo a)]) (fun _ _=>[]) (.gv 12<|
 .cl 16 (d_fifo_Right n a2.Layers) cal166 d_fifo_Right_c fun x47 =>
 .bB 17 (!x47) fun x48 =>
 .ifs [17] x48 (.ret (true:Bool)) (.bB 21 (decide (a1≠1)) fun x49 =>
 .ifs [21] x49 (.ln 25 GLayer.av a2.Layers<|
 .bB 26 (decide ((a2.Layers.length:Int)>1)) fun x50 =>
 .ret x50) (.ret (false:Bool))))
  (fun y5_1 =>
 .ifs [28] y5_1 (.ret ((false:Bool))) (.cl 30 (d_pool_Total n a2) cal167 d_pool_Total_c fun x51 =>
 .jnE 1 [4] [] [] (fun _ (a:Unit)=>[]) (fun _ _=>[]) (.lp [4,5,33] [] [] (fun _ (a:Int×Int)=>[(6,int a.1),(34,int a.2)]) (fun _ _=>[]) n ((x51.Qty:Int),(0:Int)) (pw fun y6_1 y6_2 =>
 .bB 35 (decide (y6_2<3)) fun x52 =>
 .ifs [35] x52 (.bo (ix ([a2.Pend.a0,a2.Pend.a1,a2.Pend.a2]:List Int) y6_2) fun x53 =>
 .gv 36<|
 .jn 0 [4,5,6,8,33,34] [] [] (fun _ (a:Bool)=>[(52,boo a)]) (fun _ _=>[]) (.bB 38 (decide (x53<0)) fun x54 =>
 .ifs [38] x54 (.ret (true:Bool)) (.bB 42 (decide (x53>y6_1)) fun x55 =>
 .ifs [42] x55 (.ret (true:Bool)) (.bB 46 (decide (x53>0)) fun x56 =>
 .ifs [46] x56 (.inl 49 cal125 Tryz.func125 [] [] (fun _ (a:Unit)=>boo false) (fun _ _=>[]) (.gv 7<|
 .al 2<|
 .ret ()) (fun _ =>
 .ret (true:Bool))) (.ret (false:Bool)))))
  (fun y8_1 =>
 .ifs [52] y8_1 (.esc (.esc (.ret ((false:Bool))))) (.bI 55 (w64 (y6_1-x53)) fun x58 =>
 .bI 56 (w64 (y6_2+1)) fun x59 =>
 .brk (x58,x59)))) (.esc (.brk ()))))
  (fun _ =>
 .ret ((true:Bool)))))) (fun _ =>
 .gv 12<|
 .ret ((false:Bool)))))))
def d_pool_Right (n:Nat) (a1:Int) (a2:GPool):Option (Bool):=(t_pool_Right n a1 a2).run
theorem d_pool_Right_c {n:Nat} {a1:Int} {a2:GPool} {r:Bool} (h0:d_pool_Right n a1 a2=some r):PP Tryz.prog 114 [int a1,.agg (GPool.av a2)] (fun y=>y=boo r):=by
 refine wt_pp mixed tbk (fun (r:Bool)=>boo r) h0 Tryz.func114 (fun r=>pvB r) 100000 ?_
 intro v3
 conv=>whnf
 refine .mk ?_ ?_
 conv=>whnf
 refine .mk fun x4=>?_
 conv=>whnf
 refine .mk ?_ ?_
 conv=>whnf
 refine .mk _ (agr (yv_makeIface rfl Tryz.underlying180 (by intro _ h;cases h) rfl)) ?_
 exact .mk
 conv=>whnf
 refine .mk fun x5=>?_
 conv=>whnf
 refine .mk ?_ ?_
 conv=>whnf
 refine .mk _ (agr (yv_makeIface rfl Tryz.underlying181 (by intro _ h;cases h) rfl)) ?_
 exact .mk
 conv=>whnf
 refine .mk fun x6=>?_
 conv=>whnf
 refine .mk ?_ ?_
 conv=>whnf
 refine .mk _ (agr (yv_makeIface rfl Tryz.underlying182 (by intro _ h;cases h) rfl)) ?_
 exact .mk
 conv=>whnf
 refine .mk fun x7=>?_
 conv=>whnf
 refine .mk ?_ ?_
 conv=>whnf
 refine .mk _ (agr (yv_makeIface rfl Tryz.underlying184 (by intro _ h;cases h) rfl)) ?_
 exact .mk
 conv=>whnf
 exact .mk
 rintro (_ | _ | _ | _ | _) _
 conv=>whnf
 refine .mk trivial ?_
 conv=>whnf
 refine .mk ?_ ?_
 conv=>whnf
 refine .mk _ (agr (yv_ifeq rfl Tryz.underlying131 rfl rfl)) ?_
 conv=>whnf
 refine .mk fun x8 e8=>?_
 conv=>whnf
 refine .mk fun x9=>?_
 refine .mk .mk ?_
 conv=>whnf
 refine .mk fun x10=>?_
 conv=>whnf
 refine .mk ?_ ?_
 refine .mk ?_
 conv=>whnf
 refine .mk fun x11=>?_
 exact .mk
 conv=>whnf
 exact .mk
 intro _ _
 refine .mk .mk ?_
 conv=>whnf
 refine .mk fun x12 e12=>?_
 conv=>whnf
 refine .mk ?_ ?_
 refine .mk ?_
 intro _ _
 conv=>whnf
 refine .mk fun x13=>?_
 conv=>whnf
 refine .mk ?_ ?_
 conv=>whnf
 refine .mk fun x14 e14=>?_
 conv=>whnf
 refine .mk _ (agr (yv_indexAT (g:=fI) (l:=([a2.Pend.a0,a2.Pend.a1,a2.Pend.a2]:List Int)) (v:=x14) (w:=int x14) rfl Tryz.underlying55 sh3 rfl rfl rfl e14 (fun _=>rfl) hw1)) ?_
 conv=>whnf
 refine .mk ?_ ?_
 conv=>whnf
 refine .mk fun x15=>?_
 refine .mk .mk ?_
 conv=>whnf
 refine .mk fun x16=>?_
 refine .mk .mk ?_
 conv=>whnf
 refine .mk fun x17=>?_
 conv=>whnf
 refine .mk ?_ ?_
 conv=>whnf
 refine .mk ?_ ?_
 conv=>whnf
 refine .mk _ (agr (yv_tassF rfl Tryz.underlying182 rfl rfl rfl zag182)) ?_
 intro v18
 exact .mk
 intro _ _
 conv=>whnf
 refine .mk trivial ?_
 exact .mk
 conv=>whnf
 exact .mk
 intro _ _
 refine .mk .mk ?_
 conv=>whnf
 refine .mk fun x19=>?_
 conv=>whnf
 refine .mk fun x20=>?_
 exact .mk
 conv=>whnf
 exact .mk
 intro _ _
 exact .mk
 conv=>whnf
 refine .mk trivial ?_
 conv=>whnf
 refine .mk ?_ ?_
 conv=>whnf
 refine .mk _ (agr (yv_ifeq rfl Tryz.underlying131 rfl rfl)) ?_
 conv=>whnf
 refine .mk fun x21 e21=>?_
 conv=>whnf
 refine .mk fun x22=>?_
 refine .mk .mk ?_
 conv=>whnf
 refine .mk fun x23=>?_
 conv=>whnf
 refine .mk ?_ ?_
 refine .mk ?_
 conv=>whnf
 refine .mk fun x24=>?_
 exact .mk
 conv=>whnf
 exact .mk
 intro _ _
 refine .mk .mk ?_
 conv=>whnf
 refine .mk fun x25 e25=>?_
 conv=>whnf
 refine .mk ?_ ?_
 refine .mk ?_
 intro _ _
 conv=>whnf
 refine .mk fun x26=>?_
 conv=>whnf
 refine .mk ?_ ?_
 conv=>whnf
 refine .mk fun x27 e27=>?_
 conv=>whnf
 refine .mk _ (agr (yv_indexAT (g:=fI) (l:=([a2.Pend.a0,a2.Pend.a1,a2.Pend.a2]:List Int)) (v:=x27) (w:=int x27) rfl Tryz.underlying55 sh3 rfl rfl rfl e27 (fun _=>rfl) hw1)) ?_
 conv=>whnf
 refine .mk ?_ ?_
 conv=>whnf
 refine .mk fun x28=>?_
 refine .mk .mk ?_
 conv=>whnf
 refine .mk fun x29=>?_
 refine .mk .mk ?_
 conv=>whnf
 refine .mk fun x30=>?_
 conv=>whnf
 refine .mk ?_ ?_
 conv=>whnf
 refine .mk ?_ ?_
 conv=>whnf
 refine .mk _ (agr (yv_tassF rfl Tryz.underlying182 rfl rfl rfl zag182)) ?_
 intro v31
 exact .mk
 intro _ _
 conv=>whnf
 refine .mk trivial ?_
 exact .mk
 conv=>whnf
 exact .mk
 intro _ _
 refine .mk .mk ?_
 conv=>whnf
 refine .mk fun x32=>?_
 conv=>whnf
 refine .mk fun x33=>?_
 exact .mk
 conv=>whnf
 exact .mk
 intro _ _
 exact .mk
 conv=>whnf
 refine .mk trivial ?_
 conv=>whnf
 refine .mk ?_ ?_
 conv=>whnf
 refine .mk _ (agr (yv_ifeq rfl Tryz.underlying131 rfl rfl)) ?_
 conv=>whnf
 refine .mk fun x34 e34=>?_
 conv=>whnf
 refine .mk fun x35=>?_
 refine .mk .mk ?_
 conv=>whnf
 refine .mk fun x36=>?_
 conv=>whnf
 refine .mk ?_ ?_
 refine .mk ?_
 conv=>whnf
 refine .mk fun x37=>?_
 exact .mk
 conv=>whnf
 exact .mk
 intro _ _
 refine .mk .mk ?_
 conv=>whnf
 refine .mk fun x38 e38=>?_
 conv=>whnf
 refine .mk ?_ ?_
 refine .mk ?_
 intro _ _
 conv=>whnf
 refine .mk fun x39=>?_
 conv=>whnf
 refine .mk ?_ ?_
 conv=>whnf
 refine .mk fun x40 e40=>?_
 conv=>whnf
 refine .mk _ (agr (yv_indexAT (g:=fI) (l:=([a2.Pend.a0,a2.Pend.a1,a2.Pend.a2]:List Int)) (v:=x40) (w:=int x40) rfl Tryz.underlying55 sh3 rfl rfl rfl e40 (fun _=>rfl) hw1)) ?_
 conv=>whnf
 refine .mk ?_ ?_
 conv=>whnf
 refine .mk fun x41=>?_
 refine .mk .mk ?_
 conv=>whnf
 refine .mk fun x42=>?_
 refine .mk .mk ?_
 conv=>whnf
 refine .mk fun x43=>?_
 conv=>whnf
 refine .mk ?_ ?_
 conv=>whnf
 refine .mk ?_ ?_
 conv=>whnf
 refine .mk _ (agr (yv_tassT rfl Tryz.underlying182 rfl rfl)) ?_
 intro v44
 exact .mk
 intro _ _
 conv=>whnf
 refine .mk trivial ?_
 exact .mk
 conv=>whnf
 exact .mk
 intro _ _
 refine .mk .mk ?_
 conv=>whnf
 refine .mk fun x45=>?_
 conv=>whnf
 refine .mk fun x46=>?_
 exact .mk
 conv=>whnf
 exact .mk
 intro _ _
 exact .mk
 conv=>whnf
 refine .mk trivial ?_
 conv=>whnf
 refine .mk ?_ ?_
 conv=>whnf
 refine .mk _ (agr (yv_ifeq rfl Tryz.underlying131 rfl rfl)) ?_
 conv=>whnf
 refine .mk fun x47 e47=>?_
 conv=>whnf
 refine .mk fun x48=>?_
 refine .mk .mk ?_
 conv=>whnf
 refine .mk fun x49=>?_
 conv=>whnf
 refine .mk ?_ ?_
 refine .mk ?_
 conv=>whnf
 refine .mk fun x50=>?_
 exact .mk
 conv=>whnf
 exact .mk
 intro _ _
 refine .mk .mk ?_
 conv=>whnf
 refine .mk fun x51 e51=>?_
 conv=>whnf
 refine .mk ?_ ?_
 refine .mk ?_
 intro _ _
 conv=>whnf
 refine .mk fun x52=>?_
 conv=>whnf
 refine .mk ?_ ?_
 conv=>whnf
 refine .mk fun x53 e53=>?_
 conv=>whnf
 refine .mk _ (agr (yv_indexAT (g:=fI) (l:=([a2.Pend.a0,a2.Pend.a1,a2.Pend.a2]:List Int)) (v:=x53) (w:=int x53) rfl Tryz.underlying55 sh3 rfl rfl rfl e53 (fun _=>rfl) hw1)) ?_
 conv=>whnf
 refine .mk ?_ ?_
 conv=>whnf
 refine .mk fun x54=>?_
 refine .mk .mk ?_
 conv=>whnf
 refine .mk fun x55=>?_
 refine .mk .mk ?_
 conv=>whnf
 refine .mk fun x56=>?_
 conv=>whnf
 refine .mk ?_ ?_
 conv=>whnf
 refine .mk ?_ ?_
 conv=>whnf
 refine .mk _ (agr (yv_tassF rfl Tryz.underlying182 rfl rfl rfl zag182)) ?_
 intro v57
 exact .mk
 intro _ _
 conv=>whnf
 refine .mk trivial ?_
 exact .mk
 conv=>whnf
 exact .mk
 intro _ _
 refine .mk .mk ?_
 conv=>whnf
 refine .mk fun x58=>?_
 conv=>whnf
 refine .mk fun x59=>?_
 exact .mk
 conv=>whnf
 exact .mk
 intro _ _
 exact .mk
 conv=>whnf
 refine .mk trivial ?_
 conv=>whnf
 refine .mk _ (agr (yv_ifeqN rfl Tryz.underlying131 rfl rfl)) ?_
 exact .mk
mutual
def d_stock_entity_L0 (a1:GMaster) (a2:Int) (a3:GEnt):Nat→Int→Option ((Unit)⊕(Bool))
  | 0,_=>none
  | n+1,y1_1 =>
    bnd (decide (y1_1<(a3.Pools.length:Int))) fun x16 =>
    cond x16 ((ix a3.Pools y1_1).bind fun x17 =>
    (ix a1.Methods a2).bind fun x19 =>
    bnd (w64 (y1_1.tdiv 2)) fun x20 =>
    (ix x19 x20).bind fun x21 =>
    (d_pool_Right n x21 x17).bind fun x22 =>
    bnd (!x22) fun x23 =>
    cond x23 (esc (some ((false:Bool)))) (bnd (w64 (y1_1+1)) fun x24 =>
    d_stock_entity_L0 a1 a2 a3 n x24)) (brk ())
def d_stock_entity_L1 (a3:GEnt):Nat→Int→Option ((Unit)⊕(Bool))
  | 0,_=>none
  | n+1,y3_1 =>
    bnd (decide (y3_1<(a3.Rolls.length:Int))) fun x27 =>
    cond x27 ((ix a3.Rolls y3_1).bind fun x28 =>
    (show Option ((Unit)) from
    some ()).bind <| fun _ =>
    (d_stock_sums n (-288230376151711744) ([x28.Open,x28.Bought,x28.Landed,x28.Arrived,x28.Returned,x28.Sold,x28.Shipped,x28.SentBack,x28.Scrapped,x28.Lost,x28.Revalued]:List Int)).bind fun x32 =>
    bnd (!x32) fun x33 =>
    cond x33 (esc (some ((false:Bool)))) (bnd (w64 (y3_1+1)) fun x34 =>
    d_stock_entity_L1 a3 n x34)) (brk ())
def d_stock_entity:Nat→GMaster→Int→GEnt→Option (Bool)
  | 0,_,_,_=>none
  | n+1,a1,a2,a3 =>
    (show Option (Bool) from
    (d_stock_in a3.Now 1 a1.Periods).bind fun x7 =>
    bnd (!x7) fun x8 =>
    cond x8 (some (true:Bool)) (bnd (w64 ((a1.Weights.length:Int)*2)) fun x9 =>
    bnd (decide ((a3.Pools.length:Int)≠x9)) fun x10 =>
    cond x10 (some (true:Bool)) (bnd (decide ((a3.Bal.length:Int)≠17)) fun x11 =>
    cond x11 (some (true:Bool)) (bnd (decide ((a3.Rolls.length:Int)≠(a1.Weights.length:Int))) fun x12 =>
    cond x12 (some (true:Bool)) (bnd (decide ((a3.Prices.length:Int)≠(a1.Weights.length:Int))) fun x13 =>
    cond x13 (some (true:Bool)) (bnd (decide ((a3.Down.length:Int)≠(a1.Weights.length:Int))) fun x14 =>
    some x14)))))).bind <| fun y0_1 =>
    cond y0_1 (some ((false:Bool))) ((show Option ((Unit)⊕(Bool)) from
    d_stock_entity_L0 a1 a2 a3 n (0:Int)).bind <| sel <| fun _ =>
    (show Option ((Unit)⊕(Bool)) from
    d_stock_entity_L1 a3 n (0:Int)).bind <| sel <| fun _ =>
    (show Option (Bool) from
    (d_stock_sums n (-288230376151711744) a3.Bal).bind fun x37 =>
    bnd (!x37) fun x38 =>
    cond x38 (some (true:Bool)) ((d_stock_sums n (-1) a3.Prices).bind fun x39 =>
    bnd (!x39) fun x40 =>
    cond x40 (some (true:Bool)) ((d_stock_sums n 0 a3.Down).bind fun x41 =>
    bnd (!x41) fun x42 =>
    cond x42 (some (true:Bool)) (bnd (decide ((a3.Ahead.length:Int)>1)) fun x43 =>
    cond x43 (some (true:Bool)) (bnd (decide ((a3.Ahead.length:Int)=1)) fun x44 =>
    bnd (decide (a3.Closed≠x44)) fun x45 =>
    some x45))))).bind <| fun y7_1 =>
    cond y7_1 (some ((false:Bool))) ((show Option (Bool) from
    bnd (!a3.Closed) fun x47 =>
    cond x47 (some (true:Bool)) ((ix a3.Ahead 0).bind fun x48 =>
    bnd (decide ((x48.Ahead.length:Int)=0)) fun x49 =>
    cond x49 ((ix a3.Ahead 0).bind fun x50 =>
    (d_stock_entity n a1 a2 x50).bind fun x51 =>
    some x51) (some (false:Bool)))).bind <| fun y8_1 =>
    some (y8_1)))
end
theorem d_stock_entity_c {n:Nat} {a1:GMaster} {a2:Int} {a3:GEnt} {r:Bool} (h0:d_stock_entity n a1 a2 a3=some r):PP Tryz.prog 68 [.agg (GMaster.av a1),int a2,.agg [int a3.Now,boo a3.Closed,lst 4 GPool.av a3.Pools,lst 1 fI a3.Bal,lst 11 GRoll.av a3.Rolls,lst 1 fI a3.Prices,lst 1 fI a3.Down,lst 8 GEnt.av a3.Ahead]] (fun y=>y=boo r):=by
  induction n using Nat.strongRecOn generalizing a1 a2 a3 r with
  | ind n ih =>
    cases n with
    | zero=>rw [d_stock_entity] at h0;cases h0
    | succ n =>
    have hN:n<n+1:=Nat.lt_succ_self n
    rw [d_stock_entity] at h0
    refine pp_of_pc (R0:=fun y H=>Cv (frzH H) y (boo r)) ?_ (fun y H hc=>⟨_,rfl,pvB r,hc⟩)
    refine pcw (c:=_) Tryz.func68 rfl rfl ?_;intro Q hret hnorm
    refine tc tbk 2 (.mk ?_)
    refine sB 1 fun v4=>?_
    refine sB 2 fun v5=>?_
    refine tr tbk 6 (.mk ?_)
    refine sY (yv_len_sl rfl Tryz.underlying22 rfl (lst_len _)) ?_
    refine tr tbk 4 (.mk ?_)
    refine jn h0 [1,3,5,6] [1,2] (fun (a:Bool) (k:Unit)=>[(55,boo a)]) (fun a k=>[]) ⟨fun j6 h1=>?_,?_⟩
    refine tc tbk 5 (.mk ?_)
    obtain ⟨x7,e7,h1⟩:=bind_e h1
    refine sC cal70 (d_stock_in_c e7) ?_
    refine nb tbk h1 fun x8 h1=>?_
    refine tr tbk 1 (.mk ?_)
    cases x8
    replace h1:=cf h1
    refine tr tbk 2 (.mk ?_)
    refine sY (yv_len_sl rfl Tryz.underlying36 rfl (lst_len _)) ?_
    refine tr tbk 1 (.mk ?_)
    refine ni tbk h1 fun x9 h1=>?_
    refine nb tbk h1 fun x10 h1=>?_
    refine tr tbk 2 (.mk ?_)
    cases x10
    replace h1:=cf h1
    refine tr tbk 2 (.mk ?_)
    refine sY (yv_len_sl rfl Tryz.underlying22 rfl (lst_len _)) ?_
    refine nb tbk h1 fun x11 h1=>?_
    refine tr tbk 2 (.mk ?_)
    cases x11
    replace h1:=cf h1
    refine tr tbk 2 (.mk ?_)
    refine sY (yv_len_sl rfl Tryz.underlying37 rfl (lst_len _)) ?_
    refine tr tbk 1 (.mk ?_)
    refine nb tbk h1 fun x12 h1=>?_
    refine tr tbk 2 (.mk ?_)
    cases x12
    replace h1:=cf h1
    refine tr tbk 2 (.mk ?_)
    refine sY (yv_len_sl rfl Tryz.underlying22 rfl (lst_len _)) ?_
    refine tr tbk 1 (.mk ?_)
    refine nb tbk h1 fun x13 h1=>?_
    refine tr tbk 2 (.mk ?_)
    cases x13
    replace h1:=cf h1
    refine tr tbk 2 (.mk ?_)
    refine sY (yv_len_sl rfl Tryz.underlying22 rfl (lst_len _)) ?_
    refine tr tbk 1 (.mk ?_)
    refine nb tbk h1 fun x14 h1=>?_
    refine tr tbk 2 (.mk ?_)
    exact lf h1 () leA
    replace h1:=ct h1
    refine tr tbk 7 (.mk ?_)
    exact lf h1 () leA
    replace h1:=ct h1
    refine tr tbk 14 (.mk ?_)
    exact lf h1 () leA
    replace h1:=ct h1
    refine tr tbk 21 (.mk ?_)
    exact lf h1 () leA
    replace h1:=ct h1
    refine tr tbk 27 (.mk ?_)
    exact lf h1 () leA
    replace h1:=ct h1
    refine tr tbk 35 (.mk ?_)
    exact lf h1 () leA
    rintro y0_1 _ h0
    cases y0_1
    replace h0:=cf h0
    refine tc tbk 7 (.mk ?_)
    refine sY (yv_len_sl rfl Tryz.underlying36 rfl (lst_len _)) ?_
    refine tr tbk 2 (.mk ?_)
    refine jnE h0 [1,3,5,6] [1,2] (fun (a:Unit) (k:Unit)=>[]) (fun a k=>[]) ⟨fun j15 h1 h0=>?_,?_⟩
    refine tc tbk 1 (.mk ?_)
    refine lp (fun n (a:Int)=>d_stock_entity_L0 a1 a2 a3 n a) (0:Int) () h1 [1,3,5,6,57,58] [1,2] (fun (a:Int) (k:Unit)=>[(59,int a)]) (fun a k=>[]) (fun _=>rfl) ⟨leA,?_⟩
    rintro n y1_1 _ hm h1
    replace h1:d_stock_entity_L0 a1 a2 a3 (n+1) y1_1=some _:=h1
    replace hN:=Nat.lt_trans (Nat.lt_of_succ_le hm) hN
    rw [d_stock_entity_L0] at h1
    refine tc tbk 2 (.mk ?_)
    refine nb tbk h1 fun x16 h1=>?_
    refine tr tbk 2 (.mk ?_)
    cases x16
    replace h1:=cf h1
    refine tc tbk 2 (.mk ?_)
    exact lfE h1 () leA
    replace h1:=ct h1
    refine tc tbk 7 (.mk ?_)
    obtain ⟨x17,e17,h1⟩:=bind_e h1
    refine sY (yv_ixT rfl Tryz.underlying36 sh57 rfl rfl e17) ?_
    refine tr tbk 1 (.mk ?_)
    refine sA 3 z57 fun v18=>?_
    refine tr tbk 1 (.mk ?_)
    refine rsstore rfl rfl (yl_ob (ob':=(⟨57,4,true,true,v18,[[lst 3 GLayer.av x17.Layers,int x17.Pend.a0,int x17.Pend.a1,int x17.Pend.a2]]⟩:AObj)) (yl_store rfl sh57 rfl rfl rfl rfl rfl rfl rfl rfl rfl) rfl) ?_
    refine tr tbk 2 (.mk ?_)
    refine c_drawE [0,1,0,7,15,0,32,127,255,0,1023,2047] (fun i=>bif Nat.beq i 0 then ([1]) else bif Nat.beq i 1 then ([1]) else bif Nat.beq i 9 then ([3]) else []) (fun i=>[1,3]) (fun i=>true) [0,1,2,3,4,5,6,7,8,9,10,11] mixed (by kernel_rfl) ?_;intro K hK
    refine de_pure rfl rfl rfl rfl (fun H hH=>yv_fieldAddr rfl fo25_3 rfl (.pt ((hH _ (by decide)).trans rfl) rfl rfl) (.pt _ _ _ _ _)) ?_
    refine de_pure rfl rfl rfl rfl (fun H hH=>yv_load rfl sh23 rfl (.pt ((hH _ (by decide)).trans rfl) rfl rfl) rfl) ?_
    refine de_pure rfl rfl rfl rfl (fun H hH=>yv_move rfl rfl) ?_
    obtain ⟨x19,e19,h1⟩:=bind_e h1
    refine de_pure rfl rfl rfl rfl (fun H hH=>yv_ixT rfl Tryz.underlying23 sh22 rfl rfl e19) ?_
    refine de_pure rfl rfl rfl rfl (fun H hH=>yv_load rfl sh22 rfl (.pp _) rfl) ?_
    refine de_pure rfl rfl rfl rfl (fun H hH=>yv_move rfl rfl) ?_
    obtain ⟨x20,e20,h1⟩:=bnd_e h1
    refine de_pure rfl rfl rfl rfl (fun H hH=>yv_quo rfl rfl rfl (by decide) e20) ?_
    obtain ⟨x21,e21,h1⟩:=bind_e h1
    refine de_pure rfl rfl rfl rfl (fun H hH=>yv_ixT rfl Tryz.underlying22 sh3 rfl rfl e21) ?_
    refine de_pure rfl rfl rfl rfl (fun H hH=>yv_load rfl sh3 rfl (.pp _) rfl) ?_
    refine de_pure rfl rfl rfl rfl (fun H hH=>yv_load rfl sh57 rfl (.pt ((hH _ (by decide)).trans rfl) rfl rfl) rfl) ?_
    obtain ⟨x22,e22,h1⟩:=bind_e h1
    refine de_pure rfl rfl rfl rfl (fun H hH=>yv_callP rfl rfl (.cons rfl (.cons rfl .nil)) cal114 (CvL.refl _) (d_pool_Right_c e22)) ?_
    obtain ⟨x23,e23,h1⟩:=bnd_e h1
    refine de_pure rfl rfl rfl rfl (fun H hH=>yv_not rfl rfl e23) ?_
    refine de_nil (hK _ ?_)
    cases x23
    replace h1:=cf h1
    refine tc tbk 4 (.mk ?_)
    refine ni tbk h1 fun x24 h1=>?_
    refine tr tbk 2 (.mk ?_)
    exact bk x24 () h1 leA
    replace h1:=ct h1
    refine tc tbk 5 (.mk ?_)
    obtain ⟨c25,hX,hj⟩:=esc_e h1;subst hj;replace h0:=hX.trans (sel_r h0)
    obtain rfl:=nxt_e h0
    refine wR hret (rT .nil) ?_
    exact .refl _
    rintro _ _ h0
    refine tc tbk 5 (.mk ?_)
    refine sY (yv_len_sl rfl Tryz.underlying37 rfl (lst_len _)) ?_
    refine tr tbk 2 (.mk ?_)
    refine jnE h0 [1,3,5,6] [1,2] (fun (a:Unit) (k:Unit)=>[]) (fun a k=>[]) ⟨fun j26 h1 h0=>?_,?_⟩
    refine tc tbk 1 (.mk ?_)
    refine lp (fun n (a:Int)=>d_stock_entity_L1 a3 n a) (0:Int) () h1 [1,3,5,6,78,79] [1,2] (fun (a:Int) (k:Unit)=>[(80,int a)]) (fun a k=>[]) (fun _=>rfl) ⟨leA,?_⟩
    rintro n y3_1 _ hm h1
    replace h1:d_stock_entity_L1 a3 (n+1) y3_1=some _:=h1
    replace hN:=Nat.lt_trans (Nat.lt_of_succ_le hm) hN
    rw [d_stock_entity_L1] at h1
    refine tc tbk 2 (.mk ?_)
    refine nb tbk h1 fun x27 h1=>?_
    refine tr tbk 2 (.mk ?_)
    cases x27
    replace h1:=cf h1
    refine tc tbk 2 (.mk ?_)
    exact lfE h1 () leA
    replace h1:=ct h1
    refine tc tbk 6 (.mk ?_)
    obtain ⟨x28,e28,h1⟩:=bind_e h1
    refine sY (yv_ixT rfl Tryz.underlying37 sh83 rfl rfl e28) ?_
    refine tr tbk 1 (.mk ?_)
    refine sA 4 z83 fun v29=>?_
    refine rsstore rfl rfl (yl_ob (ob':=(⟨83,11,true,true,v29,[[int x28.Open,int x28.Bought,int x28.Landed,int x28.Arrived,int x28.Returned,int x28.Sold,int x28.Shipped,int x28.SentBack,int x28.Scrapped,int x28.Lost,int x28.Revalued]]⟩:AObj)) (yl_store rfl sh83 rfl rfl rfl rfl rfl rfl rfl rfl rfl) rfl) ?_
    refine tr tbk 4 (.mk ?_)
    obtain ⟨j30,h2,h1⟩:=bind_e h1
    refine rse (Out:=fun y H'=>(∃ (a:Unit) (k:Unit),a=j30∧y=lst 1 fI ([x28.Open,x28.Bought,x28.Landed,x28.Arrived,x28.Returned,x28.Sold,x28.Shipped,x28.SentBack,x28.Scrapped,x28.Lost,x28.Revalued]:List Int)∧H'=hk [(1,⟨25,5,true,true,v4,[[int a1.Entities,int a1.Periods,lst 1 fI a1.Weights,lst 1 (fL 1 fI) a1.Methods,lst 1 (fL 1 fI) a1.Costs]]⟩),(2,⟨39,8,true,true,v5,[[int a3.Now,boo a3.Closed,lst 4 GPool.av a3.Pools,lst 1 fI a3.Bal,lst 11 GRoll.av a3.Rolls,lst 1 fI a3.Prices,lst 1 fI a3.Down,lst 8 GEnt.av a3.Ahead]]⟩),(4,⟨83,11,true,true,v29,[[int x28.Open,int x28.Bought,int x28.Landed,int x28.Arrived,int x28.Returned,int x28.Sold,int x28.Shipped,int x28.SentBack,int x28.Scrapped,int x28.Lost,int x28.Revalued]]⟩)])) rfl rfl rfl (yl_call rfl rfl (.cons rfl .nil) cal115 ?_) ?_
    refine pcw (c:=_) Tryz.func115 rfl rfl ?_;intro Q hret hnorm
    refine tc tbk 2 (.mk ?_)
    refine sB 5 fun v31=>?_
    refine tr tbk 26 (.mk ?_)
    refine sY (yv_to (y:=lst 1 fI ([x28.Open,x28.Bought,x28.Landed,x28.Arrived,x28.Returned,x28.Sold,x28.Shipped,x28.SentBack,x28.Scrapped,x28.Lost,x28.Revalued]:List Int)) (yv_buildSlice (ps:=[(0,_),(1,_),(2,_),(3,_),(4,_),(5,_),(6,_),(7,_),(8,_),(9,_),(10,_)]) (rows:=[[int x28.Open],[int x28.Bought],[int x28.Landed],[int x28.Arrived],[int x28.Returned],[int x28.Sold],[int x28.Shipped],[int x28.SentBack],[int x28.Scrapped],[int x28.Lost],[int x28.Revalued]]) rfl Tryz.underlying22 bz3 (.cons rfl (.cons rfl (.cons rfl (.cons rfl (.cons rfl (.cons rfl (.cons rfl (.cons rfl (.cons rfl (.cons rfl (.cons rfl .nil))))))))))) (by kernel_rfl) rfl rfl rfl) rfl) ?_
    refine tr tbk 2 (.mk ?_)
    obtain rfl:=nxt_e h2
    refine w_ret (hret _ _ (hk [(1,⟨25,5,true,true,v4,[[int a1.Entities,int a1.Periods,lst 1 fI a1.Weights,lst 1 (fL 1 fI) a1.Methods,lst 1 (fL 1 fI) a1.Costs]]⟩),(2,⟨39,8,true,true,v5,[[int a3.Now,boo a3.Closed,lst 4 GPool.av a3.Pools,lst 1 fI a3.Bal,lst 11 GRoll.av a3.Rolls,lst 1 fI a3.Prices,lst 1 fI a3.Down,lst 8 GEnt.av a3.Ahead]]⟩),(4,⟨83,11,true,true,v29,[[int x28.Open,int x28.Bought,int x28.Landed,int x28.Arrived,int x28.Returned,int x28.Sold,int x28.Shipped,int x28.SentBack,int x28.Scrapped,int x28.Lost,int x28.Revalued]]⟩)]) (.tmp rfl .nil) (HK.le ⟨rfl,rfl,rfl,trivial⟩) ?_)
    exact ⟨(),(),rfl,rfl,rfl⟩
    rintro y _ ⟨_,_,rfl,hc,rfl⟩
    subst hc
    obtain ⟨x32,e32,h1⟩:=bind_e h1
    refine sC cal67 (d_stock_sums_c e32) ?_
    refine nb tbk h1 fun x33 h1=>?_
    refine tr tbk 1 (.mk ?_)
    cases x33
    replace h1:=cf h1
    refine tc tbk 4 (.mk ?_)
    refine ni tbk h1 fun x34 h1=>?_
    refine tr tbk 2 (.mk ?_)
    exact bk x34 () h1 leA
    replace h1:=ct h1
    refine tc tbk 5 (.mk ?_)
    obtain ⟨c35,hX,hj⟩:=esc_e h1;subst hj;replace h0:=hX.trans (sel_r h0)
    obtain rfl:=nxt_e h0
    refine wR hret (rT .nil) ?_
    exact .refl _
    rintro _ _ h0
    refine tc tbk 2 (.mk ?_)
    refine jn h0 [1,3,5,6] [1,2] (fun (a:Bool) (k:Unit)=>[(119,boo a)]) (fun a k=>[]) ⟨fun j36 h1=>?_,?_⟩
    refine tc tbk 3 (.mk ?_)
    obtain ⟨x37,e37,h1⟩:=bind_e h1
    refine sC cal67 (d_stock_sums_c e37) ?_
    refine nb tbk h1 fun x38 h1=>?_
    refine tr tbk 1 (.mk ?_)
    cases x38
    replace h1:=cf h1
    refine tr tbk 2 (.mk ?_)
    obtain ⟨x39,e39,h1⟩:=bind_e h1
    refine sC cal67 (d_stock_sums_c e39) ?_
    refine nb tbk h1 fun x40 h1=>?_
    refine tr tbk 2 (.mk ?_)
    cases x40
    replace h1:=cf h1
    refine tr tbk 2 (.mk ?_)
    obtain ⟨x41,e41,h1⟩:=bind_e h1
    refine sC cal67 (d_stock_sums_c e41) ?_
    refine nb tbk h1 fun x42 h1=>?_
    refine tr tbk 2 (.mk ?_)
    cases x42
    replace h1:=cf h1
    refine tr tbk 2 (.mk ?_)
    refine sY (yv_len_sl rfl Tryz.underlying26 rfl (lst_len _)) ?_
    refine nb tbk h1 fun x43 h1=>?_
    refine tr tbk 2 (.mk ?_)
    cases x43
    replace h1:=cf h1
    refine tr tbk 4 (.mk ?_)
    refine sY (yv_len_sl rfl Tryz.underlying26 rfl (lst_len _)) ?_
    refine nb tbk h1 fun x44 h1=>?_
    obtain ⟨x45,e45,h1⟩:=bnd_e h1
    refine sY (yv_to (y:=boo x45) (yv_bneq rfl Tryz.underlying4 rfl rfl) (congrArg boo e45)) ?_
    refine tr tbk 2 (.mk ?_)
    exact lf h1 () leA
    replace h1:=ct h1
    refine tr tbk 9 (.mk ?_)
    exact lf h1 () leA
    replace h1:=ct h1
    refine tr tbk 15 (.mk ?_)
    exact lf h1 () leA
    replace h1:=ct h1
    refine tr tbk 21 (.mk ?_)
    exact lf h1 () leA
    replace h1:=ct h1
    refine tr tbk 27 (.mk ?_)
    exact lf h1 () leA
    rintro y7_1 _ h0
    cases y7_1
    replace h0:=cf h0
    refine tc tbk 3 (.mk ?_)
    refine jn h0 [] [] (fun (a:Bool) (k:Unit)=>[(6,boo a)]) (fun a k=>[]) ⟨fun j46 h1=>?_,?_⟩
    refine c_drawE [0,1,3,7,15,31,63,127,255,511,1023,2047,4095,4095,4095,20479,53247,118783,262143,524287,1048575,2097151] (fun i=>bif Nat.beq i 0 then ([2]) else bif Nat.beq i 1 then ([2]) else bif Nat.beq i 4 then ([2]) else bif Nat.beq i 5 then ([2]) else bif Nat.beq i 12 then ([1]) else bif Nat.beq i 14 then ([2]) else bif Nat.beq i 15 then ([2]) else []) (fun i=>[1,2]) (fun i=>true) [0,1,2,3,4,5,6,7,8,9,10,11,12,13,14,15,16,17,18,19,20,21] mixed (by kernel_rfl) ?_;intro K hK
    refine de_pure rfl rfl rfl rfl (fun H hH=>yv_fieldAddr rfl fo39_1 rfl (.pt ((hH _ (by decide)).trans rfl) rfl rfl) (.pt _ _ _ _ _)) ?_
    refine de_pure rfl rfl rfl rfl (fun H hH=>yv_load rfl sh4 rfl (.pt ((hH _ (by decide)).trans rfl) rfl rfl) rfl) ?_
    obtain ⟨x47,e47,h1⟩:=bnd_e h1
    refine de_pure rfl rfl rfl rfl (fun H hH=>yv_not rfl rfl e47) ?_
    refine de_pure rfl rfl rfl rfl (fun H hH=>yv_move rfl rfl) ?_
    cases x47
    replace h1:=cf h1
    refine de_pure rfl rfl rfl rfl (fun H hH=>yv_fieldAddr rfl fo39_7 rfl (.pt ((hH _ (by decide)).trans rfl) rfl rfl) (.pt _ _ _ _ _)) ?_
    refine de_pure rfl rfl rfl rfl (fun H hH=>yv_load rfl sh26 rfl (.pt ((hH _ (by decide)).trans rfl) rfl rfl) rfl) ?_
    obtain ⟨x48,e48,h1⟩:=bind_e h1
    refine de_pure rfl rfl rfl rfl (fun H hH=>yv_to (y:=.pp [int x48.Now,boo x48.Closed,lst 4 GPool.av x48.Pools,lst 1 fI x48.Bal,lst 11 GRoll.av x48.Rolls,lst 1 fI x48.Prices,lst 1 fI x48.Down,lst 8 GEnt.av x48.Ahead]) (yv_ixT rfl Tryz.underlying26 sh39 rfl rfl e48) (congrArg AV.pp (GEnt.av_eq x48))) ?_
    refine de_pure rfl rfl rfl rfl (fun H hH=>yv_fieldAddr rfl fo39_7 rfl (.pp _) (.pp _ _)) ?_
    refine de_pure rfl rfl rfl rfl (fun H hH=>yv_load rfl sh26 rfl (.pp _) rfl) ?_
    refine de_pure rfl rfl rfl rfl (fun H hH=>yv_len_sl rfl Tryz.underlying26 rfl (lst_len _)) ?_
    obtain ⟨x49,e49,h1⟩:=bnd_e h1
    refine de_pure rfl rfl rfl rfl (fun H hH=>yv_to (y:=boo x49) (yv_eql rfl rfl rfl) (congrArg boo e49)) ?_
    refine de_pure rfl rfl rfl rfl (fun H hH=>yv_move rfl rfl) ?_
    cases x49
    replace h1:=cf h1
    refine de_skip rfl rfl rfl ?_
    refine de_skip rfl rfl rfl ?_
    refine de_skip rfl rfl rfl ?_
    refine de_skip rfl rfl rfl ?_
    refine de_skip rfl rfl rfl ?_
    refine de_skip rfl rfl rfl ?_
    refine de_skip rfl rfl rfl ?_
    refine de_pure rfl rfl rfl rfl (fun H hH=>yv_pick rfl rfl (fun _=>rfl) (fun _=>rfl) rfl) ?_
    refine de_pure rfl rfl rfl rfl (fun H hH=>yv_pick rfl rfl (fun _=>rfl) (fun _=>rfl) rfl) ?_
    refine de_pure rfl rfl rfl rfl (fun H hH=>yv_assign rfl rfl) ?_
    refine de_nil (hK _ ?_)
    exact lf h1 () leA
    replace h1:=ct h1
    refine de_pure rfl rfl rfl rfl (fun H hH=>yv_load rfl sh25 rfl (.pt ((hH _ (by decide)).trans rfl) rfl rfl) rfl) ?_
    refine de_pure rfl rfl rfl rfl (fun H hH=>yv_move rfl rfl) ?_
    refine de_pure rfl rfl rfl rfl (fun H hH=>yv_fieldAddr rfl fo39_7 rfl (.pt ((hH _ (by decide)).trans rfl) rfl rfl) (.pt _ _ _ _ _)) ?_
    refine de_pure rfl rfl rfl rfl (fun H hH=>yv_load rfl sh26 rfl (.pt ((hH _ (by decide)).trans rfl) rfl rfl) rfl) ?_
    obtain ⟨x50,e50,h1⟩:=bind_e h1
    refine de_pure rfl rfl rfl rfl (fun H hH=>yv_to (y:=.pp [int x50.Now,boo x50.Closed,lst 4 GPool.av x50.Pools,lst 1 fI x50.Bal,lst 11 GRoll.av x50.Rolls,lst 1 fI x50.Prices,lst 1 fI x50.Down,lst 8 GEnt.av x50.Ahead]) (yv_ixT rfl Tryz.underlying26 sh39 rfl rfl e50) (congrArg AV.pp (GEnt.av_eq x50))) ?_
    refine de_pure rfl rfl rfl rfl (fun H hH=>yv_load rfl sh39 rfl (.pp _) rfl) ?_
    obtain ⟨x51,e51,h1⟩:=bind_e h1
    refine de_pure rfl rfl rfl rfl (fun H hH=>yv_callP rfl rfl (.cons rfl (.cons rfl (.cons rfl .nil))) cal68 (CvL.refl _) (ih _ hN e51)) ?_
    refine de_pure rfl rfl rfl rfl (fun H hH=>yv_pick rfl rfl (fun _=>rfl) (fun _=>rfl) rfl) ?_
    refine de_pure rfl rfl rfl rfl (fun H hH=>yv_pick rfl rfl (fun _=>rfl) (fun _=>rfl) rfl) ?_
    refine de_pure rfl rfl rfl rfl (fun H hH=>yv_assign rfl rfl) ?_
    refine de_nil (hK _ ?_)
    exact lf h1 () leA
    replace h1:=ct h1
    refine de_skip rfl rfl rfl ?_
    refine de_skip rfl rfl rfl ?_
    refine de_skip rfl rfl rfl ?_
    refine de_skip rfl rfl rfl ?_
    refine de_skip rfl rfl rfl ?_
    refine de_skip rfl rfl rfl ?_
    refine de_skip rfl rfl rfl ?_
    refine de_skip rfl rfl rfl ?_
    refine de_skip rfl rfl rfl ?_
    refine de_skip rfl rfl rfl ?_
    refine de_skip rfl rfl rfl ?_
    refine de_skip rfl rfl rfl ?_
    refine de_skip rfl rfl rfl ?_
    refine de_skip rfl rfl rfl ?_
    refine de_skip rfl rfl rfl ?_
    refine de_skip rfl rfl rfl ?_
    refine de_pure rfl rfl rfl rfl (fun H hH=>yv_pick rfl rfl (fun _=>rfl) (fun _=>rfl) rfl) ?_
    refine de_pure rfl rfl rfl rfl (fun H hH=>yv_assign rfl rfl) ?_
    refine de_nil (hK _ ?_)
    exact lf h1 () leA
    rintro y8_1 _ h0
    obtain rfl:=nxt_e h0
    refine wR hret (rT .nil) ?_
    exact .refl _
    replace h0:=ct h0
    refine tc tbk 5 (.mk ?_)
    obtain rfl:=nxt_e h0
    refine wR hret (rT .nil) ?_
    exact .refl _
    replace h0:=ct h0
    refine tc tbk 5 (.mk ?_)
    obtain rfl:=nxt_e h0
    refine wR hret (rT .nil) ?_
    exact .refl _
noncomputable def t_stock_Check (n:Nat) (a1:GState):WT Tryz.prog (.b (Bool)) :=
 .al 1<|
 .al 2<|
 .jn 0 [1,2,3] [1,2] [] (fun _ (a:Bool)=>[(45,boo a)]) (fun _ _=>[]) (.cl 16 (d_master_Check n a1.Master) cal66 d_master_Check_c fun x4 =>
 .bB 17 (!x4) fun x5 =>
 .ifs [17] x5 (.ret (true:Bool)) (.ln 21 GEnt.av a1.Ents<|
 .bB 24 (decide ((a1.Ents.length:Int)≠a1.Master.Entities)) fun x6 =>
 .ifs [24] x6 (.ret (true:Bool)) (.ln 29 GReceipt.av a1.Receipts<|
 .ln 32 GSale.av a1.Sales<|
 .ln 35 GTransit.av a1.Transits<|
 .bl (if (a1.Transits.length:Int)>(if (a1.Sales.length:Int)>(a1.Receipts.length:Int) then (a1.Sales.length:Int) else (a1.Receipts.length:Int)) then (a1.Transits.length:Int) else (if (a1.Sales.length:Int)>(a1.Receipts.length:Int) then (a1.Sales.length:Int) else (a1.Receipts.length:Int)):Int) fun x7 =>
 .gv 36<|
 .bB 37 (decide (x7>40)) fun x8 =>
 .ifs [37] x8 (.ret (true:Bool)) (.gv 42<|
 .cl 43 (d_stock_sums n 0 ([a1.Done]:List Int)) cal67 d_stock_sums_c fun x9 =>
 .bB 44 (!x9) fun x10 =>
 .ret x10))))
  (fun y0_1 =>
 .ifs [45] y0_1 (.ret ((false:Bool))) (.ln 48 GEnt.av a1.Ents<|
 .jnE 0 [1,2,3] [1,2] [] (fun _ (a:Unit)=>[]) (fun _ _=>[]) (.lp [1,2,3,47,48] [1,2] [] (fun _ (a:Int)=>[(49,int a)]) (fun _ _=>[]) n (0:Int) (fun y1_1 =>
 .bB 50 (decide (y1_1<(a1.Ents.length:Int))) fun x11 =>
 .ifs [50] x11 (.ixE 52 GEnt.av gE GEnt.av_eq a1.Ents y1_1 fun x12 =>
 .al 3<|
 .cl 57 (d_stock_entity n a1.Master y1_1 x12) cal68 d_stock_entity_c fun x14 =>
 .bB 58 (!x14) fun x15 =>
 .ifs [58] x15 (.esc (.esc (.ret ((false:Bool))))) (.bI 59 (w64 (y1_1+1)) fun x16 =>
 .brk x16)) (.esc (.brk ()))))
  (fun _ =>
 .ln 63 GReceipt.av a1.Receipts<|
 .jnE 0 [1,2,6] [1,2] [] (fun _ (a:Unit)=>[]) (fun _ _=>[]) (.lp [1,2,6,62,63] [1,2] [] (fun _ (a:Int)=>[(64,int a)]) (fun _ _=>[]) n (0:Int) (fun y3_1 =>
 .bB 65 (decide (y3_1<(a1.Receipts.length:Int))) fun x17 =>
 .ifs [65] x17 (.ix 66 GReceipt.av a1.Receipts y3_1 fun x18 =>
 .al 4<|
 .jn 0 [1,2,6,62,63,64] [1,2] [] (fun _ (a:Bool)=>[(103,boo a)]) (fun _ _=>[]) (.inl 75 cal69 Tryz.func69 [1,2,4] [] (fun _ (a:Bool)=>boo a) (fun _ _=>[]) (.jn 1 [] [1,2,4] [] (fun _ (a:Bool)=>[(7,boo a)]) (fun _ _=>[]) (.bI 11 (w64 (a1.Master.Entities-1)) fun x20 =>
 .cl 12 (d_stock_in x18.Entity 0 x20) cal70 d_stock_in_c fun x21 =>
 .ifs [12] x21 (.ln 17 fI a1.Master.Weights<|
 .bI 18 (w64 ((a1.Master.Weights.length:Int)-1)) fun x22 =>
 .cl 19 (d_stock_in x18.Item 0 x22) cal70 d_stock_in_c fun x23 =>
 .ifs [19] x23 (.cl 23 (d_stock_in x18.Loc 0 1) cal70 d_stock_in_c fun x24 =>
 .ret x24) (.ret (false:Bool))) (.ret (false:Bool)))
  (fun y4_1 =>
 .ret y4_1)) (fun y5_1 =>
 .bB 76 (!y5_1) fun x25 =>
 .ifs [76] x25 (.ret (true:Bool)) (.gv 84<|
 .cl 85 (d_stock_sums n 0 ([x18.Qty,x18.Value,x18.Accrued]:List Int)) cal67 d_stock_sums_c fun x26 =>
 .bB 86 (!x26) fun x27 =>
 .ifs [86] x27 (.ret (true:Bool)) (.cl 93 (d_stock_in x18.Open 0 x18.Qty) cal70 d_stock_in_c fun x28 =>
 .bB 94 (!x28) fun x29 =>
 .ifs [94] x29 (.ret (true:Bool)) (.cl 101 (d_stock_in x18.Back 0 x18.Qty) cal70 d_stock_in_c fun x30 =>
 .bB 102 (!x30) fun x31 =>
 .ret x31)))))
  (fun y6_1 =>
 .ifs [103] y6_1 (.esc (.esc (.ret ((false:Bool))))) (.bI 104 (w64 (y3_1+1)) fun x32 =>
 .brk x32))) (.esc (.brk ()))))
  (fun _ =>
 .ln 107 GSale.av a1.Sales<|
 .jnE 0 [1,2,6] [1,2] [] (fun _ (a:Unit)=>[]) (fun _ _=>[]) (.lp [1,2,6,106,107] [1,2] [] (fun _ (a:Int)=>[(108,int a)]) (fun _ _=>[]) n (0:Int) (fun y8_1 =>
 .bB 109 (decide (y8_1<(a1.Sales.length:Int))) fun x33 =>
 .ifs [109] x33 (.ix 110 GSale.av a1.Sales y8_1 fun x34 =>
 .al 5<|
 .jn 0 [1,2,6,106,107,108] [1,2] [] (fun _ (a:Bool)=>[(150,boo a)]) (fun _ _=>[]) (.inl 119 cal69 Tryz.func69 [1,2,5] [] (fun _ (a:Bool)=>boo a) (fun _ _=>[]) (.jn 1 [] [1,2,5] [] (fun _ (a:Bool)=>[(7,boo a)]) (fun _ _=>[]) (.bI 11 (w64 (a1.Master.Entities-1)) fun x36 =>
 .cl 12 (d_stock_in x34.Entity 0 x36) cal70 d_stock_in_c fun x37 =>
 .ifs [12] x37 (.ln 17 fI a1.Master.Weights<|
 .bI 18 (w64 ((a1.Master.Weights.length:Int)-1)) fun x38 =>
 .cl 19 (d_stock_in x34.Item 0 x38) cal70 d_stock_in_c fun x39 =>
 .ifs [19] x39 (.cl 23 (d_stock_in x34.Loc 0 1) cal70 d_stock_in_c fun x40 =>
 .ret x40) (.ret (false:Bool))) (.ret (false:Bool)))
  (fun y9_1 =>
 .ret y9_1)) (fun y10_1 =>
 .bB 120 (!y10_1) fun x41 =>
 .ifs [120] x41 (.ret (true:Bool)) (.gv 126<|
 .cl 127 (d_stock_sums n 0 ([x34.Qty,x34.Cost]:List Int)) cal67 d_stock_sums_c fun x42 =>
 .bB 128 (!x42) fun x43 =>
 .ifs [128] x43 (.ret (true:Bool)) (.cl 135 (d_stock_in x34.Back 0 x34.Qty) cal70 d_stock_in_c fun x44 =>
 .bB 136 (!x44) fun x45 =>
 .ifs [136] x45 (.ret (true:Bool)) (.gv 141<|
 .cl 142 (d_stock_sums n (-288230376151711744) ([x34.Profit]:List Int)) cal67 d_stock_sums_c fun x46 =>
 .bB 143 (!x46) fun x47 =>
 .ifs [143] x47 (.ret (true:Bool)) (.cl 148 (d_stock_in x34.Period 1 12) cal70 d_stock_in_c fun x48 =>
 .bB 149 (!x48) fun x49 =>
 .ret x49))))))
  (fun y11_1 =>
 .ifs [150] y11_1 (.esc (.esc (.ret ((false:Bool))))) (.bI 151 (w64 (y8_1+1)) fun x50 =>
 .brk x50))) (.esc (.brk ()))))
  (fun _ =>
 .ln 154 GTransit.av a1.Transits<|
 .jnE 0 [2] [] [] (fun _ (a:Unit)=>[]) (fun _ _=>[]) (.lp [2,6,153,154] [2] [] (fun _ (a:Int)=>[(155,int a)]) (fun _ _=>[]) n (0:Int) (fun y13_1 =>
 .bB 156 (decide (y13_1<(a1.Transits.length:Int))) fun x51 =>
 .ifs [156] x51 (.ix 157 GTransit.av a1.Transits y13_1 fun x52 =>
 .al 6<|
 .jn 0 [2,6,153,154,155] [2] [] (fun _ (a:Bool)=>[(190,boo a)]) (fun _ _=>[]) (.inl 164 cal69 Tryz.func69 [2,6] [] (fun _ (a:Bool)=>boo a) (fun _ _=>[]) (.jn 1 [] [2,6] [] (fun _ (a:Bool)=>[(7,boo a)]) (fun _ _=>[]) (.bI 11 (w64 (a1.Master.Entities-1)) fun x54 =>
 .cl 12 (d_stock_in x52.From 0 x54) cal70 d_stock_in_c fun x55 =>
 .ifs [12] x55 (.ln 17 fI a1.Master.Weights<|
 .bI 18 (w64 ((a1.Master.Weights.length:Int)-1)) fun x56 =>
 .cl 19 (d_stock_in x52.Item 0 x56) cal70 d_stock_in_c fun x57 =>
 .ifs [19] x57 (.cl 23 (d_stock_in 0 0 1) cal70 d_stock_in_c fun x58 =>
 .ret x58) (.ret (false:Bool))) (.ret (false:Bool)))
  (fun y14_1 =>
 .ret y14_1)) (fun y15_1 =>
 .bB 165 (!y15_1) fun x59 =>
 .ifs [165] x59 (.ret (true:Bool)) (.inl 172 cal69 Tryz.func69 [2,6] [] (fun _ (a:Bool)=>boo a) (fun _ _=>[]) (.jn 1 [] [2,6] [] (fun _ (a:Bool)=>[(7,boo a)]) (fun _ _=>[]) (.bI 11 (w64 (a1.Master.Entities-1)) fun x60 =>
 .cl 12 (d_stock_in x52.To 0 x60) cal70 d_stock_in_c fun x61 =>
 .ifs [12] x61 (.ln 17 fI a1.Master.Weights<|
 .bI 18 (w64 ((a1.Master.Weights.length:Int)-1)) fun x62 =>
 .cl 19 (d_stock_in x52.Item 0 x62) cal70 d_stock_in_c fun x63 =>
 .ifs [19] x63 (.cl 23 (d_stock_in 0 0 1) cal70 d_stock_in_c fun x64 =>
 .ret x64) (.ret (false:Bool))) (.ret (false:Bool)))
  (fun y16_1 =>
 .ret y16_1)) (fun y17_1 =>
 .bB 173 (!y17_1) fun x65 =>
 .ifs [173] x65 (.ret (true:Bool)) (.gv 180<|
 .cl 181 (d_stock_sums n 0 ([x52.Qty,x52.Value]:List Int)) cal67 d_stock_sums_c fun x66 =>
 .bB 182 (!x66) fun x67 =>
 .ifs [182] x67 (.ret (true:Bool)) (.gv 187<|
 .cl 188 (d_stock_sums n (-288230376151711744) ([x52.Profit]:List Int)) cal67 d_stock_sums_c fun x68 =>
 .bB 189 (!x68) fun x69 =>
 .ret x69))))))
  (fun y18_1 =>
 .ifs [190] y18_1 (.esc (.esc (.ret ((false:Bool))))) (.bI 191 (w64 (y13_1+1)) fun x70 =>
 .brk x70))) (.esc (.brk ()))))
  (fun _ =>
 .ret ((true:Bool))))))))
def d_stock_Check (n:Nat) (a1:GState):Option (Bool):=(t_stock_Check n a1).run
theorem d_stock_Check_c {n:Nat} {a1:GState} {r:Bool} (h0:d_stock_Check n a1=some r):PP Tryz.prog 34 [.agg (GState.av a1)] (fun y=>y=boo r):=by
 refine wt_pp mixed tbk (fun (r:Bool)=>boo r) h0 Tryz.func34 (fun r=>pvB r) 100000 ?_
 intro v2
 intro v3
 conv=>whnf
 refine .mk ?_ ?_
 conv=>whnf
 refine .mk fun x4 e4=>?_
 conv=>whnf
 refine .mk fun x5=>?_
 refine .mk .mk ?_
 refine .mk ?_
 conv=>whnf
 refine .mk fun x6=>?_
 refine .mk .mk ?_
 refine .mk ?_
 conv=>whnf
 refine .mk ?_
 refine .mk ?_
 conv=>whnf
 refine .mk fun x7 e7=>?_
 conv=>whnf
 refine .mk _ (agr (yv_max3 rfl rfl rfl rfl e7)) ?_
 conv=>whnf
 refine .mk fun x8=>?_
 refine .mk .mk ?_
 conv=>whnf
 refine .mk _ (agr (yv_to (y:=lst 1 fI ([a1.Done]:List Int)) (yv_buildSlice (ps:=[(0,_)]) (rows:=[[int a1.Done]]) rfl Tryz.underlying22 bz3 (.cons rfl .nil) (by kernel_rfl) rfl rfl rfl) rfl)) ?_
 conv=>whnf
 refine .mk fun x9 e9=>?_
 conv=>whnf
 refine .mk fun x10=>?_
 exact .mk
 intro _ _
 refine .mk .mk ?_
 refine .mk ?_
 conv=>whnf
 refine .mk ?_ ?_
 refine .mk ?_
 intro _ _
 conv=>whnf
 refine .mk fun x11=>?_
 conv=>whnf
 refine .mk ?_ ?_
 conv=>whnf
 refine .mk fun x12 e12=>?_
 intro v13
 conv=>whnf
 refine .mk fun x14 e14=>?_
 conv=>whnf
 refine .mk fun x15=>?_
 refine .mk .mk ?_
 conv=>whnf
 refine .mk fun x16=>?_
 exact .mk
 conv=>whnf
 exact .mk
 intro _ _
 refine .mk ?_
 conv=>whnf
 refine .mk ?_ ?_
 refine .mk ?_
 intro _ _
 conv=>whnf
 refine .mk fun x17=>?_
 conv=>whnf
 refine .mk ?_ ?_
 conv=>whnf
 refine .mk fun x18 e18=>?_
 intro v19
 conv=>whnf
 refine .mk ?_ ?_
 conv=>whnf
 refine .mk ?_ ?_
 conv=>whnf
 refine .mk ?_ ?_
 conv=>whnf
 refine .mk fun x20=>?_
 conv=>whnf
 refine .mk fun x21 e21=>?_
 conv=>whnf
 refine .mk ?_ ?_
 refine .mk ?_
 conv=>whnf
 refine .mk fun x22=>?_
 conv=>whnf
 refine .mk fun x23 e23=>?_
 conv=>whnf
 refine .mk ?_ ?_
 conv=>whnf
 refine .mk fun x24 e24=>?_
 exact .mk
 conv=>whnf
 exact .mk
 exact .mk
 intro _ _
 exact .mk
 intro _ _
 conv=>whnf
 refine .mk trivial ?_
 conv=>whnf
 refine .mk fun x25=>?_
 refine .mk .mk ?_
 conv=>whnf
 refine .mk _ (agr (yv_to (y:=lst 1 fI ([x18.Qty,x18.Value,x18.Accrued]:List Int)) (yv_buildSlice (ps:=[(0,_),(1,_),(2,_)]) (rows:=[[int x18.Qty],[int x18.Value],[int x18.Accrued]]) rfl Tryz.underlying22 bz3 (.cons rfl (.cons rfl (.cons rfl .nil))) (by kernel_rfl) rfl rfl rfl) rfl)) ?_
 conv=>whnf
 refine .mk fun x26 e26=>?_
 conv=>whnf
 refine .mk fun x27=>?_
 refine .mk .mk ?_
 conv=>whnf
 refine .mk fun x28 e28=>?_
 conv=>whnf
 refine .mk fun x29=>?_
 refine .mk .mk ?_
 conv=>whnf
 refine .mk fun x30 e30=>?_
 conv=>whnf
 refine .mk fun x31=>?_
 exact .mk
 intro _ _
 refine .mk .mk ?_
 conv=>whnf
 refine .mk fun x32=>?_
 exact .mk
 conv=>whnf
 exact .mk
 intro _ _
 refine .mk ?_
 conv=>whnf
 refine .mk ?_ ?_
 refine .mk ?_
 intro _ _
 conv=>whnf
 refine .mk fun x33=>?_
 conv=>whnf
 refine .mk ?_ ?_
 conv=>whnf
 refine .mk fun x34 e34=>?_
 intro v35
 conv=>whnf
 refine .mk ?_ ?_
 conv=>whnf
 refine .mk ?_ ?_
 conv=>whnf
 refine .mk ?_ ?_
 conv=>whnf
 refine .mk fun x36=>?_
 conv=>whnf
 refine .mk fun x37 e37=>?_
 conv=>whnf
 refine .mk ?_ ?_
 refine .mk ?_
 conv=>whnf
 refine .mk fun x38=>?_
 conv=>whnf
 refine .mk fun x39 e39=>?_
 conv=>whnf
 refine .mk ?_ ?_
 conv=>whnf
 refine .mk fun x40 e40=>?_
 exact .mk
 conv=>whnf
 exact .mk
 exact .mk
 intro _ _
 exact .mk
 intro _ _
 conv=>whnf
 refine .mk trivial ?_
 conv=>whnf
 refine .mk fun x41=>?_
 refine .mk .mk ?_
 conv=>whnf
 refine .mk _ (agr (yv_to (y:=lst 1 fI ([x34.Qty,x34.Cost]:List Int)) (yv_buildSlice (ps:=[(0,_),(1,_)]) (rows:=[[int x34.Qty],[int x34.Cost]]) rfl Tryz.underlying22 bz3 (.cons rfl (.cons rfl .nil)) (by kernel_rfl) rfl rfl rfl) rfl)) ?_
 conv=>whnf
 refine .mk fun x42 e42=>?_
 conv=>whnf
 refine .mk fun x43=>?_
 refine .mk .mk ?_
 conv=>whnf
 refine .mk fun x44 e44=>?_
 conv=>whnf
 refine .mk fun x45=>?_
 refine .mk .mk ?_
 conv=>whnf
 refine .mk _ (agr (yv_to (y:=lst 1 fI ([x34.Profit]:List Int)) (yv_buildSlice (ps:=[(0,_)]) (rows:=[[int x34.Profit]]) rfl Tryz.underlying22 bz3 (.cons rfl .nil) (by kernel_rfl) rfl rfl rfl) rfl)) ?_
 conv=>whnf
 refine .mk fun x46 e46=>?_
 conv=>whnf
 refine .mk fun x47=>?_
 refine .mk .mk ?_
 conv=>whnf
 refine .mk fun x48 e48=>?_
 conv=>whnf
 refine .mk fun x49=>?_
 exact .mk
 intro _ _
 refine .mk .mk ?_
 conv=>whnf
 refine .mk fun x50=>?_
 exact .mk
 conv=>whnf
 exact .mk
 intro _ _
 refine .mk ?_
 conv=>whnf
 refine .mk ?_ ?_
 refine .mk ?_
 intro _ _
 conv=>whnf
 refine .mk fun x51=>?_
 conv=>whnf
 refine .mk ?_ ?_
 conv=>whnf
 refine .mk fun x52 e52=>?_
 intro v53
 conv=>whnf
 refine .mk ?_ ?_
 conv=>whnf
 refine .mk ?_ ?_
 conv=>whnf
 refine .mk ?_ ?_
 conv=>whnf
 refine .mk fun x54=>?_
 conv=>whnf
 refine .mk fun x55 e55=>?_
 conv=>whnf
 refine .mk ?_ ?_
 refine .mk ?_
 conv=>whnf
 refine .mk fun x56=>?_
 conv=>whnf
 refine .mk fun x57 e57=>?_
 conv=>whnf
 refine .mk ?_ ?_
 conv=>whnf
 refine .mk fun x58 e58=>?_
 exact .mk
 conv=>whnf
 exact .mk
 exact .mk
 intro _ _
 exact .mk
 intro _ _
 conv=>whnf
 refine .mk trivial ?_
 conv=>whnf
 refine .mk fun x59=>?_
 refine .mk .mk ?_
 conv=>whnf
 refine .mk ?_ ?_
 conv=>whnf
 refine .mk ?_ ?_
 conv=>whnf
 refine .mk fun x60=>?_
 conv=>whnf
 refine .mk fun x61 e61=>?_
 conv=>whnf
 refine .mk ?_ ?_
 refine .mk ?_
 conv=>whnf
 refine .mk fun x62=>?_
 conv=>whnf
 refine .mk fun x63 e63=>?_
 conv=>whnf
 refine .mk ?_ ?_
 conv=>whnf
 refine .mk fun x64 e64=>?_
 exact .mk
 conv=>whnf
 exact .mk
 exact .mk
 intro _ _
 exact .mk
 intro _ _
 conv=>whnf
 refine .mk trivial ?_
 conv=>whnf
 refine .mk fun x65=>?_
 refine .mk .mk ?_
 conv=>whnf
 refine .mk _ (agr (yv_to (y:=lst 1 fI ([x52.Qty,x52.Value]:List Int)) (yv_buildSlice (ps:=[(0,_),(1,_)]) (rows:=[[int x52.Qty],[int x52.Value]]) rfl Tryz.underlying22 bz3 (.cons rfl (.cons rfl .nil)) (by kernel_rfl) rfl rfl rfl) rfl)) ?_
 conv=>whnf
 refine .mk fun x66 e66=>?_
 conv=>whnf
 refine .mk fun x67=>?_
 refine .mk .mk ?_
 conv=>whnf
 refine .mk _ (agr (yv_to (y:=lst 1 fI ([x52.Profit]:List Int)) (yv_buildSlice (ps:=[(0,_)]) (rows:=[[int x52.Profit]]) rfl Tryz.underlying22 bz3 (.cons rfl .nil) (by kernel_rfl) rfl rfl rfl) rfl)) ?_
 conv=>whnf
 refine .mk fun x68 e68=>?_
 conv=>whnf
 refine .mk fun x69=>?_
 exact .mk
 intro _ _
 refine .mk .mk ?_
 conv=>whnf
 refine .mk fun x70=>?_
 exact .mk
 conv=>whnf
 exact .mk
 intro _ _
 exact .mk
noncomputable def t_recon_Mutual (n:Nat) (a1:GState):WT Tryz.prog (.b (Bool)) :=
 .al 1<|
 .ln 11 GEnt.av a1.Ents<|
 .jnE 0 [2] [] [] (fun _ (a:Int)=>[(3,int a)]) (fun _ _=>[]) (.lp [1,2,11] [1] [] (fun _ (a:Int×Int)=>[(3,int a.1),(12,int a.2)]) (fun _ _=>[]) n ((0:Int),(0:Int)) (pw fun y0_1 y0_2 =>
 .bB 13 (decide (y0_2<(a1.Ents.length:Int))) fun x3 =>
 .ifs [13] x3 (.jnE 1 [1,2,11,12] [1] [] (fun _ (a:Int)=>[(3,int a)]) (fun _ _=>[]) (.gv 15<|
 .jnE 0 [1,2,11,12] [1] [] (fun _ (a:Int)=>[(3,int a)]) (fun _ _=>[]) (.lp [1,2,4,11,12,15] [1] [] (fun _ (a:Int×Int)=>[(3,int a.1),(16,int a.2)]) (fun _ _=>[]) n (y0_1,(0:Int)) (pw fun y1_1 y1_2 =>
 .bB 17 (decide (y1_2<2)) fun x4 =>
 .ifs [17] x4 (.bo (ix ([13,14]:List Int) y1_2) fun x5 =>
 .gv 18<|
 .cl 23 (d_recon_bal a1 y0_2 x5) cal36 d_recon_bal_c fun x6 =>
 .bB 27 (!x6.2) fun x7 =>
 .ifs [27] x7 (.esc (.esc (.esc (.esc (.esc (.ret ((false:Bool)))))))) (.bI 30 (w64 (y1_1+x6.1)) fun x8 =>
 .bI 31 (w64 (y1_2+1)) fun x9 =>
 .brk (x8,x9))) (.esc (.brk y1_1))))
  (fun y2_1 =>
 .brk y2_1))
  (fun y3_1 =>
 .bI 32 (w64 (y0_2+1)) fun x10 =>
 .brk (y3_1,x10))) (.esc (.brk y0_1))))
  (fun y4_1 =>
 .bB 34 (decide (y4_1=0)) fun x11 =>
 .ret (x11))
def d_recon_Mutual (n:Nat) (a1:GState):Option (Bool):=(t_recon_Mutual n a1).run
theorem d_recon_Mutual_c {n:Nat} {a1:GState} {r:Bool} (h0:d_recon_Mutual n a1=some r):PP Tryz.prog 17 [.agg (GState.av a1)] (fun y=>y=boo r):=by
 refine wt_pp mixed tbk (fun (r:Bool)=>boo r) h0 Tryz.func17 (fun r=>pvB r) 100000 ?_
 intro v2
 refine .mk ?_
 conv=>whnf
 refine .mk ?_ ?_
 refine .mk ?_
 intro _ _
 conv=>whnf
 refine .mk fun x3=>?_
 conv=>whnf
 refine .mk ?_ ?_
 conv=>whnf
 refine .mk ?_ ?_
 conv=>whnf
 refine .mk _ (agr (yv_buildA (cs:=[int 13,int 14]) (ps:=[(0,_),(1,_)]) rfl Tryz.underlying79 sh3 z79 rfl (.cons rfl (.cons rfl .nil)) (by kernel_rfl))) ?_
 conv=>whnf
 refine .mk ?_ ?_
 refine .mk ?_
 intro _ _
 conv=>whnf
 refine .mk fun x4=>?_
 conv=>whnf
 refine .mk ?_ ?_
 conv=>whnf
 refine .mk fun x5 e5=>?_
 conv=>whnf
 refine .mk _ (agr (yv_indexAT (g:=fI) (l:=([13,14]:List Int)) (v:=x5) (w:=int x5) rfl Tryz.underlying79 sh3 rfl rfl rfl e5 (fun _=>rfl) hw1)) ?_
 conv=>whnf
 refine .mk fun x6 e6=>?_
 conv=>whnf
 refine .mk fun x7=>?_
 refine .mk .mk ?_
 conv=>whnf
 refine .mk fun x8=>?_
 conv=>whnf
 refine .mk fun x9=>?_
 exact .mk
 conv=>whnf
 exact .mk
 intro _ _
 exact .mk
 intro _ _
 conv=>whnf
 refine .mk fun x10=>?_
 exact .mk
 conv=>whnf
 exact .mk
 intro _ _
 conv=>whnf
 refine .mk fun x11=>?_
 exact .mk
noncomputable def t_recon_Right (n:Nat) (a1:GState):WT Tryz.prog (.b (Bool)) :=
 .al 1<|
 .jn 0 [1,2] [1] [] (fun _ (a:Bool)=>[(15,boo a)]) (fun _ _=>[]) (.cl 9 (d_stock_Check n a1) cal34 d_stock_Check_c fun x3 =>
 .bB 10 (!x3) fun x4 =>
 .ifs [10] x4 (.ret (true:Bool)) (.cl 13 (d_recon_Mutual n a1) cal17 d_recon_Mutual_c fun x5 =>
 .bB 14 (!x5) fun x6 =>
 .ret x6))
  (fun y0_1 =>
 .ifs [15] y0_1 (.ret ((false:Bool))) (.gv 21<|
 .al 2<|
 .ln 24 GEnt.av a1.Ents<|
 .jnE 0 [2] [] [] (fun _ (a:Unit)=>[]) (fun _ _=>[]) (.lp [1,2,3,24] [1,2] [] (fun _ (a:Int)=>[(25,int a)]) (fun _ _=>[]) n (0:Int) (fun y1_1 =>
 .bB 26 (decide (y1_1<(a1.Ents.length:Int))) fun x8 =>
 .ifs [26] x8 (.jnE 1 [1,2,3,24,25] [1,2] [] (fun _ (a:Unit)=>[]) (fun _ _=>[]) (.jnE 3 [1,2,3,4,24,25] [1,2] [] (fun _ (a:Unit)=>[]) (fun _ _=>[]) (.un 24 (.kB 30 true<|
 .gv 31<|
 .al 3<|
 .cl 36 (d_recon_Control n a1 y1_1) cal13 d_recon_Control_c fun x10 =>
 .bB 37 (!x10) fun x11 =>
 .ifs [37] x11 (.esc (.esc (.esc (.esc (.ret ((false:Bool))))))) (.kI 38 1<|
 .kB 30 true<|
 .gv 31<|
 .al 4<|
 .cl 36 (d_recon_Accrued n a1 y1_1) cal14 d_recon_Accrued_c fun x13 =>
 .bB 37 (!x13) fun x14 =>
 .ifs [37] x14 (.esc (.esc (.esc (.esc (.ret ((false:Bool))))))) (.kI 38 2<|
 .kB 30 true<|
 .gv 31<|
 .al 5<|
 .cl 36 (d_recon_Way n a1 y1_1) cal15 d_recon_Way_c fun x16 =>
 .bB 37 (!x16) fun x17 =>
 .ifs [37] x17 (.esc (.esc (.esc (.esc (.ret ((false:Bool))))))) (.kI 38 3<|
 .kB 30 true<|
 .gv 31<|
 .al 6<|
 .cl 36 (d_recon_Written n a1 y1_1) cal16 d_recon_Written_c fun x19 =>
 .bB 37 (!x19) fun x20 =>
 .ifs [37] x20 (.esc (.esc (.esc (.esc (.ret ((false:Bool))))))) (.kI 38 4<|
 .kB 30 true<|
 .gv 31<|
 .al 7<|
 .cl 36 (d_recon_Balanced n a1 y1_1) cal11 d_recon_Balanced_c fun x22 =>
 .bB 37 (!x22) fun x23 =>
 .ifs [37] x23 (.esc (.esc (.esc (.esc (.ret ((false:Bool))))))) (.kI 38 5<|
 .kB 30 false<|
 .brk ())))))))
  (fun _ =>
 .ln 42 fI a1.Master.Weights<|
 .jnE 0 [1,2,3,24,25] [1,2] [] (fun _ (a:Unit)=>[]) (fun _ _=>[]) (.lp [1,2,3,4,24,25,42] [1,2] [] (fun _ (a:Int)=>[(43,int a)]) (fun _ _=>[]) n (0:Int) (fun y4_1 =>
 .bB 44 (decide (y4_1<(a1.Master.Weights.length:Int))) fun x24 =>
 .ifs [44] x24 (.cl 49 (d_recon_Rolled n a1 y1_1 y4_1) cal19 d_recon_Rolled_c fun x25 =>
 .bB 50 (!x25) fun x26 =>
 .ifs [50] x26 (.esc (.esc (.esc (.esc (.esc (.ret ((false:Bool)))))))) (.bI 51 (w64 (y4_1+1)) fun x27 =>
 .brk x27)) (.esc (.brk ()))))
  (fun _ =>
 .brk ())))
  (fun _ =>
 .bI 52 (w64 (y1_1+1)) fun x28 =>
 .brk x28)) (.esc (.brk ()))))
  (fun _ =>
 .ret ((true:Bool)))))
def d_recon_Right (n:Nat) (a1:GState):Option (Bool):=(t_recon_Right n a1).run
theorem d_recon_Right_c {n:Nat} {a1:GState} {r:Bool} (h0:d_recon_Right n a1=some r):PP Tryz.prog 12 [.agg (GState.av a1)] (fun y=>y=boo r):=by
 refine wt_pp mixed tbk (fun (r:Bool)=>boo r) h0 Tryz.func12 (fun r=>pvB r) 100000 ?_
 intro v2
 conv=>whnf
 refine .mk ?_ ?_
 conv=>whnf
 refine .mk fun x3 e3=>?_
 conv=>whnf
 refine .mk fun x4=>?_
 refine .mk .mk ?_
 conv=>whnf
 refine .mk fun x5 e5=>?_
 conv=>whnf
 refine .mk fun x6=>?_
 exact .mk
 intro _ _
 refine .mk .mk ?_
 conv=>whnf
 refine .mk _ (agr (yv_buildA (cs:=[.fn (.func 13) [] [],.fn (.func 14) [] [],.fn (.func 15) [] [],.fn (.func 16) [] [],.fn (.func 11) [] []]) (ps:=[(0,_),(1,_),(2,_),(3,_),(4,_)]) rfl Tryz.underlying73 sh72 z73 rfl (.cons rfl (.cons rfl (.cons rfl (.cons rfl (.cons rfl .nil))))) (by kernel_rfl))) ?_
 intro v7
 refine .mk ?_
 conv=>whnf
 refine .mk ?_ ?_
 refine .mk ?_
 intro _ _
 conv=>whnf
 refine .mk fun x8=>?_
 conv=>whnf
 refine .mk ?_ ?_
 conv=>whnf
 refine .mk ?_ ?_
 conv=>whnf
 refine .mk ?_ ?_
 refine .mk ?_
 conv=>whnf
 refine .mk _ (agr (yv_indexA rfl Tryz.underlying73 sh72 rfl rfl (by decide) rfl)) ?_
 intro v9
 conv=>whnf
 refine .mk fun x10 e10=>?_
 conv=>whnf
 refine .mk fun x11=>?_
 refine .mk .mk ?_
 refine .mk ?_
 conv=>whnf
 refine .mk ?_
 conv=>whnf
 refine .mk _ (agr (yv_indexA rfl Tryz.underlying73 sh72 rfl rfl (by decide) rfl)) ?_
 intro v12
 conv=>whnf
 refine .mk fun x13 e13=>?_
 conv=>whnf
 refine .mk fun x14=>?_
 refine .mk .mk ?_
 refine .mk ?_
 conv=>whnf
 refine .mk ?_
 conv=>whnf
 refine .mk _ (agr (yv_indexA rfl Tryz.underlying73 sh72 rfl rfl (by decide) rfl)) ?_
 intro v15
 conv=>whnf
 refine .mk fun x16 e16=>?_
 conv=>whnf
 refine .mk fun x17=>?_
 refine .mk .mk ?_
 refine .mk ?_
 conv=>whnf
 refine .mk ?_
 conv=>whnf
 refine .mk _ (agr (yv_indexA rfl Tryz.underlying73 sh72 rfl rfl (by decide) rfl)) ?_
 intro v18
 conv=>whnf
 refine .mk fun x19 e19=>?_
 conv=>whnf
 refine .mk fun x20=>?_
 refine .mk .mk ?_
 refine .mk ?_
 conv=>whnf
 refine .mk ?_
 conv=>whnf
 refine .mk _ (agr (yv_indexA rfl Tryz.underlying73 sh72 rfl rfl (by decide) rfl)) ?_
 intro v21
 conv=>whnf
 refine .mk fun x22 e22=>?_
 conv=>whnf
 refine .mk fun x23=>?_
 refine .mk .mk ?_
 refine .mk ?_
 conv=>whnf
 refine .mk ?_
 exact .mk
 intro _ _
 refine .mk ?_
 conv=>whnf
 refine .mk ?_ ?_
 refine .mk ?_
 intro _ _
 conv=>whnf
 refine .mk fun x24=>?_
 conv=>whnf
 refine .mk ?_ ?_
 conv=>whnf
 refine .mk fun x25 e25=>?_
 conv=>whnf
 refine .mk fun x26=>?_
 refine .mk .mk ?_
 conv=>whnf
 refine .mk fun x27=>?_
 exact .mk
 conv=>whnf
 exact .mk
 intro _ _
 exact .mk
 intro _ _
 conv=>whnf
 refine .mk fun x28=>?_
 exact .mk
 conv=>whnf
 exact .mk
 intro _ _
 exact .mk
noncomputable def t_law24_awake (n:Nat) :WT Tryz.prog (.b (Bool)) :=
 .cl 3 (d_law00_Master n 0) cal8 d_law00_Master_c fun x1 =>
 .cl 4 (d_law00_State n x1 []) cal7 d_law00_State_c fun x2 =>
 .al 1<|
 .inl 6 cal10 Tryz.func10 [1] [4,5,6,7,8,9] (fun u2 (a:Int×Bool×(List GEnt)×(List GPool)×(List Int)×(List GRoll)×(List Int)×(List Int))=>.agg [int x2.Master.Entities,int x2.Master.Periods,lst 1 fI x2.Master.Weights,lst 1 (fL 1 fI) x2.Master.Methods,lst 1 (fL 1 fI) x2.Master.Costs,.sl 4 (u2 4) 0 x2.Ents.length,lst 8 GReceipt.av x2.Receipts,lst 9 GSale.av x2.Sales,lst 6 GTransit.av x2.Transits,int x2.Done]) (fun u2 a=>[.nw 4 39 8 ((x2.Ents.map GEnt.av).set (Int.toNat 0) [int a.1,boo a.2.1,.sl 5 (u2 5) 0 a.2.2.2.1.length,.sl 6 (u2 6) 0 a.2.2.2.2.1.length,.sl 7 (u2 7) 0 a.2.2.2.2.2.1.length,.sl 8 (u2 8) 0 a.2.2.2.2.2.2.1.length,.sl 9 (u2 9) 0 a.2.2.2.2.2.2.2.length,lst 8 GEnt.av a.2.2.1]),.nw 5 57 4 (a.2.2.2.1.map GPool.av),.nw 6 3 1 (a.2.2.2.2.1.map fI),.nw 7 83 11 (a.2.2.2.2.2.1.map GRoll.av),.nw 8 3 1 (a.2.2.2.2.2.2.1.map fI),.nw 9 3 1 (a.2.2.2.2.2.2.2.map fI)]) (.al 2<|
 .al 3<|
 .as (x2.Ents.length≤68719476736) inferInstance<|
 .ge 8<|
 .bo (ix x2.Ents 0) fun x8 =>
 .gv 13<|
 .dr [(4,[4]),(5,[4]),(6,[4]),(9,[4]),(10,[4]),(11,[4]),(14,[4]),(15,[4]),(16,[4]),(18,[4]),(19,[4]),(21,[4]),(22,[4]),(24,[4]),(25,[4])] [(17,[]),(20,[]),(23,[]),(26,[])] [4] [7,12,17,20,23,26] [0,1,2,3,4,5,6,8,9,10,11,13,14,15,16,7,12,17,18,19,20,21,22,23,24,25,26] (.gv 18<|
 .gv 19<|
 .gv 20<|
 .gv 23<|
 .gv 24<|
 .gv 25<|
 .gv 28<|
 .gv 29<|
 .gv 30<|
 .as (x8.Pools.length≤68719476736) inferInstance<|
 .ge 21<|
 .as (x8.Bal.length≤68719476736) inferInstance<|
 .ge 26<|
 .as (x8.Rolls.length≤68719476736) inferInstance<|
 .ge 31<|
 .gv 32<|
 .gv 33<|
 .ge 1003020<|
 .gv 34<|
 .gv 35<|
 .ge 1003023<|
 .gv 36<|
 .gv 37<|
 .ge 1003026<|
 .dr [(3,[4]),(4,[4]),(5,[4]),(8,[4]),(9,[4]),(10,[4]),(12,[4]),(13,[4]),(15,[4]),(16,[4])] [(11,[]),(14,[]),(17,[])] [4] [6,11,14,17] [0,1,2,3,4,5,7,8,9,10,6,11,12,13,14,15,16,17] (.gv 41<|
 .gv 42<|
 .gv 43<|
 .gv 46<|
 .gv 47<|
 .gv 48<|
 .as (x8.Prices.length≤68719476736) inferInstance<|
 .ge 44<|
 .as (x8.Down.length≤68719476736) inferInstance<|
 .ge 49<|
 .gv 50<|
 .gv 51<|
 .ge 1004014<|
 .gv 52<|
 .gv 53<|
 .ge 1004017<|
 .ret ((x8.Now:Int),(x8.Closed:Bool),(x8.Ahead:List GEnt),(x8.Pools:List GPool),(x8.Bal:List Int),(x8.Rolls:List GRoll),(x8.Prices:List Int),(x8.Down:List Int))))) (pw fun y0_2 q0=>(pw fun y0_3 q1=>(pw fun y0_9 q2=>(pw fun y0_10 q3=>(pw fun y0_11 q4=>(pw fun y0_12 q5=>(pw fun y0_13 y0_14 =>
 .bo (ix x2.Ents 0) fun x19 =>
 .al 10<|
 .gv 9<|
 .gv 10<|
 .gv 11<|
 .bo (ix y0_11 0) fun x21 =>
 .gv 12<|
 .bl (y0_11.set (Int.toNat 0) (5:Int):List Int) fun x22 =>
 .ge 1003006<|
 .jn 0 [] [] [] (fun _ (a:Bool)=>[(0,boo a)]) (fun _ _=>[]) (.cl 14 (d_recon_Right n x2) cal12 d_recon_Right_c fun x23 =>
 .ifs [14] x23 (.cl 17 (d_recon_Control n x2 0) cal13 d_recon_Control_c fun x24 =>
 .ifs [17] x24 (.clT 21 (d_recon_Control n (⟨x2.Master,(x2.Ents.set (Int.toNat 0) (⟨y0_2,y0_3,y0_10,x22,y0_12,y0_13,y0_14,y0_9⟩:GEnt)),x2.Receipts,x2.Sales,x2.Transits,x2.Done⟩:GState) 0) cal13 d_recon_Control_c (fun _=>rfl) fun x25 =>
 .bB 22 (!x25) fun x26 =>
 .ifs [22] x26 (.clT 26 (d_recon_Balanced n (⟨x2.Master,(x2.Ents.set (Int.toNat 0) (⟨y0_2,y0_3,y0_10,x22,y0_12,y0_13,y0_14,y0_9⟩:GEnt)),x2.Receipts,x2.Sales,x2.Transits,x2.Done⟩:GState) 0) cal11 d_recon_Balanced_c (fun _=>rfl) fun x27 =>
 .bB 27 (!x27) fun x28 =>
 .ifs [27] x28 (.clT 31 (d_recon_Right n (⟨x2.Master,(x2.Ents.set (Int.toNat 0) (⟨y0_2,y0_3,y0_10,x22,y0_12,y0_13,y0_14,y0_9⟩:GEnt)),x2.Receipts,x2.Sales,x2.Transits,x2.Done⟩:GState)) cal12 d_recon_Right_c (fun _=>rfl) fun x29 =>
 .bB 32 (!x29) fun x30 =>
 .ifs [32] x30 (.cl 36 (d_recon_Control n x2 9) cal13 d_recon_Control_c fun x31 =>
 .bB 37 (!x31) fun x32 =>
 .ifs [37] x32 (.cl 41 (d_recon_Mutual n x2) cal17 d_recon_Mutual_c fun x33 =>
 .ret x33) (.ret (false:Bool))) (.ret (false:Bool))) (.ret (false:Bool))) (.ret (false:Bool))) (.ret (false:Bool))) (.ret (false:Bool)))
  (fun y1_1 =>
 .ret (y1_1))) q5) q4) q3) q2) q1) q0)
def d_law24_awake (n:Nat) :Option (Bool):=(t_law24_awake n ).run
theorem d_law24_awake_c {n:Nat}  {r:Bool} (h0:d_law24_awake n =some r):PP Tryz.prog 18 [] (fun y=>y=boo r):=by
 refine wt_pp mixed tbk (fun (r:Bool)=>boo r) h0 Tryz.func18 (fun r=>pvB r) 100000 ?_
 conv=>whnf
 refine .mk fun x1 e1=>?_
 conv=>whnf
 refine .mk (fun x2 e2=>?_) rfl (by rintro _ rfl;exact (.cons (.refl _) (.cons (.nil _) .nil)))
 intro v3
 conv=>whnf
 refine .mk ?_ ?_
 intro v4
 intro v5
 conv=>whnf
 refine .mk fun p6=>?_
 conv=>whnf
 refine .mk _ ⟨fun _=>yl_app0T (g:=GEnt.av) (m:=x2.Ents) 4 rfl Tryz.underlying26 bz39 by39 rfl rfl rfl rfl (.refl _) GEnt.one p6,fun _ _ _=>trivial⟩ ?_
 rintro _ _ ⟨v7,rfl,rfl⟩
 conv=>whnf
 refine .mk fun x8 e8=>?_
 conv=>whnf
 refine .mk _ (agr (yv_ixO rfl Tryz.underlying26 sh39 rfl rfl rfl rfl rfl (Eq.symm rfl) (List.length_map _) e8)) ?_
 refine .mk ?_
 conv=>whnf
 refine .mk _ (fun H hH _=>yv_nilCheck rfl rfl (.pt ((hH _ (by decide)).trans rfl) rfl (ix_get' e8 (GEnt.av_eq _)))) ?_
 conv=>whnf
 refine .mk _ (fun H hH _=>yv_fieldAddr rfl fo39_2 rfl (.pt ((hH _ (by decide)).trans rfl) rfl (ix_get' e8 (GEnt.av_eq _))) (.pt _ _ _ _ _)) ?_
 conv=>whnf
 refine .mk _ (fun H hH _=>yv_load rfl sh36 rfl (.pt ((hH _ (by decide)).trans rfl) rfl (ix_get' e8 (GEnt.av_eq _))) rfl) ?_
 conv=>whnf
 refine .mk _ (fun H hH _=>yv_nilCheck rfl rfl (.pt ((hH _ (by decide)).trans rfl) rfl (ix_get' e8 (GEnt.av_eq _)))) ?_
 conv=>whnf
 refine .mk _ (fun H hH _=>yv_fieldAddr rfl fo39_3 rfl (.pt ((hH _ (by decide)).trans rfl) rfl (ix_get' e8 (GEnt.av_eq _))) (.pt _ _ _ _ _)) ?_
 conv=>whnf
 refine .mk _ (fun H hH _=>yv_load rfl sh22 rfl (.pt ((hH _ (by decide)).trans rfl) rfl (ix_get' e8 (GEnt.av_eq _))) rfl) ?_
 conv=>whnf
 refine .mk _ (fun H hH _=>yv_nilCheck rfl rfl (.pt ((hH _ (by decide)).trans rfl) rfl (ix_get' e8 (GEnt.av_eq _)))) ?_
 conv=>whnf
 refine .mk _ (fun H hH _=>yv_fieldAddr rfl fo39_4 rfl (.pt ((hH _ (by decide)).trans rfl) rfl (ix_get' e8 (GEnt.av_eq _))) (.pt _ _ _ _ _)) ?_
 conv=>whnf
 refine .mk _ (fun H hH _=>yv_load rfl sh37 rfl (.pt ((hH _ (by decide)).trans rfl) rfl (ix_get' e8 (GEnt.av_eq _))) rfl) ?_
 conv=>whnf
 refine .mk fun p9=>?_
 conv=>whnf
 refine .mk _ ⟨fun _=>yl_app0T (g:=GPool.av) (m:=x8.Pools) 5 rfl Tryz.underlying36 bz57 by57 rfl rfl rfl rfl (.refl _) (fun _=>rfl) p9,by rintro _ _ ⟨v10,rfl,rfl⟩;exact ⟨rfl,trivial⟩⟩ ?_
 rintro _ _ ⟨v10,rfl,rfl⟩
 conv=>whnf
 refine .mk fun p11=>?_
 conv=>whnf
 refine .mk _ ⟨fun _=>yl_app0T (g:=fI) (m:=x8.Bal) 6 rfl Tryz.underlying22 bz3 by3 rfl rfl rfl rfl (.refl _) (fun _=>rfl) p11,by rintro _ _ ⟨v12,rfl,rfl⟩;exact ⟨rfl,trivial⟩⟩ ?_
 rintro _ _ ⟨v12,rfl,rfl⟩
 conv=>whnf
 refine .mk fun p13=>?_
 conv=>whnf
 refine .mk _ ⟨fun _=>yl_app0T (g:=GRoll.av) (m:=x8.Rolls) 7 rfl Tryz.underlying37 bz83 by83 rfl rfl rfl rfl (.refl _) (fun _=>rfl) p13,by rintro _ _ ⟨v14,rfl,rfl⟩;exact trivial⟩ ?_
 rintro _ _ ⟨v14,rfl,rfl⟩
 conv=>whnf
 refine .mk _ (fun H hH _=>yv_nilCheck rfl rfl (.pt ((hH _ (by decide)).trans rfl) rfl (ix_get' e8 (GEnt.av_eq _)))) ?_
 conv=>whnf
 refine .mk _ (fun H hH _=>yv_fieldAddr rfl fo39_2 rfl (.pt ((hH _ (by decide)).trans rfl) rfl (ix_get' e8 (GEnt.av_eq _))) (.pt _ _ _ _ _)) ?_
 conv=>whnf
 refine .mk _ ⟨fun _=>Yield.weak (yl_ob (ob':=(⟨39,8,true,true,_,(x2.Ents.map GEnt.av).set (Int.toNat 0) [int x8.Now,boo x8.Closed,.sl 5 v10 0 x8.Pools.length,lst 1 fI x8.Bal,lst 11 GRoll.av x8.Rolls,lst 1 fI x8.Prices,lst 1 fI x8.Down,lst 8 GEnt.av x8.Ahead]⟩:AObj)) (yl_store rfl sh36 rfl rfl rfl rfl rfl (ix_get' e8 (GEnt.av_eq _)) rfl rfl rfl) (ob_eq rfl)) (fun _ h=>h) (fun _ _=>trivial),by rintro _ _ ⟨rfl,rfl⟩;exact trivial⟩ ?_
 rintro _ _ ⟨rfl,rfl⟩
 conv=>whnf
 refine .mk _ (fun H hH _=>yv_nilCheck rfl rfl (.pt ((hH _ (by decide)).trans rfl) rfl (set_get e8))) ?_
 conv=>whnf
 refine .mk _ (fun H hH _=>yv_fieldAddr rfl fo39_3 rfl (.pt ((hH _ (by decide)).trans rfl) rfl (set_get e8)) (.pt _ _ _ _ _)) ?_
 conv=>whnf
 refine .mk _ ⟨fun _=>Yield.weak (yl_ob (ob':=(⟨39,8,true,true,_,(x2.Ents.map GEnt.av).set (Int.toNat 0) [int x8.Now,boo x8.Closed,.sl 5 v10 0 x8.Pools.length,.sl 6 v12 0 x8.Bal.length,lst 11 GRoll.av x8.Rolls,lst 1 fI x8.Prices,lst 1 fI x8.Down,lst 8 GEnt.av x8.Ahead]⟩:AObj)) (yl_store rfl sh22 rfl rfl rfl rfl rfl (set_get e8) rfl rfl rfl) (ob_eq set_setV)) (fun _ h=>h) (fun _ _=>trivial),by rintro _ _ ⟨rfl,rfl⟩;exact trivial⟩ ?_
 rintro _ _ ⟨rfl,rfl⟩
 conv=>whnf
 refine .mk _ (fun H hH _=>yv_nilCheck rfl rfl (.pt ((hH _ (by decide)).trans rfl) rfl (set_get e8))) ?_
 conv=>whnf
 refine .mk _ (fun H hH _=>yv_fieldAddr rfl fo39_4 rfl (.pt ((hH _ (by decide)).trans rfl) rfl (set_get e8)) (.pt _ _ _ _ _)) ?_
 conv=>whnf
 refine .mk _ ⟨fun _=>Yield.weak (yl_ob (ob':=(⟨39,8,true,true,_,(x2.Ents.map GEnt.av).set (Int.toNat 0) [int x8.Now,boo x8.Closed,.sl 5 v10 0 x8.Pools.length,.sl 6 v12 0 x8.Bal.length,.sl 7 v14 0 x8.Rolls.length,lst 1 fI x8.Prices,lst 1 fI x8.Down,lst 8 GEnt.av x8.Ahead]⟩:AObj)) (yl_store rfl sh37 rfl rfl rfl rfl rfl (set_get e8) rfl rfl rfl) (ob_eq set_setV)) (fun _ h=>h) (fun _ _=>trivial),by rintro _ _ ⟨rfl,rfl⟩;exact trivial⟩ ?_
 rintro _ _ ⟨rfl,rfl⟩
 refine .mk ?_
 conv=>whnf
 refine .mk _ (fun H hH _=>yv_nilCheck rfl rfl (.pt ((hH _ (by decide)).trans rfl) rfl (set_get e8))) ?_
 conv=>whnf
 refine .mk _ (fun H hH _=>yv_fieldAddr rfl fo39_5 rfl (.pt ((hH _ (by decide)).trans rfl) rfl (set_get e8)) (.pt _ _ _ _ _)) ?_
 conv=>whnf
 refine .mk _ (fun H hH _=>yv_load rfl sh22 rfl (.pt ((hH _ (by decide)).trans rfl) rfl (set_get e8)) rfl) ?_
 conv=>whnf
 refine .mk _ (fun H hH _=>yv_nilCheck rfl rfl (.pt ((hH _ (by decide)).trans rfl) rfl (set_get e8))) ?_
 conv=>whnf
 refine .mk _ (fun H hH _=>yv_fieldAddr rfl fo39_6 rfl (.pt ((hH _ (by decide)).trans rfl) rfl (set_get e8)) (.pt _ _ _ _ _)) ?_
 conv=>whnf
 refine .mk _ (fun H hH _=>yv_load rfl sh22 rfl (.pt ((hH _ (by decide)).trans rfl) rfl (set_get e8)) rfl) ?_
 conv=>whnf
 refine .mk fun p15=>?_
 conv=>whnf
 refine .mk _ ⟨fun _=>yl_app0T (g:=fI) (m:=x8.Prices) 8 rfl Tryz.underlying22 bz3 by3 rfl rfl rfl rfl (.refl _) (fun _=>rfl) p15,by rintro _ _ ⟨v16,rfl,rfl⟩;exact ⟨rfl,trivial⟩⟩ ?_
 rintro _ _ ⟨v16,rfl,rfl⟩
 conv=>whnf
 refine .mk fun p17=>?_
 conv=>whnf
 refine .mk _ ⟨fun _=>yl_app0T (g:=fI) (m:=x8.Down) 9 rfl Tryz.underlying22 bz3 by3 rfl rfl rfl rfl (.refl _) (fun _=>rfl) p17,by rintro _ _ ⟨v18,rfl,rfl⟩;exact trivial⟩ ?_
 rintro _ _ ⟨v18,rfl,rfl⟩
 conv=>whnf
 refine .mk _ (fun H hH _=>yv_nilCheck rfl rfl (.pt ((hH _ (by decide)).trans rfl) rfl (set_get e8))) ?_
 conv=>whnf
 refine .mk _ (fun H hH _=>yv_fieldAddr rfl fo39_5 rfl (.pt ((hH _ (by decide)).trans rfl) rfl (set_get e8)) (.pt _ _ _ _ _)) ?_
 conv=>whnf
 refine .mk _ ⟨fun _=>Yield.weak (yl_ob (ob':=(⟨39,8,true,true,_,(x2.Ents.map GEnt.av).set (Int.toNat 0) [int x8.Now,boo x8.Closed,.sl 5 v10 0 x8.Pools.length,.sl 6 v12 0 x8.Bal.length,.sl 7 v14 0 x8.Rolls.length,.sl 8 v16 0 x8.Prices.length,lst 1 fI x8.Down,lst 8 GEnt.av x8.Ahead]⟩:AObj)) (yl_store rfl sh22 rfl rfl rfl rfl rfl (set_get e8) rfl rfl rfl) (ob_eq set_setV)) (fun _ h=>h) (fun _ _=>trivial),by rintro _ _ ⟨rfl,rfl⟩;exact trivial⟩ ?_
 rintro _ _ ⟨rfl,rfl⟩
 conv=>whnf
 refine .mk _ (fun H hH _=>yv_nilCheck rfl rfl (.pt ((hH _ (by decide)).trans rfl) rfl (set_get e8))) ?_
 conv=>whnf
 refine .mk _ (fun H hH _=>yv_fieldAddr rfl fo39_6 rfl (.pt ((hH _ (by decide)).trans rfl) rfl (set_get e8)) (.pt _ _ _ _ _)) ?_
 conv=>whnf
 refine .mk _ ⟨fun _=>Yield.weak (yl_ob (ob':=(⟨39,8,true,true,_,(x2.Ents.map GEnt.av).set (Int.toNat 0) [int x8.Now,boo x8.Closed,.sl 5 v10 0 x8.Pools.length,.sl 6 v12 0 x8.Bal.length,.sl 7 v14 0 x8.Rolls.length,.sl 8 v16 0 x8.Prices.length,.sl 9 v18 0 x8.Down.length,lst 8 GEnt.av x8.Ahead]⟩:AObj)) (yl_store rfl sh22 rfl rfl rfl rfl rfl (set_get e8) rfl rfl rfl) (ob_eq set_setV)) (fun _ h=>h) (fun _ _=>trivial),by rintro _ _ ⟨rfl,rfl⟩;exact trivial⟩ ?_
 rintro _ _ ⟨rfl,rfl⟩
 exact .mk
 rintro ⟨y0_2,y0_3,y0_9,y0_10,y0_11,y0_12,y0_13,y0_14⟩ _
 conv=>whnf
 refine .mk trivial ?_
 conv=>whnf
 refine .mk fun x19 e19=>?_
 intro v20
 conv=>whnf
 refine .mk _ (agr (yv_ixO rfl Tryz.underlying26 sh39 rfl rfl rfl rfl rfl (Eq.symm rfl) len_ov e19)) ?_
 conv=>whnf
 refine .mk _ (agr (yv_fieldAddr rfl fo39_3 rfl (.pt rfl rfl (set_get e19)) (.pt _ _ _ _ _))) ?_
 conv=>whnf
 refine .mk _ (agr (yv_load rfl sh22 rfl (.pt rfl rfl (set_get e19)) rfl)) ?_
 conv=>whnf
 refine .mk fun x21 e21=>?_
 conv=>whnf
 refine .mk _ (agr (yv_ixO rfl Tryz.underlying22 sh3 rfl rfl rfl rfl rfl (Eq.symm rfl) (List.length_map _) e21)) ?_
 conv=>whnf
 refine .mk fun x22 e22=>?_
 have fx22:=ix_set e21 e22;have lx22:=len_setV e22 (rfl:y0_11.length=y0_11.length)
 conv=>whnf
 refine .mk _ ⟨fun _=>Yield.weak (yl_ob (ob':=(⟨3,1,true,true,_,x22.map fI⟩:AObj)) (yl_store rfl sh3 rfl rfl rfl rfl rfl (ix_get e21) rfl rfl rfl) (ob_eq (map_setV e22))) (fun _ h=>h) (fun _ _=>trivial),fun _ _ _=>trivial⟩ ?_
 rintro _ _ ⟨rfl,rfl⟩
 conv=>whnf
 refine .mk ?_ ?_
 conv=>whnf
 refine .mk fun x23 e23=>?_
 conv=>whnf
 refine .mk ?_ ?_
 conv=>whnf
 refine .mk fun x24 e24=>?_
 conv=>whnf
 refine .mk ?_ ?_
 conv=>whnf
 refine .mk (fun x25 e25=>?_) rfl (by rintro _ rfl;exact (.cons (CvL.agg (.cons (.refl _) (.cons (.refl _) (.cons (.refl _) (.cons (.refl _) (.cons (.refl _) (.cons (cv_ov rfl rfl rfl rfl rfl (Eq.symm rfl) e19 (cvl_to (.cons (.refl _) (.cons (.refl _) (.cons (cv_lst rfl rfl rfl rfl rfl (Eq.symm rfl)) (.cons (cv_lst rfl rfl rfl rfl rfl (Eq.symm lx22)) (.cons (cv_lst rfl rfl rfl rfl rfl (Eq.symm rfl)) (.cons (cv_lst rfl rfl rfl rfl rfl (Eq.symm rfl)) (.cons (cv_lst rfl rfl rfl rfl rfl (Eq.symm rfl)) (.cons (.refl _) .nil)))))))) (GEnt.av_eq _))) (.cons (.refl _) (.cons (.refl _) (.cons (.refl _) (.cons (.refl _) .nil))))))))))) (.cons (.refl _) .nil)))
 conv=>whnf
 refine .mk fun x26=>?_
 conv=>whnf
 refine .mk ?_ ?_
 conv=>whnf
 refine .mk (fun x27 e27=>?_) rfl (by rintro _ rfl;exact (.cons (CvL.agg (.cons (.refl _) (.cons (.refl _) (.cons (.refl _) (.cons (.refl _) (.cons (.refl _) (.cons (cv_ov rfl rfl rfl rfl rfl (Eq.symm rfl) e19 (cvl_to (.cons (.refl _) (.cons (.refl _) (.cons (cv_lst rfl rfl rfl rfl rfl (Eq.symm rfl)) (.cons (cv_lst rfl rfl rfl rfl rfl (Eq.symm lx22)) (.cons (cv_lst rfl rfl rfl rfl rfl (Eq.symm rfl)) (.cons (cv_lst rfl rfl rfl rfl rfl (Eq.symm rfl)) (.cons (cv_lst rfl rfl rfl rfl rfl (Eq.symm rfl)) (.cons (.refl _) .nil)))))))) (GEnt.av_eq _))) (.cons (.refl _) (.cons (.refl _) (.cons (.refl _) (.cons (.refl _) .nil))))))))))) (.cons (.refl _) .nil)))
 conv=>whnf
 refine .mk fun x28=>?_
 conv=>whnf
 refine .mk ?_ ?_
 conv=>whnf
 refine .mk (fun x29 e29=>?_) rfl (by rintro _ rfl;exact (.cons (CvL.agg (.cons (.refl _) (.cons (.refl _) (.cons (.refl _) (.cons (.refl _) (.cons (.refl _) (.cons (cv_ov rfl rfl rfl rfl rfl (Eq.symm rfl) e19 (cvl_to (.cons (.refl _) (.cons (.refl _) (.cons (cv_lst rfl rfl rfl rfl rfl (Eq.symm rfl)) (.cons (cv_lst rfl rfl rfl rfl rfl (Eq.symm lx22)) (.cons (cv_lst rfl rfl rfl rfl rfl (Eq.symm rfl)) (.cons (cv_lst rfl rfl rfl rfl rfl (Eq.symm rfl)) (.cons (cv_lst rfl rfl rfl rfl rfl (Eq.symm rfl)) (.cons (.refl _) .nil)))))))) (GEnt.av_eq _))) (.cons (.refl _) (.cons (.refl _) (.cons (.refl _) (.cons (.refl _) .nil))))))))))) .nil))
 conv=>whnf
 refine .mk fun x30=>?_
 conv=>whnf
 refine .mk ?_ ?_
 conv=>whnf
 refine .mk fun x31 e31=>?_
 conv=>whnf
 refine .mk fun x32=>?_
 conv=>whnf
 refine .mk ?_ ?_
 conv=>whnf
 refine .mk fun x33 e33=>?_
 exact .mk
 conv=>whnf
 exact .mk
 exact .mk
 conv=>whnf
 exact .mk
 exact .mk
 conv=>whnf
 exact .mk
 exact .mk
 intro _ _
 exact .mk
end
end Go.Pv
