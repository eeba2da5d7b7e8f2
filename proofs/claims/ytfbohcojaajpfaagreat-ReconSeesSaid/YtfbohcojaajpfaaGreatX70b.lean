import Derived.Test.YtfbohcojaajpfaaGreatX70
set_option linter.unusedVariables false
set_option linter.unusedSimpArgs false
namespace Go.Pv
open Go.Proofs
set_option maxRecDepth 100000
set_option maxHeartbeats 4000000
noncomputable section
noncomputable def t_law00_Ops (n:Nat) (a1:GMaster) (a2:List Int):WT Tryz.prog (.b ((List GOp))) :=
 .al 1<|
 .jn 2 [4] [] [3] (fun u6 (a:(List GOp))=>[(5,.sl 3 (u6 3) 0 a.length)]) (fun _ a=>[.nw 3 67 9 (a.map GOp.av)]) (.no 5 3 67 9<|
 .lp [1,2,4] [1] [3] (fun u10 (a:Int×(List GOp))=>[(5,.sl 3 (u10 3) 0 a.2.length),(6,int a.1)]) (fun _ a=>[.nw 3 67 9 (a.2.map GOp.av)]) n ((0:Int),(([]:List GOp):List GOp)) (pw fun y0_2 y0_3 =>
 .jn 0 [1,2,4,5,6] [1,3] [] (fun _ (a:Bool)=>[(14,boo a)]) (fun _ _=>[]) (.ln 9 fI a2<|
 .bB 10 (decide (y0_2<(a2.length:Int))) fun x5 =>
 .ifs [10] x5 (.bB 13 (decide (y0_2<120)) fun x6 =>
 .ret x6) (.ret (false:Bool)))
  (fun y1_1 =>
 .ifs [14] y1_1 (.dr [(1,[1])] [(8,[])] [1] [8] [0,1,2,3,4,5,6,7,8,9] (.ix 21 fI a2 y0_2 fun x7 =>
 .cl 23 (d_law00_Op a1 x7) cal60 d_law00_Op_c fun x8 =>
 .gv 24<|
 .bl (y0_3++([x8]:List GOp):List GOp) fun x9 =>
 .as (x9.length≤68719476736) inferInstance<|
 .ge 25<|
 .bI 16 (w64 (y0_2+1)) fun x12 =>
 .brk (x12,x9))) (.esc (.ret y0_3)))))
  (fun y2_2 =>
 .ret (y2_2))
def d_law00_Ops (n:Nat) (a1:GMaster) (a2:List Int):Option ((List GOp)):=(t_law00_Ops n a1 a2).run
theorem d_law00_Ops_c {n:Nat} {a1:GMaster} {a2:List Int} {r:(List GOp)} (h0:d_law00_Ops n a1 a2=some r):PP Tryz.prog 31 [.agg (GMaster.av a1),lst 1 fI a2] (fun y=>y=lst 9 GOp.av r):=by
 refine wt_pp mixed tbk (fun (r:(List GOp))=>lst 9 GOp.av r) h0 Tryz.func31 (fun r=>(pvLs GOp.pvc) r) 100000 ?_
 intro v3
 conv=>whnf
 refine .mk ?_ ?_
 intro v4
 refine .mk ?_
 rintro ⟨y0_2,y0_3⟩ _
 conv=>whnf
 refine .mk ?_ ?_
 refine .mk ?_
 conv=>whnf
 refine .mk fun x5=>?_
 conv=>whnf
 refine .mk ?_ ?_
 conv=>whnf
 refine .mk fun x6=>?_
 exact .mk
 conv=>whnf
 exact .mk
 intro _ _
 conv=>whnf
 refine .mk ?_ ?_
 refine .mk ?_
 conv=>whnf
 refine .mk fun x7 e7=>?_
 conv=>whnf
 refine .mk fun x8 e8=>?_
 conv=>whnf
 refine .mk _ (fun H hH _=>yv_to (y:=lst 9 GOp.av ([x8]:List GOp)) (yv_buildSlice (ps:=[(0,_)]) (rows:=[[int x8.Kind,int x8.E,int x8.Item,int x8.Loc,int x8.To,int x8.Qty,int x8.Amount,int x8.Ref,lst 1 fI x8.Refs]]) rfl Tryz.underlying63 bz67 (.cons rfl .nil) (by kernel_rfl) rfl rfl rfl) rfl) ?_
 conv=>whnf
 refine .mk fun x9 e9=>?_
 conv=>whnf
 refine .mk fun p10=>?_
 conv=>whnf
 refine .mk _ ⟨fun _=>yl_appT (g:=GOp.av) (l:=y0_3) (m:=([x8]:List GOp)) .any rfl Tryz.underlying63 bz67 by67 rfl rfl rfl rfl rfl rfl rfl rfl rfl rfl (Eq.symm rfl) (.refl _) (fun _=>rfl) e9 p10,by rintro _ _ ⟨v11,-,rfl,rfl⟩;exact trivial⟩ ?_
 rintro _ _ ⟨v11,-,rfl,rfl⟩
 conv=>whnf
 refine .mk fun x12=>?_
 exact .mk
 conv=>whnf
 exact .mk
 intro _ _
 conv=>whnf
 exact .mk (cv_lst rfl rfl rfl rfl rfl (Eq.symm rfl))
noncomputable def t_ref05_has (a1:Int):WT Tryz.prog (.b ((List UInt8))) :=
 .bB 5 (decide (a1=1)) fun x2 =>
 .jn 0 [2,3] [] [] (fun _ (a:Bool)=>[(4,boo a)]) (fun _ _=>[]) (.ifs [4,5] x2 (.ret (true:Bool)) (.bB 6 (decide (a1=4)) fun x3 =>
 .ret x3))
  (fun y0_1 =>
 .ifs [4] y0_1 (.ret ((([101,105,108,113,97]:List UInt8):List UInt8))) (.bB 8 (decide (a1=2)) fun x4 =>
 .jn 0 [2,3] [] [] (fun _ (a:Bool)=>[(7,boo a)]) (fun _ _=>[]) (.ifs [7,8] x4 (.ret (true:Bool)) (.bB 9 (decide (a1=5)) fun x5 =>
 .ret x5))
  (fun y1_1 =>
 .ifs [7] y1_1 (.ret ((([113,97,114]:List UInt8):List UInt8))) (.bB 11 (decide (a1=3)) fun x6 =>
 .ifs [11] x6 (.ret ((([113,114]:List UInt8):List UInt8))) (.bB 13 (decide (a1=6)) fun x7 =>
 .jn 0 [2,3] [] [] (fun _ (a:Bool)=>[(12,boo a)]) (fun _ _=>[]) (.ifs [12,13] x7 (.ret (true:Bool)) (.bB 14 (decide (a1=7)) fun x8 =>
 .ret x8))
  (fun y2_1 =>
 .ifs [12] y2_1 (.ret ((([101,105,108,113]:List UInt8):List UInt8))) (.bB 16 (decide (a1=8)) fun x9 =>
 .ifs [16] x9 (.ret ((([101,105,108,116,113]:List UInt8):List UInt8))) (.bB 18 (decide (a1=9)) fun x10 =>
 .jn 0 [2,3] [] [] (fun _ (a:Bool)=>[(17,boo a)]) (fun _ _=>[]) (.ifs [17,18] x10 (.ret (true:Bool)) (.bB 19 (decide (a1=10)) fun x11 =>
 .ret x11))
  (fun y3_1 =>
 .ifs [17] y3_1 (.ret ((([101,105,97]:List UInt8):List UInt8))) (.bB 21 (decide (a1=11)) fun x12 =>
 .ifs [21] x12 (.ret ((([116,97,115]:List UInt8):List UInt8))) (.bB 23 (decide (a1=12)) fun x13 =>
 .ifs [23] x13 (.ret ((([101,105,108,116,113,97]:List UInt8):List UInt8))) (.bB 25 (decide (a1=13)) fun x14 =>
 .ifs [25] x14 (.ret ((([108,113,114]:List UInt8):List UInt8))) (.bB 27 (decide (a1=14)) fun x15 =>
 .jn 0 [2] [] [] (fun _ (a:Bool)=>[(26,boo a)]) (fun _ _=>[]) (.ifs [26,27] x15 (.ret (true:Bool)) (.bB 28 (decide (a1=15)) fun x16 =>
 .ifs [28] x16 (.ret (true:Bool)) (.bB 29 (decide (a1=16)) fun x17 =>
 .ret x17)))
  (fun y4_1 =>
 .ifs [26] y4_1 (.ret ((([101]:List UInt8):List UInt8))) (.ret ((([]:List UInt8):List UInt8)))))))))))))))))
def d_ref05_has (a1:Int):Option ((List UInt8)):=(t_ref05_has a1).run
theorem d_ref05_has_c {a1:Int} {r:(List UInt8)} (h0:d_ref05_has a1=some r):PP Tryz.prog 98 [int a1] (fun y=>y=str r):=by
 refine wt_pp mixed tbk (fun (r:(List UInt8))=>str r) h0 Tryz.func98 (fun r=>pvS r) 100000 ?_
 conv=>whnf
 refine .mk fun x2=>?_
 conv=>whnf
 refine .mk ?_ ?_
 refine .mk .mk ?_
 conv=>whnf
 refine .mk fun x3=>?_
 exact .mk
 intro _ _
 refine .mk .mk ?_
 conv=>whnf
 refine .mk fun x4=>?_
 conv=>whnf
 refine .mk ?_ ?_
 refine .mk .mk ?_
 conv=>whnf
 refine .mk fun x5=>?_
 exact .mk
 intro _ _
 refine .mk .mk ?_
 conv=>whnf
 refine .mk fun x6=>?_
 refine .mk .mk ?_
 conv=>whnf
 refine .mk fun x7=>?_
 conv=>whnf
 refine .mk ?_ ?_
 refine .mk .mk ?_
 conv=>whnf
 refine .mk fun x8=>?_
 exact .mk
 intro _ _
 refine .mk .mk ?_
 conv=>whnf
 refine .mk fun x9=>?_
 refine .mk .mk ?_
 conv=>whnf
 refine .mk fun x10=>?_
 conv=>whnf
 refine .mk ?_ ?_
 refine .mk .mk ?_
 conv=>whnf
 refine .mk fun x11=>?_
 exact .mk
 intro _ _
 refine .mk .mk ?_
 conv=>whnf
 refine .mk fun x12=>?_
 refine .mk .mk ?_
 conv=>whnf
 refine .mk fun x13=>?_
 refine .mk .mk ?_
 conv=>whnf
 refine .mk fun x14=>?_
 refine .mk .mk ?_
 conv=>whnf
 refine .mk fun x15=>?_
 conv=>whnf
 refine .mk ?_ ?_
 refine .mk .mk ?_
 conv=>whnf
 refine .mk fun x16=>?_
 refine .mk .mk ?_
 conv=>whnf
 refine .mk fun x17=>?_
 exact .mk
 intro _ _
 refine .mk .mk ?_
 exact .mk
noncomputable def t_ref05_to (a1:GOp):WT Tryz.prog (.b (Bool)) :=
 .al 1<|
 .bB 6 (decide (a1.Kind=8)) fun x3 =>
 .ifs [6] x3 (.jn 1 [1] [1] [] (fun _ (a:Bool)=>[(2,boo a)]) (fun _ _=>[]) (.bB 9 (decide (a1.To≥0)) fun x4 =>
 .ifs [9] x4 (.bB 13 (decide (a1.To<2)) fun x5 =>
 .ifs [13] x5 (.bB 20 (decide (a1.To≠a1.Loc)) fun x6 =>
 .ret x6) (.ret (false:Bool))) (.ret (false:Bool)))
  (fun y0_1 =>
 .ret (y0_1))) (.bB 23 (decide (a1.Kind=12)) fun x7 =>
 .ifs [23] x7 (.jn 1 [1] [1] [] (fun _ (a:Bool)=>[(2,boo a)]) (fun _ _=>[]) (.bB 26 (decide (a1.To≥0)) fun x8 =>
 .ifs [26] x8 (.bB 30 (decide (a1.To<4)) fun x9 =>
 .ifs [30] x9 (.bB 37 (decide (a1.To≠a1.E)) fun x10 =>
 .ret x10) (.ret (false:Bool))) (.ret (false:Bool)))
  (fun y1_1 =>
 .ret (y1_1))) (.jn 1 [] [] [] (fun _ (a:Bool)=>[(2,boo a)]) (fun _ _=>[]) (.bB 41 (decide (a1.To≥0)) fun x11 =>
 .ifs [41] x11 (.bB 45 (decide (a1.To≤2)) fun x12 =>
 .ret x12) (.ret (false:Bool)))
  (fun y2_1 =>
 .ret (y2_1))))
def d_ref05_to (a1:GOp):Option (Bool):=(t_ref05_to a1).run
theorem d_ref05_to_c {a1:GOp} {r:Bool} (h0:d_ref05_to a1=some r):PP Tryz.prog 145 [.agg (GOp.av a1)] (fun y=>y=boo r):=by
 refine wt_pp mixed tbk (fun (r:Bool)=>boo r) h0 Tryz.func145 (fun r=>pvB r) 100000 ?_
 intro v2
 conv=>whnf
 refine .mk fun x3=>?_
 conv=>whnf
 refine .mk ?_ ?_
 conv=>whnf
 refine .mk ?_ ?_
 conv=>whnf
 refine .mk fun x4=>?_
 conv=>whnf
 refine .mk ?_ ?_
 conv=>whnf
 refine .mk fun x5=>?_
 conv=>whnf
 refine .mk ?_ ?_
 conv=>whnf
 refine .mk fun x6=>?_
 exact .mk
 conv=>whnf
 exact .mk
 exact .mk
 intro _ _
 exact .mk
 conv=>whnf
 refine .mk fun x7=>?_
 conv=>whnf
 refine .mk ?_ ?_
 conv=>whnf
 refine .mk ?_ ?_
 conv=>whnf
 refine .mk fun x8=>?_
 conv=>whnf
 refine .mk ?_ ?_
 conv=>whnf
 refine .mk fun x9=>?_
 conv=>whnf
 refine .mk ?_ ?_
 conv=>whnf
 refine .mk fun x10=>?_
 exact .mk
 conv=>whnf
 exact .mk
 exact .mk
 intro _ _
 exact .mk
 conv=>whnf
 refine .mk ?_ ?_
 conv=>whnf
 refine .mk fun x11=>?_
 conv=>whnf
 refine .mk ?_ ?_
 conv=>whnf
 refine .mk fun x12=>?_
 exact .mk
 conv=>whnf
 exact .mk
 intro _ _
 exact .mk
noncomputable def t_ref05_refs (n:Nat) (a1:List Int):WT Tryz.prog (.b (Bool)) :=
 .jnE 2 [0,2] [] [] (fun _ (a:Unit)=>[]) (fun _ _=>[]) (.lp [0,2] [] [] (fun _ (a:Int)=>[(3,int a)]) (fun _ _=>[]) n (0:Int) (fun y0_1 =>
 .ln 7 fI a1<|
 .bB 8 (decide (y0_1<(a1.length:Int))) fun x2 =>
 .ifs [8] x2 (.jnE 1 [0,2,3] [] [] (fun _ (a:Unit)=>[]) (fun _ _=>[]) (.jn 1 [0,2,3] [] [] (fun _ (a:Bool)=>[(22,boo a)]) (fun _ _=>[]) (.ix 13 fI a1 y0_1 fun x3 =>
 .bB 15 (decide (x3<0)) fun x4 =>
 .ifs [15] x4 (.ret (true:Bool)) (.ix 19 fI a1 y0_1 fun x5 =>
 .bB 21 (decide (x5≥40)) fun x6 =>
 .ret x6))
  (fun y1_1 =>
 .ifs [22] y1_1 (.esc (.esc (.esc (.ret ((false:Bool)))))) (.jnE 2 [0,2,3] [] [] (fun _ (a:Unit)=>[]) (fun _ _=>[]) (.lp [0,2,3] [] [] (fun _ (a:Int)=>[(4,int a)]) (fun _ _=>[]) n (0:Int) (fun y2_1 =>
 .bB 25 (decide (y2_1<y0_1)) fun x7 =>
 .ifs [25] x7 (.dr [] [] [] [] [0,1,2,3,4,5,6,7,8] (.ix 30 fI a1 y2_1 fun x8 =>
 .ix 34 fI a1 y0_1 fun x9 =>
 .bB 36 (decide (x8=x9)) fun x10 =>
 .ifs [36] x10 (.esc (.esc (.esc (.esc (.esc (.ret ((false:Bool)))))))) (.bI 27 (w64 (y2_1+1)) fun x11 =>
 .brk x11))) (.esc (.brk ()))))
  (fun _ =>
 .brk ()))))
  (fun _ =>
 .bI 10 (w64 (y0_1+1)) fun x12 =>
 .brk x12)) (.esc (.brk ()))))
  (fun _ =>
 .jn 0 [] [] [] (fun _ (a:Bool)=>[(2,boo a)]) (fun _ _=>[]) (.ln 38 fI a1<|
 .bB 39 (decide ((a1.length:Int)≥1)) fun x13 =>
 .ifs [39] x13 (.ln 42 fI a1<|
 .bB 43 (decide ((a1.length:Int)≤40)) fun x14 =>
 .ret x14) (.ret (false:Bool)))
  (fun y6_1 =>
 .ret (y6_1)))
def d_ref05_refs (n:Nat) (a1:List Int):Option (Bool):=(t_ref05_refs n a1).run
theorem d_ref05_refs_c {n:Nat} {a1:List Int} {r:Bool} (h0:d_ref05_refs n a1=some r):PP Tryz.prog 146 [lst 1 fI a1] (fun y=>y=boo r):=by
 refine wt_pp mixed tbk (fun (r:Bool)=>boo r) h0 Tryz.func146 (fun r=>pvB r) 100000 ?_
 conv=>whnf
 refine .mk ?_ ?_
 refine .mk ?_
 intro _ _
 refine .mk ?_
 conv=>whnf
 refine .mk fun x2=>?_
 conv=>whnf
 refine .mk ?_ ?_
 conv=>whnf
 refine .mk ?_ ?_
 conv=>whnf
 refine .mk ?_ ?_
 conv=>whnf
 refine .mk fun x3 e3=>?_
 conv=>whnf
 refine .mk fun x4=>?_
 refine .mk .mk ?_
 conv=>whnf
 refine .mk fun x5 e5=>?_
 conv=>whnf
 refine .mk fun x6=>?_
 exact .mk
 intro _ _
 refine .mk .mk ?_
 conv=>whnf
 refine .mk ?_ ?_
 refine .mk ?_
 intro _ _
 conv=>whnf
 refine .mk fun x7=>?_
 conv=>whnf
 refine .mk ?_ ?_
 refine .mk ?_
 conv=>whnf
 refine .mk fun x8 e8=>?_
 conv=>whnf
 refine .mk fun x9 e9=>?_
 conv=>whnf
 refine .mk fun x10=>?_
 refine .mk .mk ?_
 conv=>whnf
 refine .mk fun x11=>?_
 exact .mk
 conv=>whnf
 exact .mk
 intro _ _
 exact .mk
 intro _ _
 conv=>whnf
 refine .mk fun x12=>?_
 exact .mk
 conv=>whnf
 exact .mk
 intro _ _
 conv=>whnf
 refine .mk ?_ ?_
 refine .mk ?_
 conv=>whnf
 refine .mk fun x13=>?_
 conv=>whnf
 refine .mk ?_ ?_
 refine .mk ?_
 conv=>whnf
 refine .mk fun x14=>?_
 exact .mk
 conv=>whnf
 exact .mk
 intro _ _
 exact .mk
noncomputable def t_ref05_part (n:Nat) (a1:GOp) (a2:GOp) (a3:Int):WT Tryz.prog (.b (GOp×Bool)) :=
 .al 1<|
 .al 2<|
 .al 3<|
 .bB 10 (decide (a3=101)) fun x7 =>
 .ifs [10] x7 (.jn 2 [3,4,6] [1,2] [] (fun _ (a:Bool)=>[(7,boo a)]) (fun _ _=>[.kp 3 [[int a2.Kind,int a1.E,int a2.Item,int a2.Loc,int a2.To,int a2.Qty,int a2.Amount,int a2.Ref,lst 1 fI a2.Refs]]]) (.dr [(0,[2]),(1,[1]),(2,[1]),(5,[1]),(6,[1])] [(9,[1])] [1,2] [9] [0,1,2,3,4,5,6,7,8,9,10] (.bB 17 (decide (a1.E≥0)) fun x8 =>
 .ifs [17] x8 (.bB 21 (decide (a1.E<4)) fun x9 =>
 .ret x9) (.ret (false:Bool))))
  (fun y0_1 =>
 .ret (((⟨a2.Kind,a1.E,a2.Item,a2.Loc,a2.To,a2.Qty,a2.Amount,a2.Ref,a2.Refs⟩:GOp):GOp),y0_1))) (.bB 24 (decide (a3=105)) fun x10 =>
 .ifs [24] x10 (.jn 2 [3,4,6] [1,2] [] (fun _ (a:Bool)=>[(7,boo a)]) (fun _ _=>[.kp 3 [[int a2.Kind,int a2.E,int a1.Item,int a2.Loc,int a2.To,int a2.Qty,int a2.Amount,int a2.Ref,lst 1 fI a2.Refs]]]) (.dr [(0,[2]),(1,[1]),(2,[1]),(5,[1]),(6,[1])] [(9,[1])] [1,2] [9] [0,1,2,3,4,5,6,7,8,9,10] (.bB 31 (decide (a1.Item≥0)) fun x11 =>
 .ifs [31] x11 (.bB 35 (decide (a1.Item<5)) fun x12 =>
 .ret x12) (.ret (false:Bool))))
  (fun y1_1 =>
 .ret (((⟨a2.Kind,a2.E,a1.Item,a2.Loc,a2.To,a2.Qty,a2.Amount,a2.Ref,a2.Refs⟩:GOp):GOp),y1_1))) (.bB 38 (decide (a3=108)) fun x13 =>
 .ifs [38] x13 (.jn 2 [3,4,6] [1,2] [] (fun _ (a:Bool)=>[(7,boo a)]) (fun _ _=>[.kp 3 [[int a2.Kind,int a2.E,int a2.Item,int a1.Loc,int a2.To,int a2.Qty,int a2.Amount,int a2.Ref,lst 1 fI a2.Refs]]]) (.dr [(0,[2]),(1,[1]),(2,[1]),(5,[1]),(6,[1])] [(9,[1])] [1,2] [9] [0,1,2,3,4,5,6,7,8,9,10] (.bB 45 (decide (a1.Loc≥0)) fun x14 =>
 .ifs [45] x14 (.bB 49 (decide (a1.Loc<2)) fun x15 =>
 .ret x15) (.ret (false:Bool))))
  (fun y2_1 =>
 .ret (((⟨a2.Kind,a2.E,a2.Item,a1.Loc,a2.To,a2.Qty,a2.Amount,a2.Ref,a2.Refs⟩:GOp):GOp),y2_1))) (.bB 52 (decide (a3=116)) fun x16 =>
 .ifs [52] x16 (.dr [(0,[2]),(1,[1])] [(3,[])] [1,2] [3] [0,1,2,3,4] (.cl 58 (d_ref05_to a1) cal145 d_ref05_to_c fun x17 =>
 .ret (((⟨a2.Kind,a2.E,a2.Item,a2.Loc,a1.To,a2.Qty,a2.Amount,a2.Ref,a2.Refs⟩:GOp):GOp),x17))) (.bB 60 (decide (a3=113)) fun x18 =>
 .ifs [60] x18 (.jn 2 [3,4,6] [1,2] [] (fun _ (a:Bool)=>[(7,boo a)]) (fun _ _=>[.kp 3 [[int a2.Kind,int a2.E,int a2.Item,int a2.Loc,int a2.To,int a1.Qty,int a2.Amount,int a2.Ref,lst 1 fI a2.Refs]]]) (.dr [(0,[2]),(1,[1]),(2,[1]),(5,[1]),(6,[1]),(9,[1]),(10,[1]),(13,[1]),(14,[1])] [(19,[1])] [1,2] [19] [0,1,2,3,4,5,6,7,8,9,10,11,12,13,14,15,16,17,18,19,20] (.bB 67 (decide (a1.Qty≤1073741824)) fun x19 =>
 .ifs [67] x19 (.bB 71 (decide (a1.Qty≥1)) fun x20 =>
 .ifs [71] x20 (.ret (true:Bool)) (.bB 75 (decide (a1.Qty=0)) fun x21 =>
 .ifs [75] x21 (.bB 79 (decide (a1.Kind=7)) fun x22 =>
 .ret x22) (.ret (false:Bool)))) (.ret (false:Bool))))
  (fun y3_1 =>
 .ret (((⟨a2.Kind,a2.E,a2.Item,a2.Loc,a2.To,a1.Qty,a2.Amount,a2.Ref,a2.Refs⟩:GOp):GOp),y3_1))) (.bB 84 (decide (a3=97)) fun x23 =>
 .ifs [84] x23 (.jn 2 [3,4,6] [1,2] [] (fun _ (a:Bool)=>[(7,boo a)]) (fun _ _=>[.kp 3 [[int a2.Kind,int a2.E,int a2.Item,int a2.Loc,int a2.To,int a2.Qty,int a1.Amount,int a2.Ref,lst 1 fI a2.Refs]]]) (.dr [(0,[2]),(1,[1]),(2,[1]),(5,[1]),(6,[1]),(10,[1]),(11,[1]),(14,[1]),(15,[1]),(18,[1]),(19,[1])] [(24,[1])] [1,2] [24] [0,1,2,3,4,5,6,7,8,9,10,11,12,13,14,15,16,17,18,19,20,21,22,23,24,25] (.bB 91 (decide (a1.Amount≥0)) fun x24 =>
 .ifs [91] x24 (.bB 95 (decide (a1.Amount≤1125899906842624)) fun x25 =>
 .ifs [95] x25 (.bB 100 (decide (a1.Amount≤1073741824)) fun x26 =>
 .ifs [100] x26 (.ret (true:Bool)) (.bB 104 (decide (a1.Kind≠9)) fun x27 =>
 .ifs [104] x27 (.bB 108 (decide (a1.Kind≠10)) fun x28 =>
 .ret x28) (.ret (false:Bool)))) (.ret (false:Bool))) (.ret (false:Bool))))
  (fun y4_1 =>
 .ret (((⟨a2.Kind,a2.E,a2.Item,a2.Loc,a2.To,a2.Qty,a1.Amount,a2.Ref,a2.Refs⟩:GOp):GOp),y4_1))) (.bB 113 (decide (a3=114)) fun x29 =>
 .ifs [113] x29 (.jn 2 [3,4,6] [1,2] [] (fun _ (a:Bool)=>[(7,boo a)]) (fun _ _=>[.kp 3 [[int a2.Kind,int a2.E,int a2.Item,int a2.Loc,int a2.To,int a2.Qty,int a2.Amount,int a1.Ref,lst 1 fI a2.Refs]]]) (.dr [(0,[2]),(1,[1]),(2,[1]),(5,[1]),(6,[1])] [(9,[1])] [1,2] [9] [0,1,2,3,4,5,6,7,8,9,10] (.bB 120 (decide (a1.Ref≥0)) fun x30 =>
 .ifs [120] x30 (.bB 124 (decide (a1.Ref<40)) fun x31 =>
 .ret x31) (.ret (false:Bool))))
  (fun y5_1 =>
 .ret (((⟨a2.Kind,a2.E,a2.Item,a2.Loc,a2.To,a2.Qty,a2.Amount,a1.Ref,a2.Refs⟩:GOp):GOp),y5_1))) (.dr [(0,[2]),(1,[1]),(2,[1])] [(4,[])] [1,2] [4] [0,1,2,3,4,5] (.cl 132 (d_ref05_refs n a1.Refs) cal146 d_ref05_refs_c fun x32 =>
 .ret (((⟨a2.Kind,a2.E,a2.Item,a2.Loc,a2.To,a2.Qty,a2.Amount,a2.Ref,a1.Refs⟩:GOp):GOp),x32)))))))))
def d_ref05_part (n:Nat) (a1:GOp) (a2:GOp) (a3:Int):Option (GOp×Bool):=(t_ref05_part n a1 a2 a3).run
theorem d_ref05_part_c {n:Nat} {a1:GOp} {a2:GOp} {a3:Int} {r:GOp×Bool} (h0:d_ref05_part n a1 a2 a3=some r):PP Tryz.prog 99 [.agg (GOp.av a1),.agg (GOp.av a2),.sc (.int .u8 a3)] (fun y=>y=.tup [.agg (GOp.av r.1),boo r.2]):=by
 refine wt_pp mixed tbk (fun (r:GOp×Bool)=>.tup [.agg (GOp.av r.1),boo r.2]) h0 Tryz.func99 (fun r=>.tup (pvl2 ((fun (a:GOp)=>PV.agg (GOp.pvc a)) (r.1)) (pvB (r.2)))) 100000 ?_
 intro v4
 intro v5
 intro v6
 conv=>whnf
 refine .mk fun x7=>?_
 conv=>whnf
 refine .mk ?_ ?_
 conv=>whnf
 refine .mk ?_ ?_
 refine .mk ?_
 conv=>whnf
 refine .mk fun x8=>?_
 conv=>whnf
 refine .mk ?_ ?_
 conv=>whnf
 refine .mk fun x9=>?_
 exact .mk
 conv=>whnf
 exact .mk
 intro _ _
 exact .mk
 conv=>whnf
 refine .mk fun x10=>?_
 conv=>whnf
 refine .mk ?_ ?_
 conv=>whnf
 refine .mk ?_ ?_
 refine .mk ?_
 conv=>whnf
 refine .mk fun x11=>?_
 conv=>whnf
 refine .mk ?_ ?_
 conv=>whnf
 refine .mk fun x12=>?_
 exact .mk
 conv=>whnf
 exact .mk
 intro _ _
 exact .mk
 conv=>whnf
 refine .mk fun x13=>?_
 conv=>whnf
 refine .mk ?_ ?_
 conv=>whnf
 refine .mk ?_ ?_
 refine .mk ?_
 conv=>whnf
 refine .mk fun x14=>?_
 conv=>whnf
 refine .mk ?_ ?_
 conv=>whnf
 refine .mk fun x15=>?_
 exact .mk
 conv=>whnf
 exact .mk
 intro _ _
 exact .mk
 conv=>whnf
 refine .mk fun x16=>?_
 conv=>whnf
 refine .mk ?_ ?_
 refine .mk ?_
 conv=>whnf
 refine .mk fun x17 e17=>?_
 exact .mk
 conv=>whnf
 refine .mk fun x18=>?_
 conv=>whnf
 refine .mk ?_ ?_
 conv=>whnf
 refine .mk ?_ ?_
 refine .mk ?_
 conv=>whnf
 refine .mk fun x19=>?_
 conv=>whnf
 refine .mk ?_ ?_
 conv=>whnf
 refine .mk fun x20=>?_
 refine .mk .mk ?_
 conv=>whnf
 refine .mk fun x21=>?_
 conv=>whnf
 refine .mk ?_ ?_
 conv=>whnf
 refine .mk fun x22=>?_
 exact .mk
 conv=>whnf
 exact .mk
 exact .mk
 intro _ _
 exact .mk
 conv=>whnf
 refine .mk fun x23=>?_
 conv=>whnf
 refine .mk ?_ ?_
 conv=>whnf
 refine .mk ?_ ?_
 refine .mk ?_
 conv=>whnf
 refine .mk fun x24=>?_
 conv=>whnf
 refine .mk ?_ ?_
 conv=>whnf
 refine .mk fun x25=>?_
 conv=>whnf
 refine .mk ?_ ?_
 conv=>whnf
 refine .mk fun x26=>?_
 refine .mk .mk ?_
 conv=>whnf
 refine .mk fun x27=>?_
 conv=>whnf
 refine .mk ?_ ?_
 conv=>whnf
 refine .mk fun x28=>?_
 exact .mk
 conv=>whnf
 exact .mk
 exact .mk
 conv=>whnf
 exact .mk
 intro _ _
 exact .mk
 conv=>whnf
 refine .mk fun x29=>?_
 conv=>whnf
 refine .mk ?_ ?_
 conv=>whnf
 refine .mk ?_ ?_
 refine .mk ?_
 conv=>whnf
 refine .mk fun x30=>?_
 conv=>whnf
 refine .mk ?_ ?_
 conv=>whnf
 refine .mk fun x31=>?_
 exact .mk
 conv=>whnf
 exact .mk
 intro _ _
 exact .mk
 refine .mk ?_
 conv=>whnf
 refine .mk fun x32 e32=>?_
 exact .mk
noncomputable def t_ref04_SameInts (n:Nat) (a1:List Int) (a2:List Int):WT Tryz.prog (.b (Bool)) :=
 .ln 7 fI a1<|
 .ln 9 fI a2<|
 .bB 10 (decide ((a1.length:Int)≠(a2.length:Int))) fun x3 =>
 .ifs [10] x3 (.ret ((false:Bool))) (.jnE 2 [4] [] [] (fun _ (a:Unit)=>[]) (fun _ _=>[]) (.lp [0,1,4] [] [] (fun _ (a:Int)=>[(5,int a)]) (fun _ _=>[]) n (0:Int) (fun y0_1 =>
 .ln 13 fI a1<|
 .bB 14 (decide (y0_1<(a1.length:Int))) fun x4 =>
 .ifs [14] x4 (.dr [] [] [] [] [0,1,2,3,4,5,6,7,8] (.ix 19 fI a1 y0_1 fun x5 =>
 .ix 23 fI a2 y0_1 fun x6 =>
 .bB 25 (decide (x5≠x6)) fun x7 =>
 .ifs [25] x7 (.esc (.esc (.ret ((false:Bool))))) (.bI 16 (w64 (y0_1+1)) fun x8 =>
 .brk x8))) (.esc (.brk ()))))
  (fun _ =>
 .ret ((true:Bool))))
def d_ref04_SameInts (n:Nat) (a1:List Int) (a2:List Int):Option (Bool):=(t_ref04_SameInts n a1 a2).run
theorem d_ref04_SameInts_c {n:Nat} {a1:List Int} {a2:List Int} {r:Bool} (h0:d_ref04_SameInts n a1 a2=some r):PP Tryz.prog 78 [lst 1 fI a1,lst 1 fI a2] (fun y=>y=boo r):=by
 refine wt_pp mixed tbk (fun (r:Bool)=>boo r) h0 Tryz.func78 (fun r=>pvB r) 100000 ?_
 refine .mk ?_
 conv=>whnf
 refine .mk ?_
 conv=>whnf
 refine .mk fun x3=>?_
 refine .mk .mk ?_
 conv=>whnf
 refine .mk ?_ ?_
 refine .mk ?_
 intro _ _
 refine .mk ?_
 conv=>whnf
 refine .mk fun x4=>?_
 conv=>whnf
 refine .mk ?_ ?_
 refine .mk ?_
 conv=>whnf
 refine .mk fun x5 e5=>?_
 conv=>whnf
 refine .mk fun x6 e6=>?_
 conv=>whnf
 refine .mk fun x7=>?_
 refine .mk .mk ?_
 conv=>whnf
 refine .mk fun x8=>?_
 exact .mk
 conv=>whnf
 exact .mk
 intro _ _
 exact .mk
noncomputable def t_ref05_same (n:Nat) (a1:GOp) (a2:GOp):WT Tryz.prog (.b (Bool)) :=
 .al 1<|
 .al 2<|
 .jn 0 [] [] [] (fun _ (a:Bool)=>[(4,boo a)]) (fun _ _=>[]) (.bB 9 (decide (a1.Kind=a2.Kind)) fun x5 =>
 .ifs [9] x5 (.bB 15 (decide (a1.E=a2.E)) fun x6 =>
 .ifs [15] x6 (.bB 22 (decide (a1.Item=a2.Item)) fun x7 =>
 .ifs [22] x7 (.bB 29 (decide (a1.Loc=a2.Loc)) fun x8 =>
 .ifs [29] x8 (.bB 36 (decide (a1.To=a2.To)) fun x9 =>
 .ifs [36] x9 (.bB 43 (decide (a1.Qty=a2.Qty)) fun x10 =>
 .ifs [43] x10 (.bB 50 (decide (a1.Amount=a2.Amount)) fun x11 =>
 .ifs [50] x11 (.bB 57 (decide (a1.Ref=a2.Ref)) fun x12 =>
 .ifs [57] x12 (.cl 64 (d_ref04_SameInts n a1.Refs a2.Refs) cal78 d_ref04_SameInts_c fun x13 =>
 .ret x13) (.ret (false:Bool))) (.ret (false:Bool))) (.ret (false:Bool))) (.ret (false:Bool))) (.ret (false:Bool))) (.ret (false:Bool))) (.ret (false:Bool))) (.ret (false:Bool)))
  (fun y0_1 =>
 .ret (y0_1))
def d_ref05_same (n:Nat) (a1:GOp) (a2:GOp):Option (Bool):=(t_ref05_same n a1 a2).run
theorem d_ref05_same_c {n:Nat} {a1:GOp} {a2:GOp} {r:Bool} (h0:d_ref05_same n a1 a2=some r):PP Tryz.prog 100 [.agg (GOp.av a1),.agg (GOp.av a2)] (fun y=>y=boo r):=by
 refine wt_pp mixed tbk (fun (r:Bool)=>boo r) h0 Tryz.func100 (fun r=>pvB r) 100000 ?_
 intro v3
 intro v4
 conv=>whnf
 refine .mk ?_ ?_
 conv=>whnf
 refine .mk fun x5=>?_
 conv=>whnf
 refine .mk ?_ ?_
 conv=>whnf
 refine .mk fun x6=>?_
 conv=>whnf
 refine .mk ?_ ?_
 conv=>whnf
 refine .mk fun x7=>?_
 conv=>whnf
 refine .mk ?_ ?_
 conv=>whnf
 refine .mk fun x8=>?_
 conv=>whnf
 refine .mk ?_ ?_
 conv=>whnf
 refine .mk fun x9=>?_
 conv=>whnf
 refine .mk ?_ ?_
 conv=>whnf
 refine .mk fun x10=>?_
 conv=>whnf
 refine .mk ?_ ?_
 conv=>whnf
 refine .mk fun x11=>?_
 conv=>whnf
 refine .mk ?_ ?_
 conv=>whnf
 refine .mk fun x12=>?_
 conv=>whnf
 refine .mk ?_ ?_
 conv=>whnf
 refine .mk fun x13 e13=>?_
 exact .mk
 conv=>whnf
 exact .mk
 exact .mk
 conv=>whnf
 exact .mk
 exact .mk
 conv=>whnf
 exact .mk
 exact .mk
 conv=>whnf
 exact .mk
 exact .mk
 intro _ _
 exact .mk
noncomputable def t_ref05_Check (n:Nat) (a1:GOp):WT Tryz.prog (.b (Bool)) :=
 .al 1<|
 .cl 10 (d_ref05_has a1.Kind) cal98 d_ref05_has_c fun x3 =>
 .al 2<|
 .jnE 1 [1,2,3,4] [1] [] (fun _ (a:GOp)=>[]) (fun _ a=>[.kp 2 [(GOp.av a)]]) (.lp [1,2,3,4] [1] [] (fun _ (a:Int×GOp)=>[(5,int a.1)]) (fun _ a=>[.kp 2 [(GOp.av a.2)]]) n ((0:Int),((⟨a1.Kind,0,0,0,0,0,0,0,[]⟩:GOp):GOp)) (pw fun y0_1 y0_2 =>
 .gv 16<|
 .bB 17 (decide (y0_1<(x3.length:Int))) fun x5 =>
 .ifs [17] x5 (.dr [(0,[1]),(1,[2])] [(10,[])] [1,2] [9,10] [0,1,2,3,4,5,6,7,8,9,10,11] (.bo (ix x3 y0_1) fun x6 =>
 .gv 25<|
 .cl 26 (d_ref05_part n a1 y0_2 (x6.toNat:Int)) cal99 d_ref05_part_c fun x7 =>
 .al 3<|
 .bB 7 (x7.2) fun x9 =>
 .bB 30 (!x9) fun x10 =>
 .ifs [30] x10 (.esc (.esc (.ret ((false:Bool))))) (.bI 19 (w64 (y0_1+1)) fun x11 =>
 .brk (x11,(x7.1:GOp))))) (.esc (.brk y0_2))))
  (fun y1_1 =>
 .jn 0 [] [] [] (fun _ (a:Bool)=>[(2,boo a)]) (fun _ _=>[]) (.bl (decide (x3≠([]:List UInt8)):Bool) fun x12 =>
 .gv 33<|
 .ifs [33] x12 (.cl 37 (d_ref05_same n a1 y1_1) cal100 d_ref05_same_c fun x13 =>
 .ret x13) (.ret (false:Bool)))
  (fun y2_1 =>
 .ret (y2_1)))
def d_ref05_Check (n:Nat) (a1:GOp):Option (Bool):=(t_ref05_Check n a1).run
theorem d_ref05_Check_c {n:Nat} {a1:GOp} {r:Bool} (h0:d_ref05_Check n a1=some r):PP Tryz.prog 61 [.agg (GOp.av a1)] (fun y=>y=boo r):=by
 refine wt_pp mixed tbk (fun (r:Bool)=>boo r) h0 Tryz.func61 (fun r=>pvB r) 100000 ?_
 intro v2
 conv=>whnf
 refine .mk fun x3 e3=>?_
 intro v4
 conv=>whnf
 refine .mk ?_ ?_
 conv=>whnf
 refine .mk ?_ ⟨⟨⟨_,rfl,(.refl _)⟩,⟨_,rfl,(.refl _)⟩,⟨_,rfl,(.refl _)⟩,⟨_,rfl,(.refl _)⟩,⟨_,rfl,(.refl _)⟩,trivial⟩,⟨⟨_,rfl,⟨rfl,(.cons (.cons (.refl _) (.cons (.refl _) (.cons (.refl _) (.cons (.refl _) (.cons (.refl _) (.cons (.refl _) (.cons (.refl _) (.cons (.refl _) (.cons (.nil _) .nil))))))))) .nil)⟩⟩,⟨_,rfl,(.refl _)⟩,trivial⟩⟩
 intro _ _
 conv=>whnf
 refine .mk _ (agr (yv_len_str rfl Tryz.underlying9 rfl)) ?_
 conv=>whnf
 refine .mk fun x5=>?_
 conv=>whnf
 refine .mk ?_ ?_
 refine .mk ?_
 conv=>whnf
 refine .mk fun x6 e6=>?_
 conv=>whnf
 refine .mk _ (fun H hH _=>yv_index_str rfl Tryz.underlying9 rfl rfl (ix_e e6).1 (ix_e e6).2) ?_
 conv=>whnf
 refine .mk fun x7 e7=>?_
 intro v8
 conv=>whnf
 refine .mk fun x9=>?_
 conv=>whnf
 refine .mk fun x10=>?_
 refine .mk .mk ?_
 conv=>whnf
 refine .mk fun x11=>?_
 exact .mk
 conv=>whnf
 exact .mk
 intro _ _
 conv=>whnf
 refine .mk ?_ ?_
 conv=>whnf
 refine .mk fun x12 e12=>?_
 conv=>whnf
 refine .mk _ (agr (yv_to (y:=boo x12) (yv_sneq rfl rfl rfl) (congrArg boo e12))) ?_
 conv=>whnf
 refine .mk ?_ ?_
 conv=>whnf
 refine .mk fun x13 e13=>?_
 exact .mk
 conv=>whnf
 exact .mk
 intro _ _
 exact .mk
noncomputable def t_ref14_to (a1:Int) (a2:Int):WT Tryz.prog (.b (Bool)) :=
 .jn 1 [] [] [] (fun _ (a:Bool)=>[(4,boo a)]) (fun _ _=>[]) (.bB 6 (decide (a1≥0)) fun x3 =>
 .ifs [6] x3 (.bB 10 (decide (a1≤a2)) fun x4 =>
 .ret x4) (.ret (false:Bool)))
  (fun y0_1 =>
 .ret (y0_1))
def d_ref14_to (a1:Int) (a2:Int):Option (Bool):=(t_ref14_to a1 a2).run
theorem d_ref14_to_c {a1:Int} {a2:Int} {r:Bool} (h0:d_ref14_to a1 a2=some r):PP Tryz.prog 184 [int a1,int a2] (fun y=>y=boo r):=by
 refine wt_pp mixed tbk (fun (r:Bool)=>boo r) h0 Tryz.func184 (fun r=>pvB r) 100000 ?_
 conv=>whnf
 refine .mk ?_ ?_
 conv=>whnf
 refine .mk fun x3=>?_
 conv=>whnf
 refine .mk ?_ ?_
 conv=>whnf
 refine .mk fun x4=>?_
 exact .mk
 conv=>whnf
 exact .mk
 intro _ _
 exact .mk
noncomputable def t_ref14_there (a1:GState) (a2:Int) (a3:Int):WT Tryz.prog (.b (Bool)) :=
 .al 1<|
 .jn 0 [] [] [] (fun _ (a:Bool)=>[(6,boo a)]) (fun _ _=>[]) (.ln 10 GEnt.av a1.Ents<|
 .bI 11 (w64 ((a1.Ents.length:Int)-1)) fun x5 =>
 .cl 12 (d_ref14_to a2 x5) cal184 d_ref14_to_c fun x6 =>
 .ifs [12] x6 (.ln 18 fI a1.Master.Weights<|
 .bI 19 (w64 ((a1.Master.Weights.length:Int)-1)) fun x7 =>
 .cl 20 (d_ref14_to a3 x7) cal184 d_ref14_to_c fun x8 =>
 .ret x8) (.ret (false:Bool)))
  (fun y0_1 =>
 .ret (y0_1))
def d_ref14_there (a1:GState) (a2:Int) (a3:Int):Option (Bool):=(t_ref14_there a1 a2 a3).run
theorem d_ref14_there_c {a1:GState} {a2:Int} {a3:Int} {r:Bool} (h0:d_ref14_there a1 a2 a3=some r):PP Tryz.prog 183 [.agg (GState.av a1),int a2,int a3] (fun y=>y=boo r):=by
 refine wt_pp mixed tbk (fun (r:Bool)=>boo r) h0 Tryz.func183 (fun r=>pvB r) 100000 ?_
 intro v4
 conv=>whnf
 refine .mk ?_ ?_
 refine .mk ?_
 conv=>whnf
 refine .mk fun x5=>?_
 conv=>whnf
 refine .mk fun x6 e6=>?_
 conv=>whnf
 refine .mk ?_ ?_
 refine .mk ?_
 conv=>whnf
 refine .mk fun x7=>?_
 conv=>whnf
 refine .mk fun x8 e8=>?_
 exact .mk
 conv=>whnf
 exact .mk
 intro _ _
 exact .mk
noncomputable def t_ref14_At (a1:GState) (a2:Int) (a3:Int) (a4:Int):WT Tryz.prog (.b (GPool)) :=
 .al 1<|
 .al 2<|
 .jn 0 [1,2,3,4,8] [1,2] [] (fun _ (a:Bool)=>[(32,boo a)]) (fun _ _=>[]) (.cl 12 (d_ref14_there a1 a2 a3) cal183 d_ref14_there_c fun x7 =>
 .bB 13 (!x7) fun x8 =>
 .ifs [13] x8 (.ret (true:Bool)) (.cl 16 (d_ref14_to a4 1) cal184 d_ref14_to_c fun x9 =>
 .bB 17 (!x9) fun x10 =>
 .ifs [17] x10 (.ret (true:Bool)) (.bI 21 (w64 (a3*2)) fun x11 =>
 .bI 23 (w64 (x11+a4)) fun x12 =>
 .ixE 27 GEnt.av gE GEnt.av_eq a1.Ents a2 fun x13 =>
 .ln 30 GPool.av x13.Pools<|
 .bB 31 (decide (x12≥(x13.Pools.length:Int))) fun x14 =>
 .ret x14)))
  (fun y0_1 =>
 .ifs [32] y0_1 (.ret (((⟨[],(⟨0,0,0⟩:A3_Int)⟩:GPool):GPool))) (.ixE 37 GEnt.av gE GEnt.av_eq a1.Ents a2 fun x15 =>
 .bI 41 (w64 (a3*2)) fun x16 =>
 .bI 43 (w64 (x16+a4)) fun x17 =>
 .ix 44 GPool.av x15.Pools x17 fun x18 =>
 .ret (x18)))
def d_ref14_At (a1:GState) (a2:Int) (a3:Int) (a4:Int):Option (GPool):=(t_ref14_At a1 a2 a3 a4).run
theorem d_ref14_At_c {a1:GState} {a2:Int} {a3:Int} {a4:Int} {r:GPool} (h0:d_ref14_At a1 a2 a3 a4=some r):PP Tryz.prog 147 [.agg (GState.av a1),int a2,int a3,int a4] (fun y=>y=.agg (GPool.av r)):=by
 refine wt_pp mixed tbk (fun (r:GPool)=>.agg (GPool.av r)) h0 Tryz.func147 (fun r=>(fun (a:GPool)=>PV.agg (GPool.pvc a)) r) 100000 ?_
 intro v5
 intro v6
 conv=>whnf
 refine .mk ?_ ?_
 conv=>whnf
 refine .mk fun x7 e7=>?_
 conv=>whnf
 refine .mk fun x8=>?_
 refine .mk .mk ?_
 conv=>whnf
 refine .mk fun x9 e9=>?_
 conv=>whnf
 refine .mk fun x10=>?_
 refine .mk .mk ?_
 conv=>whnf
 refine .mk fun x11=>?_
 conv=>whnf
 refine .mk fun x12=>?_
 conv=>whnf
 refine .mk fun x13 e13=>?_
 refine .mk ?_
 conv=>whnf
 refine .mk fun x14=>?_
 exact .mk
 intro _ _
 conv=>whnf
 refine .mk ?_ ?_
 conv=>whnf
 exact .mk (CvL.agg (.cons (.nil _) (.cons (.refl _) (.cons (.refl _) (.cons (.refl _) .nil)))))
 conv=>whnf
 refine .mk fun x15 e15=>?_
 conv=>whnf
 refine .mk fun x16=>?_
 conv=>whnf
 refine .mk fun x17=>?_
 conv=>whnf
 refine .mk fun x18 e18=>?_
 exact .mk
noncomputable def t_ref01_In (a1:Int):WT Tryz.prog (.b (Bool)) :=
 .jn 1 [] [] [] (fun _ (a:Bool)=>[(2,boo a)]) (fun _ _=>[]) (.bB 4 (decide (a1≥(-288230376151711744))) fun x2 =>
 .ifs [4] x2 (.bB 7 (decide (a1≤288230376151711744)) fun x3 =>
 .ret x3) (.ret (false:Bool)))
  (fun y0_1 =>
 .ret (y0_1))
def d_ref01_In (a1:Int):Option (Bool):=(t_ref01_In a1).run
theorem d_ref01_In_c {a1:Int} {r:Bool} (h0:d_ref01_In a1=some r):PP Tryz.prog 224 [int a1] (fun y=>y=boo r):=by
 refine wt_pp mixed tbk (fun (r:Bool)=>boo r) h0 Tryz.func224 (fun r=>pvB r) 100000 ?_
 conv=>whnf
 refine .mk ?_ ?_
 conv=>whnf
 refine .mk fun x2=>?_
 conv=>whnf
 refine .mk ?_ ?_
 conv=>whnf
 refine .mk fun x3=>?_
 exact .mk
 conv=>whnf
 exact .mk
 intro _ _
 exact .mk
noncomputable def t_ref01_Add (a1:Int) (a2:Int):WT Tryz.prog (.b (Int×Int)) :=
 .jn 1 [0,1,4,5] [] [] (fun _ (a:Bool)=>[(20,boo a)]) (fun _ _=>[]) (.cl 7 (d_ref01_In a1) cal224 d_ref01_In_c fun x3 =>
 .bB 8 (!x3) fun x4 =>
 .ifs [8] x4 (.ret (true:Bool)) (.cl 11 (d_ref01_In a2) cal224 d_ref01_In_c fun x5 =>
 .bB 12 (!x5) fun x6 =>
 .ifs [12] x6 (.ret (true:Bool)) (.bI 17 (w64 (a1+a2)) fun x7 =>
 .cl 18 (d_ref01_In x7) cal224 d_ref01_In_c fun x8 =>
 .bB 19 (!x8) fun x9 =>
 .ret x9)))
  (fun y0_1 =>
 .ifs [20] y0_1 (.ret ((0:Int),(2:Int))) (.bI 23 (w64 (a1+a2)) fun x10 =>
 .ret (x10,(0:Int))))
def d_ref01_Add (a1:Int) (a2:Int):Option (Int×Int):=(t_ref01_Add a1 a2).run
theorem d_ref01_Add_c {a1:Int} {a2:Int} {r:Int×Int} (h0:d_ref01_Add a1 a2=some r):PP Tryz.prog 188 [int a1,int a2] (fun y=>y=.tup [int r.1,int r.2]):=by
 refine wt_pp mixed tbk (fun (r:Int×Int)=>.tup [int r.1,int r.2]) h0 Tryz.func188 (fun r=>.tup (pvl2 (pvI (r.1)) (pvI (r.2)))) 100000 ?_
 conv=>whnf
 refine .mk ?_ ?_
 conv=>whnf
 refine .mk fun x3 e3=>?_
 conv=>whnf
 refine .mk fun x4=>?_
 refine .mk .mk ?_
 conv=>whnf
 refine .mk fun x5 e5=>?_
 conv=>whnf
 refine .mk fun x6=>?_
 refine .mk .mk ?_
 conv=>whnf
 refine .mk fun x7=>?_
 conv=>whnf
 refine .mk fun x8 e8=>?_
 conv=>whnf
 refine .mk fun x9=>?_
 exact .mk
 intro _ _
 refine .mk .mk ?_
 conv=>whnf
 refine .mk fun x10=>?_
 exact .mk
noncomputable def t_ref09_Total (n:Nat) (a1:List GLayer):WT Tryz.prog (.b (GLayer×Int)) :=
 .al 1<|
 .al 2<|
 .jnE 1 [2,3,4] [1] [] (fun _ (a:GLayer)=>[]) (fun _ a=>[.kp 2 [[int a.Qty,int a.Value,int a.Profit]]]) (.lp [0,2,3,4] [1] [] (fun _ (a:Int×GLayer)=>[(5,int a.1)]) (fun _ a=>[.kp 2 [[int a.2.Qty,int a.2.Value,int a.2.Profit]]]) n ((0:Int),((⟨0,0,0⟩:GLayer):GLayer)) (pw fun y0_1 y0_2 =>
 .ln 14 GLayer.av a1<|
 .bB 15 (decide (y0_1<(a1.length:Int))) fun x4 =>
 .ifs [15] x4 (.dr [(0,[2]),(1,[2])] [] [2] [] [0,1,2,3,4,5,6,7,8,9,10,11,12] (.ix 23 GLayer.av a1 y0_1 fun x5 =>
 .cl 26 (d_ref01_Add y0_2.Qty x5.Qty) cal188 d_ref01_Add_c fun x6 =>
 .dr [(0,[2]),(1,[2])] [] [2] [] [0,1,2,3,4,5,6,7,8,9,10,11,12] (.ix 34 GLayer.av a1 y0_1 fun x7 =>
 .cl 37 (d_ref01_Add y0_2.Value x7.Value) cal188 d_ref01_Add_c fun x8 =>
 .dr [(0,[2]),(1,[2])] [] [2] [] [0,1,2,3,4,5,6,7,8,9,10,11,12] (.ix 45 GLayer.av a1 y0_1 fun x9 =>
 .cl 48 (d_ref01_Add y0_2.Profit x9.Profit) cal188 d_ref01_Add_c fun x10 =>
 .jn 0 [0,2,3,4,5,6,8,10] [1,2] [] (fun _ (a:Bool)=>[(60,boo a)]) (fun _ _=>[]) (.bB 52 (decide (x6.2≠0)) fun x11 =>
 .ifs [52] x11 (.ret (true:Bool)) (.bB 55 (decide (x8.2≠0)) fun x12 =>
 .ifs [55] x12 (.ret (true:Bool)) (.bB 59 (decide (x10.2≠0)) fun x13 =>
 .ret x13)))
  (fun y1_1 =>
 .ifs [60] y1_1 (.esc (.esc (.ret (((⟨0,0,0⟩:GLayer):GLayer),(2:Int))))) (.bI 17 (w64 (y0_1+1)) fun x14 =>
 .brk (x14,((⟨x6.1,x8.1,x10.1⟩:GLayer):GLayer)))))))) (.esc (.brk y0_2))))
  (fun y2_1 =>
 .ret (y2_1,(0:Int)))
def d_ref09_Total (n:Nat) (a1:List GLayer):Option (GLayer×Int):=(t_ref09_Total n a1).run
theorem d_ref09_Total_c {n:Nat} {a1:List GLayer} {r:GLayer×Int} (h0:d_ref09_Total n a1=some r):PP Tryz.prog 225 [lst 3 GLayer.av a1] (fun y=>y=.tup [.agg (GLayer.av r.1),int r.2]):=by
 refine wt_pp mixed tbk (fun (r:GLayer×Int)=>.tup [.agg (GLayer.av r.1),int r.2]) h0 Tryz.func225 (fun r=>.tup (pvl2 ((fun (a:GLayer)=>PV.agg (GLayer.pvc a)) (r.1)) (pvI (r.2)))) 100000 ?_
 intro v2
 intro v3
 conv=>whnf
 refine .mk ?_ ?_
 refine .mk ?_
 intro _ _
 refine .mk ?_
 conv=>whnf
 refine .mk fun x4=>?_
 conv=>whnf
 refine .mk ?_ ?_
 refine .mk ?_
 conv=>whnf
 refine .mk fun x5 e5=>?_
 conv=>whnf
 refine .mk fun x6 e6=>?_
 refine .mk ?_
 conv=>whnf
 refine .mk fun x7 e7=>?_
 conv=>whnf
 refine .mk fun x8 e8=>?_
 refine .mk ?_
 conv=>whnf
 refine .mk fun x9 e9=>?_
 conv=>whnf
 refine .mk fun x10 e10=>?_
 conv=>whnf
 refine .mk ?_ ?_
 conv=>whnf
 refine .mk fun x11=>?_
 refine .mk .mk ?_
 conv=>whnf
 refine .mk fun x12=>?_
 refine .mk .mk ?_
 conv=>whnf
 refine .mk fun x13=>?_
 exact .mk
 intro _ _
 refine .mk .mk ?_
 conv=>whnf
 refine .mk fun x14=>?_
 exact .mk
 conv=>whnf
 exact .mk
 intro _ _
 exact .mk
noncomputable def t_ref01_Wide (a1:Int) (a2:Int):WT Tryz.prog (.b (Int×Int)) :=
 .bI 18 (wu64 a1) fun x3 =>
 .bI 20 (wu64 a2) fun x4 =>
 .bl (wu64 ((BitVec.ofInt IntKind.u64.bits x3 &&& BitVec.ofInt IntKind.u64.bits 4294967295).toNat:Int):Int) fun x5 =>
 .gv 22<|
 .bI 24 (x3.fdiv (2 ^ (min (32:Int).toNat IntKind.u64.bits))) fun x6 =>
 .bl (wu64 ((BitVec.ofInt IntKind.u64.bits x4 &&& BitVec.ofInt IntKind.u64.bits 4294967295).toNat:Int):Int) fun x7 =>
 .gv 26<|
 .bI 28 (x4.fdiv (2 ^ (min (32:Int).toNat IntKind.u64.bits))) fun x8 =>
 .bI 31 (wu64 (x5*x7)) fun x9 =>
 .bI 34 (wu64 (x5*x8)) fun x10 =>
 .bI 37 (wu64 (x6*x7)) fun x11 =>
 .bI 40 (wu64 (x6*x8)) fun x12 =>
 .bI 42 (x9.fdiv (2 ^ (min (32:Int).toNat IntKind.u64.bits))) fun x13 =>
 .bl (wu64 ((BitVec.ofInt IntKind.u64.bits x10 &&& BitVec.ofInt IntKind.u64.bits 4294967295).toNat:Int):Int) fun x14 =>
 .gv 44<|
 .bI 45 (wu64 (x13+x14)) fun x15 =>
 .bl (wu64 ((BitVec.ofInt IntKind.u64.bits x11 &&& BitVec.ofInt IntKind.u64.bits 4294967295).toNat:Int):Int) fun x16 =>
 .gv 47<|
 .bI 48 (wu64 (x15+x16)) fun x17 =>
 .bI 51 (x10.fdiv (2 ^ (min (32:Int).toNat IntKind.u64.bits))) fun x18 =>
 .bI 52 (wu64 (x12+x18)) fun x19 =>
 .bI 54 (x11.fdiv (2 ^ (min (32:Int).toNat IntKind.u64.bits))) fun x20 =>
 .bI 55 (wu64 (x19+x20)) fun x21 =>
 .bI 57 (x17.fdiv (2 ^ (min (32:Int).toNat IntKind.u64.bits))) fun x22 =>
 .bI 58 (wu64 (x21+x22)) fun x23 =>
 .bI 60 (wu64 (x17*(2 ^ (min (32:Int).toNat IntKind.u64.bits)))) fun x24 =>
 .bl (wu64 ((BitVec.ofInt IntKind.u64.bits x9 &&& BitVec.ofInt IntKind.u64.bits 4294967295).toNat:Int):Int) fun x25 =>
 .gv 62<|
 .bl (wu64 ((BitVec.ofInt IntKind.u64.bits x24 ||| BitVec.ofInt IntKind.u64.bits x25).toNat:Int):Int) fun x26 =>
 .gv 63<|
 .ret (x23,x26)
def d_ref01_Wide (a1:Int) (a2:Int):Option (Int×Int):=(t_ref01_Wide a1 a2).run
theorem d_ref01_Wide_c {a1:Int} {a2:Int} {r:Int×Int} (h0:d_ref01_Wide a1 a2=some r):PP Tryz.prog 192 [int a1,int a2] (fun y=>y=.tup [.sc (.int .u64 r.1),.sc (.int .u64 r.2)]):=by
 refine wt_pp mixed tbk (fun (r:Int×Int)=>.tup [.sc (.int .u64 r.1),.sc (.int .u64 r.2)]) h0 Tryz.func192 (fun r=>.tup (pvl2 ((pvK .u64) (r.1)) ((pvK .u64) (r.2)))) 100000 ?_
 conv=>whnf
 refine .mk fun x3=>?_
 conv=>whnf
 refine .mk fun x4=>?_
 conv=>whnf
 refine .mk fun x5 e5=>?_
 conv=>whnf
 refine .mk _ (agr (yv_and rfl rfl rfl e5)) ?_
 conv=>whnf
 refine .mk fun x6=>?_
 conv=>whnf
 refine .mk fun x7 e7=>?_
 conv=>whnf
 refine .mk _ (agr (yv_and rfl rfl rfl e7)) ?_
 conv=>whnf
 refine .mk fun x8=>?_
 conv=>whnf
 refine .mk fun x9=>?_
 conv=>whnf
 refine .mk fun x10=>?_
 conv=>whnf
 refine .mk fun x11=>?_
 conv=>whnf
 refine .mk fun x12=>?_
 conv=>whnf
 refine .mk fun x13=>?_
 conv=>whnf
 refine .mk fun x14 e14=>?_
 conv=>whnf
 refine .mk _ (agr (yv_and rfl rfl rfl e14)) ?_
 conv=>whnf
 refine .mk fun x15=>?_
 conv=>whnf
 refine .mk fun x16 e16=>?_
 conv=>whnf
 refine .mk _ (agr (yv_and rfl rfl rfl e16)) ?_
 conv=>whnf
 refine .mk fun x17=>?_
 conv=>whnf
 refine .mk fun x18=>?_
 conv=>whnf
 refine .mk fun x19=>?_
 conv=>whnf
 refine .mk fun x20=>?_
 conv=>whnf
 refine .mk fun x21=>?_
 conv=>whnf
 refine .mk fun x22=>?_
 conv=>whnf
 refine .mk fun x23=>?_
 conv=>whnf
 refine .mk fun x24=>?_
 conv=>whnf
 refine .mk fun x25 e25=>?_
 conv=>whnf
 refine .mk _ (agr (yv_and rfl rfl rfl e25)) ?_
 conv=>whnf
 refine .mk fun x26 e26=>?_
 conv=>whnf
 refine .mk _ (agr (yv_or rfl rfl rfl e26)) ?_
 exact .mk
noncomputable def t_ref01_MulDiv (n:Nat) (a1:Int) (a2:Int) (a3:Int):WT Tryz.prog (.b (Int×Int×Int)) :=
 .jn 1 [0,1,2,6,7,8] [] [] (fun _ (a:Bool)=>[(24,boo a)]) (fun _ _=>[]) (.bB 16 (decide (a1<0)) fun x4 =>
 .ifs [16] x4 (.ret (true:Bool)) (.bB 19 (decide (a2<0)) fun x5 =>
 .ifs [19] x5 (.ret (true:Bool)) (.bB 23 (decide (a3<1)) fun x6 =>
 .ret x6)))
  (fun y0_1 =>
 .ifs [24] y0_1 (.ret ((0:Int),(0:Int),(1:Int))) (.cl 28 (d_ref01_Wide a1 a2) cal192 d_ref01_Wide_c fun x7 =>
 .bI 32 (wu64 a3) fun x8 =>
 .bB 35 (decide (x7.1≥x8)) fun x9 =>
 .ifs [35] x9 (.ret ((0:Int),(0:Int),(2:Int))) (.jn 3 [6,7,8] [] [] (fun _ (a:Int×Int)=>[(12,.sc (.int .u64 a.1)),(13,.sc (.int .u64 a.2))]) (fun _ _=>[]) (.lp [6,7,8,10,11] [] [] (fun _ (a:Int×Int×Int)=>[(12,.sc (.int .u64 a.1)),(13,.sc (.int .u64 a.2.1)),(14,int a.2.2)]) (fun _ _=>[]) n ((x7.1:Int),(0:Int),(63:Int)) (pw fun y1_1 q0=>(pw fun y1_2 y1_3 =>
 .bB 38 (decide (y1_3≥0)) fun x10 =>
 .ifs [38] x10 (.jn 1 [6,7,8,10,11,14] [] [] (fun _ (a:Int×Int)=>[(12,.sc (.int .u64 a.1)),(13,.sc (.int .u64 a.2))]) (fun _ _=>[]) (.bI 42 (wu64 (y1_1*(2 ^ (min (1:Int).toNat IntKind.u64.bits)))) fun x11 =>
 .bI 45 (wu64 y1_3) fun x12 =>
 .as ((0:Int)≤x12) inferInstance<|
 .bl (x7.2.fdiv (2 ^ (min x12.toNat IntKind.u64.bits)):Int) fun x14 =>
 .gv 46<|
 .bl (wu64 ((BitVec.ofInt IntKind.u64.bits x14 &&& BitVec.ofInt IntKind.u64.bits 1).toNat:Int):Int) fun x15 =>
 .gv 47<|
 .bl (wu64 ((BitVec.ofInt IntKind.u64.bits x11 ||| BitVec.ofInt IntKind.u64.bits x15).toNat:Int):Int) fun x16 =>
 .gv 48<|
 .bI 50 (wu64 (y1_2*(2 ^ (min (1:Int).toNat IntKind.u64.bits)))) fun x17 =>
 .bB 53 (decide (x16≥x8)) fun x18 =>
 .ifs [53] x18 (.bI 56 (wu64 (x16-x8)) fun x19 =>
 .bl (wu64 ((BitVec.ofInt IntKind.u64.bits x17 ||| BitVec.ofInt IntKind.u64.bits 1).toNat:Int):Int) fun x20 =>
 .gv 58<|
 .ret (x19,x20)) (.ret (x16,x17)))
  (pw fun y2_1 y2_2 =>
 .bI 40 (w64 (y1_3-1)) fun x21 =>
 .brk (y2_1,y2_2,x21))) (.esc (.ret (y1_1,y1_2)))) q0))
  (pw fun y3_1 y3_2 =>
 .bB 60 (decide (y3_2>288230376151711744)) fun x22 =>
 .ifs [60] x22 (.ret ((0:Int),(0:Int),(2:Int))) (.bI 62 (w64 y3_2) fun x23 =>
 .bI 64 (w64 y3_1) fun x24 =>
 .ret (x23,x24,(0:Int)))))))
def d_ref01_MulDiv (n:Nat) (a1:Int) (a2:Int) (a3:Int):Option (Int×Int×Int):=(t_ref01_MulDiv n a1 a2 a3).run
theorem d_ref01_MulDiv_c {n:Nat} {a1:Int} {a2:Int} {a3:Int} {r:Int×Int×Int} (h0:d_ref01_MulDiv n a1 a2 a3=some r):PP Tryz.prog 234 [int a1,int a2,int a3] (fun y=>y=.tup [int r.1,int r.2.1,int r.2.2]):=by
 refine wt_pp mixed tbk (fun (r:Int×Int×Int)=>.tup [int r.1,int r.2.1,int r.2.2]) h0 Tryz.func234 (fun r=>.tup (pvl3 (pvI (r.1)) (pvI (r.2.1)) (pvI (r.2.2)))) 100000 ?_
 conv=>whnf
 refine .mk ?_ ?_
 conv=>whnf
 refine .mk fun x4=>?_
 refine .mk .mk ?_
 conv=>whnf
 refine .mk fun x5=>?_
 refine .mk .mk ?_
 conv=>whnf
 refine .mk fun x6=>?_
 exact .mk
 intro _ _
 refine .mk .mk ?_
 conv=>whnf
 refine .mk fun x7 e7=>?_
 conv=>whnf
 refine .mk fun x8=>?_
 conv=>whnf
 refine .mk fun x9=>?_
 refine .mk .mk ?_
 conv=>whnf
 refine .mk ?_ ?_
 refine .mk ?_
 intro _ _
 conv=>whnf
 refine .mk fun x10=>?_
 conv=>whnf
 refine .mk ?_ ?_
 conv=>whnf
 refine .mk ?_ ?_
 conv=>whnf
 refine .mk fun x11=>?_
 conv=>whnf
 refine .mk fun x12=>?_
 conv=>whnf
 refine .mk fun p13=>?_
 conv=>whnf
 refine .mk fun x14 e14=>?_
 conv=>whnf
 refine .mk _ (agr (yv_shr rfl rfl rfl p13 e14)) ?_
 conv=>whnf
 refine .mk fun x15 e15=>?_
 conv=>whnf
 refine .mk _ (agr (yv_and rfl rfl rfl e15)) ?_
 conv=>whnf
 refine .mk fun x16 e16=>?_
 conv=>whnf
 refine .mk _ (agr (yv_or rfl rfl rfl e16)) ?_
 conv=>whnf
 refine .mk fun x17=>?_
 conv=>whnf
 refine .mk fun x18=>?_
 conv=>whnf
 refine .mk ?_ ?_
 conv=>whnf
 refine .mk fun x19=>?_
 conv=>whnf
 refine .mk fun x20 e20=>?_
 conv=>whnf
 refine .mk _ (agr (yv_or rfl rfl rfl e20)) ?_
 exact .mk
 conv=>whnf
 exact .mk
 intro _ _
 conv=>whnf
 refine .mk fun x21=>?_
 exact .mk
 conv=>whnf
 exact .mk
 intro _ _
 conv=>whnf
 refine .mk fun x22=>?_
 refine .mk .mk ?_
 conv=>whnf
 refine .mk fun x23=>?_
 conv=>whnf
 refine .mk fun x24=>?_
 exact .mk
noncomputable def t_ref01_Part (n:Nat) (a1:Int) (a2:Int) (a3:Int):WT Tryz.prog (.b (Int)) :=
 .jn 1 [0,1,2,6] [] [] (fun _ (a:Bool)=>[(28,boo a)]) (fun _ _=>[]) (.bB 14 (decide (a3<1)) fun x4 =>
 .ifs [14] x4 (.ret (true:Bool)) (.bB 17 (decide (a2<0)) fun x5 =>
 .ifs [17] x5 (.ret (true:Bool)) (.bB 22 (decide (a2>a3)) fun x6 =>
 .ifs [22] x6 (.ret (true:Bool)) (.cl 26 (d_ref01_In a1) cal224 d_ref01_In_c fun x7 =>
 .bB 27 (!x7) fun x8 =>
 .ret x8))))
  (fun y0_1 =>
 .ifs [28] y0_1 (.ret ((0:Int))) (.bB 30 (decide (a1<0)) fun x9 =>
 .ifs [30] x9 (.bI 33 (w64 (0-a1)) fun x10 =>
 .cl 36 (d_ref01_MulDiv n x10 a2 a3) cal234 d_ref01_MulDiv_c fun x11 =>
 .bI 41 (w64 (0-x11.1)) fun x12 =>
 .ret (x12)) (.cl 46 (d_ref01_MulDiv n a1 a2 a3) cal234 d_ref01_MulDiv_c fun x13 =>
 .ret ((x13.1:Int)))))
def d_ref01_Part (n:Nat) (a1:Int) (a2:Int) (a3:Int):Option (Int):=(t_ref01_Part n a1 a2 a3).run
theorem d_ref01_Part_c {n:Nat} {a1:Int} {a2:Int} {a3:Int} {r:Int} (h0:d_ref01_Part n a1 a2 a3=some r):PP Tryz.prog 231 [int a1,int a2,int a3] (fun y=>y=int r):=by
 refine wt_pp mixed tbk (fun (r:Int)=>int r) h0 Tryz.func231 (fun r=>pvI r) 100000 ?_
 conv=>whnf
 refine .mk ?_ ?_
 conv=>whnf
 refine .mk fun x4=>?_
 refine .mk .mk ?_
 conv=>whnf
 refine .mk fun x5=>?_
 refine .mk .mk ?_
 conv=>whnf
 refine .mk fun x6=>?_
 refine .mk .mk ?_
 conv=>whnf
 refine .mk fun x7 e7=>?_
 conv=>whnf
 refine .mk fun x8=>?_
 exact .mk
 intro _ _
 refine .mk .mk ?_
 conv=>whnf
 refine .mk fun x9=>?_
 conv=>whnf
 refine .mk ?_ ?_
 conv=>whnf
 refine .mk fun x10=>?_
 conv=>whnf
 refine .mk fun x11 e11=>?_
 conv=>whnf
 refine .mk fun x12=>?_
 exact .mk
 conv=>whnf
 refine .mk fun x13 e13=>?_
 exact .mk
noncomputable def t_ref09_Out (n:Nat) (a1:List GLayer) (a2:Int):WT Tryz.prog (.b ((List GLayer)×GLayer×Int)) :=
 .al 1<|
 .cl 17 (d_ref09_Total n a1) cal225 d_ref09_Total_c fun x4 =>
 .al 2<|
 .bB 22 (decide (a2<1)) fun x6 =>
 .ifs [22] x6 (.ret ((a1:List GLayer),((⟨0,0,0⟩:GLayer):GLayer),(1:Int))) (.bB 29 (decide (x4.1.Qty<a2)) fun x7 =>
 .ifs [29] x7 (.ret ((a1:List GLayer),((⟨0,0,0⟩:GLayer):GLayer),(5:Int))) (.al 3<|
 .jn 2 [4,5,6,9] [1] [8] (fun u11 (a:GLayer×(List GLayer))=>[(10,.sl 8 (u11 8) 0 a.2.length)]) (fun _ a=>[.kp 3 [[int a.1.Qty,int a.1.Value,int a.1.Profit]],.nw 8 53 3 (a.2.map GLayer.av)]) (.no 10 8 53 3<|
 .lp [0,1,4,5,6,9] [1] [8] (fun u15 (a:Int×GLayer×(List GLayer))=>[(10,.sl 8 (u15 8) 0 a.2.2.length),(11,int a.1)]) (fun _ a=>[.kp 3 [[int a.2.1.Qty,int a.2.1.Value,int a.2.1.Profit]],.nw 8 53 3 (a.2.2.map GLayer.av)]) n ((0:Int),((⟨0,0,0⟩:GLayer):GLayer),(([]:List GLayer):List GLayer)) (pw fun y0_2 q0=>(pw fun y0_3 y0_4 =>
 .ln 34 GLayer.av a1<|
 .bB 35 (decide (y0_2<(a1.length:Int))) fun x10 =>
 .ifs [35] x10 (.jn 1 [0,1,4,5,6,9,11] [1] [8] (fun u17 (a:GLayer×(List GLayer))=>[(10,.sl 8 (u17 8) 0 a.2.length)]) (fun _ a=>[.kp 3 [[int a.1.Qty,int a.1.Value,int a.1.Profit]],.nw 8 53 3 (a.2.map GLayer.av)]) (.dr [(5,[3]),(6,[3])] [] [3] [8,9] [0,1,2,3,4,5,6,7,8,9,10] (.ix 40 GLayer.av a1 y0_2 fun x11 =>
 .bI 45 (w64 (a2-y0_3.Qty)) fun x12 =>
 .al 4<|
 .bB 47 (decide (x12≤0)) fun x14 =>
 .ifs [47] x14 (.gv 50<|
 .bl (y0_4++([x11]:List GLayer):List GLayer) fun x15 =>
 .as (x15.length≤68719476736) inferInstance<|
 .ge 51<|
 .ret (y0_3,x15)) (.al 6<|
 .bB 56 (decide (x11.Qty>x12)) fun x19 =>
 .jn 0 [0,1,4,5,6,9,11,14] [1,3] [8] (fun u18 (a:(List GLayer)×GLayer)=>[(10,.sl 8 (u18 8) 0 a.1.length)]) (fun _ a=>[.kp 6 [[int a.2.Qty,int a.2.Value,int a.2.Profit]],.nw 8 53 3 (a.1.map GLayer.av)]) (.ifs [56] x19 (.dr [(1,[4]),(2,[4]),(4,[4]),(5,[4]),(7,[4]),(8,[4]),(10,[4]),(11,[4])] [(14,[])] [4] [14] [0,1,2,3,4,5,6,7,8,9,10,11,12,13,14] (.cl 63 (d_ref01_Part n x11.Value x12 x11.Qty) cal231 d_ref01_Part_c fun x20 =>
 .cl 69 (d_ref01_Part n x11.Profit x12 x11.Qty) cal231 d_ref01_Part_c fun x21 =>
 .bI 75 (w64 (x11.Qty-x12)) fun x22 =>
 .bI 80 (w64 (x11.Value-x20)) fun x23 =>
 .bI 85 (w64 (x11.Profit-x21)) fun x24 =>
 .gv 87<|
 .bl (y0_4++([(⟨x22,x23,x24⟩:GLayer)]:List GLayer):List GLayer) fun x25 =>
 .as (x25.length≤68719476736) inferInstance<|
 .ge 88<|
 .ret (x25,((⟨x12,x20,x21⟩:GLayer):GLayer)))) (.ret (y0_4,x11)))
  (pw fun y1_2 y1_3 =>
 .bI 93 (w64 (y0_3.Qty+y1_3.Qty)) fun x28 =>
 .bI 98 (w64 (y0_3.Value+y1_3.Value)) fun x29 =>
 .bI 103 (w64 (y0_3.Profit+y1_3.Profit)) fun x30 =>
 .ret (((⟨x28,x29,x30⟩:GLayer):GLayer),y1_2)))))
  (pw fun y2_2 y2_3 =>
 .bI 37 (w64 (y0_2+1)) fun x31 =>
 .brk (x31,y2_2,y2_3))) (.esc (.ret (y0_3,y0_4)))) q0))
  (pw fun y3_2 y3_3 =>
 .dr [(1,[3])] [(3,[])] [3] [3] [0,1,2,3,4] (.ret (y3_3,y3_2,(0:Int))))))
def d_ref09_Out (n:Nat) (a1:List GLayer) (a2:Int):Option ((List GLayer)×GLayer×Int):=(t_ref09_Out n a1 a2).run
theorem d_ref09_Out_c {n:Nat} {a1:List GLayer} {a2:Int} {r:(List GLayer)×GLayer×Int} (h0:d_ref09_Out n a1 a2=some r):PP Tryz.prog 221 [lst 3 GLayer.av a1,int a2] (fun y=>y=.tup [lst 3 GLayer.av r.1,.agg (GLayer.av r.2.1),int r.2.2]):=by
 refine wt_pp mixed tbk (fun (r:(List GLayer)×GLayer×Int)=>.tup [lst 3 GLayer.av r.1,.agg (GLayer.av r.2.1),int r.2.2]) h0 Tryz.func221 (fun r=>.tup (pvl3 ((pvLs GLayer.pvc) (r.1)) ((fun (a:GLayer)=>PV.agg (GLayer.pvc a)) (r.2.1)) (pvI (r.2.2)))) 100000 ?_
 intro v3
 conv=>whnf
 refine .mk fun x4 e4=>?_
 intro v5
 conv=>whnf
 refine .mk fun x6=>?_
 refine .mk .mk ?_
 conv=>whnf
 refine .mk fun x7=>?_
 refine .mk .mk ?_
 intro v8
 conv=>whnf
 refine .mk ?_ ?_
 intro v9
 refine .mk ?_
 rintro ⟨y0_2,y0_3,y0_4⟩ _
 refine .mk ?_
 conv=>whnf
 refine .mk fun x10=>?_
 conv=>whnf
 refine .mk ?_ ?_
 conv=>whnf
 refine .mk ?_ ?_
 refine .mk ?_
 conv=>whnf
 refine .mk fun x11 e11=>?_
 conv=>whnf
 refine .mk fun x12=>?_
 intro v13
 conv=>whnf
 refine .mk fun x14=>?_
 conv=>whnf
 refine .mk ?_ ?_
 conv=>whnf
 refine .mk _ (agr (yv_to (y:=lst 3 GLayer.av ([x11]:List GLayer)) (yv_buildSlice (ps:=[(0,_)]) (rows:=[[int x11.Qty,int x11.Value,int x11.Profit]]) rfl Tryz.underlying54 bz53 (.cons rfl .nil) (by kernel_rfl) rfl rfl rfl) rfl)) ?_
 conv=>whnf
 refine .mk fun x15 e15=>?_
 conv=>whnf
 refine .mk fun p16=>?_
 conv=>whnf
 refine .mk _ ⟨fun _=>yl_appT (g:=GLayer.av) (l:=y0_4) (m:=([x11]:List GLayer)) .any rfl Tryz.underlying54 bz53 by53 rfl rfl rfl rfl rfl rfl rfl rfl rfl rfl (Eq.symm rfl) (.refl _) (fun _=>rfl) e15 p16,fun _ _ _=>trivial⟩ ?_
 rintro _ _ ⟨v17,-,rfl,rfl⟩
 exact .mk
 intro v18
 conv=>whnf
 refine .mk fun x19=>?_
 conv=>whnf
 refine .mk ?_ ?_
 conv=>whnf
 refine .mk ?_ ?_
 refine .mk ?_
 conv=>whnf
 refine .mk fun x20 e20=>?_
 conv=>whnf
 refine .mk fun x21 e21=>?_
 conv=>whnf
 refine .mk fun x22=>?_
 conv=>whnf
 refine .mk fun x23=>?_
 conv=>whnf
 refine .mk fun x24=>?_
 conv=>whnf
 refine .mk _ (agr (yv_to (y:=lst 3 GLayer.av ([(⟨x22,x23,x24⟩:GLayer)]:List GLayer)) (yv_buildSlice (ps:=[(0,_)]) (rows:=[[int x22,int x23,int x24]]) rfl Tryz.underlying54 bz53 (.cons rfl .nil) (by kernel_rfl) rfl rfl rfl) rfl)) ?_
 conv=>whnf
 refine .mk fun x25 e25=>?_
 conv=>whnf
 refine .mk fun p26=>?_
 conv=>whnf
 refine .mk _ ⟨fun _=>yl_appT (g:=GLayer.av) (l:=y0_4) (m:=([(⟨x22,x23,x24⟩:GLayer)]:List GLayer)) .any rfl Tryz.underlying54 bz53 by53 rfl rfl rfl rfl rfl rfl rfl rfl rfl rfl (Eq.symm rfl) (.refl _) (fun _=>rfl) e25 p26,fun _ _ _=>trivial⟩ ?_
 rintro _ _ ⟨v27,-,rfl,rfl⟩
 exact .mk
 conv=>whnf
 exact .mk
 intro _ _
 conv=>whnf
 refine .mk fun x28=>?_
 conv=>whnf
 refine .mk fun x29=>?_
 conv=>whnf
 refine .mk fun x30=>?_
 exact .mk
 intro _ _
 conv=>whnf
 refine .mk fun x31=>?_
 exact .mk
 conv=>whnf
 exact .mk
 intro _ _
 refine .mk ?_
 conv=>whnf
 exact .mk (CvL.tup (.cons (cv_lst rfl rfl rfl rfl rfl (Eq.symm rfl)) (.cons (.refl _) (.cons (.refl _) .nil))))
noncomputable def t_ref10_Out (n:Nat) (a1:List GLayer) (a2:Int):WT Tryz.prog (.b ((List GLayer)×GLayer×Int)) :=
 .al 1<|
 .cl 9 (d_ref09_Out n a1 a2) cal221 d_ref09_Out_c fun x4 =>
 .ret ((x4.1:List GLayer),(x4.2.1:GLayer),(x4.2.2:Int))
def d_ref10_Out (n:Nat) (a1:List GLayer) (a2:Int):Option ((List GLayer)×GLayer×Int):=(t_ref10_Out n a1 a2).run
theorem d_ref10_Out_c {n:Nat} {a1:List GLayer} {a2:Int} {r:(List GLayer)×GLayer×Int} (h0:d_ref10_Out n a1 a2=some r):PP Tryz.prog 185 [lst 3 GLayer.av a1,int a2] (fun y=>y=.tup [lst 3 GLayer.av r.1,.agg (GLayer.av r.2.1),int r.2.2]):=by
 refine wt_pp mixed tbk (fun (r:(List GLayer)×GLayer×Int)=>.tup [lst 3 GLayer.av r.1,.agg (GLayer.av r.2.1),int r.2.2]) h0 Tryz.func185 (fun r=>.tup (pvl3 ((pvLs GLayer.pvc) (r.1)) ((fun (a:GLayer)=>PV.agg (GLayer.pvc a)) (r.2.1)) (pvI (r.2.2)))) 100000 ?_
 intro v3
 conv=>whnf
 refine .mk fun x4 e4=>?_
 exact .mk
noncomputable def t_ref11_Settle (n:Nat) (a1:GPool):WT Tryz.prog (.b (GPool×A3_GLayer)) :=
 .al 1<|
 .al 2<|
 .al 3<|
 .al 4<|
 .jn 1 [1,2,3,4] [2,3] [] (fun _ (a:GPool×Int×Int×Int×Int×Int×Int×Int×Int×Int)=>[]) (fun _ a=>[.kp 1 [[lst 3 GLayer.av a.1.Layers,int a.1.Pend.a0,int a.1.Pend.a1,int a.1.Pend.a2]],.kp 4 [[int a.2.1,int a.2.2.1,int a.2.2.2.1,int a.2.2.2.2.1,int a.2.2.2.2.2.1,int a.2.2.2.2.2.2.1,int a.2.2.2.2.2.2.2.1,int a.2.2.2.2.2.2.2.2.1,int a.2.2.2.2.2.2.2.2.2]]]) (.un 24 (.kB 7 true<|
 .jn 1 [1,2,3,4,5] [2,3] [] (fun _ (a:GPool×Int×Int×Int)=>[]) (fun _ a=>[.kp 1 [[lst 3 GLayer.av a.1.Layers,int a.1.Pend.a0,int a.1.Pend.a1,int a.1.Pend.a2]],.kp 4 [[int a.2.1,int a.2.2.1,int a.2.2.2,int 0,int 0,int 0,int 0,int 0,int 0]]]) (.gv 12<|
 .bB 14 (decide (a1.Pend.a0>0)) fun x6 =>
 .ifs [14] x6 (.dr [(1,[1]),(2,[1]),(4,[1]),(5,[1]),(6,[1]),(12,[1]),(14,[4])] [(13,[]),(15,[])] [1,4] [13,15] [0,1,2,3,4,5,6,7,8,9,10,11,12,13,14,15] (.gv 21<|
 .cl 23 (d_ref10_Out n a1.Layers a1.Pend.a0) cal185 d_ref10_Out_c fun x7 =>
 .gv 28<|
 .gv 31<|
 .ret (((⟨x7.1,(⟨0,a1.Pend.a1,a1.Pend.a2⟩:A3_Int)⟩:GPool):GPool),(x7.2.1.Qty:Int),(x7.2.1.Value:Int),(x7.2.1.Profit:Int)))) (.ret ((a1:GPool),(0:Int),(0:Int),(0:Int))))
  (pw fun y0_1 q0=>(pw fun y0_2 q1=>(pw fun y0_3 y0_4 =>
 .kI 9 1<|
 .kB 7 true<|
 .jn 1 [1,2,3,4,5] [2,3] [] (fun _ (a:GPool×Int×Int×Int)=>[]) (fun _ a=>[.kp 1 [[lst 3 GLayer.av a.1.Layers,int a.1.Pend.a0,int a.1.Pend.a1,int a.1.Pend.a2]],.kp 4 [[int y0_2,int y0_3,int y0_4,int a.2.1,int a.2.2.1,int a.2.2.2,int 0,int 0,int 0]]]) (.gv 12<|
 .bB 14 (decide (y0_1.Pend.a1>0)) fun x8 =>
 .ifs [14] x8 (.dr [(1,[1]),(2,[1]),(4,[1]),(5,[1]),(6,[1]),(12,[1]),(14,[4])] [(13,[]),(15,[])] [1,4] [13,15] [0,1,2,3,4,5,6,7,8,9,10,11,12,13,14,15] (.gv 21<|
 .cl 23 (d_ref10_Out n y0_1.Layers y0_1.Pend.a1) cal185 d_ref10_Out_c fun x9 =>
 .gv 28<|
 .gv 31<|
 .ret (((⟨x9.1,(⟨y0_1.Pend.a0,0,y0_1.Pend.a2⟩:A3_Int)⟩:GPool):GPool),(x9.2.1.Qty:Int),(x9.2.1.Value:Int),(x9.2.1.Profit:Int)))) (.ret (y0_1,(0:Int),(0:Int),(0:Int))))
  (pw fun y0_1_1 q0=>(pw fun y0_2_1 q1=>(pw fun y0_3_1 y0_4_1 =>
 .kI 9 2<|
 .kB 7 true<|
 .jn 1 [1,2,3,4,5] [2,3] [] (fun _ (a:GPool×Int×Int×Int)=>[]) (fun _ a=>[.kp 1 [[lst 3 GLayer.av a.1.Layers,int a.1.Pend.a0,int a.1.Pend.a1,int a.1.Pend.a2]],.kp 4 [[int y0_2,int y0_3,int y0_4,int y0_2_1,int y0_3_1,int y0_4_1,int a.2.1,int a.2.2.1,int a.2.2.2]]]) (.gv 12<|
 .bB 14 (decide (y0_1_1.Pend.a2>0)) fun x10 =>
 .ifs [14] x10 (.dr [(1,[1]),(2,[1]),(4,[1]),(5,[1]),(6,[1]),(12,[1]),(14,[4])] [(13,[]),(15,[])] [1,4] [13,15] [0,1,2,3,4,5,6,7,8,9,10,11,12,13,14,15] (.gv 21<|
 .cl 23 (d_ref10_Out n y0_1_1.Layers y0_1_1.Pend.a2) cal185 d_ref10_Out_c fun x11 =>
 .gv 28<|
 .gv 31<|
 .ret (((⟨x11.1,(⟨y0_1_1.Pend.a0,y0_1_1.Pend.a1,0⟩:A3_Int)⟩:GPool):GPool),(x11.2.1.Qty:Int),(x11.2.1.Value:Int),(x11.2.1.Profit:Int)))) (.ret (y0_1_1,(0:Int),(0:Int),(0:Int))))
  (pw fun y0_1_2 q0=>(pw fun y0_2_2 q1=>(pw fun y0_3_2 y0_4_2 =>
 .kI 9 3<|
 .kB 7 false<|
 .ret (y0_1_2,y0_2,y0_3,y0_4,y0_2_1,y0_3_1,y0_4_1,y0_2_2,y0_3_2,y0_4_2)) q1) q0)) q1) q0)) q1) q0)))
  (pw fun y1_1 q0=>(pw fun y1_2 q1=>(pw fun y1_3 q2=>(pw fun y1_4 q3=>(pw fun y1_5 q4=>(pw fun y1_6 q5=>(pw fun y1_7 q6=>(pw fun y1_8 q7=>(pw fun y1_9 y1_10 =>
 .dr [(0,[1]),(1,[4])] [(2,[4]),(3,[])] [1,4] [2,3] [0,1,2,3] (.ret (y1_1,((⟨(⟨y1_2,y1_3,y1_4⟩:GLayer),(⟨y1_5,y1_6,y1_7⟩:GLayer),(⟨y1_8,y1_9,y1_10⟩:GLayer)⟩:A3_GLayer):A3_GLayer)))) q7) q6) q5) q4) q3) q2) q1) q0)
def d_ref11_Settle (n:Nat) (a1:GPool):Option (GPool×A3_GLayer):=(t_ref11_Settle n a1).run
theorem d_ref11_Settle_c {n:Nat} {a1:GPool} {r:GPool×A3_GLayer} (h0:d_ref11_Settle n a1=some r):PP Tryz.prog 148 [.agg (GPool.av a1)] (fun y=>y=.tup [.agg (GPool.av r.1),.agg (A3_GLayer.av r.2)]):=by
 refine wt_pp mixed tbk (fun (r:GPool×A3_GLayer)=>.tup [.agg (GPool.av r.1),.agg (A3_GLayer.av r.2)]) h0 Tryz.func148 (fun r=>.tup (pvl2 ((fun (a:GPool)=>PV.agg (GPool.pvc a)) (r.1)) ((fun (a:A3_GLayer)=>PV.agg (A3_GLayer.pvc a)) (r.2)))) 100000 ?_
 intro v2
 intro v3
 intro v4
 intro v5
 conv=>whnf
 refine .mk ?_ ?_
 refine .mk ?_
 conv=>whnf
 refine .mk ?_ ?_
 conv=>whnf
 refine .mk _ (agr (yv_to (y:=.pt 1 v2 0 1) (yv_indexAddrA rfl Tryz.underlying55 sh3 rfl rfl rfl rfl rfl (by decide)) rfl)) ?_
 conv=>whnf
 refine .mk fun x6=>?_
 conv=>whnf
 refine .mk ?_ ?_
 refine .mk ?_
 conv=>whnf
 refine .mk _ (fun H hH _=>yv_to (y:=.pt 1 v2 0 1) (yv_indexAddrA rfl Tryz.underlying55 sh3 rfl rfl ((hH _ (by decide)).trans rfl) rfl rfl (by decide)) rfl) ?_
 conv=>whnf
 refine .mk fun x7 e7=>?_
 conv=>whnf
 refine .mk _ (fun H hH _=>yv_to (y:=.pt 4 v5 0 0) (yv_indexAddrA rfl Tryz.underlying114 sh53 rfl rfl ((hH _ (by decide)).trans rfl) rfl rfl (by decide)) rfl) ?_
 conv=>whnf
 refine .mk _ (agr (yv_to (y:=.pt 1 v2 0 1) (yv_indexAddrA rfl Tryz.underlying55 sh3 rfl rfl rfl rfl rfl (by decide)) rfl)) ?_
 exact .mk
 conv=>whnf
 exact .mk
 intro _ _
 refine .mk ?_
 conv=>whnf
 refine .mk ?_
 conv=>whnf
 refine .mk ?_ ?_
 conv=>whnf
 refine .mk _ (agr (yv_to (y:=.pt 1 v2 0 2) (yv_indexAddrA rfl Tryz.underlying55 sh3 rfl rfl rfl rfl rfl (by decide)) rfl)) ?_
 conv=>whnf
 refine .mk fun x8=>?_
 conv=>whnf
 refine .mk ?_ ?_
 refine .mk ?_
 conv=>whnf
 refine .mk _ (fun H hH _=>yv_to (y:=.pt 1 v2 0 2) (yv_indexAddrA rfl Tryz.underlying55 sh3 rfl rfl ((hH _ (by decide)).trans rfl) rfl rfl (by decide)) rfl) ?_
 conv=>whnf
 refine .mk fun x9 e9=>?_
 conv=>whnf
 refine .mk _ (fun H hH _=>yv_to (y:=.pt 4 v5 0 3) (yv_indexAddrA rfl Tryz.underlying114 sh53 rfl rfl ((hH _ (by decide)).trans rfl) rfl rfl (by decide)) rfl) ?_
 conv=>whnf
 refine .mk _ (agr (yv_to (y:=.pt 1 v2 0 2) (yv_indexAddrA rfl Tryz.underlying55 sh3 rfl rfl rfl rfl rfl (by decide)) rfl)) ?_
 exact .mk
 conv=>whnf
 exact .mk
 intro _ _
 refine .mk ?_
 conv=>whnf
 refine .mk ?_
 conv=>whnf
 refine .mk ?_ ?_
 conv=>whnf
 refine .mk _ (agr (yv_to (y:=.pt 1 v2 0 3) (yv_indexAddrA rfl Tryz.underlying55 sh3 rfl rfl rfl rfl rfl (by decide)) rfl)) ?_
 conv=>whnf
 refine .mk fun x10=>?_
 conv=>whnf
 refine .mk ?_ ?_
 refine .mk ?_
 conv=>whnf
 refine .mk _ (fun H hH _=>yv_to (y:=.pt 1 v2 0 3) (yv_indexAddrA rfl Tryz.underlying55 sh3 rfl rfl ((hH _ (by decide)).trans rfl) rfl rfl (by decide)) rfl) ?_
 conv=>whnf
 refine .mk fun x11 e11=>?_
 conv=>whnf
 refine .mk _ (fun H hH _=>yv_to (y:=.pt 4 v5 0 6) (yv_indexAddrA rfl Tryz.underlying114 sh53 rfl rfl ((hH _ (by decide)).trans rfl) rfl rfl (by decide)) rfl) ?_
 conv=>whnf
 refine .mk _ (agr (yv_to (y:=.pt 1 v2 0 3) (yv_indexAddrA rfl Tryz.underlying55 sh3 rfl rfl rfl rfl rfl (by decide)) rfl)) ?_
 exact .mk
 conv=>whnf
 exact .mk
 intro _ _
 refine .mk ?_
 conv=>whnf
 refine .mk ?_
 exact .mk
 intro _ _
 refine .mk ?_
 exact .mk
noncomputable def t_ref14_Put (a1:GState) (a2:Int) (a3:Int) (a4:Int) (a5:GPool):WT Tryz.prog (.b (GState)) :=
 .al 1<|
 .al 2<|
 .al 3<|
 .inl 14 cal10 Tryz.func10 [1,2,3] [6,7,8,9,10,11] (fun u2 (a:Int×Bool×(List GEnt)×(List GPool)×(List Int)×(List GRoll)×(List Int)×(List Int))=>.agg [int a1.Master.Entities,int a1.Master.Periods,lst 1 fI a1.Master.Weights,lst 1 (fL 1 fI) a1.Master.Methods,lst 1 (fL 1 fI) a1.Master.Costs,.sl 6 (u2 6) 0 a1.Ents.length,lst 8 GReceipt.av a1.Receipts,lst 9 GSale.av a1.Sales,lst 6 GTransit.av a1.Transits,int a1.Done]) (fun u2 a=>[.nw 6 39 8 ((a1.Ents.map GEnt.av).set (Int.toNat a2) [int a.1,boo a.2.1,.sl 7 (u2 7) 0 a.2.2.2.1.length,.sl 8 (u2 8) 0 a.2.2.2.2.1.length,.sl 9 (u2 9) 0 a.2.2.2.2.2.1.length,.sl 10 (u2 10) 0 a.2.2.2.2.2.2.1.length,.sl 11 (u2 11) 0 a.2.2.2.2.2.2.2.length,lst 8 GEnt.av a.2.2.1]),.nw 7 57 4 (a.2.2.2.1.map GPool.av),.nw 8 3 1 (a.2.2.2.2.1.map fI),.nw 9 83 11 (a.2.2.2.2.2.1.map GRoll.av),.nw 10 3 1 (a.2.2.2.2.2.2.1.map fI),.nw 11 3 1 (a.2.2.2.2.2.2.2.map fI)]) (.al 4<|
 .al 5<|
 .as (a1.Ents.length≤68719476736) inferInstance<|
 .ge 8<|
 .bo (ix a1.Ents a2) fun x13 =>
 .gv 13<|
 .dr [(4,[6]),(5,[6]),(6,[6]),(9,[6]),(10,[6]),(11,[6]),(14,[6]),(15,[6]),(16,[6]),(18,[6]),(19,[6]),(21,[6]),(22,[6]),(24,[6]),(25,[6])] [(17,[]),(20,[]),(23,[]),(26,[])] [6] [7,12,17,20,23,26] [0,1,2,3,4,5,6,8,9,10,11,13,14,15,16,7,12,17,18,19,20,21,22,23,24,25,26] (.gv 18<|
 .gv 19<|
 .gv 20<|
 .gv 23<|
 .gv 24<|
 .gv 25<|
 .gv 28<|
 .gv 29<|
 .gv 30<|
 .as (x13.Pools.length≤68719476736) inferInstance<|
 .ge 21<|
 .as (x13.Bal.length≤68719476736) inferInstance<|
 .ge 26<|
 .as (x13.Rolls.length≤68719476736) inferInstance<|
 .ge 31<|
 .gv 32<|
 .gv 33<|
 .ge 1003020<|
 .gv 34<|
 .gv 35<|
 .ge 1003023<|
 .gv 36<|
 .gv 37<|
 .ge 1003026<|
 .dr [(3,[6]),(4,[6]),(5,[6]),(8,[6]),(9,[6]),(10,[6]),(12,[6]),(13,[6]),(15,[6]),(16,[6])] [(11,[]),(14,[]),(17,[])] [6] [6,11,14,17] [0,1,2,3,4,5,7,8,9,10,6,11,12,13,14,15,16,17] (.gv 41<|
 .gv 42<|
 .gv 43<|
 .gv 46<|
 .gv 47<|
 .gv 48<|
 .as (x13.Prices.length≤68719476736) inferInstance<|
 .ge 44<|
 .as (x13.Down.length≤68719476736) inferInstance<|
 .ge 49<|
 .gv 50<|
 .gv 51<|
 .ge 1004014<|
 .gv 52<|
 .gv 53<|
 .ge 1004017<|
 .ret ((x13.Now:Int),(x13.Closed:Bool),(x13.Ahead:List GEnt),(x13.Pools:List GPool),(x13.Bal:List Int),(x13.Rolls:List GRoll),(x13.Prices:List Int),(x13.Down:List Int))))) (pw fun y0_2 q0=>(pw fun y0_3 q1=>(pw fun y0_9 q2=>(pw fun y0_10 q3=>(pw fun y0_11 q4=>(pw fun y0_12 q5=>(pw fun y0_13 y0_14 =>
 .bo (ix a1.Ents a2) fun x24 =>
 .al 12<|
 .dr [(0,[12]),(1,[12]),(3,[6]),(4,[6]),(5,[6]),(10,[2]),(11,[7])] [(12,[])] [2,6,7,12] [12] [0,1,2,3,4,5,6,7,8,9,10,11,12] (.gv 18<|
 .gv 19<|
 .gv 20<|
 .bI 22 (w64 (a3*2)) fun x26 =>
 .bI 24 (w64 (x26+a4)) fun x27 =>
 .bo (ix y0_10 x27) fun x28 =>
 .gv 26<|
 .bl (y0_10.set (Int.toNat x27) (a5:GPool):List GPool) fun x29 =>
 .ge 1002012<|
 .ret (((⟨a1.Master,(a1.Ents.set (Int.toNat a2) (⟨y0_2,y0_3,x29,y0_11,y0_12,y0_13,y0_14,y0_9⟩:GEnt)),a1.Receipts,a1.Sales,a1.Transits,a1.Done⟩:GState):GState)))) q5) q4) q3) q2) q1) q0)
def d_ref14_Put (a1:GState) (a2:Int) (a3:Int) (a4:Int) (a5:GPool):Option (GState):=(t_ref14_Put a1 a2 a3 a4 a5).run
theorem d_ref14_Put_c {a1:GState} {a2:Int} {a3:Int} {a4:Int} {a5:GPool} {r:GState} (h0:d_ref14_Put a1 a2 a3 a4 a5=some r):PP Tryz.prog 150 [.agg (GState.av a1),int a2,int a3,int a4,.agg (GPool.av a5)] (fun y=>y=.agg (GState.av r)):=by
 refine wt_pp mixed tbk (fun (r:GState)=>.agg (GState.av r)) h0 Tryz.func150 (fun r=>(fun (a:GState)=>PV.agg (GState.pvc a)) r) 100000 ?_
 intro v6
 intro v7
 intro v8
 conv=>whnf
 refine .mk ?_ ?_
 intro v9
 intro v10
 conv=>whnf
 refine .mk fun p11=>?_
 conv=>whnf
 refine .mk _ ⟨fun _=>yl_app0T (g:=GEnt.av) (m:=a1.Ents) 6 rfl Tryz.underlying26 bz39 by39 rfl rfl rfl rfl (.refl _) GEnt.one p11,fun _ _ _=>trivial⟩ ?_
 rintro _ _ ⟨v12,rfl,rfl⟩
 conv=>whnf
 refine .mk fun x13 e13=>?_
 conv=>whnf
 refine .mk _ (agr (yv_ixO rfl Tryz.underlying26 sh39 rfl rfl rfl rfl rfl (Eq.symm rfl) (List.length_map _) e13)) ?_
 refine .mk ?_
 conv=>whnf
 refine .mk _ (fun H hH _=>yv_nilCheck rfl rfl (.pt ((hH _ (by decide)).trans rfl) rfl (ix_get' e13 (GEnt.av_eq _)))) ?_
 conv=>whnf
 refine .mk _ (fun H hH _=>yv_fieldAddr rfl fo39_2 rfl (.pt ((hH _ (by decide)).trans rfl) rfl (ix_get' e13 (GEnt.av_eq _))) (.pt _ _ _ _ _)) ?_
 conv=>whnf
 refine .mk _ (fun H hH _=>yv_load rfl sh36 rfl (.pt ((hH _ (by decide)).trans rfl) rfl (ix_get' e13 (GEnt.av_eq _))) rfl) ?_
 conv=>whnf
 refine .mk _ (fun H hH _=>yv_nilCheck rfl rfl (.pt ((hH _ (by decide)).trans rfl) rfl (ix_get' e13 (GEnt.av_eq _)))) ?_
 conv=>whnf
 refine .mk _ (fun H hH _=>yv_fieldAddr rfl fo39_3 rfl (.pt ((hH _ (by decide)).trans rfl) rfl (ix_get' e13 (GEnt.av_eq _))) (.pt _ _ _ _ _)) ?_
 conv=>whnf
 refine .mk _ (fun H hH _=>yv_load rfl sh22 rfl (.pt ((hH _ (by decide)).trans rfl) rfl (ix_get' e13 (GEnt.av_eq _))) rfl) ?_
 conv=>whnf
 refine .mk _ (fun H hH _=>yv_nilCheck rfl rfl (.pt ((hH _ (by decide)).trans rfl) rfl (ix_get' e13 (GEnt.av_eq _)))) ?_
 conv=>whnf
 refine .mk _ (fun H hH _=>yv_fieldAddr rfl fo39_4 rfl (.pt ((hH _ (by decide)).trans rfl) rfl (ix_get' e13 (GEnt.av_eq _))) (.pt _ _ _ _ _)) ?_
 conv=>whnf
 refine .mk _ (fun H hH _=>yv_load rfl sh37 rfl (.pt ((hH _ (by decide)).trans rfl) rfl (ix_get' e13 (GEnt.av_eq _))) rfl) ?_
 conv=>whnf
 refine .mk fun p14=>?_
 conv=>whnf
 refine .mk _ ⟨fun _=>yl_app0T (g:=GPool.av) (m:=x13.Pools) 7 rfl Tryz.underlying36 bz57 by57 rfl rfl rfl rfl (.refl _) (fun _=>rfl) p14,by rintro _ _ ⟨v15,rfl,rfl⟩;exact ⟨rfl,trivial⟩⟩ ?_
 rintro _ _ ⟨v15,rfl,rfl⟩
 conv=>whnf
 refine .mk fun p16=>?_
 conv=>whnf
 refine .mk _ ⟨fun _=>yl_app0T (g:=fI) (m:=x13.Bal) 8 rfl Tryz.underlying22 bz3 by3 rfl rfl rfl rfl (.refl _) (fun _=>rfl) p16,by rintro _ _ ⟨v17,rfl,rfl⟩;exact ⟨rfl,trivial⟩⟩ ?_
 rintro _ _ ⟨v17,rfl,rfl⟩
 conv=>whnf
 refine .mk fun p18=>?_
 conv=>whnf
 refine .mk _ ⟨fun _=>yl_app0T (g:=GRoll.av) (m:=x13.Rolls) 9 rfl Tryz.underlying37 bz83 by83 rfl rfl rfl rfl (.refl _) (fun _=>rfl) p18,by rintro _ _ ⟨v19,rfl,rfl⟩;exact trivial⟩ ?_
 rintro _ _ ⟨v19,rfl,rfl⟩
 conv=>whnf
 refine .mk _ (fun H hH _=>yv_nilCheck rfl rfl (.pt ((hH _ (by decide)).trans rfl) rfl (ix_get' e13 (GEnt.av_eq _)))) ?_
 conv=>whnf
 refine .mk _ (fun H hH _=>yv_fieldAddr rfl fo39_2 rfl (.pt ((hH _ (by decide)).trans rfl) rfl (ix_get' e13 (GEnt.av_eq _))) (.pt _ _ _ _ _)) ?_
 conv=>whnf
 refine .mk _ ⟨fun _=>Yield.weak (yl_ob (ob':=(⟨39,8,true,true,_,(a1.Ents.map GEnt.av).set (Int.toNat a2) [int x13.Now,boo x13.Closed,.sl 7 v15 0 x13.Pools.length,lst 1 fI x13.Bal,lst 11 GRoll.av x13.Rolls,lst 1 fI x13.Prices,lst 1 fI x13.Down,lst 8 GEnt.av x13.Ahead]⟩:AObj)) (yl_store rfl sh36 rfl rfl rfl rfl rfl (ix_get' e13 (GEnt.av_eq _)) rfl rfl rfl) (ob_eq rfl)) (fun _ h=>h) (fun _ _=>trivial),by rintro _ _ ⟨rfl,rfl⟩;exact trivial⟩ ?_
 rintro _ _ ⟨rfl,rfl⟩
 conv=>whnf
 refine .mk _ (fun H hH _=>yv_nilCheck rfl rfl (.pt ((hH _ (by decide)).trans rfl) rfl (set_get e13))) ?_
 conv=>whnf
 refine .mk _ (fun H hH _=>yv_fieldAddr rfl fo39_3 rfl (.pt ((hH _ (by decide)).trans rfl) rfl (set_get e13)) (.pt _ _ _ _ _)) ?_
 conv=>whnf
 refine .mk _ ⟨fun _=>Yield.weak (yl_ob (ob':=(⟨39,8,true,true,_,(a1.Ents.map GEnt.av).set (Int.toNat a2) [int x13.Now,boo x13.Closed,.sl 7 v15 0 x13.Pools.length,.sl 8 v17 0 x13.Bal.length,lst 11 GRoll.av x13.Rolls,lst 1 fI x13.Prices,lst 1 fI x13.Down,lst 8 GEnt.av x13.Ahead]⟩:AObj)) (yl_store rfl sh22 rfl rfl rfl rfl rfl (set_get e13) rfl rfl rfl) (ob_eq set_setV)) (fun _ h=>h) (fun _ _=>trivial),by rintro _ _ ⟨rfl,rfl⟩;exact trivial⟩ ?_
 rintro _ _ ⟨rfl,rfl⟩
 conv=>whnf
 refine .mk _ (fun H hH _=>yv_nilCheck rfl rfl (.pt ((hH _ (by decide)).trans rfl) rfl (set_get e13))) ?_
 conv=>whnf
 refine .mk _ (fun H hH _=>yv_fieldAddr rfl fo39_4 rfl (.pt ((hH _ (by decide)).trans rfl) rfl (set_get e13)) (.pt _ _ _ _ _)) ?_
 conv=>whnf
 refine .mk _ ⟨fun _=>Yield.weak (yl_ob (ob':=(⟨39,8,true,true,_,(a1.Ents.map GEnt.av).set (Int.toNat a2) [int x13.Now,boo x13.Closed,.sl 7 v15 0 x13.Pools.length,.sl 8 v17 0 x13.Bal.length,.sl 9 v19 0 x13.Rolls.length,lst 1 fI x13.Prices,lst 1 fI x13.Down,lst 8 GEnt.av x13.Ahead]⟩:AObj)) (yl_store rfl sh37 rfl rfl rfl rfl rfl (set_get e13) rfl rfl rfl) (ob_eq set_setV)) (fun _ h=>h) (fun _ _=>trivial),by rintro _ _ ⟨rfl,rfl⟩;exact trivial⟩ ?_
 rintro _ _ ⟨rfl,rfl⟩
 refine .mk ?_
 conv=>whnf
 refine .mk _ (fun H hH _=>yv_nilCheck rfl rfl (.pt ((hH _ (by decide)).trans rfl) rfl (set_get e13))) ?_
 conv=>whnf
 refine .mk _ (fun H hH _=>yv_fieldAddr rfl fo39_5 rfl (.pt ((hH _ (by decide)).trans rfl) rfl (set_get e13)) (.pt _ _ _ _ _)) ?_
 conv=>whnf
 refine .mk _ (fun H hH _=>yv_load rfl sh22 rfl (.pt ((hH _ (by decide)).trans rfl) rfl (set_get e13)) rfl) ?_
 conv=>whnf
 refine .mk _ (fun H hH _=>yv_nilCheck rfl rfl (.pt ((hH _ (by decide)).trans rfl) rfl (set_get e13))) ?_
 conv=>whnf
 refine .mk _ (fun H hH _=>yv_fieldAddr rfl fo39_6 rfl (.pt ((hH _ (by decide)).trans rfl) rfl (set_get e13)) (.pt _ _ _ _ _)) ?_
 conv=>whnf
 refine .mk _ (fun H hH _=>yv_load rfl sh22 rfl (.pt ((hH _ (by decide)).trans rfl) rfl (set_get e13)) rfl) ?_
 conv=>whnf
 refine .mk fun p20=>?_
 conv=>whnf
 refine .mk _ ⟨fun _=>yl_app0T (g:=fI) (m:=x13.Prices) 10 rfl Tryz.underlying22 bz3 by3 rfl rfl rfl rfl (.refl _) (fun _=>rfl) p20,by rintro _ _ ⟨v21,rfl,rfl⟩;exact ⟨rfl,trivial⟩⟩ ?_
 rintro _ _ ⟨v21,rfl,rfl⟩
 conv=>whnf
 refine .mk fun p22=>?_
 conv=>whnf
 refine .mk _ ⟨fun _=>yl_app0T (g:=fI) (m:=x13.Down) 11 rfl Tryz.underlying22 bz3 by3 rfl rfl rfl rfl (.refl _) (fun _=>rfl) p22,by rintro _ _ ⟨v23,rfl,rfl⟩;exact trivial⟩ ?_
 rintro _ _ ⟨v23,rfl,rfl⟩
 conv=>whnf
 refine .mk _ (fun H hH _=>yv_nilCheck rfl rfl (.pt ((hH _ (by decide)).trans rfl) rfl (set_get e13))) ?_
 conv=>whnf
 refine .mk _ (fun H hH _=>yv_fieldAddr rfl fo39_5 rfl (.pt ((hH _ (by decide)).trans rfl) rfl (set_get e13)) (.pt _ _ _ _ _)) ?_
 conv=>whnf
 refine .mk _ ⟨fun _=>Yield.weak (yl_ob (ob':=(⟨39,8,true,true,_,(a1.Ents.map GEnt.av).set (Int.toNat a2) [int x13.Now,boo x13.Closed,.sl 7 v15 0 x13.Pools.length,.sl 8 v17 0 x13.Bal.length,.sl 9 v19 0 x13.Rolls.length,.sl 10 v21 0 x13.Prices.length,lst 1 fI x13.Down,lst 8 GEnt.av x13.Ahead]⟩:AObj)) (yl_store rfl sh22 rfl rfl rfl rfl rfl (set_get e13) rfl rfl rfl) (ob_eq set_setV)) (fun _ h=>h) (fun _ _=>trivial),by rintro _ _ ⟨rfl,rfl⟩;exact trivial⟩ ?_
 rintro _ _ ⟨rfl,rfl⟩
 conv=>whnf
 refine .mk _ (fun H hH _=>yv_nilCheck rfl rfl (.pt ((hH _ (by decide)).trans rfl) rfl (set_get e13))) ?_
 conv=>whnf
 refine .mk _ (fun H hH _=>yv_fieldAddr rfl fo39_6 rfl (.pt ((hH _ (by decide)).trans rfl) rfl (set_get e13)) (.pt _ _ _ _ _)) ?_
 conv=>whnf
 refine .mk _ ⟨fun _=>Yield.weak (yl_ob (ob':=(⟨39,8,true,true,_,(a1.Ents.map GEnt.av).set (Int.toNat a2) [int x13.Now,boo x13.Closed,.sl 7 v15 0 x13.Pools.length,.sl 8 v17 0 x13.Bal.length,.sl 9 v19 0 x13.Rolls.length,.sl 10 v21 0 x13.Prices.length,.sl 11 v23 0 x13.Down.length,lst 8 GEnt.av x13.Ahead]⟩:AObj)) (yl_store rfl sh22 rfl rfl rfl rfl rfl (set_get e13) rfl rfl rfl) (ob_eq set_setV)) (fun _ h=>h) (fun _ _=>trivial),by rintro _ _ ⟨rfl,rfl⟩;exact trivial⟩ ?_
 rintro _ _ ⟨rfl,rfl⟩
 exact .mk
 rintro ⟨y0_2,y0_3,y0_9,y0_10,y0_11,y0_12,y0_13,y0_14⟩ _
 conv=>whnf
 refine .mk trivial ?_
 conv=>whnf
 refine .mk fun x24 e24=>?_
 intro v25
 refine .mk ?_
 conv=>whnf
 refine .mk _ (fun H hH _=>yv_ixO rfl Tryz.underlying26 sh39 rfl rfl ((hH _ (by decide)).trans rfl) rfl rfl (Eq.symm rfl) len_ov e24) ?_
 conv=>whnf
 refine .mk _ (fun H hH _=>yv_fieldAddr rfl fo39_2 rfl (.pt ((hH _ (by decide)).trans rfl) rfl (set_get e24)) (.pt _ _ _ _ _)) ?_
 conv=>whnf
 refine .mk _ (fun H hH _=>yv_load rfl sh36 rfl (.pt ((hH _ (by decide)).trans rfl) rfl (set_get e24)) rfl) ?_
 conv=>whnf
 refine .mk fun x26=>?_
 conv=>whnf
 refine .mk fun x27=>?_
 conv=>whnf
 refine .mk fun x28 e28=>?_
 conv=>whnf
 refine .mk _ (fun H hH _=>yv_ixO rfl Tryz.underlying36 sh57 rfl rfl ((hH _ (by decide)).trans rfl) rfl rfl (Eq.symm rfl) (List.length_map _) e28) ?_
 conv=>whnf
 refine .mk fun x29 e29=>?_
 have fx29:=ix_set e28 e29;have lx29:=len_setV e29 (rfl:y0_10.length=y0_10.length)
 conv=>whnf
 refine .mk _ ⟨fun _=>Yield.weak (yl_ob (ob':=(⟨57,4,true,true,_,x29.map GPool.av⟩:AObj)) (yl_store rfl sh57 rfl rfl rfl rfl rfl (ix_get e28) rfl rfl rfl) (ob_eq (map_setV e29))) (fun _ h=>h) (fun _ _=>trivial),by rintro _ _ ⟨rfl,rfl⟩;exact trivial⟩ ?_
 rintro _ _ ⟨rfl,rfl⟩
 conv=>whnf
 exact .mk (CvL.agg (.cons (.refl _) (.cons (.refl _) (.cons (.refl _) (.cons (.refl _) (.cons (.refl _) (.cons (cv_ov rfl rfl rfl rfl rfl (Eq.symm rfl) e24 (cvl_to (.cons (.refl _) (.cons (.refl _) (.cons (cv_lst rfl rfl rfl rfl rfl (Eq.symm lx29)) (.cons (cv_lst rfl rfl rfl rfl rfl (Eq.symm rfl)) (.cons (cv_lst rfl rfl rfl rfl rfl (Eq.symm rfl)) (.cons (cv_lst rfl rfl rfl rfl rfl (Eq.symm rfl)) (.cons (cv_lst rfl rfl rfl rfl rfl (Eq.symm rfl)) (.cons (.refl _) .nil)))))))) (GEnt.av_eq _))) (.cons (.refl _) (.cons (.refl _) (.cons (.refl _) (.cons (.refl _) .nil)))))))))))
noncomputable def t_ref07_in (a1:GLine):WT Tryz.prog (.b (Bool)) :=
 .al 1<|
 .jn 0 [] [] [] (fun _ (a:Bool)=>[(2,boo a)]) (fun _ _=>[]) (.bB 5 (decide (a1.Account≥0)) fun x3 =>
 .ifs [5] x3 (.bB 9 (decide (a1.Account<17)) fun x4 =>
 .ifs [9] x4 (.cl 14 (d_ref01_In a1.Amount) cal224 d_ref01_In_c fun x5 =>
 .ret x5) (.ret (false:Bool))) (.ret (false:Bool)))
  (fun y0_1 =>
 .ret (y0_1))
def d_ref07_in (a1:GLine):Option (Bool):=(t_ref07_in a1).run
theorem d_ref07_in_c {a1:GLine} {r:Bool} (h0:d_ref07_in a1=some r):PP Tryz.prog 222 [.agg (GLine.av a1)] (fun y=>y=boo r):=by
 refine wt_pp mixed tbk (fun (r:Bool)=>boo r) h0 Tryz.func222 (fun r=>pvB r) 100000 ?_
 intro v2
 conv=>whnf
 refine .mk ?_ ?_
 conv=>whnf
 refine .mk fun x3=>?_
 conv=>whnf
 refine .mk ?_ ?_
 conv=>whnf
 refine .mk fun x4=>?_
 conv=>whnf
 refine .mk ?_ ?_
 conv=>whnf
 refine .mk fun x5 e5=>?_
 exact .mk
 conv=>whnf
 exact .mk
 exact .mk
 intro _ _
 exact .mk
noncomputable def t_ref07_Plain (n:Nat) (a1:List GLine):WT Tryz.prog (.b ((List GLine)×Int)) :=
 .jnE 2 [0,2,3] [] [] (fun _ (a:Unit)=>[]) (fun _ _=>[]) (.lp [0,2,3] [] [] (fun _ (a:Int)=>[(4,int a)]) (fun _ _=>[]) n (0:Int) (fun y0_1 =>
 .ln 13 GLine.av a1<|
 .bB 14 (decide (y0_1<(a1.length:Int))) fun x2 =>
 .ifs [14] x2 (.ix 19 GLine.av a1 y0_1 fun x3 =>
 .cl 21 (d_ref07_in x3) cal222 d_ref07_in_c fun x4 =>
 .bB 22 (!x4) fun x5 =>
 .ifs [22] x5 (.esc (.esc (.ret (([]:List GLine),(1:Int))))) (.bI 16 (w64 (y0_1+1)) fun x6 =>
 .brk x6)) (.esc (.brk ()))))
  (fun _ =>
 .al 1<|
 .jnE 1 [2,3,5] [] [] (fun _ (a:(List Int))=>[]) (fun _ a=>[.kp 1 [a.map int]]) (.lp [0,2,3,5] [] [] (fun _ (a:Int×(List Int))=>[(6,int a.1)]) (fun _ a=>[.kp 1 [a.2.map int]]) n ((0:Int),((List.replicate 17 0):List Int)) (pw fun y2_1 y2_2 =>
 .ln 25 GLine.av a1<|
 .bB 26 (decide (y2_1<(a1.length:Int))) fun x8 =>
 .ifs [26] x8 (.dr [(5,[1]),(6,[1])] [] [1] [] [0,1,2,3,4,5,6,7,8,9,10,11,12,13,14,15,16,17] (.ix 32 GLine.av a1 y2_1 fun x9 =>
 .as ((0:Int)≤x9.Account∧x9.Account<(17:Int)) inferInstance<|
 .bo (ix y2_2 x9.Account) fun x11 =>
 .gv 35<|
 .gv 36<|
 .ix 39 GLine.av a1 y2_1 fun x12 =>
 .cl 42 (d_ref01_Add x11 x12.Amount) cal188 d_ref01_Add_c fun x13 =>
 .bB 46 (decide (x13.2≠0)) fun x14 =>
 .ifs [46] x14 (.esc (.esc (.ret (([]:List GLine),(x13.2:Int))))) (.ix 50 GLine.av a1 y2_1 fun x15 =>
 .as ((0:Int)≤x15.Account∧x15.Account<(17:Int)) inferInstance<|
 .bo (ix y2_2 x15.Account) fun x17 =>
 .gv 54<|
 .bl (y2_2.set (Int.toNat x15.Account) x13.1:List Int) fun x18 =>
 .ge 1013007<|
 .bI 28 (w64 (y2_1+1)) fun x19 =>
 .brk (x19,x18)))) (.esc (.brk y2_2))))
  (fun y3_1 =>
 .jn 2 [2,3] [] [3] (fun u12 (a:(List GLine))=>[(9,.sl 3 (u12 3) 0 a.length)]) (fun _ a=>[.nw 3 119 2 (a.map GLine.av)]) (.no 9 3 119 2<|
 .lp [2,3,5] [1] [3] (fun u16 (a:Int×(List GLine))=>[(9,.sl 3 (u16 3) 0 a.2.length),(10,int a.1)]) (fun _ a=>[.nw 3 119 2 (a.2.map GLine.av)]) n ((0:Int),(([]:List GLine):List GLine)) (pw fun y4_2 y4_3 =>
 .bB 56 (decide (y4_2<17)) fun x21 =>
 .ifs [56] x21 (.jn 1 [2,3,5,10] [1] [3] (fun u17 (a:(List GLine))=>[(9,.sl 3 (u17 3) 0 a.length)]) (fun _ a=>[.nw 3 119 2 (a.map GLine.av)]) (.as ((0:Int)≤y4_2∧y4_2<(17:Int)) inferInstance<|
 .bo (ix y3_1 y4_2) fun x23 =>
 .gv 60<|
 .gv 61<|
 .bB 62 (decide (x23≠0)) fun x24 =>
 .ifs [62] x24 (.as ((0:Int)≤y4_2∧y4_2<(17:Int)) inferInstance<|
 .gv 66<|
 .gv 67<|
 .gv 69<|
 .bl (y4_3++([(⟨y4_2,x23⟩:GLine)]:List GLine):List GLine) fun x26 =>
 .as (x26.length≤68719476736) inferInstance<|
 .ge 70<|
 .ret x26) (.ret y4_3))
  (fun y5_2 =>
 .bI 58 (w64 (y4_2+1)) fun x29 =>
 .brk (x29,y5_2))) (.esc (.ret y4_3))))
  (fun y6_2 =>
 .ret (y6_2,(0:Int)))))
def d_ref07_Plain (n:Nat) (a1:List GLine):Option ((List GLine)×Int):=(t_ref07_Plain n a1).run
theorem d_ref07_Plain_c {n:Nat} {a1:List GLine} {r:(List GLine)×Int} (h0:d_ref07_Plain n a1=some r):PP Tryz.prog 186 [lst 2 GLine.av a1] (fun y=>y=.tup [lst 2 GLine.av r.1,int r.2]):=by
 refine wt_pp mixed tbk (fun (r:(List GLine)×Int)=>.tup [lst 2 GLine.av r.1,int r.2]) h0 Tryz.func186 (fun r=>.tup (pvl2 ((pvLs GLine.pvc) (r.1)) (pvI (r.2)))) 100000 ?_
 conv=>whnf
 refine .mk ?_ ?_
 refine .mk ?_
 intro _ _
 refine .mk ?_
 conv=>whnf
 refine .mk fun x2=>?_
 conv=>whnf
 refine .mk ?_ ?_
 conv=>whnf
 refine .mk fun x3 e3=>?_
 conv=>whnf
 refine .mk fun x4 e4=>?_
 conv=>whnf
 refine .mk fun x5=>?_
 conv=>whnf
 refine .mk ?_ ?_
 conv=>whnf
 exact .mk (CvL.tup (.cons (.nil _) (.cons (.refl _) .nil)))
 conv=>whnf
 refine .mk fun x6=>?_
 exact .mk
 conv=>whnf
 exact .mk
 intro _ _
 intro v7
 conv=>whnf
 refine .mk ?_ ?_
 refine .mk ?_
 intro _ _
 refine .mk ?_
 conv=>whnf
 refine .mk fun x8=>?_
 conv=>whnf
 refine .mk ?_ ?_
 refine .mk ?_
 conv=>whnf
 refine .mk fun x9 e9=>?_
 conv=>whnf
 refine .mk fun p10=>?_
 conv=>whnf
 refine .mk fun x11 e11=>?_
 conv=>whnf
 refine .mk _ (fun H hH _=>yv_ixAR rfl Tryz.underlying236 sh3 rfl rfl ((hH _ (by decide)).trans rfl) rfl rfl p10) ?_
 conv=>whnf
 refine .mk _ (fun H hH _=>yv_ldAR rfl sh3 rfl ((hH _ (by decide)).trans rfl) rfl rfl e11) ?_
 conv=>whnf
 refine .mk fun x12 e12=>?_
 conv=>whnf
 refine .mk fun x13 e13=>?_
 conv=>whnf
 refine .mk fun x14=>?_
 conv=>whnf
 refine .mk ?_ ?_
 conv=>whnf
 exact .mk (CvL.tup (.cons (.nil _) (.cons (.refl _) .nil)))
 conv=>whnf
 refine .mk fun x15 e15=>?_
 conv=>whnf
 refine .mk fun p16=>?_
 conv=>whnf
 refine .mk fun x17 e17=>?_
 conv=>whnf
 refine .mk _ (agr (yv_ixAR rfl Tryz.underlying236 sh3 rfl rfl rfl rfl rfl p16)) ?_
 conv=>whnf
 refine .mk fun x18 e18=>?_
 conv=>whnf
 refine .mk _ ⟨fun _=>Yield.weak (yl_ob (ob':=(⟨236,17,true,true,_,[x18.map int]⟩:AObj)) (yl_stAR rfl sh3 rfl rfl rfl rfl rfl rfl e17 e18) rfl) (fun _ h=>h) (fun _ _=>trivial),fun _ _ _=>trivial⟩ ?_
 rintro _ _ ⟨rfl,rfl⟩
 conv=>whnf
 refine .mk fun x19=>?_
 exact .mk
 conv=>whnf
 exact .mk
 intro _ _
 conv=>whnf
 refine .mk ?_ ?_
 intro v20
 refine .mk ?_
 rintro ⟨y4_2,y4_3⟩ _
 conv=>whnf
 refine .mk fun x21=>?_
 conv=>whnf
 refine .mk ?_ ?_
 conv=>whnf
 refine .mk ?_ ?_
 conv=>whnf
 refine .mk fun p22=>?_
 conv=>whnf
 refine .mk fun x23 e23=>?_
 conv=>whnf
 refine .mk _ (agr (yv_ixAR rfl Tryz.underlying236 sh3 rfl rfl rfl rfl rfl p22)) ?_
 conv=>whnf
 refine .mk _ (agr (yv_ldAR rfl sh3 rfl rfl rfl rfl e23)) ?_
 conv=>whnf
 refine .mk fun x24=>?_
 conv=>whnf
 refine .mk ?_ ?_
 conv=>whnf
 refine .mk fun p25=>?_
 conv=>whnf
 refine .mk _ (agr (yv_ixAR rfl Tryz.underlying236 sh3 rfl rfl rfl rfl rfl p25)) ?_
 conv=>whnf
 refine .mk _ (agr (yv_ldAR rfl sh3 rfl rfl rfl rfl e23)) ?_
 conv=>whnf
 refine .mk _ (agr (yv_to (y:=lst 2 GLine.av ([(⟨y4_2,x23⟩:GLine)]:List GLine)) (yv_buildSlice (ps:=[(0,_)]) (rows:=[[int y4_2,int x23]]) rfl Tryz.underlying120 bz119 (.cons rfl .nil) (by kernel_rfl) rfl rfl rfl) rfl)) ?_
 conv=>whnf
 refine .mk fun x26 e26=>?_
 conv=>whnf
 refine .mk fun p27=>?_
 conv=>whnf
 refine .mk _ ⟨fun _=>yl_appT (g:=GLine.av) (l:=y4_3) (m:=([(⟨y4_2,x23⟩:GLine)]:List GLine)) .any rfl Tryz.underlying120 bz119 by119 rfl rfl rfl rfl rfl rfl rfl rfl rfl rfl (Eq.symm rfl) (.refl _) (fun _=>rfl) e26 p27,fun _ _ _=>trivial⟩ ?_
 rintro _ _ ⟨v28,-,rfl,rfl⟩
 exact .mk
 conv=>whnf
 exact .mk
 intro _ _
 conv=>whnf
 refine .mk fun x29=>?_
 exact .mk
 conv=>whnf
 exact .mk
 intro _ _
 conv=>whnf
 exact .mk (CvL.tup (.cons (cv_lst rfl rfl rfl rfl rfl (Eq.symm rfl)) (.cons (.refl _) .nil)))
noncomputable def t_ref01_Sum (n:Nat) (a1:List Int):WT Tryz.prog (.b (Int×Int)) :=
 .jnE 3 [2,3] [] [] (fun _ (a:Int)=>[(4,int a)]) (fun _ _=>[]) (.lp [0,2,3] [] [] (fun _ (a:Int×Int)=>[(4,int a.1),(5,int a.2)]) (fun _ _=>[]) n ((0:Int),(0:Int)) (pw fun y0_1 y0_2 =>
 .ln 10 fI a1<|
 .bB 11 (decide (y0_2<(a1.length:Int))) fun x2 =>
 .ifs [11] x2 (.ix 18 fI a1 y0_2 fun x3 =>
 .cl 20 (d_ref01_Add y0_1 x3) cal188 d_ref01_Add_c fun x4 =>
 .bB 24 (decide (x4.2≠0)) fun x5 =>
 .ifs [24] x5 (.esc (.esc (.ret ((0:Int),(x4.2:Int))))) (.bI 13 (w64 (y0_2+1)) fun x6 =>
 .brk ((x4.1:Int),x6))) (.esc (.brk y0_1))))
  (fun y1_1 =>
 .ret (y1_1,(0:Int)))
def d_ref01_Sum (n:Nat) (a1:List Int):Option (Int×Int):=(t_ref01_Sum n a1).run
theorem d_ref01_Sum_c {n:Nat} {a1:List Int} {r:Int×Int} (h0:d_ref01_Sum n a1=some r):PP Tryz.prog 194 [lst 1 fI a1] (fun y=>y=.tup [int r.1,int r.2]):=by
 refine wt_pp mixed tbk (fun (r:Int×Int)=>.tup [int r.1,int r.2]) h0 Tryz.func194 (fun r=>.tup (pvl2 (pvI (r.1)) (pvI (r.2)))) 100000 ?_
 conv=>whnf
 refine .mk ?_ ?_
 refine .mk ?_
 intro _ _
 refine .mk ?_
 conv=>whnf
 refine .mk fun x2=>?_
 conv=>whnf
 refine .mk ?_ ?_
 conv=>whnf
 refine .mk fun x3 e3=>?_
 conv=>whnf
 refine .mk fun x4 e4=>?_
 conv=>whnf
 refine .mk fun x5=>?_
 refine .mk .mk ?_
 conv=>whnf
 refine .mk fun x6=>?_
 exact .mk
 conv=>whnf
 exact .mk
 intro _ _
 exact .mk
noncomputable def t_ref07_Check (n:Nat) (a1:List GLine):WT Tryz.prog (.b (Bool)) :=
 .jnE 3 [0,2] [] [2] (fun u10 (a:(List Int))=>[(3,.sl 2 (u10 2) 0 a.length)]) (fun _ a=>[.nw 2 3 1 (a.map fI)]) (.no 3 2 3 1<|
 .lp [0,2] [] [2] (fun u14 (a:Int×(List Int))=>[(3,.sl 2 (u14 2) 0 a.2.length),(4,int a.1)]) (fun _ a=>[.nw 2 3 1 (a.2.map fI)]) n ((0:Int),(([]:List Int):List Int)) (pw fun y0_2 y0_3 =>
 .ln 9 GLine.av a1<|
 .bB 10 (decide (y0_2<(a1.length:Int))) fun x3 =>
 .ifs [10] x3 (.jn 2 [0,2,3,4] [2] [] (fun _ (a:Bool)=>[(26,boo a)]) (fun _ _=>[]) (.ix 15 GLine.av a1 y0_2 fun x4 =>
 .cl 17 (d_ref07_in x4) cal222 d_ref07_in_c fun x5 =>
 .bB 18 (!x5) fun x6 =>
 .ifs [18] x6 (.ret (true:Bool)) (.ix 22 GLine.av a1 y0_2 fun x7 =>
 .bB 25 (decide (x7.Amount=0)) fun x8 =>
 .ret x8))
  (fun y1_1 =>
 .ifs [26] y1_1 (.esc (.esc (.ret ((false:Bool))))) (.ix 30 GLine.av a1 y0_2 fun x9 =>
 .gv 33<|
 .bl (y0_3++([x9.Amount]:List Int):List Int) fun x10 =>
 .as (x10.length≤68719476736) inferInstance<|
 .ge 34<|
 .bI 12 (w64 (y0_2+1)) fun x13 =>
 .brk (x13,x10)))) (.esc (.brk y0_3))))
  (fun y2_2 =>
 .clT 37 (d_ref01_Sum n y2_2) cal194 d_ref01_Sum_c (fun _=>rfl) fun x14 =>
 .jn 0 [] [] [] (fun _ (a:Bool)=>[(2,boo a)]) (fun _ _=>[]) (.ln 41 GLine.av a1<|
 .bB 42 (decide ((a1.length:Int)≥1)) fun x15 =>
 .ifs [42] x15 (.ln 45 GLine.av a1<|
 .bB 46 (decide ((a1.length:Int)≤12)) fun x16 =>
 .ifs [46] x16 (.bB 50 (decide (x14.2=0)) fun x17 =>
 .ifs [50] x17 (.bB 54 (decide (x14.1=0)) fun x18 =>
 .ret x18) (.ret (false:Bool))) (.ret (false:Bool))) (.ret (false:Bool)))
  (fun y3_1 =>
 .ret (y3_1)))
def d_ref07_Check (n:Nat) (a1:List GLine):Option (Bool):=(t_ref07_Check n a1).run
theorem d_ref07_Check_c {n:Nat} {a1:List GLine} {r:Bool} (h0:d_ref07_Check n a1=some r):PP Tryz.prog 223 [lst 2 GLine.av a1] (fun y=>y=boo r):=by
 refine wt_pp mixed tbk (fun (r:Bool)=>boo r) h0 Tryz.func223 (fun r=>pvB r) 100000 ?_
 conv=>whnf
 refine .mk ?_ ?_
 intro v2
 refine .mk ?_
 rintro ⟨y0_2,y0_3⟩ _
 refine .mk ?_
 conv=>whnf
 refine .mk fun x3=>?_
 conv=>whnf
 refine .mk ?_ ?_
 conv=>whnf
 refine .mk ?_ ?_
 conv=>whnf
 refine .mk fun x4 e4=>?_
 conv=>whnf
 refine .mk fun x5 e5=>?_
 conv=>whnf
 refine .mk fun x6=>?_
 refine .mk .mk ?_
 conv=>whnf
 refine .mk fun x7 e7=>?_
 conv=>whnf
 refine .mk fun x8=>?_
 exact .mk
 intro _ _
 refine .mk .mk ?_
 conv=>whnf
 refine .mk fun x9 e9=>?_
 conv=>whnf
 refine .mk _ (agr (yv_to (y:=lst 1 fI ([x9.Amount]:List Int)) (yv_buildSlice (ps:=[(0,_)]) (rows:=[[int x9.Amount]]) rfl Tryz.underlying22 bz3 (.cons rfl .nil) (by kernel_rfl) rfl rfl rfl) rfl)) ?_
 conv=>whnf
 refine .mk fun x10 e10=>?_
 conv=>whnf
 refine .mk fun p11=>?_
 conv=>whnf
 refine .mk _ ⟨fun _=>yl_appT (g:=fI) (l:=y0_3) (m:=([x9.Amount]:List Int)) .any rfl Tryz.underlying22 bz3 by3 rfl rfl rfl rfl rfl rfl rfl rfl rfl rfl (Eq.symm rfl) (.refl _) (fun _=>rfl) e10 p11,fun _ _ _=>trivial⟩ ?_
 rintro _ _ ⟨v12,-,rfl,rfl⟩
 conv=>whnf
 refine .mk fun x13=>?_
 exact .mk
 conv=>whnf
 exact .mk
 intro _ _
 conv=>whnf
 refine .mk (fun x14 e14=>?_) rfl (by rintro _ rfl;exact (.cons (cv_lst rfl rfl rfl rfl rfl (Eq.symm rfl)) .nil))
 conv=>whnf
 refine .mk ?_ ?_
 refine .mk ?_
 conv=>whnf
 refine .mk fun x15=>?_
 conv=>whnf
 refine .mk ?_ ?_
 refine .mk ?_
 conv=>whnf
 refine .mk fun x16=>?_
 conv=>whnf
 refine .mk ?_ ?_
 conv=>whnf
 refine .mk fun x17=>?_
 conv=>whnf
 refine .mk ?_ ?_
 conv=>whnf
 refine .mk fun x18=>?_
 exact .mk
 conv=>whnf
 exact .mk
 exact .mk
 conv=>whnf
 exact .mk
 intro _ _
 exact .mk
end
end Go.Pv
