import Derived.Test.YtcnbfkppbaenbaaGreatX80g
set_option linter.unusedVariables false
set_option linter.unusedSimpArgs false
namespace Go.Pv
open Go.Proofs
set_option maxRecDepth 100000
set_option maxHeartbeats 4000000
noncomputable section
def RV (n:Nat) (a1:Int) (a2:Int) (a3:Int):WT Tryz.prog (.b (Int×Int)) :=
 .bB 20 (decide (a3=0)) λx4=>.ifs [20] x4 (.fl) (.bB 24 (decide (a3<=a1)) λx5=>.ifs [24] x5 (.fl) (.bB 27 (decide (a1=0)) λx6=>.ifs [27] x6 (.dr [] [] [] [] [0,1,2,3,4,5,6,7] (.as (a3≠0) inferInstance<|.bl (wu64 (a2.tdiv a3):Int) λx8=>.gv 30<|.as (a3≠0) inferInstance<|.bl (a2.tmod a3:Int) λx10=>.gv 33<|.ret ((x8:Int),x10))) (.cl 35 (KS a3) aVZ aJP λx11=>.bI 36 (wu64 x11) λx12=>.as ((0:Int)<=x12) inferInstance<|.bl (wu64 (a3*(2 ^ (min x12.toNat IntKind.u64.bits))):Int) λx14=>.gv 39<|.bI 41 (x14.fdiv (2 ^ (min (32:Int).toNat IntKind.u64.bits))) λx15=>.bl (wu64 ((BitVec.ofInt IntKind.u64.bits x14 &&& BitVec.ofInt IntKind.u64.bits 4294967295).toNat:Int):Int) λx16=>.gv 43<|.as ((0:Int)<=x12) inferInstance<|.bl (wu64 (a1*(2 ^ (min x12.toNat IntKind.u64.bits))):Int) λx18=>.gv 46<|.bI 49 (wu64 (64-x12)) λx19=>.as ((0:Int)<=x19) inferInstance<|.bl (a2.fdiv (2 ^ (min x19.toNat IntKind.u64.bits)):Int) λx21=>.gv 50<|.bl (wu64 ((BitVec.ofInt IntKind.u64.bits x18 ||| BitVec.ofInt IntKind.u64.bits x21).toNat:Int):Int) λx22=>.gv 51<|.as ((0:Int)<=x12) inferInstance<|.bl (wu64 (a2*(2 ^ (min x12.toNat IntKind.u64.bits))):Int) λx24=>.gv 54<|.bI 56 (x24.fdiv (2 ^ (min (32:Int).toNat IntKind.u64.bits))) λx25=>.bl (wu64 ((BitVec.ofInt IntKind.u64.bits x24 &&& BitVec.ofInt IntKind.u64.bits 4294967295).toNat:Int):Int) λx26=>.gv 58<|.as (x15≠0) inferInstance<|.bl (wu64 (x22.tdiv x15):Int) λx28=>.gv 61<|.bI 65 (wu64 (x28*x15)) λx29=>.bI 66 (wu64 (x22-x29)) λx30=>.jn 0 [2,6,7,8,9,10,11,13,14] [] [] (λ_ (a:Int)=>[(15,.sc (.int .u64 a))]) (λ_ _=>[]) (.lp [2,6,7,8,9,10,11,13,14] [] [] (λ_ (a:Int×Int)=>[(15,.sc (.int .u64 a.1)),(16,.sc (.int .u64 a.2))]) (λ_ _=>[]) n ((x28:Int),x30) (pw λy0_1 y0_2=>.jn 0 [2,6,7,8,9,10,11,13,14,15,16] [] [] (λ_ (a:Bool)=>[(78,aT a)]) (λ_ _=>[]) (.bB 68 (decide (y0_1>=4294967296)) λx31=>.ifs [68] x31 (.ret true) (.bI 72 (wu64 (y0_1*x16)) λx32=>.bI 74 (wu64 (4294967296*y0_2)) λx33=>.bI 76 (wu64 (x33+x25)) λx34=>.bB 77 (decide (x32>x34)) λx35=>.ret x35)) (λy1_1=>.ifs [78] y1_1 (.bI 80 (wu64 (y0_1-1)) λx36=>.bI 83 (wu64 (y0_2+x15)) λx37=>.bB 85 (decide (x37>=4294967296)) λx38=>.ifs [85] x38 (.esc (.ret x36)) (.brk ((x36:Int),x37))) (.esc (.ret y0_1))))) (λy2_1=>.bI 87 (wu64 (x22*4294967296)) λx39=>.bI 89 (wu64 (x39+x25)) λx40=>.bI 92 (wu64 (y2_1*x14)) λx41=>.bI 93 (wu64 (x40-x41)) λx42=>.as (x15≠0) inferInstance<|.bl (wu64 (x42.tdiv x15):Int) λx44=>.gv 96<|.bI 100 (wu64 (x44*x15)) λx45=>.bI 101 (wu64 (x42-x45)) λx46=>.jn 0 [2,6,7,8,14,15,17] [] [] (λ_ (a:Int)=>[(18,.sc (.int .u64 a))]) (λ_ _=>[]) (.lp [2,6,7,8,9,10,14,15,17] [] [] (λ_ (a:Int×Int)=>[(16,.sc (.int .u64 a.1)),(18,.sc (.int .u64 a.2))]) (λ_ _=>[]) n ((x46:Int),x44) (pw λy3_1 y3_2=>.jn 0 [2,6,7,8,9,10,14,15,16,17,18] [] [] (λ_ (a:Bool)=>[(113,aT a)]) (λ_ _=>[]) (.bB 103 (decide (y3_2>=4294967296)) λx47=>.ifs [103] x47 (.ret true) (.bI 107 (wu64 (y3_2*x16)) λx48=>.bI 109 (wu64 (4294967296*y3_1)) λx49=>.bI 111 (wu64 (x49+x26)) λx50=>.bB 112 (decide (x48>x50)) λx51=>.ret x51)) (λy4_1=>.ifs [113] y4_1 (.bI 115 (wu64 (y3_2-1)) λx52=>.bI 118 (wu64 (y3_1+x15)) λx53=>.bB 120 (decide (x53>=4294967296)) λx54=>.ifs [120] x54 (.esc (.ret x52)) (.brk ((x53:Int),x52))) (.esc (.ret y3_2))))) (λy5_1=>.bI 122 (wu64 (y2_1*4294967296)) λx55=>.bI 124 (wu64 (x55+y5_1)) λx56=>.bI 126 (wu64 (x42*4294967296)) λx57=>.bI 128 (wu64 (x57+x26)) λx58=>.bI 131 (wu64 (y5_1*x14)) λx59=>.bI 132 (wu64 (x58-x59)) λx60=>.as ((0:Int)<=x12) inferInstance<|.bl (x60.fdiv (2 ^ (min x12.toNat IntKind.u64.bits)):Int) λx62=>.gv 134<|.ret ((x56:Int),x62))))))
def A7 (n:Nat) (a1:Int) (a2:Int) (a3:Int):Option (Int×Int):=(RV n a1 a2 a3).run
theorem aH6 {n a1 a2 a3 r} (h0:A7 n a1 a2 a3=some r):PP Tryz.prog 219 [.sc (.int .u64 a1),.sc (.int .u64 a2),.sc (.int .u64 a3)] (λy=>y=.bC [.sc (.int .u64 r.1),.sc (.int .u64 r.2)]) :=
 bU mixed bR (λr:Int×Int=>.bC [.sc (.int .u64 r.1),.sc (.int .u64 r.2)]) h0 Tryz.func219 (λr=>.bC (gD ((zT .u64) (r.1)) ((zT .u64) (r.2)))) 100000 au
def aAC (n:Nat) (a1:Int) (a2:Int) (a3:Int):WT Tryz.prog (.b (Int×Int×Int)) :=
 .jn 1 [0,1,2,6,7,8] [] [] (λ_ (a:Bool)=>[(22,aT a)]) (λ_ _=>[]) (.bB 14 (decide (a1<0)) λx4=>.ifs [14] x4 (.ret true) (.bB 17 (decide (a2<0)) λx5=>.ifs [17] x5 (.ret true) (.bB 21 (decide (a3<1)) λx6=>.ret x6))) (λy0_1=>.ifs [22] y0_1 (.ret ((0:Int),0,1)) (.cl 26 (G7 a1 a2) aWS aG8 λx7=>.bI 31 (wu64 a3) λx8=>.bB 32 (decide (x7.1>=x8)) λx9=>.ifs [32] x9 (.ret ((0:Int),0,2)) (.bI 37 (wu64 a3) λx10=>.cl 38 (A7 n x7.1 x7.2 x10) aQK aH6 λx11=>.bB 42 (decide (x11.1>288230376151711744)) λx12=>.ifs [42] x12 (.ret ((0:Int),0,2)) (.bI 44 (bA x11.1) λx13=>.bI 46 (bA x11.2) λx14=>.ret ((x13:Int),x14,0)))))
def BQ (n:Nat) (a1:Int) (a2:Int) (a3:Int):Option (Int×Int×Int):=(aAC n a1 a2 a3).run
theorem OH {n a1 a2 a3 r} (h0:BQ n a1 a2 a3=some r):PP Tryz.prog 163 [int a1,int a2,int a3] (λy=>y=.bC [int r.1,int r.2.1,int r.2.2]) :=
 bU mixed bR (λr:Int×Int×Int=>.bC [int r.1,int r.2.1,int r.2.2]) h0 Tryz.func163 (λr=>.bC (nM (bT (r.1)) (bT (r.2.1)) (bT (r.2.2)))) 100000 au
def aGG (n:Nat) (a1:Int) (a2:Int) (a3:Int):WT Tryz.prog (.b (Int)) :=
 .jn 2 [0,1,2,6] [] [] (λ_ (a:Bool)=>[(13,aT a)]) (λ_ _=>[]) (.bB 15 (decide (a3<1)) λx4=>.ifs [15] x4 (.ret true) (.bB 18 (decide (a2<0)) λx5=>.ifs [18] x5 (.ret true) (.bB 23 (decide (a2>a3)) λx6=>.ifs [23] x6 (.ret true) (.cl 27 (xU a1) GQ F5 λx7=>.bB 28 (!x7) λx8=>.ret x8)))) (λy0_1=>.ifs [13] y0_1 (.ret ((0:Int))) (.bB 33 (decide (a2=a3)) λx9=>.ifs [33] x9 (.ret ((a1:Int))) (.bB 37 (decide (a1<0)) λx10=>.ifs [37] x10 (.bI 40 (bA (0-a1)) λx11=>.cl 43 (BQ n x11 a2 a3) TM OH λx12=>.bI 48 (bA (0-x12.1)) λx13=>.ret ((x13:Int))) (.cl 53 (BQ n a1 a2 a3) TM OH λx14=>.ret ((x14.1:Int))))))
def qK (n:Nat) (a1:Int) (a2:Int) (a3:Int):Option (Int):=(aGG n a1 a2 a3).run
theorem yQ {n a1 a2 a3 r} (h0:qK n a1 a2 a3=some r):PP Tryz.prog 103 [int a1,int a2,int a3] (λy=>y=int r) :=
 bU mixed bR (λr:Int=>int r) h0 Tryz.func103 (λr=>bT r) 100000 au
def YS (n:Nat) (a1:List aB) (a2:Int):WT Tryz.prog (.b ((List aB)×aB×Int)) :=
 .al 1<|.as (a1.length<=68719476736) inferInstance<|.ge 10 2<|.bB 12 (decide (a2<1)) λx6=>.ifs [12] x6 (.ret ((a1:List aB),((⟨0,0,0⟩:aB):aB),(1:Int))) (.kS 17 (FE n a1 a2) UF aBX (λ_=>rfl) λx7=>.bB 18 (!x7) λx8=>.ifs [18] x8 (.ret ((a1:List aB),((⟨0,0,0⟩:aB):aB),(5:Int))) (.al 3<|.jn 0 [4,5,6,7] [1] [] (λu11 (a:Nat×Nat×(List aB)×aB)=>[(0,.sl 2 (u11 2) a.1 a.2.1)]) (λ_ a=>[.kp 2 (a.2.2.1.map aB.av),.kp 3 [[int a.2.2.2.aG,int a.2.2.2.Value,int a.2.2.2.bO]]]) (.lp [4,5,6,7] [1] [] (λu16 (a:Nat×Nat×Int×(List aB)×aB)=>[(0,.sl 2 (u16 2) a.1 a.2.1),(1,int a.2.2.1)]) (λ_ a=>[.kp 2 (a.2.2.2.1.map aB.av),.kp 3 [[int a.2.2.2.2.aG,int a.2.2.2.2.Value,int a.2.2.2.2.bO]]]) n ((0:Nat),(a1.length:Nat),(a2:Int),a1,((⟨0,0,0⟩:aB):aB)) (pw λy0_1 q0=>(pw λy0_2 q1=>(pw λy0_3 q2=>(pw λy0_4 y0_5=>.jn 0 [0,1,4,5,6,7] [1,2,3] [] (λ_ (a:Bool)=>[(27,aT a)]) (λ_ _=>[]) (.bB 23 (decide ((y0_2:Int)>0)) λx10=>.ifs [23] x10 (.bB 26 (decide (y0_3>0)) λx11=>.ret x11) (.ret false)) (λy1_1=>.ifs [27] y1_1 (.as ((0:Int)<=0/\0<(y0_2:Int)) inferInstance<|.bo (ix y0_4 (((y0_1:Nat):Int)+0)) λx13=>.gv 29<|.gv 30<|.al 4<|.bB 34 (decide (x13.aG>y0_3)) λx15=>.jn 0 [1,4,5,6,7,8] [1,3] [] (λu19 (a:Nat×Nat×(List aB)×aB)=>[(0,.sl 2 (u19 2) a.1 a.2.1)]) (λ_ a=>[.kp 2 (a.2.2.1.map aB.av),.kp 4 [[int a.2.2.2.aG,int a.2.2.2.Value,int a.2.2.2.bO]]]) (.ifs [34] x15 (.dr [(1,[4]),(2,[4]),(4,[4]),(5,[4]),(7,[4]),(8,[4]),(10,[4]),(11,[4])] [(14,[])] [4] [14] [0,1,2,3,4,5,6,7,8,9,10,11,12,13,14] (.cl 41 (qK n x13.Value y0_3 x13.aG) yS yQ λx16=>.cl 47 (qK n x13.bO y0_3 x13.aG) yS yQ λx17=>.dr [(4,[2]),(5,[2]),(6,[2]),(7,[4]),(8,[4]),(11,[2]),(12,[2]),(13,[2]),(14,[4]),(15,[4]),(18,[2]),(19,[2]),(20,[2]),(21,[4]),(22,[4]),(24,[2]),(25,[2]),(27,[2]),(28,[2]),(30,[2]),(31,[2])] [(26,[4]),(29,[4]),(32,[])] [2,4] [26,29,32] [0,1,2,3,4,5,6,7,8,9,10,11,12,13,14,15,16,17,18,19,20,21,22,23,24,25,26,27,28,29,30,31,32] (.as ((0:Int)<=0/\0<(y0_2:Int)) inferInstance<|.gv 53<|.gv 54<|.gv 55<|.bI 58 (bA (x13.aG-y0_3)) λx19=>.as ((0:Int)<=0/\0<(y0_2:Int)) inferInstance<|.gv 60<|.gv 61<|.gv 62<|.bI 65 (bA (x13.Value-x16)) λx21=>.as ((0:Int)<=0/\0<(y0_2:Int)) inferInstance<|.gv 67<|.gv 68<|.gv 69<|.bI 72 (bA (x13.bO-x17)) λx23=>.as ((0:Int)<=0/\0<(y0_2:Int)) inferInstance<|.gv 73<|.gv 74<|.bl (y0_4.set (Int.toNat (((y0_1:Nat):Int)+0)) ((⟨x19,x13.Value,x13.bO⟩:aB):aB):List aB) λx25=>.ge 1011026 0<|.as ((0:Int)<=0/\0<(y0_2:Int)) inferInstance<|.gv 75<|.gv 76<|.bl (x25.set (Int.toNat (((y0_1:Nat):Int)+0)) ((⟨x19,x21,x13.bO⟩:aB):aB):List aB) λx27=>.ge 1011029 0<|.as ((0:Int)<=0/\0<(y0_2:Int)) inferInstance<|.gv 77<|.gv 78<|.bl (x27.set (Int.toNat (((y0_1:Nat):Int)+0)) ((⟨x19,x21,x23⟩:aB):aB):List aB) λx29=>.ge 1011032 0<|.ret ((y0_1:Nat),(y0_2:Nat),x29,((⟨y0_3,x16,x17⟩:aB):aB))))) (.as ((0:Int)<=1/\1<=(y0_2:Int)/\(y0_2:Int)<=(y0_2:Int)/\1<(y0_2+1:Int)) inferInstance<|.bl (if (Int.toNat (y0_2:Int))=1 then y0_1 else y0_1+1:Nat) λx31=>.gv 84<|.ret ((x31:Nat),(((Int.toNat (y0_2:Int))-1):Nat),y0_4,x13))) (pw λy2_1 q0=>(pw λy2_2 q1=>(pw λy2_3 y2_4=>.dr [(0,[3]),(1,[3]),(2,[4]),(3,[4]),(5,[3]),(6,[3]),(7,[4]),(8,[4]),(10,[3]),(11,[3]),(12,[4]),(13,[4]),(15,[3]),(17,[3]),(19,[3])] [(16,[4]),(18,[4]),(20,[])] [3,4] [16,18,20] [0,1,2,3,4,5,6,7,8,9,10,11,12,13,14,15,16,17,18,19,20] (.bI 89 (bA (y0_5.aG+y2_4.aG)) λx32=>.bI 94 (bA (y0_5.Value+y2_4.Value)) λx33=>.bI 99 (bA (y0_5.bO+y2_4.bO)) λx34=>.bI 106 (bA (y0_3-y2_4.aG)) λx35=>.brk ((y2_1:Nat),(y2_2:Nat),(x35:Int),y2_3,((⟨x32,x33,x34⟩:aB):aB)))) q1) q0)) (.esc (.ret ((y0_1:Nat),(y0_2:Nat),y0_4,y0_5))))) q2) q1) q0)) (pw λy3_1 q0=>(pw λy3_2 q1=>(pw λy3_3 y3_4=>.dr [(1,[3])] [(3,[])] [3] [3] [0,1,2,3,4] (.as (y3_1+y3_2<=y3_3.length) inferInstance<|.ret (((((y3_3).drop y3_1).take y3_2):List aB),y3_4,(0:Int)))) q1) q0)))
def DW (n:Nat) (a1:List aB) (a2:Int):Option ((List aB)×aB×Int):=(YS n a1 a2).run
theorem ZI {n:Nat} {a1:List aB} {a2:Int} {r:(List aB)×aB×Int} (h0:DW n a1 a2=some r):PP Tryz.prog 273 [aP 3 aB.av a1,int a2] (λy=>y=.bC [aP 3 aB.av r.1,.agg (aB.av r.2.1),int r.2.2]):=by
 refine bU mixed bR (λ(r:(List aB)×aB×Int)=>.bC [aP 3 aB.av r.1,.agg (aB.av r.2.1),int r.2.2]) h0 Tryz.func273 (λr=>.bC (nM ((iJ aB.dH) (r.1)) ((λ(a:aB)=>PV.agg (aB.dH a)) (r.2.1)) (bT (r.2.2)))) 100000 ?_
 intro v3
 refine .mk λp4=>?_
 refine .mk _ ⟨λ_=>mM rfl rfl (.cons rfl .nil) wZ (nC (yL (id:=2) (l:=a1) rfl p4) (.cons (.refl _) .nil)),λ_ _ _=>trivial⟩ ?_
 rintro _ _ ⟨v5,rfl,rfl⟩
 refine .mk λx6=>?_
 refine .mk ?_ ?_
 exact .mk (dX.bC (.cons (gJ rfl rfl rfl rfl rfl (Eq.symm rfl)) (.cons (.refl _) (.cons (.refl _) .nil))))
 refine .mk (λx7 e7=>?_) rfl (by rintro _ rfl;exact (.cons (gJ rfl rfl rfl rfl rfl (Eq.symm rfl)) (.cons (.refl _) .nil)))
 refine .mk λx8=>?_
 refine .mk ?_ ?_
 exact .mk (dX.bC (.cons (gJ rfl rfl rfl rfl rfl (Eq.symm rfl)) (.cons (.refl _) (.cons (.refl _) .nil))))
 intro v9
 refine .mk ?_ ?_
 refine .mk ?_
 rintro ⟨y0_1,y0_2,y0_3,y0_4,y0_5⟩ _
 refine .mk ?_ ?_
 refine .mk λx10=>?_
 refine .mk ?_ ?_
 refine .mk λx11=>?_
 exact .mk
 exact .mk
 intro _ _
 refine .mk ?_ ?_
 refine .mk λrR=>?_
 refine .mk λx13 e13=>?_
 refine .mk _ (eH (mU rfl Tryz.underlying121 kN rfl rfl rfl rfl rfl rR (List.length_map _) e13)) ?_
 refine .mk _ (eH (iK rfl kN rfl (.pt rfl rfl (fM e13)) rfl)) ?_
 intro v14
 refine .mk λx15=>?_
 refine .mk ?_ ?_
 refine .mk ?_ ?_
 refine .mk ?_
 refine .mk λx16 e16=>?_
 refine .mk λx17 e17=>?_
 refine .mk ?_
 refine .mk λp18=>?_
 refine .mk _ (λH hH _=>mU rfl Tryz.underlying121 kN rfl rfl ((hH _ (by decide)).trans rfl) rfl rfl p18 (List.length_map _) e13) ?_
 refine .mk _ (λH hH _=>gN rfl B6 rfl (.pt ((hH _ (by decide)).trans rfl) rfl (fM e13)) (.pt _ _ _ _ _)) ?_
 refine .mk _ (λH hH _=>iK rfl fO rfl (.pt ((hH _ (by decide)).trans rfl) rfl (fM e13)) rfl) ?_
 refine .mk λx19=>?_
 refine .mk λp20=>?_
 refine .mk _ (λH hH _=>mU rfl Tryz.underlying121 kN rfl rfl ((hH _ (by decide)).trans rfl) rfl rfl p20 (List.length_map _) e13) ?_
 refine .mk _ (λH hH _=>gN rfl uJ rfl (.pt ((hH _ (by decide)).trans rfl) rfl (fM e13)) (.pt _ _ _ _ _)) ?_
 refine .mk _ (λH hH _=>iK rfl fO rfl (.pt ((hH _ (by decide)).trans rfl) rfl (fM e13)) rfl) ?_
 refine .mk λx21=>?_
 refine .mk λp22=>?_
 refine .mk _ (λH hH _=>mU rfl Tryz.underlying121 kN rfl rfl ((hH _ (by decide)).trans rfl) rfl rfl p22 (List.length_map _) e13) ?_
 refine .mk _ (λH hH _=>gN rfl K6 rfl (.pt ((hH _ (by decide)).trans rfl) rfl (fM e13)) (.pt _ _ _ _ _)) ?_
 refine .mk _ (λH hH _=>iK rfl fO rfl (.pt ((hH _ (by decide)).trans rfl) rfl (fM e13)) rfl) ?_
 refine .mk λx23=>?_
 refine .mk λp24=>?_
 refine .mk _ (λH hH _=>mU rfl Tryz.underlying121 kN rfl rfl ((hH _ (by decide)).trans rfl) rfl rfl p24 (List.length_map _) e13) ?_
 refine .mk _ (λH hH _=>gN rfl B6 rfl (.pt ((hH _ (by decide)).trans rfl) rfl (fM e13)) (.pt _ _ _ _ _)) ?_
 refine .mk λx25 e25=>?_
 have fx25:=j6 e13 e25;have lx25:=jX e25 (rfl:y0_4.length=y0_4.length)
 refine .mk _ ⟨λ_=>eO.gK (iQ (ob':=(⟨75,3,true,true,_,x25.map aB.av⟩:cB)) (iG rfl fO rfl rfl rfl rfl rfl (fM e13) rfl rfl rfl) (jJ (kL e25))) (λ_ h=>h) (λ_ _=>trivial),by rintro _ _ ⟨rfl,rfl⟩;exact ⟨rfl,trivial⟩⟩ ?_
 rintro _ _ ⟨rfl,rfl⟩
 refine .mk λp26=>?_
 refine .mk _ (λH hH _=>mU rfl Tryz.underlying121 kN rfl rfl ((hH _ (by decide)).trans rfl) rfl rfl p26 (List.length_map _) fx25) ?_
 refine .mk _ (λH hH _=>gN rfl uJ rfl (.pt ((hH _ (by decide)).trans rfl) rfl (fM fx25)) (.pt _ _ _ _ _)) ?_
 refine .mk λx27 e27=>?_
 have fx27:=j6 fx25 e27;have lx27:=jX e27 lx25
 refine .mk _ ⟨λ_=>eO.gK (iQ (ob':=(⟨75,3,true,true,_,x27.map aB.av⟩:cB)) (iG rfl fO rfl rfl rfl rfl rfl (fM fx25) rfl rfl rfl) (jJ (kL e27))) (λ_ h=>h) (λ_ _=>trivial),by rintro _ _ ⟨rfl,rfl⟩;exact ⟨rfl,trivial⟩⟩ ?_
 rintro _ _ ⟨rfl,rfl⟩
 refine .mk λp28=>?_
 refine .mk _ (λH hH _=>mU rfl Tryz.underlying121 kN rfl rfl ((hH _ (by decide)).trans rfl) rfl rfl p28 (List.length_map _) fx27) ?_
 refine .mk _ (λH hH _=>gN rfl K6 rfl (.pt ((hH _ (by decide)).trans rfl) rfl (fM fx27)) (.pt _ _ _ _ _)) ?_
 refine .mk λx29 e29=>?_
 have fx29:=j6 fx27 e29;have lx29:=jX e29 lx27
 refine .mk _ ⟨λ_=>eO.gK (iQ (ob':=(⟨75,3,true,true,_,x29.map aB.av⟩:cB)) (iG rfl fO rfl rfl rfl rfl rfl (fM fx27) rfl rfl rfl) (jJ (kL e29))) (λ_ h=>h) (λ_ _=>trivial),by rintro _ _ ⟨rfl,rfl⟩;exact trivial⟩ ?_
 rintro _ _ ⟨rfl,rfl⟩
 exact .mk
 refine .mk λp30=>?_
 refine .mk λx31 e31=>?_
 refine .mk _ (eH (X9 (len:=y0_2) (i:=1) (j:=(Int.toNat (y0_2:Int))) rfl Tryz.underlying121 kN rfl rfl rfl rfl (.yes rfl (by first | omega | (dsimp only;omega) | (dsimp only at *;omega))) (.yes rfl (by first | omega | (dsimp only;omega) | (dsimp only at *;omega))) (.yes rfl (by first | omega | (dsimp only;omega) | (dsimp only at *;omega))) (by first | omega | (dsimp only;omega) | (dsimp only at *;omega)) (by first | omega | (dsimp only;omega) | (dsimp only at *;omega)) e31)) ?_
 exact .mk
 intro _ _
 refine .mk ?_
 refine .mk λx32=>?_
 refine .mk λx33=>?_
 refine .mk λx34=>?_
 refine .mk λx35=>?_
 exact .mk
 exact .mk
 rintro ⟨y3_1,y3_2,y3_3,y3_4⟩ _
 refine .mk ?_
 refine .mk λp36=>?_
 exact .mk (dX.bC (.cons (IG (l:=y3_3) rfl rfl rfl rfl (jN.refl _) (by first | omega | (simp only [List.length_set];omega)) rfl) (.cons (.refl _) (.cons (.refl _) .nil))))
def VF (n:Nat) (a1:List aB) (a2:Int):WT Tryz.prog (.b ((List aB)×aB×Int)) :=
 .al 1<|.inl 7 ID Tryz.func284 [1] [] (λ_ (a:Unit)=>.agg [.fn (.func 272) [] [],.fn (.func 273) [] [],.fn (.func 220) [] []]) (λ_ _=>[]) (.al 2<|.ret ()) (λ_=>.cl 11 (DW n a1 a2) QU ZI λx5=>.ret ((x5.1:List aB),x5.2.1,x5.2.2))
def CL (n:Nat) (a1:List aB) (a2:Int):Option ((List aB)×aB×Int):=(VF n a1 a2).run
theorem XX {n a1 a2 r} (h0:CL n a1 a2=some r):PP Tryz.prog 283 [aP 3 aB.av a1,int a2] (λy=>y=.bC [aP 3 aB.av r.1,.agg (aB.av r.2.1),int r.2.2]) :=
 bU mixed bR (λr:(List aB)×aB×Int=>.bC [aP 3 aB.av r.1,.agg (aB.av r.2.1),int r.2.2]) h0 Tryz.func283 (λr=>.bC (nM ((iJ aB.dH) (r.1)) ((λ(a:aB)=>PV.agg (aB.dH a)) (r.2.1)) (bT (r.2.2)))) 100000 au
def OA (a1:aH) (a2:List aB):WT Tryz.prog (.b (aH)) :=
 .al 1<|.al 2<|.as (a2.length<=68719476736) inferInstance<|.ge 6 3<|.ret (((⟨a2,a1.bN⟩:aH):aH))
def uN (a1:aH) (a2:List aB):Option (aH):=(OA a1 a2).run
theorem EP {a1 a2 r} (h0:uN a1 a2=some r):PP Tryz.prog 169 [.agg (aH.av a1),aP 3 aB.av a2] (λy=>y=.agg (aH.av r)) :=
 bU mixed bR (λr:aH=>.agg (aH.av r)) h0 Tryz.func169 (λr=>(λ(a:aH)=>PV.agg (aH.dH a)) r) 100000 au
def aCB (a1:Int):WT Tryz.prog (.b (Bool)) :=
 .jn 1 [] [] [] (λ_ (a:Bool)=>[(2,aT a)]) (λ_ _=>[]) (.bB 4 (decide (a1>=0)) λx2=>.ifs [4] x2 (.bB 7 (decide (a1<3)) λx3=>.ret x3) (.ret false)) (λy0_1=>.ret ((y0_1:Bool)))
def MS (a1:Int):Option (Bool):=(aCB a1).run
theorem aLS {a1 r} (h0:MS a1=some r):PP Tryz.prog 170 [int a1] (λy=>y=aT r) :=
 bU mixed bR (λr:Bool=>aT r) h0 Tryz.func170 (λr=>gF r) 100000 au
def UD (n:Nat) (a1:aH):WT Tryz.prog (.b (Int)) :=
 .al 1<|.ln 10 aB.av a1.aW<|.jn 0 [1,2] [1] [] (λ_ (a:Int)=>[(3,int a)]) (λ_ _=>[]) (.lp [1,2,9,10] [1] [] (λ_ (a:Int×Int)=>[(3,int a.1),(11,int a.2)]) (λ_ _=>[]) n ((0:Int),0) (pw λy0_1 y0_2=>.bB 12 (decide (y0_2<(a1.aW.length:Int))) λx3=>.ifs [12] x3 (.ix 13 aB.av a1.aW y0_2 λx4=>.al 2<|.bI 18 (bA (y0_1+x4.aG)) λx6=>.bI 19 (bA (y0_2+1)) λx7=>.brk ((x6:Int),x7)) (.esc (.ret y0_1)))) (λy1_1=>.jn 1 [2] [] [] (λ_ (a:Int)=>[(3,int a)]) (λ_ _=>[]) (.lp [2,21] [] [] (λ_ (a:Int×Int)=>[(3,int a.1),(22,int a.2)]) (λ_ _=>[]) n ((y1_1:Int),0) (pw λy2_1 y2_2=>.bB 23 (decide (y2_2<3)) λx8=>.ifs [23] x8 (.bo (ix ([a1.bN.a0,a1.bN.a1,a1.bN.a2]:List Int) y2_2) λx9=>.gv 24<|.bI 27 (bA (y2_1-x9)) λx10=>.bI 28 (bA (y2_2+1)) λx11=>.brk ((x10:Int),x11)) (.esc (.ret y2_1)))) (λy3_1=>.ret ((y3_1:Int))))
def C6 (n:Nat) (a1:aH):Option (Int):=(UD n a1).run
theorem UW {n:Nat} {a1:aH} {r:Int} (h0:C6 n a1=some r):PP Tryz.prog 224 [.agg (aH.av a1)] (λy=>y=int r):=by
 refine bU mixed bR (λ(r:Int)=>int r) h0 Tryz.func224 (λr=>bT r) 100000 ?_
 intro v2
 refine .mk ?_
 refine .mk ?_ ?_
 refine .mk ?_
 intro _ _
 refine .mk λx3=>?_
 refine .mk ?_ ?_
 refine .mk λx4 e4=>?_
 intro v5
 refine .mk λx6=>?_
 refine .mk λx7=>?_
 exact .mk
 exact .mk
 intro _ _
 refine .mk ?_ ?_
 refine .mk ?_
 intro _ _
 refine .mk λx8=>?_
 refine .mk ?_ ?_
 refine .mk λx9 e9=>?_
 refine .mk _ (eH (SX (g:=fI) (l:=([a1.bN.a0,a1.bN.a1,a1.bN.a2]:List Int)) (v:=x9) (w:=int x9) rfl Tryz.underlying122 fO rfl rfl rfl e9 (λ_=>rfl) hw1)) ?_
 refine .mk λx10=>?_
 refine .mk λx11=>?_
 exact .mk
 exact .mk
 intro _ _
 exact .mk
def XW (n:Nat) (a1:aH) (a2:Int) (a3:Int):WT Tryz.prog (.b (aH×Int)) :=
 .al 1<|.al 2<|.cl 11 (uN a1 a1.aW) ED EP λx6=>.jn 1 [1,2,3,6,7] [1,2] [] (λ_ (a:Bool)=>[(12,aT a)]) (λ_ _=>[]) (.cl 14 (MS a2) aUI aLS λx7=>.bB 15 (!x7) λx8=>.ifs [15] x8 (.ret true) (.bB 18 (decide (a3<1)) λx9=>.ret x9)) (λy0_1=>.ifs [12] y0_1 (.ret ((x6:aH),1)) (.cl 24 (C6 n x6) XV UW λx10=>.bB 25 (decide (a3>x10)) λx11=>.ifs [25] x11 (.ret ((x6:aH),5)) (.sp [1] a2 0 (.gv 29<|.bI 32 (bA (x6.bN.a0+a3)) λx14=>.gv 34<|.ret (((⟨x6.aW,(⟨x14,x6.bN.a1,x6.bN.a2⟩:kU)⟩:aH):aH),0)) (.sp [1] a2 1 (.gv 29<|.bI 32 (bA (x6.bN.a1+a3)) λx13=>.gv 34<|.ret (((⟨x6.aW,(⟨x6.bN.a0,x13,x6.bN.a2⟩:kU)⟩:aH):aH),0)) (.sa [1] a2 2 (.gv 29<|.bI 32 (bA (x6.bN.a2+a3)) λx12=>.gv 34<|.ret (((⟨x6.aW,(⟨x6.bN.a0,x6.bN.a1,x12⟩:kU)⟩:aH):aH),0)))))))
def H6 (n:Nat) (a1:aH) (a2:Int) (a3:Int):Option (aH×Int):=(XW n a1 a2 a3).run
theorem aRK {n a1 a2 a3 r} (h0:H6 n a1 a2 a3=some r):PP Tryz.prog 216 [.agg (aH.av a1),int a2,int a3] (λy=>y=.bC [.agg (aH.av r.1),int r.2]) :=
 bU mixed bR (λr:aH×Int=>.bC [.agg (aH.av r.1),int r.2]) h0 Tryz.func216 (λr=>.bC (gD ((λ(a:aH)=>PV.agg (aH.dH a)) (r.1)) (bT (r.2)))) 100000 au
def Z8 (n:Nat) (a1:aH) (a2:Int):WT Tryz.prog (.b (aH×aB×Int)) :=
 .al 1<|.al 2<|.al 3<|.bB 12 (decide (a2<1)) λx6=>.ifs [12] x6 (.cl 16 (uN a1 a1.aW) ED EP λx7=>.ret ((x7:aH),((⟨0,0,0⟩:aB):aB),1)) (.cl 21 (C6 n a1) XV UW λx8=>.bB 22 (decide (a2>x8)) λx9=>.ifs [22] x9 (.cl 26 (uN a1 a1.aW) ED EP λx10=>.ret ((x10:aH),((⟨0,0,0⟩:aB):aB),5)) (.cl 32 (CL n a1.aW a2) OB XX λx11=>.al 4<|.dr [(0,[1]),(3,[4])] [(5,[4]),(6,[])] [1,4] [5,6] [0,1,2,3,4,5,6,7] (.cl 38 (uN a1 x11.1) ED EP λx13=>.ret ((x13:aH),x11.2.1,x11.2.2))))
def L5 (n:Nat) (a1:aH) (a2:Int):Option (aH×aB×Int):=(Z8 n a1 a2).run
theorem aH7 {n a1 a2 r} (h0:L5 n a1 a2=some r):PP Tryz.prog 288 [.agg (aH.av a1),int a2] (λy=>y=.bC [.agg (aH.av r.1),.agg (aB.av r.2.1),int r.2.2]) :=
 bU mixed bR (λr:aH×aB×Int=>.bC [.agg (aH.av r.1),.agg (aB.av r.2.1),int r.2.2]) h0 Tryz.func288 (λr=>.bC (nM ((λ(a:aH)=>PV.agg (aH.dH a)) (r.1)) ((λ(a:aB)=>PV.agg (aB.dH a)) (r.2.1)) (bT (r.2.2)))) 100000 au
def aBC (a1:Int):WT Tryz.prog (.b (Bool)) :=
 .jn 1 [] [] [] (λ_ (a:Bool)=>[(2,aT a)]) (λ_ _=>[]) (.bB 4 (decide (a1>=0)) λx2=>.ifs [4] x2 (.bB 7 (decide (a1<=1073741824)) λx3=>.ret x3) (.ret false)) (λy0_1=>.ret ((y0_1:Bool)))
def EA (a1:Int):Option (Bool):=(aBC a1).run
theorem VS {a1 r} (h0:EA a1=some r):PP Tryz.prog 225 [int a1] (λy=>y=aT r) :=
 bU mixed bR (λr:Bool=>aT r) h0 Tryz.func225 (λr=>gF r) 100000 au
def aBE (n:Nat) (a1:Int) (a2:Int):WT Tryz.prog (.b (Int×Int)) :=
 .bl (if 0>a2 then 0 else a2:Int) λx3=>.gv 11<|.cl 13 (BQ n x3 a1 1) TM OH λx4=>.ret ((x4.1:Int),x4.2.2)
def DC (n:Nat) (a1:Int) (a2:Int):Option (Int×Int):=(aBE n a1 a2).run
theorem aE5 {n a1 a2 r} (h0:DC n a1 a2=some r):PP Tryz.prog 226 [int a1,int a2] (λy=>y=.bC [int r.1,int r.2]) :=
 bU mixed bR (λr:Int×Int=>.bC [int r.1,int r.2]) h0 Tryz.func226 (λr=>.bC (gD (bT (r.1)) (bT (r.2)))) 100000 au
def aDI (n:Nat) (a1:List aB) (a2:Int) (a3:Int):WT Tryz.prog (.b ((List aB)×aB×Int)) :=
 .al 1<|.cl 15 (EA a3) WX VS λx5=>.bB 16 (!x5) λx6=>.ifs [16] x6 (.as (a1.length<=68719476736) inferInstance<|.ge 18 2<|.ret ((a1:List aB),((⟨0,0,0⟩:aB):aB),(1:Int))) (.inl 23 OB Tryz.func283 [1] [6] (λu17 (a:Nat×Nat×aB×Int×(List aB))=>.bC [.sl 6 (u17 6) a.1 a.2.1,.agg [int a.2.2.1.aG,int a.2.2.1.Value,int a.2.2.1.bO],int a.2.2.2.1]) (λ_ a=>[.nw 6 75 3 (a.2.2.2.2.map aB.av)]) (.al 3<|.inl 7 ID Tryz.func284 [1,3] [] (λ_ (a:Unit)=>.agg [.fn (.func 272) [] [],.fn (.func 273) [] [],.fn (.func 220) [] []]) (λ_ _=>[]) (.al 4<|.ret ()) (λ_=>.inl 11 QU Tryz.func273 [1,3] [6] (λu32 (a:Nat×Nat×aB×Int×(List aB))=>.bC [.sl 6 (u32 6) a.1 a.2.1,.agg [int a.2.2.1.aG,int a.2.2.1.Value,int a.2.2.1.bO],int a.2.2.2.1]) (λ_ a=>[.nw 6 75 3 (a.2.2.2.2.map aB.av)]) (.al 5<|.as (a1.length<=68719476736) inferInstance<|.ge 10 6<|.bB 12 (decide (a2<1)) λx14=>.ifs [12] x14 (.ret ((0:Nat),(a1.length:Nat),((⟨0,0,0⟩:aB):aB),(1:Int),a1)) (.kS 17 (FE n a1 a2) UF aBX (λ_=>rfl) λx15=>.bB 18 (!x15) λx16=>.ifs [18] x16 (.ret ((0:Nat),(a1.length:Nat),((⟨0,0,0⟩:aB):aB),(5:Int),a1)) (.al 7<|.jn 0 [4,5,6,7] [1,3,5] [] (λu33 (a:Nat×Nat×(List aB)×aB)=>[(0,.sl 6 (u33 6) a.1 a.2.1)]) (λ_ a=>[.kp 6 (a.2.2.1.map aB.av),.kp 7 [[int a.2.2.2.aG,int a.2.2.2.Value,int a.2.2.2.bO]]]) (.lp [4,5,6,7] [1,3,5] [] (λu38 (a:Nat×Nat×Int×(List aB)×aB)=>[(0,.sl 6 (u38 6) a.1 a.2.1),(1,int a.2.2.1)]) (λ_ a=>[.kp 6 (a.2.2.2.1.map aB.av),.kp 7 [[int a.2.2.2.2.aG,int a.2.2.2.2.Value,int a.2.2.2.2.bO]]]) n ((0:Nat),(a1.length:Nat),(a2:Int),a1,((⟨0,0,0⟩:aB):aB)) (pw λy1_1 q0=>(pw λy1_2 q1=>(pw λy1_3 q2=>(pw λy1_4 y1_5=>.jn 0 [0,1,4,5,6,7] [1,3,5,6,7] [] (λ_ (a:Bool)=>[(27,aT a)]) (λ_ _=>[]) (.bB 23 (decide ((y1_2:Int)>0)) λx18=>.ifs [23] x18 (.bB 26 (decide (y1_3>0)) λx19=>.ret x19) (.ret false)) (λy2_1=>.ifs [27] y2_1 (.as ((0:Int)<=0/\0<(y1_2:Int)) inferInstance<|.bo (ix y1_4 (((y1_1:Nat):Int)+0)) λx21=>.gv 29<|.gv 30<|.al 8<|.bB 34 (decide (x21.aG>y1_3)) λx23=>.jn 0 [1,4,5,6,7,8] [1,3,5,7] [] (λu41 (a:Nat×Nat×(List aB)×aB)=>[(0,.sl 6 (u41 6) a.1 a.2.1)]) (λ_ a=>[.kp 6 (a.2.2.1.map aB.av),.kp 8 [[int a.2.2.2.aG,int a.2.2.2.Value,int a.2.2.2.bO]]]) (.ifs [34] x23 (.dr [(1,[8]),(2,[8]),(4,[8]),(5,[8]),(7,[8]),(8,[8]),(10,[8]),(11,[8])] [(14,[])] [8] [14] [0,1,2,3,4,5,6,7,8,9,10,11,12,13,14] (.cl 41 (qK n x21.Value y1_3 x21.aG) yS yQ λx24=>.cl 47 (qK n x21.bO y1_3 x21.aG) yS yQ λx25=>.dr [(4,[6]),(5,[6]),(6,[6]),(7,[8]),(8,[8]),(11,[6]),(12,[6]),(13,[6]),(14,[8]),(15,[8]),(18,[6]),(19,[6]),(20,[6]),(21,[8]),(22,[8]),(24,[6]),(25,[6]),(27,[6]),(28,[6]),(30,[6]),(31,[6])] [(26,[8]),(29,[8]),(32,[])] [6,8] [26,29,32] [0,1,2,3,4,5,6,7,8,9,10,11,12,13,14,15,16,17,18,19,20,21,22,23,24,25,26,27,28,29,30,31,32] (.as ((0:Int)<=0/\0<(y1_2:Int)) inferInstance<|.gv 53<|.gv 54<|.gv 55<|.bI 58 (bA (x21.aG-y1_3)) λx27=>.as ((0:Int)<=0/\0<(y1_2:Int)) inferInstance<|.gv 60<|.gv 61<|.gv 62<|.bI 65 (bA (x21.Value-x24)) λx29=>.as ((0:Int)<=0/\0<(y1_2:Int)) inferInstance<|.gv 67<|.gv 68<|.gv 69<|.bI 72 (bA (x21.bO-x25)) λx31=>.as ((0:Int)<=0/\0<(y1_2:Int)) inferInstance<|.gv 73<|.gv 74<|.bl (y1_4.set (Int.toNat (((y1_1:Nat):Int)+0)) ((⟨x27,x21.Value,x21.bO⟩:aB):aB):List aB) λx33=>.ge 1011026 0<|.as ((0:Int)<=0/\0<(y1_2:Int)) inferInstance<|.gv 75<|.gv 76<|.bl (x33.set (Int.toNat (((y1_1:Nat):Int)+0)) ((⟨x27,x29,x21.bO⟩:aB):aB):List aB) λx35=>.ge 1011029 0<|.as ((0:Int)<=0/\0<(y1_2:Int)) inferInstance<|.gv 77<|.gv 78<|.bl (x35.set (Int.toNat (((y1_1:Nat):Int)+0)) ((⟨x27,x29,x31⟩:aB):aB):List aB) λx37=>.ge 1011032 0<|.ret ((y1_1:Nat),(y1_2:Nat),x37,((⟨y1_3,x24,x25⟩:aB):aB))))) (.as ((0:Int)<=1/\1<=(y1_2:Int)/\(y1_2:Int)<=(y1_2:Int)/\1<(y1_2+1:Int)) inferInstance<|.bl (if (Int.toNat (y1_2:Int))=1 then y1_1 else y1_1+1:Nat) λx39=>.gv 84<|.ret ((x39:Nat),(((Int.toNat (y1_2:Int))-1):Nat),y1_4,x21))) (pw λy3_1 q0=>(pw λy3_2 q1=>(pw λy3_3 y3_4=>.dr [(0,[7]),(1,[7]),(2,[8]),(3,[8]),(5,[7]),(6,[7]),(7,[8]),(8,[8]),(10,[7]),(11,[7]),(12,[8]),(13,[8]),(15,[7]),(17,[7]),(19,[7])] [(16,[8]),(18,[8]),(20,[])] [7,8] [16,18,20] [0,1,2,3,4,5,6,7,8,9,10,11,12,13,14,15,16,17,18,19,20] (.bI 89 (bA (y1_5.aG+y3_4.aG)) λx40=>.bI 94 (bA (y1_5.Value+y3_4.Value)) λx41=>.bI 99 (bA (y1_5.bO+y3_4.bO)) λx42=>.bI 106 (bA (y1_3-y3_4.aG)) λx43=>.brk ((y3_1:Nat),(y3_2:Nat),(x43:Int),y3_3,((⟨x40,x41,x42⟩:aB):aB)))) q1) q0)) (.esc (.ret ((y1_1:Nat),(y1_2:Nat),y1_4,y1_5))))) q2) q1) q0)) (pw λy4_1 q0=>(pw λy4_2 q1=>(pw λy4_3 y4_4=>.dr [(1,[7])] [(3,[])] [7] [3] [0,1,2,3,4] (.ret ((y4_1:Nat),(y4_2:Nat),y4_4,(0:Int),y4_3))) q1) q0)))) (pw λy5_2 q0=>(pw λy5_3 q1=>(pw λy5_4 q2=>(pw λy5_5 y5_6=>.ret ((y5_2:Nat),(y5_3:Nat),y5_4,(y5_5:Int),y5_6)) q2) q1) q0))) (pw λy6_2 q0=>(pw λy6_3 q1=>(pw λy6_4 q2=>(pw λy6_5 y6_6=>.al 9<|.jn 0 [1,2,6,7,8,9,10,11] [1,6,9] [] (λ_ (a:Bool)=>[(33,aT a)]) (λ_ _=>[]) (.bB 28 (decide (y6_5≠0)) λx45=>.ifs [28] x45 (.ret true) (.bB 32 (decide ((y6_3:Int)=0)) λx46=>.ret x46)) (λy7_1=>.ifs [33] y7_1 (.dr [(1,[9])] [(4,[])] [9] [4] [0,1,2,3,4,5] (.as (y6_2+y6_3<=y6_6.length) inferInstance<|.ret (((((y6_6).drop y6_2).take y6_3):List aB),y6_4,(y6_5:Int)))) (.cl 40 (DC n a3 a2) aA7 aE5 λx48=>.dr [(1,[6]),(2,[6]),(3,[6]),(4,[9]),(5,[9])] [] [6,9] [] [0,1,2,3,4,5,6,7] (.as ((0:Int)<=0/\0<(y6_3:Int)) inferInstance<|.bo (ix y6_6 (((y6_2:Nat):Int)+0)) λx50=>.gv 44<|.gv 45<|.gv 46<|.bI 49 (bA (x50.Value+y6_4.Value)) λx51=>.jn 0 [6,7,8,9,10,12,13] [1,6,9] [] (λ_ (a:Bool)=>[(56,aT a)]) (λ_ _=>[]) (.bB 51 (decide (x48.2≠0)) λx52=>.ifs [51] x52 (.ret true) (.bB 55 (decide (x48.1>x51)) λx53=>.ret x53)) (λy8_1=>.jn 0 [6,7,8,9,10] [1,6,9] [] (λ_ (a:Int)=>[(12,int a)]) (λ_ _=>[]) (.ifs [56] y8_1 (.ret (x51:Int)) (.ret (x48.1:Int))) (λy9_1=>.dr [(1,[6]),(2,[6]),(3,[6]),(4,[9]),(5,[9]),(9,[6]),(10,[6])] [(11,[])] [6,9] [11] [0,1,2,3,4,5,6,7,8,9,10,11] (.as ((0:Int)<=0/\0<(y6_3:Int)) inferInstance<|.gv 59<|.gv 60<|.gv 61<|.bI 65 (bA (y6_4.Value-y9_1)) λx55=>.bI 66 (bA (x50.Value+x55)) λx56=>.as ((0:Int)<=0/\0<(y6_3:Int)) inferInstance<|.gv 67<|.gv 68<|.bl (y6_6.set (Int.toNat (((y6_2:Nat):Int)+0)) ((⟨x50.aG,x56,x50.bO⟩:aB):aB):List aB) λx58=>.ge 1010011 0<|.dr [(1,[9])] [(3,[])] [9] [3] [0,1,2,3,4] (.as (y6_2+y6_3<=x58.length) inferInstance<|.ret (((((x58).drop y6_2).take y6_3):List aB),((⟨y6_4.aG,y9_1,y6_4.bO⟩:aB):aB),(0:Int)))))))))) q2) q1) q0))
def LF (n:Nat) (a1:List aB) (a2:Int) (a3:Int):Option ((List aB)×aB×Int):=(aDI n a1 a2 a3).run
theorem aWG {n:Nat} {a1:List aB} {a2:Int} {a3:Int} {r:(List aB)×aB×Int} (h0:LF n a1 a2 a3=some r):PP Tryz.prog 292 [aP 3 aB.av a1,int a2,int a3] (λy=>y=.bC [aP 3 aB.av r.1,.agg (aB.av r.2.1),int r.2.2]):=by
 refine bU mixed bR (λ(r:(List aB)×aB×Int)=>.bC [aP 3 aB.av r.1,.agg (aB.av r.2.1),int r.2.2]) h0 Tryz.func292 (λr=>.bC (nM ((iJ aB.dH) (r.1)) ((λ(a:aB)=>PV.agg (aB.dH a)) (r.2.1)) (bT (r.2.2)))) 100000 ?_
 intro v4
 refine .mk λx5 e5=>?_
 refine .mk λx6=>?_
 refine .mk ?_ ?_
 refine .mk λp7=>?_
 refine .mk _ ⟨λ_=>mM rfl rfl (.cons rfl .nil) wZ (nC (yL (id:=2) (l:=a1) rfl p7) (.cons (.refl _) .nil)),λ_ _ _=>trivial⟩ ?_
 rintro _ _ ⟨v8,rfl,rfl⟩
 exact .mk (dX.bC (.cons (gJ rfl rfl rfl rfl rfl (Eq.symm rfl)) (.cons (.refl _) (.cons (.refl _) .nil))))
 refine .mk ?_ ?_
 intro v9
 refine .mk ?_ ?_
 intro v10
 exact .mk
 intro _ _
 refine .mk trivial ?_
 refine .mk ?_ ?_
 intro v11
 refine .mk λrR=>?_
 refine .mk _ ⟨λ_=>mM rfl rfl (.cons rfl .nil) wZ (nC (yL (id:=6) (l:=a1) rfl rR) (.cons (.refl _) .nil)),λ_ _ _=>trivial⟩ ?_
 rintro _ _ ⟨v13,rfl,rfl⟩
 refine .mk λx14=>?_
 refine .mk .mk ?_
 refine .mk (λx15 e15=>?_) rfl (by rintro _ rfl;exact (.cons (gJ rfl rfl rfl rfl rfl (Eq.symm rfl)) (.cons (.refl _) .nil)))
 refine .mk λx16=>?_
 refine .mk .mk ?_
 intro v17
 refine .mk ?_ ?_
 refine .mk ?_
 rintro ⟨y1_1,y1_2,y1_3,y1_4,y1_5⟩ _
 refine .mk ?_ ?_
 refine .mk λx18=>?_
 refine .mk ?_ ?_
 refine .mk λx19=>?_
 exact .mk
 exact .mk
 intro _ _
 refine .mk ?_ ?_
 refine .mk λp20=>?_
 refine .mk λx21 e21=>?_
 refine .mk _ (eH (mU rfl Tryz.underlying121 kN rfl rfl rfl rfl rfl p20 (List.length_map _) e21)) ?_
 refine .mk _ (eH (iK rfl kN rfl (.pt rfl rfl (fM e21)) rfl)) ?_
 intro v22
 refine .mk λx23=>?_
 refine .mk ?_ ?_
 refine .mk ?_ ?_
 refine .mk ?_
 refine .mk λx24 e24=>?_
 refine .mk λx25 e25=>?_
 refine .mk ?_
 refine .mk λp26=>?_
 refine .mk _ (λH hH _=>mU rfl Tryz.underlying121 kN rfl rfl ((hH _ (by decide)).trans rfl) rfl rfl p26 (List.length_map _) e21) ?_
 refine .mk _ (λH hH _=>gN rfl B6 rfl (.pt ((hH _ (by decide)).trans rfl) rfl (fM e21)) (.pt _ _ _ _ _)) ?_
 refine .mk _ (λH hH _=>iK rfl fO rfl (.pt ((hH _ (by decide)).trans rfl) rfl (fM e21)) rfl) ?_
 refine .mk λx27=>?_
 refine .mk λp28=>?_
 refine .mk _ (λH hH _=>mU rfl Tryz.underlying121 kN rfl rfl ((hH _ (by decide)).trans rfl) rfl rfl p28 (List.length_map _) e21) ?_
 refine .mk _ (λH hH _=>gN rfl uJ rfl (.pt ((hH _ (by decide)).trans rfl) rfl (fM e21)) (.pt _ _ _ _ _)) ?_
 refine .mk _ (λH hH _=>iK rfl fO rfl (.pt ((hH _ (by decide)).trans rfl) rfl (fM e21)) rfl) ?_
 refine .mk λx29=>?_
 refine .mk λp30=>?_
 refine .mk _ (λH hH _=>mU rfl Tryz.underlying121 kN rfl rfl ((hH _ (by decide)).trans rfl) rfl rfl p30 (List.length_map _) e21) ?_
 refine .mk _ (λH hH _=>gN rfl K6 rfl (.pt ((hH _ (by decide)).trans rfl) rfl (fM e21)) (.pt _ _ _ _ _)) ?_
 refine .mk _ (λH hH _=>iK rfl fO rfl (.pt ((hH _ (by decide)).trans rfl) rfl (fM e21)) rfl) ?_
 refine .mk λx31=>?_
 refine .mk λp32=>?_
 refine .mk _ (λH hH _=>mU rfl Tryz.underlying121 kN rfl rfl ((hH _ (by decide)).trans rfl) rfl rfl p32 (List.length_map _) e21) ?_
 refine .mk _ (λH hH _=>gN rfl B6 rfl (.pt ((hH _ (by decide)).trans rfl) rfl (fM e21)) (.pt _ _ _ _ _)) ?_
 refine .mk λx33 e33=>?_
 have fx33:=j6 e21 e33;have lx33:=jX e33 (rfl:y1_4.length=y1_4.length)
 refine .mk _ ⟨λ_=>eO.gK (iQ (ob':=(⟨75,3,true,true,_,x33.map aB.av⟩:cB)) (iG rfl fO rfl rfl rfl rfl rfl (fM e21) rfl rfl rfl) (jJ (kL e33))) (λ_ h=>h) (λ_ _=>trivial),by rintro _ _ ⟨rfl,rfl⟩;exact ⟨rfl,trivial⟩⟩ ?_
 rintro _ _ ⟨rfl,rfl⟩
 refine .mk λp34=>?_
 refine .mk _ (λH hH _=>mU rfl Tryz.underlying121 kN rfl rfl ((hH _ (by decide)).trans rfl) rfl rfl p34 (List.length_map _) fx33) ?_
 refine .mk _ (λH hH _=>gN rfl uJ rfl (.pt ((hH _ (by decide)).trans rfl) rfl (fM fx33)) (.pt _ _ _ _ _)) ?_
 refine .mk λx35 e35=>?_
 have fx35:=j6 fx33 e35;have lx35:=jX e35 lx33
 refine .mk _ ⟨λ_=>eO.gK (iQ (ob':=(⟨75,3,true,true,_,x35.map aB.av⟩:cB)) (iG rfl fO rfl rfl rfl rfl rfl (fM fx33) rfl rfl rfl) (jJ (kL e35))) (λ_ h=>h) (λ_ _=>trivial),by rintro _ _ ⟨rfl,rfl⟩;exact ⟨rfl,trivial⟩⟩ ?_
 rintro _ _ ⟨rfl,rfl⟩
 refine .mk λp36=>?_
 refine .mk _ (λH hH _=>mU rfl Tryz.underlying121 kN rfl rfl ((hH _ (by decide)).trans rfl) rfl rfl p36 (List.length_map _) fx35) ?_
 refine .mk _ (λH hH _=>gN rfl K6 rfl (.pt ((hH _ (by decide)).trans rfl) rfl (fM fx35)) (.pt _ _ _ _ _)) ?_
 refine .mk λx37 e37=>?_
 have fx37:=j6 fx35 e37;have lx37:=jX e37 lx35
 refine .mk _ ⟨λ_=>eO.gK (iQ (ob':=(⟨75,3,true,true,_,x37.map aB.av⟩:cB)) (iG rfl fO rfl rfl rfl rfl rfl (fM fx35) rfl rfl rfl) (jJ (kL e37))) (λ_ h=>h) (λ_ _=>trivial),by rintro _ _ ⟨rfl,rfl⟩;exact trivial⟩ ?_
 rintro _ _ ⟨rfl,rfl⟩
 exact .mk
 refine .mk λp38=>?_
 refine .mk λx39 e39=>?_
 refine .mk _ (eH (X9 (len:=y1_2) (i:=1) (j:=(Int.toNat (y1_2:Int))) rfl Tryz.underlying121 kN rfl rfl rfl rfl (.yes rfl (by first | omega | (dsimp only;omega) | (dsimp only at *;omega))) (.yes rfl (by first | omega | (dsimp only;omega) | (dsimp only at *;omega))) (.yes rfl (by first | omega | (dsimp only;omega) | (dsimp only at *;omega))) (by first | omega | (dsimp only;omega) | (dsimp only at *;omega)) (by first | omega | (dsimp only;omega) | (dsimp only at *;omega)) e39)) ?_
 exact .mk
 intro _ _
 refine .mk ?_
 refine .mk λx40=>?_
 refine .mk λx41=>?_
 refine .mk λx42=>?_
 refine .mk λx43=>?_
 exact .mk
 exact .mk
 intro _ _
 refine .mk ?_
 exact .mk
 intro _ _
 refine .mk trivial ?_
 exact .mk
 rintro ⟨y6_2,y6_3,y6_4,y6_5,y6_6⟩ _
 refine .mk trivial ?_
 intro v44
 refine .mk ?_ ?_
 refine .mk λx45=>?_
 refine .mk .mk ?_
 refine .mk λx46=>?_
 exact .mk
 intro _ _
 refine .mk ?_ ?_
 refine .mk ?_
 refine .mk λp47=>?_
 exact .mk (dX.bC (.cons (IG (l:=y6_6) rfl rfl rfl rfl (jN.refl _) (by first | omega | (simp only [List.length_set];omega)) rfl) (.cons (.refl _) (.cons (.refl _) .nil))))
 refine .mk λx48 e48=>?_
 refine .mk ?_
 refine .mk λp49=>?_
 refine .mk λx50 e50=>?_
 refine .mk _ (λH hH _=>mU rfl Tryz.underlying121 kN rfl rfl ((hH _ (by decide)).trans rfl) rfl rfl p49 (List.length_map _) e50) ?_
 refine .mk _ (λH hH _=>gN rfl uJ rfl (.pt ((hH _ (by decide)).trans rfl) rfl (fM e50)) (.pt _ _ _ _ _)) ?_
 refine .mk _ (λH hH _=>iK rfl fO rfl (.pt ((hH _ (by decide)).trans rfl) rfl (fM e50)) rfl) ?_
 refine .mk λx51=>?_
 refine .mk ?_ ?_
 refine .mk λx52=>?_
 refine .mk .mk ?_
 refine .mk λx53=>?_
 exact .mk
 intro _ _
 refine .mk ?_ ?_
 refine .mk .mk ?_
 exact .mk
 intro _ _
 refine .mk ?_
 refine .mk λp54=>?_
 refine .mk _ (λH hH _=>mU rfl Tryz.underlying121 kN rfl rfl ((hH _ (by decide)).trans rfl) rfl rfl p54 (List.length_map _) e50) ?_
 refine .mk _ (λH hH _=>gN rfl uJ rfl (.pt ((hH _ (by decide)).trans rfl) rfl (fM e50)) (.pt _ _ _ _ _)) ?_
 refine .mk _ (λH hH _=>iK rfl fO rfl (.pt ((hH _ (by decide)).trans rfl) rfl (fM e50)) rfl) ?_
 refine .mk λx55=>?_
 refine .mk λx56=>?_
 refine .mk λp57=>?_
 refine .mk _ (λH hH _=>mU rfl Tryz.underlying121 kN rfl rfl ((hH _ (by decide)).trans rfl) rfl rfl p57 (List.length_map _) e50) ?_
 refine .mk _ (λH hH _=>gN rfl uJ rfl (.pt ((hH _ (by decide)).trans rfl) rfl (fM e50)) (.pt _ _ _ _ _)) ?_
 refine .mk λx58 e58=>?_
 have fx58:=j6 e50 e58;have lx58:=jX e58 (rfl:y6_6.length=y6_6.length)
 refine .mk _ ⟨λ_=>eO.gK (iQ (ob':=(⟨75,3,true,true,_,x58.map aB.av⟩:cB)) (iG rfl fO rfl rfl rfl rfl rfl (fM e50) rfl rfl rfl) (jJ (kL e58))) (λ_ h=>h) (λ_ _=>trivial),by rintro _ _ ⟨rfl,rfl⟩;exact trivial⟩ ?_
 rintro _ _ ⟨rfl,rfl⟩
 refine .mk ?_
 refine .mk λp59=>?_
 exact .mk (dX.bC (.cons (IG (l:=x58) rfl rfl rfl rfl (jN.refl _) (by first | omega | (simp only [List.length_set];omega)) rfl) (.cons (.refl _) (.cons (.refl _) .nil))))
end
end Go.Pv
