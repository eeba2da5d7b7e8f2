import Derived.Test.YtbcjcecegdfnpaaGreatK21d
set_option linter.unusedVariables false
namespace Go.Pv
open Go.Proofs
set_option maxRecDepth 10000
set_option maxHeartbeats 1000000
def d_sell_Do (n : Nat) (a1 : GState) (a2 : GOp) : Option (GState × Int) :=
(show Option ((GOp × GSale) ⊕ (GState × Int)) from
bnd (decide (a2.Kind = 5)) fun x8 =>
cond x8 ((show Option (Bool) from
bnd (decide (a2.Ref < 0)) fun x12 =>
cond x12 (some (true : Bool)) (bnd (decide (a2.Ref ≥ (a1.Sales.length : Int))) fun x13 =>
some (x13 : Bool))).bind <| fun y0_1 =>
cond y0_1 (esc (some ((a1 : GState), (4 : Int)))) ((ix a1.Sales a2.Ref).bind fun x14 =>
brk (((⟨a2.Kind, x14.Entity, x14.Item, x14.Loc, a2.To, a2.Qty, a2.Amount, a2.Ref, a2.Refs⟩ : GOp) : GOp), (x14 : GSale)))) (bnd (decide (a2.Kind = 4)) fun x9 =>
cond x9 (brk ((a2 : GOp), ((⟨0, 0, 0, 0, 0, 0, 0, 0, false⟩ : GSale) : GSale))) (esc (some ((a1 : GState), (1 : Int)))))).bind <| sel <| p2 fun (y1_1 : GOp) (y1_2 : GSale) =>
(d_stock_Ready a1 y1_1.E y1_1.Item).bind fun x16 =>
bnd (decide (x16 ≠ 0)) fun x17 =>
cond x17 (some ((a1 : GState), (x16 : Int))) ((show Option (Int × GState) from
bnd (decide (y1_1.Kind = 4)) fun x20 =>
cond x20 ((d_sell_sell n a1 y1_1).bind fun x29 =>
some ((x29.2 : Int), (x29.1 : GState))) (bnd (w64 (y1_2.Qty - y1_2.Back)) fun x21 =>
bnd (decide (y1_1.Qty > x21)) fun x22 =>
cond x22 (some ((5 : Int), (a1 : GState))) ((show Option (Bool) from
bnd y1_2.Waits fun x24 =>
cond x24 ((ix a1.Ents y1_1.E).bind fun x25 =>
bnd (decide (y1_2.Period = x25.Now)) fun x26 =>
some (x26 : Bool)) (some (false : Bool))).bind <| fun y2_1 =>
cond y2_1 ((d_sell_unsell n a1 y1_1).bind fun x28 =>
some ((x28.2 : Int), (x28.1 : GState))) ((d_sell_back n a1 y1_1 y1_2).bind fun x27 =>
some ((x27.2 : Int), (x27.1 : GState)))))).bind <| p2 fun (y3_1 : Int) (y3_2 : GState) =>
bnd (decide (y3_1 ≠ 0)) fun x30 =>
cond x30 (some ((a1 : GState), (y3_1 : Int))) (some ((y3_2 : GState), (0 : Int))))
theorem d_sell_Do_c {n : Nat} {a1 : GState} {a2 : GOp} {r : GState × Int} (h0 : d_sell_Do n a1 a2 = some r) : PP Tryz.prog 28 [.agg (GState.av a1), .agg (GOp.av a2)] (fun y => y = .tup [.agg (GState.av r.1), int r.2]) := by
  unfold d_sell_Do at h0
  refine pp_of_pc (R0 := fun y H => Cv (frzH H) y (.tup [.agg (GState.av r.1), int r.2])) ?_ (fun y H hc => ⟨_, rfl, .tup (pvl2 ((fun (a : GState) => PV.agg (GState.pvc a)) (r.1)) (pvI (r.2))), hc⟩)
  refine pcw (c := _) Tryz.func28 rfl rfl ?_; intro Q hret hnorm
  refine tc tbk 2 (.mk ?_)
  refine rse rfl rfl rfl (yl_box 1 .any rfl rfl rfl) ?_; rintro _ _ ⟨v3, -, rfl, rfl⟩
  refine rse rfl rfl rfl (yl_box 2 .any rfl rfl rfl) ?_; rintro _ _ ⟨v4, -, rfl, rfl⟩
  refine rse rfl rfl rfl (yl_alloc 3 .any rfl z32 rfl) ?_; rintro _ _ ⟨v5, -, rfl, rfl⟩
  refine tr tbk 4 (.mk ?_)
  refine rse rfl rfl rfl (yl_alloc 4 .any rfl z64 rfl) ?_; rintro _ _ ⟨v6, -, rfl, rfl⟩
  refine tr tbk 11 (.mk ?_)
  refine jnE h0 [2, 3, 4, 5, 6] [1, 3] (fun (a : GOp × GSale) (k : Unit) => []) (fun a k => [(2, ⟨38, 9, true, true, v4, [[int a.1.Kind, int a.1.E, int a.1.Item, int a.1.Loc, int a.1.To, int a.1.Qty, int a.1.Amount, int a.1.Ref, lst 1 fI a.1.Refs]]⟩), (4, ⟨64, 9, true, true, v6, [[int a.2.Entity, int a.2.Item, int a.2.Loc, int a.2.Qty, int a.2.Back, int a.2.Cost, int a.2.Profit, int a.2.Period, boo a.2.Waits]]⟩)]) ⟨fun j7 h1 h0 => ?_, ?_⟩
  refine tc tbk 7 (.mk ?_)
  refine nb tbk h1 fun x8 h1 => ?_
  refine tr tbk 2 (.mk ?_)
  cases x8
  replace h1 := cf h1
  refine tc tbk 4 (.mk ?_)
  refine nb tbk h1 fun x9 h1 => ?_
  refine tr tbk 2 (.mk ?_)
  cases x9
  replace h1 := cf h1
  refine tc tbk 2 (.mk ?_)
  obtain ⟨c10, hX, hj⟩ := esc_e h1; subst hj; replace h0 := hX.trans (sel_r h0)
  refine tc tbk 5 (.mk ?_)
  refine sS ⟨32, 10, true, true, v5, [(GState.av a1)]⟩ sh32 ?_
  refine tr tbk 2 (.mk ?_)
  obtain rfl := nxt_e h0
  refine w_ret (hret _ _ _ (.cell rfl (.pt rfl rfl rfl) sh32 rfl (.tmp rfl .nil)) (fun _ _ h => h) ?_)
  exact .refl _
  replace h1 := ct h1
  refine tc tbk 2 (.mk ?_)
  exact lfE h1 () leA
  replace h1 := ct h1
  refine tc tbk 4 (.mk ?_)
  refine jn h1 [2, 3, 4, 5, 6] [1, 2, 3, 4] (fun (a : Bool) (k : Unit) => [(26, boo a)]) (fun a k => []) ⟨fun j11 h2 => ?_, ?_⟩
  refine tc tbk 3 (.mk ?_)
  refine nb tbk h2 fun x12 h2 => ?_
  refine tr tbk 1 (.mk ?_)
  cases x12
  replace h2 := cf h2
  refine tr tbk 4 (.mk ?_)
  refine rst rfl rfl rfl (yv_len_sl rfl Tryz.underlying29 rfl (lst_len _)) ?_
  refine nb tbk h2 fun x13 h2 => ?_
  refine tr tbk 2 (.mk ?_)
  exact lf h2 () leA
  replace h2 := ct h2
  refine tr tbk 8 (.mk ?_)
  exact lf h2 () leA
  rintro y0_1 _ h1
  cases y0_1
  replace h1 := cf h1
  refine tc tbk 8 (.mk ?_)
  obtain ⟨x14, e14, h1⟩ := bind_e h1
  refine rst rfl rfl rfl (yv_ixT rfl Tryz.underlying29 sh64 rfl rfl e14) ?_
  refine tr tbk 1 (.mk ?_)
  refine sS ⟨64, 9, true, true, v6, [[int x14.Entity, int x14.Item, int x14.Loc, int x14.Qty, int x14.Back, int x14.Cost, int x14.Profit, int x14.Period, boo x14.Waits]]⟩ sh64 ?_
  refine tr tbk 1 (.mk ?_)
  refine c_drawE [0, 1, 0, 4, 0, 16, 3, 67, 207, 463, 1023, 2047] (rl [(0, [4]), (1, [4]), (2, [4]), (3, [4]), (4, [4]), (5, [4]), (6, [2]), (8, [2]), (10, [2])] []) (rl [(7, [4]), (9, [4]), (11, [])] [2, 4]) (rl [(7, false), (9, false), (11, false)] true) [0, 1, 2, 3, 4, 5, 6, 7, 8, 9, 10, 11] mixed (by kernel_rfl) ?_; intro K hK
  refine eF fo64_0 ?_
  refine eL sh3 ?_
  refine eF fo64_1 ?_
  refine eL sh3 ?_
  refine eF fo64_2 ?_
  refine eL sh3 ?_
  refine eF fo38_1 ?_
  refine de_eff0 rfl rfl rfl rfl (Yield.weak (yl_ob (ob' := (⟨38, 9, true, true, v4, [[int a2.Kind, int x14.Entity, int a2.Item, int a2.Loc, int a2.To, int a2.Qty, int a2.Amount, int a2.Ref, lst 1 fI a2.Refs]]⟩ : AObj)) (yl_store rfl sh3 rfl rfl rfl rfl rfl rfl rfl rfl rfl) rfl) (fun _ h => h) (fun _ _ => trivial)) (by rintro _ _ ⟨rfl, rfl⟩; exact ⟨rfl, trivial⟩) ?_; rintro _ _ ⟨rfl, rfl⟩
  refine eF fo38_2 ?_
  refine de_eff0 rfl rfl rfl rfl (Yield.weak (yl_ob (ob' := (⟨38, 9, true, true, v4, [[int a2.Kind, int x14.Entity, int x14.Item, int a2.Loc, int a2.To, int a2.Qty, int a2.Amount, int a2.Ref, lst 1 fI a2.Refs]]⟩ : AObj)) (yl_store rfl sh3 rfl rfl rfl rfl rfl rfl rfl rfl rfl) rfl) (fun _ h => h) (fun _ _ => trivial)) (by rintro _ _ ⟨rfl, rfl⟩; exact ⟨rfl, trivial⟩) ?_; rintro _ _ ⟨rfl, rfl⟩
  refine eF fo38_3 ?_
  refine de_eff0 rfl rfl rfl rfl (Yield.weak (yl_ob (ob' := (⟨38, 9, true, true, v4, [[int a2.Kind, int x14.Entity, int x14.Item, int x14.Loc, int a2.To, int a2.Qty, int a2.Amount, int a2.Ref, lst 1 fI a2.Refs]]⟩ : AObj)) (yl_store rfl sh3 rfl rfl rfl rfl rfl rfl rfl rfl rfl) rfl) (fun _ h => h) (fun _ _ => trivial)) (by rintro _ _ ⟨rfl, rfl⟩; exact trivial) ?_; rintro _ _ ⟨rfl, rfl⟩
  refine de_nil (hK _ ?_)
  refine tc tbk 1 (.mk ?_)
  exact lfE h1 () leA
  replace h1 := ct h1
  refine tc tbk 4 (.mk ?_)
  refine sS ⟨32, 10, true, true, v5, [(GState.av a1)]⟩ sh32 ?_
  refine tr tbk 2 (.mk ?_)
  obtain ⟨c15, hX, hj⟩ := esc_e h1; subst hj; replace h0 := hX.trans (sel_r h0)
  obtain rfl := nxt_e h0
  refine w_ret (hret _ _ _ (.cell rfl (.pt rfl rfl rfl) sh32 rfl (.tmp rfl .nil)) (fun _ _ h => h) ?_)
  exact .refl _
  rintro ⟨y1_1, y1_2⟩ _ h0
  replace h0 := p2_e h0
  refine tc tbk 8 (.mk ?_)
  obtain ⟨x16, e16, h0⟩ := bind_e h0
  refine rst rfl rfl rfl (yv_callP rfl rfl (.cons rfl (.cons rfl (.cons rfl .nil))) cal37 (CvL.refl _) (d_stock_Ready_c e16)) ?_
  refine tr tbk 5 (.mk ?_)
  refine nb tbk h0 fun x17 h0 => ?_
  refine tr tbk 1 (.mk ?_)
  cases x17
  replace h0 := cf h0
  refine tc tbk 6 (.mk ?_)
  refine rse rfl rfl rfl (yl_alloc 5 .any rfl z32 rfl) ?_; rintro _ _ ⟨v18, -, rfl, rfl⟩
  refine sS ⟨32, 10, true, true, v18, [(GState.av a1)]⟩ sh32 ?_
  refine tr tbk 3 (.mk ?_)
  refine jn h0 [2, 4, 5, 8] [1, 3] (fun (a : Int × GState) (k : Unit) => [(9, int a.1)]) (fun a k => [(5, ⟨32, 10, true, true, v18, [(GState.av a.2)]⟩)]) ⟨fun j19 h1 => ?_, ?_⟩
  refine tc tbk 5 (.mk ?_)
  refine nb tbk h1 fun x20 h1 => ?_
  refine tr tbk 2 (.mk ?_)
  cases x20
  replace h1 := cf h1
  refine tc tbk 9 (.mk ?_)
  refine ni tbk h1 fun x21 h1 => ?_
  refine nb tbk h1 fun x22 h1 => ?_
  refine tr tbk 2 (.mk ?_)
  cases x22
  replace h1 := cf h1
  refine tc tbk 2 (.mk ?_)
  refine jn h1 [2, 3, 4, 5, 6, 8, 9] [1, 2, 3, 4, 5] (fun (a : Bool) (k : Unit) => [(81, boo a)]) (fun a k => []) ⟨fun j23 h2 => ?_, ?_⟩
  refine c_drawE [0, 1, 3, 7, 15, 7, 39, 7, 135, 487, 999, 2023, 4095, 8191, 16383] (rl [(0, [4]), (1, [4]), (3, [4]), (4, [4]), (5, [1]), (6, [1]), (7, [2]), (8, [2])] []) (fun i => [1, 2, 4]) (fun i => true) [0, 1, 2, 3, 4, 5, 6, 7, 8, 9, 10, 11, 12, 13, 14] mixed (by kernel_rfl) ?_; intro K hK
  refine eF fo64_8 ?_
  refine eL sh4 ?_
  obtain ⟨x24, e24, h2⟩ := bnd_e h2
  refine eP (fun H hH => yv_to (y := boo x24) (yv_move rfl rfl) (congrArg boo e24)) ?_
  cases x24
  replace h2 := cf h2
  refine de_skip rfl rfl rfl ?_
  refine de_skip rfl rfl rfl ?_
  refine de_skip rfl rfl rfl ?_
  refine de_skip rfl rfl rfl ?_
  refine de_skip rfl rfl rfl ?_
  refine de_skip rfl rfl rfl ?_
  refine de_skip rfl rfl rfl ?_
  refine de_skip rfl rfl rfl ?_
  refine de_skip rfl rfl rfl ?_
  refine de_skip rfl rfl rfl ?_
  refine eP (fun H hH => yv_pick rfl rfl (fun _ => rfl) (fun _ => rfl) rfl) ?_
  refine eA ?_
  refine de_nil (hK _ ?_)
  exact lf h2 () leA
  replace h2 := ct h2
  refine eF fo64_7 ?_
  refine eL sh3 ?_
  refine eF fo32_1 ?_
  refine eL sh27 ?_
  refine eF fo38_1 ?_
  refine eL sh3 ?_
  obtain ⟨x25, e25, h2⟩ := bind_e h2
  refine eP (fun H hH => yv_to (y := .pp [int x25.Now, boo x25.Closed, lst 4 GPool.av x25.Pools, lst 1 fI x25.Bal, lst 11 GRoll.av x25.Rolls, lst 1 fI x25.Prices, lst 1 fI x25.Down, lst 8 GEnt.av x25.Ahead]) (yv_ixT rfl Tryz.underlying27 sh42 rfl rfl e25) (congrArg AV.pp (GEnt.av_eq x25))) ?_
  refine eP (fun H hH => yv_fieldAddr rfl fo42_0 rfl (.pp _) (.pp _ _)) ?_
  refine eP (fun H hH => yv_load rfl sh3 rfl (.pp _) rfl) ?_
  obtain ⟨x26, e26, h2⟩ := bnd_e h2
  refine eP (fun H hH => yv_to (y := boo x26) (yv_eql rfl rfl rfl) (congrArg boo e26)) ?_
  refine eP (fun H hH => yv_pick rfl rfl (fun _ => rfl) (fun _ => rfl) rfl) ?_
  refine eA ?_
  refine de_nil (hK _ ?_)
  exact lf h2 () leA
  rintro y2_1 _ h1
  cases y2_1
  replace h1 := cf h1
  refine tc tbk 5 (.mk ?_)
  obtain ⟨x27, e27, h1⟩ := bind_e h1
  refine rst rfl rfl rfl (yv_callP rfl rfl (.cons rfl (.cons rfl (.cons rfl .nil))) cal63 (CvL.refl _) (d_sell_back_c e27)) ?_
  refine tr tbk 3 (.mk ?_)
  refine sS ⟨32, 10, true, true, v18, [(GState.av x27.1)]⟩ sh32 ?_
  refine tr tbk 3 (.mk ?_)
  exact lf h1 () leA
  replace h1 := ct h1
  refine tc tbk 4 (.mk ?_)
  obtain ⟨x28, e28, h1⟩ := bind_e h1
  refine rst rfl rfl rfl (yv_callP rfl rfl (.cons rfl (.cons rfl .nil)) cal62 (CvL.refl _) (d_sell_unsell_c e28)) ?_
  refine tr tbk 3 (.mk ?_)
  refine sS ⟨32, 10, true, true, v18, [(GState.av x28.1)]⟩ sh32 ?_
  refine tr tbk 3 (.mk ?_)
  exact lf h1 () leA
  replace h1 := ct h1
  refine tc tbk 5 (.mk ?_)
  exact lf h1 () leA
  replace h1 := ct h1
  refine tc tbk 4 (.mk ?_)
  obtain ⟨x29, e29, h1⟩ := bind_e h1
  refine rst rfl rfl rfl (yv_callP rfl rfl (.cons rfl (.cons rfl .nil)) cal61 (CvL.refl _) (d_sell_sell_c e29)) ?_
  refine tr tbk 3 (.mk ?_)
  refine sS ⟨32, 10, true, true, v18, [(GState.av x29.1)]⟩ sh32 ?_
  refine tr tbk 3 (.mk ?_)
  exact lf h1 () leA
  rintro ⟨y3_1, y3_2⟩ _ h0
  replace h0 := p2_e h0
  refine tc tbk 4 (.mk ?_)
  refine nb tbk h0 fun x30 h0 => ?_
  refine tr tbk 1 (.mk ?_)
  cases x30
  replace h0 := cf h0
  refine tc tbk 5 (.mk ?_)
  refine sS ⟨32, 10, true, true, v5, [(GState.av y3_2)]⟩ sh32 ?_
  refine tr tbk 2 (.mk ?_)
  obtain rfl := nxt_e h0
  refine w_ret (hret _ _ _ (.cell rfl (.pt rfl rfl rfl) sh32 rfl (.tmp rfl .nil)) (fun _ _ h => h) ?_)
  exact .refl _
  replace h0 := ct h0
  refine tc tbk 5 (.mk ?_)
  refine sS ⟨32, 10, true, true, v5, [(GState.av a1)]⟩ sh32 ?_
  refine tr tbk 2 (.mk ?_)
  obtain rfl := nxt_e h0
  refine w_ret (hret _ _ _ (.cell rfl (.pt rfl rfl rfl) sh32 rfl (.tmp rfl .nil)) (fun _ _ h => h) ?_)
  exact .refl _
  replace h0 := ct h0
  refine tc tbk 5 (.mk ?_)
  refine sS ⟨32, 10, true, true, v5, [(GState.av a1)]⟩ sh32 ?_
  refine tr tbk 2 (.mk ?_)
  obtain rfl := nxt_e h0
  refine w_ret (hret _ _ _ (.cell rfl (.pt rfl rfl rfl) sh32 rfl (.tmp rfl .nil)) (fun _ _ h => h) ?_)
  exact .refl _
def d_ref14_Worth (n : Nat) (a1 : GState) (a2 : Int) (a3 : Int) : Option (GLayer) :=
(d_ref14_worth n a1 a2 a3).bind fun x6 =>
some ((x6.1 : GLayer))
theorem d_ref14_Worth_c {n : Nat} {a1 : GState} {a2 : Int} {a3 : Int} {r : GLayer} (h0 : d_ref14_Worth n a1 a2 a3 = some r) : PP Tryz.prog 18 [.agg (GState.av a1), int a2, int a3] (fun y => y = .agg (GLayer.av r)) := by
  unfold d_ref14_Worth at h0
  refine pp_of_pc (R0 := fun y H => Cv (frzH H) y (.agg (GLayer.av r))) ?_ (fun y H hc => ⟨_, rfl, (fun (a : GLayer) => PV.agg (GLayer.pvc a)) r, hc⟩)
  refine pcw (c := _) Tryz.func18 rfl rfl ?_; intro Q hret hnorm
  refine tc tbk 2 (.mk ?_)
  refine rse rfl rfl rfl (yl_box 1 .any rfl rfl rfl) ?_; rintro _ _ ⟨v4, -, rfl, rfl⟩
  refine rse rfl rfl rfl (yl_alloc 2 .any rfl z46 rfl) ?_; rintro _ _ ⟨v5, -, rfl, rfl⟩
  refine tr tbk 6 (.mk ?_)
  obtain ⟨x6, e6, h0⟩ := bind_e h0
  refine rst rfl rfl rfl (yv_callP rfl rfl (.cons rfl (.cons rfl (.cons rfl .nil))) cal47 (CvL.refl _) (d_ref14_worth_c e6)) ?_
  refine tr tbk 3 (.mk ?_)
  refine rse rfl rfl rfl (yl_alloc 3 .any rfl z46 rfl) ?_; rintro _ _ ⟨v7, -, rfl, rfl⟩
  refine sS ⟨46, 3, true, true, v7, [[int x6.1.Qty, int x6.1.Value, int x6.1.Profit]]⟩ sh46 ?_
  refine tr tbk 5 (.mk ?_)
  refine sS ⟨46, 3, true, true, v5, [[int x6.1.Qty, int x6.1.Value, int x6.1.Profit]]⟩ sh46 ?_
  refine tr tbk 1 (.mk ?_)
  obtain rfl := nxt_e h0
  refine w_ret (hret _ _ _ (.cell rfl (.pt rfl rfl rfl) sh46 rfl .nil) (fun _ _ h => h) ?_)
  exact .refl _
def d_law16_awake (n : Nat)  : Option (Bool) :=
(d_law16_stocked n 0 10 100).bind fun x1 =>
(d_sell_Do n x1 (⟨4, 0, 0, 0, 0, 3, 50, 0, []⟩ : GOp)).bind fun x2 =>
(d_sell_Do n x2.1 (⟨5, 0, 0, 0, 0, 3, 50, 0, []⟩ : GOp)).bind fun x4 =>
(d_sell_Do n x2.1 (⟨6, 0, 0, 0, 0, 1, 0, 0, []⟩ : GOp)).bind fun x6 =>
(show Option (Bool) from
bnd (decide (x2.2 = 0)) fun x9 =>
cond x9 (bnd (decide (x4.2 = 0)) fun x10 =>
cond x10 (bnd (decide (x6.2 = 1)) fun x11 =>
cond x11 (bnd (decide ((x2.1.Sales.length : Int) = 1)) fun x12 =>
cond x12 ((ix x2.1.Sales 0).bind fun x13 =>
bnd (decide (x13.Cost = 30)) fun x14 =>
cond x14 (bnd (decide ((x4.1.Ents.length : Int) = 2)) fun x15 =>
cond x15 ((ix x4.1.Ents 0).bind fun x16 =>
(ix x16.Bal 5).bind fun x17 =>
bnd (decide (x17 = 0)) fun x18 =>
cond x18 ((ix x4.1.Ents 0).bind fun x19 =>
(ix x19.Bal 0).bind fun x20 =>
bnd (decide (x20 = 100)) fun x21 =>
some (x21 : Bool)) (some (false : Bool))) (some (false : Bool))) (some (false : Bool))) (some (false : Bool))) (some (false : Bool))) (some (false : Bool))) (some (false : Bool))).bind <| fun y0_1 =>
some ((y0_1 : Bool))
theorem d_law16_awake_c {n : Nat}  {r : Bool} (h0 : d_law16_awake n  = some r) : PP Tryz.prog 30 [] (fun y => y = boo r) := by
  unfold d_law16_awake at h0
  refine pp_of_pc (R0 := fun y H => Cv (frzH H) y (boo r)) ?_ (fun y H hc => ⟨_, rfl, pvB r, hc⟩)
  refine pcw (c := _) Tryz.func30 rfl rfl ?_; intro Q hret hnorm
  refine tc tbk 6 (.mk ?_)
  obtain ⟨x1, e1, h0⟩ := bind_e h0
  refine rst rfl rfl rfl (yv_callP rfl rfl (.cons rfl (.cons rfl (.cons rfl .nil))) cal29 (CvL.refl _) (d_law16_stocked_c e1)) ?_
  refine rst rfl rfl rfl (yv_build (cs := [int 4, int 0, int 0, int 0, int 0, int 3, int 50, int 0, .sc (.slice none 0 0)]) (ps := [(0, _), (5, _), (6, _)]) rfl pl38 z38 rfl (.cons rfl (.cons rfl (.cons rfl .nil))) (by kernel_rfl)) ?_
  obtain ⟨x2, e2, h0⟩ := bind_e h0
  refine rst rfl rfl rfl (yv_callP rfl rfl (.cons rfl (.cons rfl .nil)) cal28 (.cons (.refl _) (.cons (CvL.agg (.cons (.refl _) (.cons (.refl _) (.cons (.refl _) (.cons (.refl _) (.cons (.refl _) (.cons (.refl _) (.cons (.refl _) (.cons (.refl _) (.cons (.nil _) .nil)))))))))) .nil)) (d_sell_Do_c e2)) ?_
  refine tr tbk 3 (.mk ?_)
  refine rse rfl rfl rfl (yl_alloc 1 .any rfl z32 rfl) ?_; rintro _ _ ⟨v3, -, rfl, rfl⟩
  refine sS ⟨32, 10, true, true, v3, [(GState.av x2.1)]⟩ sh32 ?_
  refine tr tbk 5 (.mk ?_)
  refine rst rfl rfl rfl (yv_build (cs := [int 5, int 0, int 0, int 0, int 0, int 3, int 50, int 0, .sc (.slice none 0 0)]) (ps := [(0, _), (5, _), (6, _)]) rfl pl38 z38 rfl (.cons rfl (.cons rfl (.cons rfl .nil))) (by kernel_rfl)) ?_
  obtain ⟨x4, e4, h0⟩ := bind_e h0
  refine rst rfl rfl rfl (yv_callP rfl rfl (.cons rfl (.cons rfl .nil)) cal28 (.cons (.refl _) (.cons (CvL.agg (.cons (.refl _) (.cons (.refl _) (.cons (.refl _) (.cons (.refl _) (.cons (.refl _) (.cons (.refl _) (.cons (.refl _) (.cons (.refl _) (.cons (.nil _) .nil)))))))))) .nil)) (d_sell_Do_c e4)) ?_
  refine tr tbk 3 (.mk ?_)
  refine rse rfl rfl rfl (yl_alloc 2 .any rfl z32 rfl) ?_; rintro _ _ ⟨v5, -, rfl, rfl⟩
  refine sS ⟨32, 10, true, true, v5, [(GState.av x4.1)]⟩ sh32 ?_
  refine tr tbk 5 (.mk ?_)
  refine rst rfl rfl rfl (yv_build (cs := [int 6, int 0, int 0, int 0, int 0, int 1, int 0, int 0, .sc (.slice none 0 0)]) (ps := [(0, _), (5, _)]) rfl pl38 z38 rfl (.cons rfl (.cons rfl .nil)) (by kernel_rfl)) ?_
  obtain ⟨x6, e6, h0⟩ := bind_e h0
  refine rst rfl rfl rfl (yv_callP rfl rfl (.cons rfl (.cons rfl .nil)) cal28 (.cons (.refl _) (.cons (CvL.agg (.cons (.refl _) (.cons (.refl _) (.cons (.refl _) (.cons (.refl _) (.cons (.refl _) (.cons (.refl _) (.cons (.refl _) (.cons (.refl _) (.cons (.nil _) .nil)))))))))) .nil)) (d_sell_Do_c e6)) ?_
  refine tr tbk 3 (.mk ?_)
  refine rse rfl rfl rfl (yl_alloc 3 .any rfl z32 rfl) ?_; rintro _ _ ⟨v7, -, rfl, rfl⟩
  refine sS ⟨32, 10, true, true, v7, [(GState.av x6.1)]⟩ sh32 ?_
  refine tr tbk 3 (.mk ?_)
  refine jn h0 [] [] (fun (a : Bool) (k : Unit) => [(0, boo a)]) (fun a k => []) ⟨fun j8 h1 => ?_, ?_⟩
  refine tc tbk 2 (.mk ?_)
  refine nb tbk h1 fun x9 h1 => ?_
  refine tr tbk 1 (.mk ?_)
  cases x9
  replace h1 := cf h1
  refine tr tbk 49 (.mk ?_)
  exact lf h1 () leA
  replace h1 := ct h1
  refine tr tbk 1 (.mk ?_)
  refine nb tbk h1 fun x10 h1 => ?_
  refine tr tbk 2 (.mk ?_)
  cases x10
  replace h1 := cf h1
  refine tr tbk 45 (.mk ?_)
  exact lf h1 () leA
  replace h1 := ct h1
  refine tr tbk 1 (.mk ?_)
  refine nb tbk h1 fun x11 h1 => ?_
  refine tr tbk 2 (.mk ?_)
  cases x11
  replace h1 := cf h1
  refine tr tbk 41 (.mk ?_)
  exact lf h1 () leA
  replace h1 := ct h1
  refine tr tbk 2 (.mk ?_)
  refine rst rfl rfl rfl (yv_len_sl rfl Tryz.underlying29 rfl (lst_len _)) ?_
  refine nb tbk h1 fun x12 h1 => ?_
  refine tr tbk 2 (.mk ?_)
  cases x12
  replace h1 := cf h1
  refine tr tbk 35 (.mk ?_)
  exact lf h1 () leA
  replace h1 := ct h1
  refine tr tbk 2 (.mk ?_)
  obtain ⟨x13, e13, h1⟩ := bind_e h1
  refine rst rfl rfl rfl (yv_ixT rfl Tryz.underlying29 sh64 rfl rfl e13) ?_
  refine tr tbk 2 (.mk ?_)
  refine nb tbk h1 fun x14 h1 => ?_
  refine tr tbk 2 (.mk ?_)
  cases x14
  replace h1 := cf h1
  refine tr tbk 27 (.mk ?_)
  exact lf h1 () leA
  replace h1 := ct h1
  refine tr tbk 2 (.mk ?_)
  refine rst rfl rfl rfl (yv_len_sl rfl Tryz.underlying27 rfl (lst_len _)) ?_
  refine nb tbk h1 fun x15 h1 => ?_
  refine tr tbk 2 (.mk ?_)
  cases x15
  replace h1 := cf h1
  refine tr tbk 21 (.mk ?_)
  exact lf h1 () leA
  replace h1 := ct h1
  refine tr tbk 2 (.mk ?_)
  obtain ⟨x16, e16, h1⟩ := bind_e h1
  refine rst rfl rfl rfl (yv_to (y := .pp [int x16.Now, boo x16.Closed, lst 4 GPool.av x16.Pools, lst 1 fI x16.Bal, lst 11 GRoll.av x16.Rolls, lst 1 fI x16.Prices, lst 1 fI x16.Down, lst 8 GEnt.av x16.Ahead]) (yv_ixT rfl Tryz.underlying27 sh42 rfl rfl e16) (congrArg AV.pp (GEnt.av_eq x16))) ?_
  refine tr tbk 2 (.mk ?_)
  obtain ⟨x17, e17, h1⟩ := bind_e h1
  refine rst rfl rfl rfl (yv_ixT rfl Tryz.underlying23 sh3 rfl rfl e17) ?_
  refine tr tbk 1 (.mk ?_)
  refine nb tbk h1 fun x18 h1 => ?_
  refine tr tbk 2 (.mk ?_)
  cases x18
  replace h1 := cf h1
  refine tr tbk 11 (.mk ?_)
  exact lf h1 () leA
  replace h1 := ct h1
  refine tr tbk 2 (.mk ?_)
  obtain ⟨x19, e19, h1⟩ := bind_e h1
  refine rst rfl rfl rfl (yv_to (y := .pp [int x19.Now, boo x19.Closed, lst 4 GPool.av x19.Pools, lst 1 fI x19.Bal, lst 11 GRoll.av x19.Rolls, lst 1 fI x19.Prices, lst 1 fI x19.Down, lst 8 GEnt.av x19.Ahead]) (yv_ixT rfl Tryz.underlying27 sh42 rfl rfl e19) (congrArg AV.pp (GEnt.av_eq x19))) ?_
  refine tr tbk 2 (.mk ?_)
  obtain ⟨x20, e20, h1⟩ := bind_e h1
  refine rst rfl rfl rfl (yv_ixT rfl Tryz.underlying23 sh3 rfl rfl e20) ?_
  refine tr tbk 1 (.mk ?_)
  refine nb tbk h1 fun x21 h1 => ?_
  refine tr tbk 3 (.mk ?_)
  exact lf h1 () leA
  rintro y0_1 _ h0
  obtain rfl := nxt_e h0
  refine w_ret (hret _ _ _ (.tmp rfl .nil) (fun _ _ h => h) ?_)
  exact .refl _
def d_law16_SellProfits (n : Nat) (a1 : Int) (a2 : Int) (a3 : Int) (a4 : Int) (a5 : Int) : Option (Bool) :=
(d_law00_Place a1 2).bind fun x6 =>
(d_law00_Place a2 50).bind fun x7 =>
bnd (w64 (1 + x7)) fun x8 =>
(d_law00_Place a3 3000).bind fun x9 =>
bnd (w64 (x9 - 1000)) fun x10 =>
bnd (w64 (20 * x8)) fun x11 =>
(d_law16_stocked n x6 x8 x11).bind fun x12 =>
(d_ref14_At x12 0 x6 0).bind fun x14 =>
asrt (x14.Layers.length ≤ 68719476736) <|
bnd (decide ((x14.Layers.length : Int) ≠ 1)) fun x17 =>
cond x17 (some ((false : Bool))) ((ix x14.Layers 0).bind fun x18 =>
bnd (x14.Layers.set (Int.toNat 0) ((⟨x18.Qty, x18.Value, x10⟩ : GLayer) : GLayer)) fun x19 =>
(d_ref14_Put x12 0 x6 0 (⟨x19, (⟨0, 0, 0⟩ : A3_Int)⟩ : GPool)).bind fun x20 =>
(d_law00_Place a4 x8).bind fun x21 =>
bnd (w64 (1 + x21)) fun x22 =>
(d_sell_Do n x20 (⟨4, 0, x6, 0, 0, x22, 1, 0, []⟩ : GOp)).bind fun x23 =>
(show Option (Bool) from
bnd (decide (x23.2 ≠ 0)) fun x26 =>
cond x26 (some (true : Bool)) (bnd (decide ((x23.1.Sales.length : Int) ≠ 1)) fun x27 =>
some (x27 : Bool))).bind <| fun y0_1 =>
cond y0_1 (some ((false : Bool))) ((d_law00_Place a5 x22).bind fun x28 =>
bnd (w64 (1 + x28)) fun x29 =>
(d_sell_Do n x23.1 (⟨5, 0, 0, 0, 0, x29, 1, 0, []⟩ : GOp)).bind fun x30 =>
(show Option (Bool) from
bnd (decide (x30.2 ≠ 0)) fun x33 =>
cond x33 (some (true : Bool)) (bnd (decide ((x30.1.Sales.length : Int) ≠ 1)) fun x34 =>
some (x34 : Bool))).bind <| fun y1_1 =>
cond y1_1 (some ((false : Bool))) (bnd (w64 (x10 * x22)) fun x35 =>
asrt (x8 ≠ 0) <|
bnd (w64 (x35.tdiv x8)) fun x37 =>
(ix x23.1.Sales 0).bind fun x38 =>
(ix x30.1.Sales 0).bind fun x39 =>
(show Option (Bool) from
bnd (decide (x38.Profit = x37)) fun x41 =>
cond x41 ((d_ref14_Worth n x23.1 0 x6).bind fun x42 =>
bnd (w64 (x10 - x37)) fun x43 =>
bnd (decide (x42.Profit = x43)) fun x44 =>
cond x44 (bnd (w64 (x37 * x29)) fun x45 =>
asrt (x22 ≠ 0) <|
bnd (w64 (x45.tdiv x22)) fun x47 =>
bnd (w64 (x37 - x47)) fun x48 =>
bnd (decide (x39.Profit = x48)) fun x49 =>
cond x49 ((d_ref14_Worth n x30.1 0 x6).bind fun x50 =>
bnd (w64 (x10 - x39.Profit)) fun x51 =>
bnd (decide (x50.Profit = x51)) fun x52 =>
cond x52 ((ix x30.1.Sales 0).bind fun x53 =>
bnd (w64 (x22 - x29)) fun x54 =>
bnd (w64 (20 * x54)) fun x55 =>
bnd (decide (x53.Cost = x55)) fun x56 =>
cond x56 ((d_law16_awake n).bind fun x57 =>
some (x57 : Bool)) (some (false : Bool))) (some (false : Bool))) (some (false : Bool))) (some (false : Bool))) (some (false : Bool))).bind <| fun y2_1 =>
some ((y2_1 : Bool)))))
theorem d_law16_SellProfits_c {n : Nat} {a1 : Int} {a2 : Int} {a3 : Int} {a4 : Int} {a5 : Int} {r : Bool} (h0 : d_law16_SellProfits n a1 a2 a3 a4 a5 = some r) : PP Tryz.prog 13 [int a1, int a2, int a3, int a4, int a5] (fun y => y = boo r) := by
  unfold d_law16_SellProfits at h0
  refine pp_of_pc (R0 := fun y H => Cv (frzH H) y (boo r)) ?_ (fun y H hc => ⟨_, rfl, pvB r, hc⟩)
  refine pcw (c := _) Tryz.func13 rfl rfl ?_; intro Q hret hnorm
  refine tc tbk 7 (.mk ?_)
  obtain ⟨x6, e6, h0⟩ := bind_e h0
  refine rst rfl rfl rfl (yv_callP rfl rfl (.cons rfl (.cons rfl .nil)) cal15 (CvL.refl _) (d_law00_Place_c e6)) ?_
  refine tr tbk 1 (.mk ?_)
  obtain ⟨x7, e7, h0⟩ := bind_e h0
  refine rst rfl rfl rfl (yv_callP rfl rfl (.cons rfl (.cons rfl .nil)) cal15 (CvL.refl _) (d_law00_Place_c e7)) ?_
  refine ni tbk h0 fun x8 h0 => ?_
  refine tr tbk 1 (.mk ?_)
  obtain ⟨x9, e9, h0⟩ := bind_e h0
  refine rst rfl rfl rfl (yv_callP rfl rfl (.cons rfl (.cons rfl .nil)) cal15 (CvL.refl _) (d_law00_Place_c e9)) ?_
  refine ni tbk h0 fun x10 h0 => ?_
  refine tr tbk 9 (.mk ?_)
  refine ni tbk h0 fun x11 h0 => ?_
  obtain ⟨x12, e12, h0⟩ := bind_e h0
  refine rst rfl rfl rfl (yv_callP rfl rfl (.cons rfl (.cons rfl (.cons rfl .nil))) cal29 (CvL.refl _) (d_law16_stocked_c e12)) ?_
  refine rse rfl rfl rfl (yl_alloc 1 .any rfl z32 rfl) ?_; rintro _ _ ⟨v13, -, rfl, rfl⟩
  refine sS ⟨32, 10, true, true, v13, [(GState.av x12)]⟩ sh32 ?_
  refine tr tbk 5 (.mk ?_)
  obtain ⟨x14, e14, h0⟩ := bind_e h0
  refine rst rfl rfl rfl (yv_callP rfl rfl (.cons rfl (.cons rfl (.cons rfl (.cons rfl .nil)))) cal31 (CvL.refl _) (d_ref14_At_c e14)) ?_
  refine tr tbk 1 (.mk ?_)
  obtain ⟨p15, h0⟩ := asrt_e h0
  refine rse rfl rfl rfl (yl_app0T (g := GLayer.av) (m := x14.Layers) 2 rfl Tryz.underlying66 bz46 by46 rfl rfl rfl rfl (.refl _) (fun _ => rfl) p15) ?_; rintro _ _ ⟨v16, rfl, rfl⟩
  refine tr tbk 6 (.mk ?_)
  refine rst rfl rfl rfl (yv_len_sl rfl Tryz.underlying66 rfl (.sl rfl rfl)) ?_
  refine nb tbk h0 fun x17 h0 => ?_
  refine tr tbk 1 (.mk ?_)
  cases x17
  replace h0 := cf h0
  refine tc tbk 6 (.mk ?_)
  obtain ⟨x18, e18, h0⟩ := bind_e h0
  refine rst rfl rfl rfl (yv_ixO rfl Tryz.underlying66 sh46 rfl rfl rfl rfl rfl (Eq.symm rfl) (List.length_map _) e18) ?_
  refine rst rfl rfl rfl (yv_fieldAddr rfl fo46_2 rfl (.pt rfl rfl (ix_get e18)) (.pt _ _ _ _ _)) ?_
  obtain ⟨x19, e19, h0⟩ := bnd_e h0
  have fx19 := ix_set e18 e19; have lx19 := len_setV e19 (rfl : x14.Layers.length = x14.Layers.length)
  refine rsstore rfl rfl (yl_ob (ob' := (⟨46, 3, true, true, v16, x19.map GLayer.av⟩ : AObj)) (yl_store rfl sh3 rfl rfl rfl rfl rfl (ix_get e18) rfl rfl rfl) (ob_eq (map_setV e19))) ?_
  refine tr tbk 7 (.mk ?_)
  obtain ⟨x20, e20, h0⟩ := bind_e h0
  refine rse rfl rfl rfl (Yield.frz 2 rfl (Yield.weak (yv_callP rfl rfl (.cons rfl (.cons rfl (.cons rfl (.cons rfl (.cons rfl .nil))))) cal32 (.cons (.refl _) (.cons (.refl _) (.cons (.refl _) (.cons (.refl _) (.cons (CvL.agg (.cons (cv_lst rfl rfl rfl rfl rfl (Eq.symm lx19)) (.cons (.refl _) (.cons (.refl _) (.cons (.refl _) .nil))))) .nil))))) (d_ref14_Put_c e20)) (fun _ h => h) (fun _ h => h.elim))) ?_; rintro _ _ ⟨rfl, rfl⟩
  refine sS ⟨32, 10, true, true, v13, [(GState.av x20)]⟩ sh32 ?_
  refine tr tbk 5 (.mk ?_)
  obtain ⟨x21, e21, h0⟩ := bind_e h0
  refine rst rfl rfl rfl (yv_callP rfl rfl (.cons rfl (.cons rfl .nil)) cal15 (CvL.refl _) (d_law00_Place_c e21)) ?_
  refine ni tbk h0 fun x22 h0 => ?_
  refine tr tbk 7 (.mk ?_)
  refine rst rfl rfl rfl (yv_build (cs := [int 4, int 0, int x6, int 0, int 0, int x22, int 1, int 0, .sc (.slice none 0 0)]) (ps := [(0, _), (2, _), (5, _), (6, _)]) rfl pl38 z38 rfl (.cons rfl (.cons rfl (.cons rfl (.cons rfl .nil)))) (by kernel_rfl)) ?_
  obtain ⟨x23, e23, h0⟩ := bind_e h0
  refine rst rfl rfl rfl (yv_callP rfl rfl (.cons rfl (.cons rfl .nil)) cal28 (.cons (.refl _) (.cons (CvL.agg (.cons (.refl _) (.cons (.refl _) (.cons (.refl _) (.cons (.refl _) (.cons (.refl _) (.cons (.refl _) (.cons (.refl _) (.cons (.refl _) (.cons (.nil _) .nil)))))))))) .nil)) (d_sell_Do_c e23)) ?_
  refine tr tbk 3 (.mk ?_)
  refine rse rfl rfl rfl (yl_alloc 3 .any rfl z32 rfl) ?_; rintro _ _ ⟨v24, -, rfl, rfl⟩
  refine sS ⟨32, 10, true, true, v24, [(GState.av x23.1)]⟩ sh32 ?_
  refine tr tbk 4 (.mk ?_)
  refine jn h0 [4, 10, 11, 12, 13, 16, 17] [3] (fun (a : Bool) (k : Unit) => [(74, boo a)]) (fun a k => []) ⟨fun j25 h1 => ?_, ?_⟩
  refine tc tbk 2 (.mk ?_)
  refine nb tbk h1 fun x26 h1 => ?_
  refine tr tbk 1 (.mk ?_)
  cases x26
  replace h1 := cf h1
  refine tr tbk 2 (.mk ?_)
  refine rst rfl rfl rfl (yv_len_sl rfl Tryz.underlying29 rfl (lst_len _)) ?_
  refine nb tbk h1 fun x27 h1 => ?_
  refine tr tbk 2 (.mk ?_)
  exact lf h1 () leA
  replace h1 := ct h1
  refine tr tbk 6 (.mk ?_)
  exact lf h1 () leA
  rintro y0_1 _ h0
  cases y0_1
  replace h0 := cf h0
  refine tc tbk 6 (.mk ?_)
  obtain ⟨x28, e28, h0⟩ := bind_e h0
  refine rst rfl rfl rfl (yv_callP rfl rfl (.cons rfl (.cons rfl .nil)) cal15 (CvL.refl _) (d_law00_Place_c e28)) ?_
  refine ni tbk h0 fun x29 h0 => ?_
  refine tr tbk 6 (.mk ?_)
  refine rst rfl rfl rfl (yv_build (cs := [int 5, int 0, int 0, int 0, int 0, int x29, int 1, int 0, .sc (.slice none 0 0)]) (ps := [(0, _), (5, _), (6, _)]) rfl pl38 z38 rfl (.cons rfl (.cons rfl (.cons rfl .nil))) (by kernel_rfl)) ?_
  obtain ⟨x30, e30, h0⟩ := bind_e h0
  refine rst rfl rfl rfl (yv_callP rfl rfl (.cons rfl (.cons rfl .nil)) cal28 (.cons (.refl _) (.cons (CvL.agg (.cons (.refl _) (.cons (.refl _) (.cons (.refl _) (.cons (.refl _) (.cons (.refl _) (.cons (.refl _) (.cons (.refl _) (.cons (.refl _) (.cons (.nil _) .nil)))))))))) .nil)) (d_sell_Do_c e30)) ?_
  refine tr tbk 3 (.mk ?_)
  refine rse rfl rfl rfl (yl_alloc 4 .any rfl z32 rfl) ?_; rintro _ _ ⟨v31, -, rfl, rfl⟩
  refine sS ⟨32, 10, true, true, v31, [(GState.av x30.1)]⟩ sh32 ?_
  refine tr tbk 4 (.mk ?_)
  refine jn h0 [10, 11, 12, 13, 16, 17, 19, 20] [3, 4] (fun (a : Bool) (k : Unit) => [(93, boo a)]) (fun a k => []) ⟨fun j32 h1 => ?_, ?_⟩
  refine tc tbk 2 (.mk ?_)
  refine nb tbk h1 fun x33 h1 => ?_
  refine tr tbk 1 (.mk ?_)
  cases x33
  replace h1 := cf h1
  refine tr tbk 2 (.mk ?_)
  refine rst rfl rfl rfl (yv_len_sl rfl Tryz.underlying29 rfl (lst_len _)) ?_
  refine nb tbk h1 fun x34 h1 => ?_
  refine tr tbk 2 (.mk ?_)
  exact lf h1 () leA
  replace h1 := ct h1
  refine tr tbk 6 (.mk ?_)
  exact lf h1 () leA
  rintro y1_1 _ h0
  cases y1_1
  replace h0 := cf h0
  refine tc tbk 3 (.mk ?_)
  refine c_drawE [0, 0, 3, 0, 15, 0, 32, 96, 224, 480, 0, 1024, 3072, 7168, 15360, 31, 33791, 131071] (rl [(5, [3]), (6, [3]), (10, [4]), (11, [4])] []) (fun i => [3, 4]) (fun i => true) [0, 1, 2, 3, 4, 5, 6, 7, 8, 9, 10, 11, 12, 13, 14, 15, 16, 17] mixed (by kernel_rfl) ?_; intro K hK
  iterate 2 refine eM ?_
  obtain ⟨x35, e35, h0⟩ := bnd_e h0
  refine eP (fun H hH => yv_mul rfl rfl rfl e35) ?_
  refine eM ?_
  obtain ⟨p36, h0⟩ := asrt_e h0
  obtain ⟨x37, e37, h0⟩ := bnd_e h0
  refine eP (fun H hH => yv_quo rfl rfl rfl p36 e37) ?_
  refine eF fo32_3 ?_
  refine eL sh29 ?_
  obtain ⟨x38, e38, h0⟩ := bind_e h0
  refine eP (fun H hH => yv_ixT rfl Tryz.underlying29 sh64 rfl rfl e38) ?_
  refine eP (fun H hH => yv_fieldAddr rfl fo64_6 rfl (.pp _) (.pp _ _)) ?_
  refine eP (fun H hH => yv_load rfl sh3 rfl (.pp _) rfl) ?_
  refine eF fo32_3 ?_
  refine eL sh29 ?_
  obtain ⟨x39, e39, h0⟩ := bind_e h0
  refine eP (fun H hH => yv_ixT rfl Tryz.underlying29 sh64 rfl rfl e39) ?_
  refine eP (fun H hH => yv_fieldAddr rfl fo64_6 rfl (.pp _) (.pp _ _)) ?_
  refine eP (fun H hH => yv_load rfl sh3 rfl (.pp _) rfl) ?_
  iterate 3 refine eA ?_
  refine de_nil (hK _ ?_)
  refine tc tbk 1 (.mk ?_)
  refine jn h0 [] [] (fun (a : Bool) (k : Unit) => [(10, boo a)]) (fun a k => []) ⟨fun j40 h1 => ?_, ?_⟩
  refine tc tbk 3 (.mk ?_)
  refine nb tbk h1 fun x41 h1 => ?_
  refine tr tbk 1 (.mk ?_)
  cases x41
  replace h1 := cf h1
  refine tr tbk 47 (.mk ?_)
  exact lf h1 () leA
  replace h1 := ct h1
  refine tr tbk 2 (.mk ?_)
  obtain ⟨x42, e42, h1⟩ := bind_e h1
  refine rst rfl rfl rfl (yv_callP rfl rfl (.cons rfl (.cons rfl (.cons rfl .nil))) cal18 (CvL.refl _) (d_ref14_Worth_c e42)) ?_
  refine tr tbk 3 (.mk ?_)
  refine ni tbk h1 fun x43 h1 => ?_
  refine nb tbk h1 fun x44 h1 => ?_
  refine tr tbk 2 (.mk ?_)
  cases x44
  replace h1 := cf h1
  refine tr tbk 37 (.mk ?_)
  exact lf h1 () leA
  replace h1 := ct h1
  refine tr tbk 4 (.mk ?_)
  refine ni tbk h1 fun x45 h1 => ?_
  refine tr tbk 1 (.mk ?_)
  obtain ⟨p46, h1⟩ := asrt_e h1
  obtain ⟨x47, e47, h1⟩ := bnd_e h1
  refine rst rfl rfl rfl (yv_quo rfl rfl rfl p46 e47) ?_
  refine ni tbk h1 fun x48 h1 => ?_
  refine nb tbk h1 fun x49 h1 => ?_
  refine tr tbk 2 (.mk ?_)
  cases x49
  replace h1 := cf h1
  refine tr tbk 26 (.mk ?_)
  exact lf h1 () leA
  replace h1 := ct h1
  refine tr tbk 2 (.mk ?_)
  obtain ⟨x50, e50, h1⟩ := bind_e h1
  refine rst rfl rfl rfl (yv_callP rfl rfl (.cons rfl (.cons rfl (.cons rfl .nil))) cal18 (CvL.refl _) (d_ref14_Worth_c e50)) ?_
  refine tr tbk 3 (.mk ?_)
  refine ni tbk h1 fun x51 h1 => ?_
  refine nb tbk h1 fun x52 h1 => ?_
  refine tr tbk 2 (.mk ?_)
  cases x52
  replace h1 := cf h1
  refine tr tbk 16 (.mk ?_)
  exact lf h1 () leA
  replace h1 := ct h1
  refine tr tbk 2 (.mk ?_)
  obtain ⟨x53, e53, h1⟩ := bind_e h1
  refine rst rfl rfl rfl (yv_ixT rfl Tryz.underlying29 sh64 rfl rfl e53) ?_
  refine tr tbk 4 (.mk ?_)
  refine ni tbk h1 fun x54 h1 => ?_
  refine ni tbk h1 fun x55 h1 => ?_
  refine nb tbk h1 fun x56 h1 => ?_
  refine tr tbk 2 (.mk ?_)
  cases x56
  replace h1 := cf h1
  refine tr tbk 4 (.mk ?_)
  exact lf h1 () leA
  replace h1 := ct h1
  obtain ⟨x57, e57, h1⟩ := bind_e h1
  refine rst rfl rfl rfl (yv_callP rfl rfl .nil cal30 (CvL.refl _) (d_law16_awake_c e57)) ?_
  refine tr tbk 3 (.mk ?_)
  exact lf h1 () leA
  rintro y2_1 _ h0
  obtain rfl := nxt_e h0
  refine w_ret (hret _ _ _ (.tmp rfl .nil) (fun _ _ h => h) ?_)
  exact .refl _
  replace h0 := ct h0
  refine tc tbk 5 (.mk ?_)
  obtain rfl := nxt_e h0
  refine w_ret (hret _ _ _ (.tmp rfl .nil) (fun _ _ h => h) ?_)
  exact .refl _
  replace h0 := ct h0
  refine tc tbk 5 (.mk ?_)
  obtain rfl := nxt_e h0
  refine w_ret (hret _ _ _ (.tmp rfl .nil) (fun _ _ h => h) ?_)
  exact .refl _
  replace h0 := ct h0
  refine tc tbk 5 (.mk ?_)
  obtain rfl := nxt_e h0
  refine w_ret (hret _ _ _ (.tmp rfl .nil) (fun _ _ h => h) ?_)
  exact .refl _
end Go.Pv
