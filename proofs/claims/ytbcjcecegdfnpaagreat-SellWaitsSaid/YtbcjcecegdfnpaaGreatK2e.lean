import Derived.Test.YtbcjcecegdfnpaaGreatK2d
set_option linter.unusedVariables false
namespace Go.Pv
open Go.Proofs
set_option maxRecDepth 10000
set_option maxHeartbeats 1000000
def d_sell_Do (n : Nat) (a1 : GState) (a2 : GOp) : Option (GState × Int) :=
(show Option ((GOp × GSale) ⊕ (GState × Int)) from
bnd (decide (a2.Kind = 5)) fun x8 =>
cond x8 ((show Option (Bool) from
bnd (decide (a2.Ref < 0)) fun x12 =>
cond x12 (some (true : Bool)) (bnd (decide (a2.Ref ≥ (a1.Sales.length : Int))) fun x13 =>
some (x13 : Bool))).bind <| fun y0_1 =>
cond y0_1 (esc (some ((a1 : GState), (4 : Int)))) ((ix a1.Sales a2.Ref).bind fun x14 =>
brk (((⟨a2.Kind, x14.Entity, x14.Item, x14.Loc, a2.To, a2.Qty, a2.Amount, a2.Ref, a2.Refs⟩ : GOp) : GOp), (x14 : GSale)))) (bnd (decide (a2.Kind = 4)) fun x9 =>
cond x9 (brk ((a2 : GOp), ((⟨0, 0, 0, 0, 0, 0, 0, 0, false⟩ : GSale) : GSale))) (esc (some ((a1 : GState), (1 : Int)))))).bind <| sel <| p2 fun (y1_1 : GOp) (y1_2 : GSale) =>
(d_stock_Ready a1 y1_1.E y1_1.Item).bind fun x16 =>
bnd (decide (x16 ≠ 0)) fun x17 =>
cond x17 (some ((a1 : GState), (x16 : Int))) ((show Option (Int × GState) from
bnd (decide (y1_1.Kind = 4)) fun x20 =>
cond x20 ((d_sell_sell n a1 y1_1).bind fun x29 =>
some ((x29.2 : Int), (x29.1 : GState))) (bnd (w64 (y1_2.Qty - y1_2.Back)) fun x21 =>
bnd (decide (y1_1.Qty > x21)) fun x22 =>
cond x22 (some ((5 : Int), (a1 : GState))) ((show Option (Bool) from
bnd y1_2.Waits fun x24 =>
cond x24 ((ix a1.Ents y1_1.E).bind fun x25 =>
bnd (decide (y1_2.Period = x25.Now)) fun x26 =>
some (x26 : Bool)) (some (false : Bool))).bind <| fun y2_1 =>
cond y2_1 ((d_sell_unsell n a1 y1_1).bind fun x28 =>
some ((x28.2 : Int), (x28.1 : GState))) ((d_sell_back n a1 y1_1 y1_2).bind fun x27 =>
some ((x27.2 : Int), (x27.1 : GState)))))).bind <| p2 fun (y3_1 : Int) (y3_2 : GState) =>
bnd (decide (y3_1 ≠ 0)) fun x30 =>
cond x30 (some ((a1 : GState), (y3_1 : Int))) (some ((y3_2 : GState), (0 : Int))))
theorem d_sell_Do_c {n : Nat} {a1 : GState} {a2 : GOp} {r : GState × Int} (h0 : d_sell_Do n a1 a2 = some r) : PP Tryz.prog 28 [.agg (GState.av a1), .agg (GOp.av a2)] (fun y => y = .tup [.agg (GState.av r.1), int r.2]) := by
  unfold d_sell_Do at h0
  refine pp_of_pc (R0 := fun y H => Cv (frzH H) y (.tup [.agg (GState.av r.1), int r.2])) ?_ (fun y H hc => ⟨_, rfl, .tup (pvl2 ((fun (a : GState) => PV.agg (GState.pvc a)) (r.1)) (pvI (r.2))), hc⟩)
  refine pcw (c := _) Tryz.func28 rfl rfl ?_; intro Q hret hnorm
  refine tc tbk 2 (.mk ?_)
  refine rse rfl rfl rfl (yl_box 1 .any rfl rfl rfl) ?_; rintro _ _ ⟨v3, -, rfl, rfl⟩
  refine rse rfl rfl rfl (yl_box 2 .any rfl rfl rfl) ?_; rintro _ _ ⟨v4, -, rfl, rfl⟩
  refine rse rfl rfl rfl (yl_alloc 3 .any rfl z32 rfl) ?_; rintro _ _ ⟨v5, -, rfl, rfl⟩
  refine tr tbk 4 (.mk ?_)
  refine rse rfl rfl rfl (yl_alloc 4 .any rfl z64 rfl) ?_; rintro _ _ ⟨v6, -, rfl, rfl⟩
  refine tr tbk 11 (.mk ?_)
  refine jnE h0 [2, 3, 4, 5, 6] [1, 3] (fun (a : GOp × GSale) (k : Unit) => []) (fun a k => [(2, ⟨38, 9, true, true, v4, [[int a.1.Kind, int a.1.E, int a.1.Item, int a.1.Loc, int a.1.To, int a.1.Qty, int a.1.Amount, int a.1.Ref, lst 1 fI a.1.Refs]]⟩), (4, ⟨64, 9, true, true, v6, [[int a.2.Entity, int a.2.Item, int a.2.Loc, int a.2.Qty, int a.2.Back, int a.2.Cost, int a.2.Profit, int a.2.Period, boo a.2.Waits]]⟩)]) ⟨fun j7 h1 h0 => ?_, ?_⟩
  refine tc tbk 7 (.mk ?_)
  refine nb tbk h1 fun x8 h1 => ?_
  refine tr tbk 2 (.mk ?_)
  cases x8
  replace h1 := cf h1
  refine tc tbk 4 (.mk ?_)
  refine nb tbk h1 fun x9 h1 => ?_
  refine tr tbk 2 (.mk ?_)
  cases x9
  replace h1 := cf h1
  refine tc tbk 2 (.mk ?_)
  obtain ⟨c10, hX, hj⟩ := esc_e h1; subst hj; replace h0 := hX.trans (sel_r h0)
  refine tc tbk 5 (.mk ?_)
  refine sS ⟨32, 10, true, true, v5, [[int a1.Master.Entities, int a1.Master.Periods, lst 1 fI a1.Master.Weights, lst 1 (fL 1 fI) a1.Master.Methods, lst 1 (fL 1 fI) a1.Master.Costs, lst 8 GEnt.av a1.Ents, lst 8 GReceipt.av a1.Receipts, lst 9 GSale.av a1.Sales, lst 6 GTransit.av a1.Transits, int a1.Done]]⟩ sh32 ?_
  refine tr tbk 2 (.mk ?_)
  obtain rfl := nxt_e h0
  refine w_ret (hret _ _ _ (.cell rfl (.pt rfl rfl rfl) sh32 rfl (.tmp rfl .nil)) (fun _ _ h => h) ?_)
  exact .refl _
  replace h1 := ct h1
  refine tc tbk 2 (.mk ?_)
  exact lfE h1 () leA
  replace h1 := ct h1
  refine tc tbk 4 (.mk ?_)
  refine jn h1 [2, 3, 4, 5, 6] [1, 2, 3, 4] (fun (a : Bool) (k : Unit) => [(26, boo a)]) (fun a k => []) ⟨fun j11 h2 => ?_, ?_⟩
  refine tc tbk 3 (.mk ?_)
  refine nb tbk h2 fun x12 h2 => ?_
  refine tr tbk 1 (.mk ?_)
  cases x12
  replace h2 := cf h2
  refine tr tbk 4 (.mk ?_)
  refine rst rfl rfl rfl (yv_len_sl rfl Tryz.underlying29 rfl (lst_len _)) ?_
  refine nb tbk h2 fun x13 h2 => ?_
  refine tr tbk 2 (.mk ?_)
  exact lf h2 () leA
  replace h2 := ct h2
  refine tr tbk 8 (.mk ?_)
  exact lf h2 () leA
  rintro y0_1 _ h1
  cases y0_1
  replace h1 := cf h1
  refine tc tbk 8 (.mk ?_)
  obtain ⟨x14, e14, h1⟩ := bind_e h1
  refine rst rfl rfl rfl (yv_ixT rfl Tryz.underlying29 sh64 rfl rfl e14) ?_
  refine tr tbk 1 (.mk ?_)
  refine sS ⟨64, 9, true, true, v6, [[int x14.Entity, int x14.Item, int x14.Loc, int x14.Qty, int x14.Back, int x14.Cost, int x14.Profit, int x14.Period, boo x14.Waits]]⟩ sh64 ?_
  refine tr tbk 1 (.mk ?_)
  refine c_drawE [0, 1, 0, 4, 0, 16, 3, 67, 207, 463, 1023, 2047] (rl [(0, [4]), (1, [4]), (2, [4]), (3, [4]), (4, [4]), (5, [4]), (6, [2]), (8, [2]), (10, [2])] []) (rl [(7, [4]), (9, [4]), (11, [])] [2, 4]) (rl [(7, false), (9, false), (11, false)] true) [0, 1, 2, 3, 4, 5, 6, 7, 8, 9, 10, 11] mixed (by kernel_rfl) ?_; intro K hK
  refine eF fo64_0 ?_
  refine eL sh3 ?_
  refine eF fo64_1 ?_
  refine eL sh3 ?_
  refine eF fo64_2 ?_
  refine eL sh3 ?_
  refine eF fo38_1 ?_
  refine de_eff0 rfl rfl rfl rfl (Yield.weak (yl_ob (ob' := (⟨38, 9, true, true, v4, [[int a2.Kind, int x14.Entity, int a2.Item, int a2.Loc, int a2.To, int a2.Qty, int a2.Amount, int a2.Ref, lst 1 fI a2.Refs]]⟩ : AObj)) (yl_store rfl sh3 rfl rfl rfl rfl rfl rfl rfl rfl rfl) rfl) (fun _ h => h) (fun _ _ => trivial)) (by rintro _ _ ⟨rfl, rfl⟩; exact ⟨rfl, trivial⟩) ?_; rintro _ _ ⟨rfl, rfl⟩
  refine eF fo38_2 ?_
  refine de_eff0 rfl rfl rfl rfl (Yield.weak (yl_ob (ob' := (⟨38, 9, true, true, v4, [[int a2.Kind, int x14.Entity, int x14.Item, int a2.Loc, int a2.To, int a2.Qty, int a2.Amount, int a2.Ref, lst 1 fI a2.Refs]]⟩ : AObj)) (yl_store rfl sh3 rfl rfl rfl rfl rfl rfl rfl rfl rfl) rfl) (fun _ h => h) (fun _ _ => trivial)) (by rintro _ _ ⟨rfl, rfl⟩; exact ⟨rfl, trivial⟩) ?_; rintro _ _ ⟨rfl, rfl⟩
  refine eF fo38_3 ?_
  refine de_eff0 rfl rfl rfl rfl (Yield.weak (yl_ob (ob' := (⟨38, 9, true, true, v4, [[int a2.Kind, int x14.Entity, int x14.Item, int x14.Loc, int a2.To, int a2.Qty, int a2.Amount, int a2.Ref, lst 1 fI a2.Refs]]⟩ : AObj)) (yl_store rfl sh3 rfl rfl rfl rfl rfl rfl rfl rfl rfl) rfl) (fun _ h => h) (fun _ _ => trivial)) (by rintro _ _ ⟨rfl, rfl⟩; exact trivial) ?_; rintro _ _ ⟨rfl, rfl⟩
  refine de_nil (hK _ ?_)
  refine tc tbk 1 (.mk ?_)
  exact lfE h1 () leA
  replace h1 := ct h1
  refine tc tbk 4 (.mk ?_)
  refine sS ⟨32, 10, true, true, v5, [[int a1.Master.Entities, int a1.Master.Periods, lst 1 fI a1.Master.Weights, lst 1 (fL 1 fI) a1.Master.Methods, lst 1 (fL 1 fI) a1.Master.Costs, lst 8 GEnt.av a1.Ents, lst 8 GReceipt.av a1.Receipts, lst 9 GSale.av a1.Sales, lst 6 GTransit.av a1.Transits, int a1.Done]]⟩ sh32 ?_
  refine tr tbk 2 (.mk ?_)
  obtain ⟨c15, hX, hj⟩ := esc_e h1; subst hj; replace h0 := hX.trans (sel_r h0)
  obtain rfl := nxt_e h0
  refine w_ret (hret _ _ _ (.cell rfl (.pt rfl rfl rfl) sh32 rfl (.tmp rfl .nil)) (fun _ _ h => h) ?_)
  exact .refl _
  rintro ⟨y1_1, y1_2⟩ _ h0
  replace h0 := p2_e h0
  refine tc tbk 8 (.mk ?_)
  obtain ⟨x16, e16, h0⟩ := bind_e h0
  refine rst rfl rfl rfl (yv_callP rfl rfl (.cons rfl (.cons rfl (.cons rfl .nil))) cal37 (CvL.refl _) (d_stock_Ready_c e16)) ?_
  refine tr tbk 5 (.mk ?_)
  refine nb tbk h0 fun x17 h0 => ?_
  refine tr tbk 1 (.mk ?_)
  cases x17
  replace h0 := cf h0
  refine tc tbk 6 (.mk ?_)
  refine rse rfl rfl rfl (yl_alloc 5 .any rfl z32 rfl) ?_; rintro _ _ ⟨v18, -, rfl, rfl⟩
  refine sS ⟨32, 10, true, true, v18, [[int a1.Master.Entities, int a1.Master.Periods, lst 1 fI a1.Master.Weights, lst 1 (fL 1 fI) a1.Master.Methods, lst 1 (fL 1 fI) a1.Master.Costs, lst 8 GEnt.av a1.Ents, lst 8 GReceipt.av a1.Receipts, lst 9 GSale.av a1.Sales, lst 6 GTransit.av a1.Transits, int a1.Done]]⟩ sh32 ?_
  refine tr tbk 3 (.mk ?_)
  refine jn h0 [2, 4, 5, 8] [1, 3] (fun (a : Int × GState) (k : Unit) => [(9, int a.1)]) (fun a k => [(5, ⟨32, 10, true, true, v18, [[int a.2.Master.Entities, int a.2.Master.Periods, lst 1 fI a.2.Master.Weights, lst 1 (fL 1 fI) a.2.Master.Methods, lst 1 (fL 1 fI) a.2.Master.Costs, lst 8 GEnt.av a.2.Ents, lst 8 GReceipt.av a.2.Receipts, lst 9 GSale.av a.2.Sales, lst 6 GTransit.av a.2.Transits, int a.2.Done]]⟩)]) ⟨fun j19 h1 => ?_, ?_⟩
  refine tc tbk 5 (.mk ?_)
  refine nb tbk h1 fun x20 h1 => ?_
  refine tr tbk 2 (.mk ?_)
  cases x20
  replace h1 := cf h1
  refine tc tbk 9 (.mk ?_)
  refine ni tbk h1 fun x21 h1 => ?_
  refine nb tbk h1 fun x22 h1 => ?_
  refine tr tbk 2 (.mk ?_)
  cases x22
  replace h1 := cf h1
  refine tc tbk 2 (.mk ?_)
  refine jn h1 [2, 3, 4, 5, 6, 8, 9] [1, 2, 3, 4, 5] (fun (a : Bool) (k : Unit) => [(81, boo a)]) (fun a k => []) ⟨fun j23 h2 => ?_, ?_⟩
  refine c_drawE [0, 1, 3, 7, 15, 7, 39, 7, 135, 487, 999, 2023, 4095, 8191, 16383] (rl [(0, [4]), (1, [4]), (3, [4]), (4, [4]), (5, [1]), (6, [1]), (7, [2]), (8, [2])] []) (fun i => [1, 2, 4]) (fun i => true) [0, 1, 2, 3, 4, 5, 6, 7, 8, 9, 10, 11, 12, 13, 14] mixed (by kernel_rfl) ?_; intro K hK
  refine eF fo64_8 ?_
  refine eL sh4 ?_
  obtain ⟨x24, e24, h2⟩ := bnd_e h2
  refine eP (fun H hH => yv_to (y := boo x24) (yv_move rfl rfl) (congrArg boo e24)) ?_
  cases x24
  replace h2 := cf h2
  refine de_skip rfl rfl rfl ?_
  refine de_skip rfl rfl rfl ?_
  refine de_skip rfl rfl rfl ?_
  refine de_skip rfl rfl rfl ?_
  refine de_skip rfl rfl rfl ?_
  refine de_skip rfl rfl rfl ?_
  refine de_skip rfl rfl rfl ?_
  refine de_skip rfl rfl rfl ?_
  refine de_skip rfl rfl rfl ?_
  refine de_skip rfl rfl rfl ?_
  refine eP (fun H hH => yv_pick rfl rfl (fun _ => rfl) (fun _ => rfl) rfl) ?_
  refine eA ?_
  refine de_nil (hK _ ?_)
  exact lf h2 () leA
  replace h2 := ct h2
  refine eF fo64_7 ?_
  refine eL sh3 ?_
  refine eF fo32_1 ?_
  refine eL sh27 ?_
  refine eF fo38_1 ?_
  refine eL sh3 ?_
  obtain ⟨x25, e25, h2⟩ := bind_e h2
  refine eP (fun H hH => yv_to (y := .pp [int x25.Now, boo x25.Closed, lst 4 GPool.av x25.Pools, lst 1 fI x25.Bal, lst 11 GRoll.av x25.Rolls, lst 1 fI x25.Prices, lst 1 fI x25.Down, lst 8 GEnt.av x25.Ahead]) (yv_ixT rfl Tryz.underlying27 sh42 rfl rfl e25) (congrArg AV.pp (GEnt.av_eq x25))) ?_
  refine eP (fun H hH => yv_fieldAddr rfl fo42_0 rfl (.pp _) (.pp _ _)) ?_
  refine eP (fun H hH => yv_load rfl sh3 rfl (.pp _) rfl) ?_
  obtain ⟨x26, e26, h2⟩ := bnd_e h2
  refine eP (fun H hH => yv_to (y := boo x26) (yv_eql rfl rfl rfl) (congrArg boo e26)) ?_
  refine eP (fun H hH => yv_pick rfl rfl (fun _ => rfl) (fun _ => rfl) rfl) ?_
  refine eA ?_
  refine de_nil (hK _ ?_)
  exact lf h2 () leA
  rintro y2_1 _ h1
  cases y2_1
  replace h1 := cf h1
  refine tc tbk 5 (.mk ?_)
  obtain ⟨x27, e27, h1⟩ := bind_e h1
  refine rst rfl rfl rfl (yv_callP rfl rfl (.cons rfl (.cons rfl (.cons rfl .nil))) cal63 (CvL.refl _) (d_sell_back_c e27)) ?_
  refine tr tbk 3 (.mk ?_)
  refine sS ⟨32, 10, true, true, v18, [[int x27.1.Master.Entities, int x27.1.Master.Periods, lst 1 fI x27.1.Master.Weights, lst 1 (fL 1 fI) x27.1.Master.Methods, lst 1 (fL 1 fI) x27.1.Master.Costs, lst 8 GEnt.av x27.1.Ents, lst 8 GReceipt.av x27.1.Receipts, lst 9 GSale.av x27.1.Sales, lst 6 GTransit.av x27.1.Transits, int x27.1.Done]]⟩ sh32 ?_
  refine tr tbk 3 (.mk ?_)
  exact lf h1 () leA
  replace h1 := ct h1
  refine tc tbk 4 (.mk ?_)
  obtain ⟨x28, e28, h1⟩ := bind_e h1
  refine rst rfl rfl rfl (yv_callP rfl rfl (.cons rfl (.cons rfl .nil)) cal62 (CvL.refl _) (d_sell_unsell_c e28)) ?_
  refine tr tbk 3 (.mk ?_)
  refine sS ⟨32, 10, true, true, v18, [[int x28.1.Master.Entities, int x28.1.Master.Periods, lst 1 fI x28.1.Master.Weights, lst 1 (fL 1 fI) x28.1.Master.Methods, lst 1 (fL 1 fI) x28.1.Master.Costs, lst 8 GEnt.av x28.1.Ents, lst 8 GReceipt.av x28.1.Receipts, lst 9 GSale.av x28.1.Sales, lst 6 GTransit.av x28.1.Transits, int x28.1.Done]]⟩ sh32 ?_
  refine tr tbk 3 (.mk ?_)
  exact lf h1 () leA
  replace h1 := ct h1
  refine tc tbk 5 (.mk ?_)
  exact lf h1 () leA
  replace h1 := ct h1
  refine tc tbk 4 (.mk ?_)
  obtain ⟨x29, e29, h1⟩ := bind_e h1
  refine rst rfl rfl rfl (yv_callP rfl rfl (.cons rfl (.cons rfl .nil)) cal61 (CvL.refl _) (d_sell_sell_c e29)) ?_
  refine tr tbk 3 (.mk ?_)
  refine sS ⟨32, 10, true, true, v18, [[int x29.1.Master.Entities, int x29.1.Master.Periods, lst 1 fI x29.1.Master.Weights, lst 1 (fL 1 fI) x29.1.Master.Methods, lst 1 (fL 1 fI) x29.1.Master.Costs, lst 8 GEnt.av x29.1.Ents, lst 8 GReceipt.av x29.1.Receipts, lst 9 GSale.av x29.1.Sales, lst 6 GTransit.av x29.1.Transits, int x29.1.Done]]⟩ sh32 ?_
  refine tr tbk 3 (.mk ?_)
  exact lf h1 () leA
  rintro ⟨y3_1, y3_2⟩ _ h0
  replace h0 := p2_e h0
  refine tc tbk 4 (.mk ?_)
  refine nb tbk h0 fun x30 h0 => ?_
  refine tr tbk 1 (.mk ?_)
  cases x30
  replace h0 := cf h0
  refine tc tbk 5 (.mk ?_)
  refine sS ⟨32, 10, true, true, v5, [[int y3_2.Master.Entities, int y3_2.Master.Periods, lst 1 fI y3_2.Master.Weights, lst 1 (fL 1 fI) y3_2.Master.Methods, lst 1 (fL 1 fI) y3_2.Master.Costs, lst 8 GEnt.av y3_2.Ents, lst 8 GReceipt.av y3_2.Receipts, lst 9 GSale.av y3_2.Sales, lst 6 GTransit.av y3_2.Transits, int y3_2.Done]]⟩ sh32 ?_
  refine tr tbk 2 (.mk ?_)
  obtain rfl := nxt_e h0
  refine w_ret (hret _ _ _ (.cell rfl (.pt rfl rfl rfl) sh32 rfl (.tmp rfl .nil)) (fun _ _ h => h) ?_)
  exact .refl _
  replace h0 := ct h0
  refine tc tbk 5 (.mk ?_)
  refine sS ⟨32, 10, true, true, v5, [[int a1.Master.Entities, int a1.Master.Periods, lst 1 fI a1.Master.Weights, lst 1 (fL 1 fI) a1.Master.Methods, lst 1 (fL 1 fI) a1.Master.Costs, lst 8 GEnt.av a1.Ents, lst 8 GReceipt.av a1.Receipts, lst 9 GSale.av a1.Sales, lst 6 GTransit.av a1.Transits, int a1.Done]]⟩ sh32 ?_
  refine tr tbk 2 (.mk ?_)
  obtain rfl := nxt_e h0
  refine w_ret (hret _ _ _ (.cell rfl (.pt rfl rfl rfl) sh32 rfl (.tmp rfl .nil)) (fun _ _ h => h) ?_)
  exact .refl _
  replace h0 := ct h0
  refine tc tbk 5 (.mk ?_)
  refine sS ⟨32, 10, true, true, v5, [[int a1.Master.Entities, int a1.Master.Periods, lst 1 fI a1.Master.Weights, lst 1 (fL 1 fI) a1.Master.Methods, lst 1 (fL 1 fI) a1.Master.Costs, lst 8 GEnt.av a1.Ents, lst 8 GReceipt.av a1.Receipts, lst 9 GSale.av a1.Sales, lst 6 GTransit.av a1.Transits, int a1.Done]]⟩ sh32 ?_
  refine tr tbk 2 (.mk ?_)
  obtain rfl := nxt_e h0
  refine w_ret (hret _ _ _ (.cell rfl (.pt rfl rfl rfl) sh32 rfl (.tmp rfl .nil)) (fun _ _ h => h) ?_)
  exact .refl _
def d_ref14_Worth (n : Nat) (a1 : GState) (a2 : Int) (a3 : Int) : Option (GLayer) :=
(d_ref14_worth n a1 a2 a3).bind fun x6 =>
some ((x6.1 : GLayer))
theorem d_ref14_Worth_c {n : Nat} {a1 : GState} {a2 : Int} {a3 : Int} {r : GLayer} (h0 : d_ref14_Worth n a1 a2 a3 = some r) : PP Tryz.prog 18 [.agg (GState.av a1), int a2, int a3] (fun y => y = .agg (GLayer.av r)) := by
  unfold d_ref14_Worth at h0
  refine pp_of_pc (R0 := fun y H => Cv (frzH H) y (.agg (GLayer.av r))) ?_ (fun y H hc => ⟨_, rfl, (fun (a : GLayer) => PV.agg (GLayer.pvc a)) r, hc⟩)
  refine pcw (c := _) Tryz.func18 rfl rfl ?_; intro Q hret hnorm
  refine tc tbk 2 (.mk ?_)
  refine rse rfl rfl rfl (yl_box 1 .any rfl rfl rfl) ?_; rintro _ _ ⟨v4, -, rfl, rfl⟩
  refine rse rfl rfl rfl (yl_alloc 2 .any rfl z46 rfl) ?_; rintro _ _ ⟨v5, -, rfl, rfl⟩
  refine tr tbk 6 (.mk ?_)
  obtain ⟨x6, e6, h0⟩ := bind_e h0
  refine rst rfl rfl rfl (yv_callP rfl rfl (.cons rfl (.cons rfl (.cons rfl .nil))) cal47 (CvL.refl _) (d_ref14_worth_c e6)) ?_
  refine tr tbk 3 (.mk ?_)
  refine rse rfl rfl rfl (yl_alloc 3 .any rfl z46 rfl) ?_; rintro _ _ ⟨v7, -, rfl, rfl⟩
  refine sS ⟨46, 3, true, true, v7, [[int x6.1.Qty, int x6.1.Value, int x6.1.Profit]]⟩ sh46 ?_
  refine tr tbk 5 (.mk ?_)
  refine sS ⟨46, 3, true, true, v5, [[int x6.1.Qty, int x6.1.Value, int x6.1.Profit]]⟩ sh46 ?_
  refine tr tbk 1 (.mk ?_)
  obtain rfl := nxt_e h0
  refine w_ret (hret _ _ _ (.cell rfl (.pt rfl rfl rfl) sh46 rfl .nil) (fun _ _ h => h) ?_)
  exact .refl _
def d_law16_awake (n : Nat)  : Option (Bool) :=
(d_law16_stocked n 0 10 100).bind fun x1 =>
(d_sell_Do n x1 (⟨4, 0, 0, 0, 0, 3, 50, 0, []⟩ : GOp)).bind fun x2 =>
(d_sell_Do n x2.1 (⟨5, 0, 0, 0, 0, 3, 50, 0, []⟩ : GOp)).bind fun x4 =>
(d_sell_Do n x2.1 (⟨6, 0, 0, 0, 0, 1, 0, 0, []⟩ : GOp)).bind fun x6 =>
(show Option (Bool) from
bnd (decide (x2.2 = 0)) fun x9 =>
cond x9 (bnd (decide (x4.2 = 0)) fun x10 =>
cond x10 (bnd (decide (x6.2 = 1)) fun x11 =>
cond x11 (bnd (decide ((x2.1.Sales.length : Int) = 1)) fun x12 =>
cond x12 ((ix x2.1.Sales 0).bind fun x13 =>
bnd (decide (x13.Cost = 30)) fun x14 =>
cond x14 (bnd (decide ((x4.1.Ents.length : Int) = 2)) fun x15 =>
cond x15 ((ix x4.1.Ents 0).bind fun x16 =>
(ix x16.Bal 5).bind fun x17 =>
bnd (decide (x17 = 0)) fun x18 =>
cond x18 ((ix x4.1.Ents 0).bind fun x19 =>
(ix x19.Bal 0).bind fun x20 =>
bnd (decide (x20 = 100)) fun x21 =>
some (x21 : Bool)) (some (false : Bool))) (some (false : Bool))) (some (false : Bool))) (some (false : Bool))) (some (false : Bool))) (some (false : Bool))) (some (false : Bool))).bind <| fun y0_1 =>
some ((y0_1 : Bool))
theorem d_law16_awake_c {n : Nat}  {r : Bool} (h0 : d_law16_awake n  = some r) : PP Tryz.prog 30 [] (fun y => y = boo r) := by
  unfold d_law16_awake at h0
  refine pp_of_pc (R0 := fun y H => Cv (frzH H) y (boo r)) ?_ (fun y H hc => ⟨_, rfl, pvB r, hc⟩)
  refine pcw (c := _) Tryz.func30 rfl rfl ?_; intro Q hret hnorm
  refine tc tbk 6 (.mk ?_)
  obtain ⟨x1, e1, h0⟩ := bind_e h0
  refine rst rfl rfl rfl (yv_callP rfl rfl (.cons rfl (.cons rfl (.cons rfl .nil))) cal29 (CvL.refl _) (d_law16_stocked_c e1)) ?_
  refine rst rfl rfl rfl (yv_build (cs := [int 4, int 0, int 0, int 0, int 0, int 3, int 50, int 0, .sc (.slice none 0 0)]) (ps := [(0, _), (5, _), (6, _)]) rfl pl38 z38 rfl (.cons rfl (.cons rfl (.cons rfl .nil))) (by kernel_rfl)) ?_
  obtain ⟨x2, e2, h0⟩ := bind_e h0
  refine rst rfl rfl rfl (yv_callP rfl rfl (.cons rfl (.cons rfl .nil)) cal28 (.cons (.refl _) (.cons (CvL.agg (.cons (.refl _) (.cons (.refl _) (.cons (.refl _) (.cons (.refl _) (.cons (.refl _) (.cons (.refl _) (.cons (.refl _) (.cons (.refl _) (.cons (.nil _) .nil)))))))))) .nil)) (d_sell_Do_c e2)) ?_
  refine tr tbk 3 (.mk ?_)
  refine rse rfl rfl rfl (yl_alloc 1 .any rfl z32 rfl) ?_; rintro _ _ ⟨v3, -, rfl, rfl⟩
  refine sS ⟨32, 10, true, true, v3, [[int x2.1.Master.Entities, int x2.1.Master.Periods, lst 1 fI x2.1.Master.Weights, lst 1 (fL 1 fI) x2.1.Master.Methods, lst 1 (fL 1 fI) x2.1.Master.Costs, lst 8 GEnt.av x2.1.Ents, lst 8 GReceipt.av x2.1.Receipts, lst 9 GSale.av x2.1.Sales, lst 6 GTransit.av x2.1.Transits, int x2.1.Done]]⟩ sh32 ?_
  refine tr tbk 5 (.mk ?_)
  refine rst rfl rfl rfl (yv_build (cs := [int 5, int 0, int 0, int 0, int 0, int 3, int 50, int 0, .sc (.slice none 0 0)]) (ps := [(0, _), (5, _), (6, _)]) rfl pl38 z38 rfl (.cons rfl (.cons rfl (.cons rfl .nil))) (by kernel_rfl)) ?_
  obtain ⟨x4, e4, h0⟩ := bind_e h0
  refine rst rfl rfl rfl (yv_callP rfl rfl (.cons rfl (.cons rfl .nil)) cal28 (.cons (.refl _) (.cons (CvL.agg (.cons (.refl _) (.cons (.refl _) (.cons (.refl _) (.cons (.refl _) (.cons (.refl _) (.cons (.refl _) (.cons (.refl _) (.cons (.refl _) (.cons (.nil _) .nil)))))))))) .nil)) (d_sell_Do_c e4)) ?_
  refine tr tbk 3 (.mk ?_)
  refine rse rfl rfl rfl (yl_alloc 2 .any rfl z32 rfl) ?_; rintro _ _ ⟨v5, -, rfl, rfl⟩
  refine sS ⟨32, 10, true, true, v5, [[int x4.1.Master.Entities, int x4.1.Master.Periods, lst 1 fI x4.1.Master.Weights, lst 1 (fL 1 fI) x4.1.Master.Methods, lst 1 (fL 1 fI) x4.1.Master.Costs, lst 8 GEnt.av x4.1.Ents, lst 8 GReceipt.av x4.1.Receipts, lst 9 GSale.av x4.1.Sales, lst 6 GTransit.av x4.1.Transits, int x4.1.Done]]⟩ sh32 ?_
  refine tr tbk 5 (.mk ?_)
  refine rst rfl rfl rfl (yv_build (cs := [int 6, int 0, int 0, int 0, int 0, int 1, int 0, int 0, .sc (.slice none 0 0)]) (ps := [(0, _), (5, _)]) rfl pl38 z38 rfl (.cons rfl (.cons rfl .nil)) (by kernel_rfl)) ?_
  obtain ⟨x6, e6, h0⟩ := bind_e h0
  refine rst rfl rfl rfl (yv_callP rfl rfl (.cons rfl (.cons rfl .nil)) cal28 (.cons (.refl _) (.cons (CvL.agg (.cons (.refl _) (.cons (.refl _) (.cons (.refl _) (.cons (.refl _) (.cons (.refl _) (.cons (.refl _) (.cons (.refl _) (.cons (.refl _) (.cons (.nil _) .nil)))))))))) .nil)) (d_sell_Do_c e6)) ?_
  refine tr tbk 3 (.mk ?_)
  refine rse rfl rfl rfl (yl_alloc 3 .any rfl z32 rfl) ?_; rintro _ _ ⟨v7, -, rfl, rfl⟩
  refine sS ⟨32, 10, true, true, v7, [[int x6.1.Master.Entities, int x6.1.Master.Periods, lst 1 fI x6.1.Master.Weights, lst 1 (fL 1 fI) x6.1.Master.Methods, lst 1 (fL 1 fI) x6.1.Master.Costs, lst 8 GEnt.av x6.1.Ents, lst 8 GReceipt.av x6.1.Receipts, lst 9 GSale.av x6.1.Sales, lst 6 GTransit.av x6.1.Transits, int x6.1.Done]]⟩ sh32 ?_
  refine tr tbk 3 (.mk ?_)
  refine jn h0 [] [] (fun (a : Bool) (k : Unit) => [(0, boo a)]) (fun a k => []) ⟨fun j8 h1 => ?_, ?_⟩
  refine tc tbk 2 (.mk ?_)
  refine nb tbk h1 fun x9 h1 => ?_
  refine tr tbk 1 (.mk ?_)
  cases x9
  replace h1 := cf h1
  refine tr tbk 49 (.mk ?_)
  exact lf h1 () leA
  replace h1 := ct h1
  refine tr tbk 1 (.mk ?_)
  refine nb tbk h1 fun x10 h1 => ?_
  refine tr tbk 2 (.mk ?_)
  cases x10
  replace h1 := cf h1
  refine tr tbk 45 (.mk ?_)
  exact lf h1 () leA
  replace h1 := ct h1
  refine tr tbk 1 (.mk ?_)
  refine nb tbk h1 fun x11 h1 => ?_
  refine tr tbk 2 (.mk ?_)
  cases x11
  replace h1 := cf h1
  refine tr tbk 41 (.mk ?_)
  exact lf h1 () leA
  replace h1 := ct h1
  refine tr tbk 2 (.mk ?_)
  refine rst rfl rfl rfl (yv_len_sl rfl Tryz.underlying29 rfl (lst_len _)) ?_
  refine nb tbk h1 fun x12 h1 => ?_
  refine tr tbk 2 (.mk ?_)
  cases x12
  replace h1 := cf h1
  refine tr tbk 35 (.mk ?_)
  exact lf h1 () leA
  replace h1 := ct h1
  refine tr tbk 2 (.mk ?_)
  obtain ⟨x13, e13, h1⟩ := bind_e h1
  refine rst rfl rfl rfl (yv_ixT rfl Tryz.underlying29 sh64 rfl rfl e13) ?_
  refine tr tbk 2 (.mk ?_)
  refine nb tbk h1 fun x14 h1 => ?_
  refine tr tbk 2 (.mk ?_)
  cases x14
  replace h1 := cf h1
  refine tr tbk 27 (.mk ?_)
  exact lf h1 () leA
  replace h1 := ct h1
  refine tr tbk 2 (.mk ?_)
  refine rst rfl rfl rfl (yv_len_sl rfl Tryz.underlying27 rfl (lst_len _)) ?_
  refine nb tbk h1 fun x15 h1 => ?_
  refine tr tbk 2 (.mk ?_)
  cases x15
  replace h1 := cf h1
  refine tr tbk 21 (.mk ?_)
  exact lf h1 () leA
  replace h1 := ct h1
  refine tr tbk 2 (.mk ?_)
  obtain ⟨x16, e16, h1⟩ := bind_e h1
  refine rst rfl rfl rfl (yv_to (y := .pp [int x16.Now, boo x16.Closed, lst 4 GPool.av x16.Pools, lst 1 fI x16.Bal, lst 11 GRoll.av x16.Rolls, lst 1 fI x16.Prices, lst 1 fI x16.Down, lst 8 GEnt.av x16.Ahead]) (yv_ixT rfl Tryz.underlying27 sh42 rfl rfl e16) (congrArg AV.pp (GEnt.av_eq x16))) ?_
  refine tr tbk 2 (.mk ?_)
  obtain ⟨x17, e17, h1⟩ := bind_e h1
  refine rst rfl rfl rfl (yv_ixT rfl Tryz.underlying23 sh3 rfl rfl e17) ?_
  refine tr tbk 1 (.mk ?_)
  refine nb tbk h1 fun x18 h1 => ?_
  refine tr tbk 2 (.mk ?_)
  cases x18
  replace h1 := cf h1
  refine tr tbk 11 (.mk ?_)
  exact lf h1 () leA
  replace h1 := ct h1
  refine tr tbk 2 (.mk ?_)
  obtain ⟨x19, e19, h1⟩ := bind_e h1
  refine rst rfl rfl rfl (yv_to (y := .pp [int x19.Now, boo x19.Closed, lst 4 GPool.av x19.Pools, lst 1 fI x19.Bal, lst 11 GRoll.av x19.Rolls, lst 1 fI x19.Prices, lst 1 fI x19.Down, lst 8 GEnt.av x19.Ahead]) (yv_ixT rfl Tryz.underlying27 sh42 rfl rfl e19) (congrArg AV.pp (GEnt.av_eq x19))) ?_
  refine tr tbk 2 (.mk ?_)
  obtain ⟨x20, e20, h1⟩ := bind_e h1
  refine rst rfl rfl rfl (yv_ixT rfl Tryz.underlying23 sh3 rfl rfl e20) ?_
  refine tr tbk 1 (.mk ?_)
  refine nb tbk h1 fun x21 h1 => ?_
  refine tr tbk 3 (.mk ?_)
  exact lf h1 () leA
  rintro y0_1 _ h0
  obtain rfl := nxt_e h0
  refine w_ret (hret _ _ _ (.tmp rfl .nil) (fun _ _ h => h) ?_)
  exact .refl _
def d_law16_SellWaits (n : Nat) (a1 : Int) (a2 : Int) : Option (Bool) :=
(d_law00_Place a1 200).bind fun x3 =>
bnd (w64 (1 + x3)) fun x4 =>
(d_law00_Place a2 x4).bind fun x5 =>
bnd (w64 (1 + x5)) fun x6 =>
bnd (w64 (5 * x4)) fun x7 =>
(d_law16_stocked n 2 x4 x7).bind fun x8 =>
(d_sell_Do n x8 (⟨4, 0, 2, 0, 0, x6, 9, 0, []⟩ : GOp)).bind fun x9 =>
bnd (w64 (x4 - x6)) fun x11 =>
bnd (w64 (x11 + 1)) fun x12 =>
(d_sell_Do n x9.1 (⟨4, 0, 2, 0, 0, x12, 9, 0, []⟩ : GOp)).bind fun x13 =>
(show Option (Bool) from
bnd (decide (x9.2 ≠ 0)) fun x16 =>
cond x16 (some (true : Bool)) (bnd (decide ((x9.1.Sales.length : Int) ≠ 1)) fun x17 =>
cond x17 (some (true : Bool)) (bnd (decide ((x9.1.Ents.length : Int) ≠ 2)) fun x18 =>
some (x18 : Bool)))).bind <| fun y0_1 =>
cond y0_1 (some ((false : Bool))) ((d_ref14_At x9.1 0 2 0).bind fun x19 =>
(show Option (Bool) from
bnd (decide (x13.2 = 5)) fun x22 =>
cond x22 ((ix x9.1.Sales 0).bind fun x23 =>
bnd x23.Waits fun x24 =>
cond x24 ((ix x9.1.Sales 0).bind fun x25 =>
bnd (decide (x25.Cost = 0)) fun x26 =>
cond x26 (bnd (decide (x19.Pend.a0 = x6)) fun x27 =>
cond x27 ((ix x9.1.Ents 0).bind fun x28 =>
(ix x28.Bal 0).bind fun x29 =>
bnd (w64 (5 * x4)) fun x30 =>
bnd (decide (x29 = x30)) fun x31 =>
cond x31 ((ix x9.1.Ents 0).bind fun x32 =>
(ix x32.Bal 5).bind fun x33 =>
bnd (decide (x33 = 0)) fun x34 =>
cond x34 ((d_ref14_Worth n x9.1 0 2).bind fun x35 =>
bnd (decide (x35.Qty = x4)) fun x36 =>
cond x36 ((d_law16_awake n).bind fun x37 =>
some (x37 : Bool)) (some (false : Bool))) (some (false : Bool))) (some (false : Bool))) (some (false : Bool))) (some (false : Bool))) (some (false : Bool))) (some (false : Bool))).bind <| fun y1_1 =>
some ((y1_1 : Bool)))
theorem d_law16_SellWaits_c {n : Nat} {a1 : Int} {a2 : Int} {r : Bool} (h0 : d_law16_SellWaits n a1 a2 = some r) : PP Tryz.prog 11 [int a1, int a2] (fun y => y = boo r) := by
  unfold d_law16_SellWaits at h0
  refine pp_of_pc (R0 := fun y H => Cv (frzH H) y (boo r)) ?_ (fun y H hc => ⟨_, rfl, pvB r, hc⟩)
  refine pcw (c := _) Tryz.func11 rfl rfl ?_; intro Q hret hnorm
  refine tc tbk 7 (.mk ?_)
  obtain ⟨x3, e3, h0⟩ := bind_e h0
  refine rst rfl rfl rfl (yv_callP rfl rfl (.cons rfl (.cons rfl .nil)) cal15 (CvL.refl _) (d_law00_Place_c e3)) ?_
  refine ni tbk h0 fun x4 h0 => ?_
  refine tr tbk 6 (.mk ?_)
  obtain ⟨x5, e5, h0⟩ := bind_e h0
  refine rst rfl rfl rfl (yv_callP rfl rfl (.cons rfl (.cons rfl .nil)) cal15 (CvL.refl _) (d_law00_Place_c e5)) ?_
  refine ni tbk h0 fun x6 h0 => ?_
  refine tr tbk 6 (.mk ?_)
  refine ni tbk h0 fun x7 h0 => ?_
  obtain ⟨x8, e8, h0⟩ := bind_e h0
  refine rst rfl rfl rfl (yv_callP rfl rfl (.cons rfl (.cons rfl (.cons rfl .nil))) cal29 (CvL.refl _) (d_law16_stocked_c e8)) ?_
  refine tr tbk 1 (.mk ?_)
  refine rst rfl rfl rfl (yv_build (cs := [int 4, int 0, int 2, int 0, int 0, int x6, int 9, int 0, .sc (.slice none 0 0)]) (ps := [(0, _), (2, _), (5, _), (6, _)]) rfl pl38 z38 rfl (.cons rfl (.cons rfl (.cons rfl (.cons rfl .nil)))) (by kernel_rfl)) ?_
  obtain ⟨x9, e9, h0⟩ := bind_e h0
  refine rst rfl rfl rfl (yv_callP rfl rfl (.cons rfl (.cons rfl .nil)) cal28 (.cons (.refl _) (.cons (CvL.agg (.cons (.refl _) (.cons (.refl _) (.cons (.refl _) (.cons (.refl _) (.cons (.refl _) (.cons (.refl _) (.cons (.refl _) (.cons (.refl _) (.cons (.nil _) .nil)))))))))) .nil)) (d_sell_Do_c e9)) ?_
  refine tr tbk 3 (.mk ?_)
  refine rse rfl rfl rfl (yl_alloc 1 .any rfl z32 rfl) ?_; rintro _ _ ⟨v10, -, rfl, rfl⟩
  refine sS ⟨32, 10, true, true, v10, [[int x9.1.Master.Entities, int x9.1.Master.Periods, lst 1 fI x9.1.Master.Weights, lst 1 (fL 1 fI) x9.1.Master.Methods, lst 1 (fL 1 fI) x9.1.Master.Costs, lst 8 GEnt.av x9.1.Ents, lst 8 GReceipt.av x9.1.Receipts, lst 9 GSale.av x9.1.Sales, lst 6 GTransit.av x9.1.Transits, int x9.1.Done]]⟩ sh32 ?_
  refine tr tbk 7 (.mk ?_)
  refine ni tbk h0 fun x11 h0 => ?_
  refine ni tbk h0 fun x12 h0 => ?_
  refine rst rfl rfl rfl (yv_build (cs := [int 4, int 0, int 2, int 0, int 0, int x12, int 9, int 0, .sc (.slice none 0 0)]) (ps := [(0, _), (2, _), (5, _), (6, _)]) rfl pl38 z38 rfl (.cons rfl (.cons rfl (.cons rfl (.cons rfl .nil)))) (by kernel_rfl)) ?_
  obtain ⟨x13, e13, h0⟩ := bind_e h0
  refine rst rfl rfl rfl (yv_callP rfl rfl (.cons rfl (.cons rfl .nil)) cal28 (.cons (.refl _) (.cons (CvL.agg (.cons (.refl _) (.cons (.refl _) (.cons (.refl _) (.cons (.refl _) (.cons (.refl _) (.cons (.refl _) (.cons (.refl _) (.cons (.refl _) (.cons (.nil _) .nil)))))))))) .nil)) (d_sell_Do_c e13)) ?_
  refine tr tbk 3 (.mk ?_)
  refine rse rfl rfl rfl (yl_alloc 2 .any rfl z32 rfl) ?_; rintro _ _ ⟨v14, -, rfl, rfl⟩
  refine sS ⟨32, 10, true, true, v14, [[int x13.1.Master.Entities, int x13.1.Master.Periods, lst 1 fI x13.1.Master.Weights, lst 1 (fL 1 fI) x13.1.Master.Methods, lst 1 (fL 1 fI) x13.1.Master.Costs, lst 8 GEnt.av x13.1.Ents, lst 8 GReceipt.av x13.1.Receipts, lst 9 GSale.av x13.1.Sales, lst 6 GTransit.av x13.1.Transits, int x13.1.Done]]⟩ sh32 ?_
  refine tr tbk 4 (.mk ?_)
  refine jn h0 [4, 5, 6, 7, 10] [1] (fun (a : Bool) (k : Unit) => [(52, boo a)]) (fun a k => []) ⟨fun j15 h1 => ?_, ?_⟩
  refine tc tbk 2 (.mk ?_)
  refine nb tbk h1 fun x16 h1 => ?_
  refine tr tbk 1 (.mk ?_)
  cases x16
  replace h1 := cf h1
  refine tr tbk 2 (.mk ?_)
  refine rst rfl rfl rfl (yv_len_sl rfl Tryz.underlying29 rfl (lst_len _)) ?_
  refine nb tbk h1 fun x17 h1 => ?_
  refine tr tbk 2 (.mk ?_)
  cases x17
  replace h1 := cf h1
  refine tr tbk 2 (.mk ?_)
  refine rst rfl rfl rfl (yv_len_sl rfl Tryz.underlying27 rfl (lst_len _)) ?_
  refine nb tbk h1 fun x18 h1 => ?_
  refine tr tbk 2 (.mk ?_)
  exact lf h1 () leA
  replace h1 := ct h1
  refine tr tbk 6 (.mk ?_)
  exact lf h1 () leA
  replace h1 := ct h1
  refine tr tbk 12 (.mk ?_)
  exact lf h1 () leA
  rintro y0_1 _ h0
  cases y0_1
  replace h0 := cf h0
  refine tc tbk 5 (.mk ?_)
  obtain ⟨x19, e19, h0⟩ := bind_e h0
  refine rst rfl rfl rfl (yv_callP rfl rfl (.cons rfl (.cons rfl (.cons rfl (.cons rfl .nil)))) cal31 (CvL.refl _) (d_ref14_At_c e19)) ?_
  refine rse rfl rfl rfl (yl_alloc 3 .any rfl z69 rfl) ?_; rintro _ _ ⟨v20, -, rfl, rfl⟩
  refine sS ⟨69, 4, true, true, v20, [[lst 3 GLayer.av x19.Layers, int x19.Pend.a0, int x19.Pend.a1, int x19.Pend.a2]]⟩ sh69 ?_
  refine tr tbk 2 (.mk ?_)
  refine jn h0 [] [] (fun (a : Bool) (k : Unit) => [(4, boo a)]) (fun a k => []) ⟨fun j21 h1 => ?_, ?_⟩
  refine tc tbk 2 (.mk ?_)
  refine nb tbk h1 fun x22 h1 => ?_
  refine tr tbk 1 (.mk ?_)
  cases x22
  replace h1 := cf h1
  refine tr tbk 55 (.mk ?_)
  exact lf h1 () leA
  replace h1 := ct h1
  refine tr tbk 2 (.mk ?_)
  obtain ⟨x23, e23, h1⟩ := bind_e h1
  refine rst rfl rfl rfl (yv_ixT rfl Tryz.underlying29 sh64 rfl rfl e23) ?_
  refine tr tbk 4 (.mk ?_)
  obtain ⟨x24, e24, h1⟩ := bnd_e h1
  refine rsas 62 (boo x24) rfl (congrArg boo e24) ?_
  refine rsas 63 (boo x24) rfl (congrArg boo e24) ?_
  refine rsas 64 (boo x24) rfl (congrArg boo e24) ?_
  cases x24
  replace h1 := cf h1
  refine tr tbk 48 (.mk ?_)
  exact lf h1 () leA
  replace h1 := ct h1
  refine tr tbk 2 (.mk ?_)
  obtain ⟨x25, e25, h1⟩ := bind_e h1
  refine rst rfl rfl rfl (yv_ixT rfl Tryz.underlying29 sh64 rfl rfl e25) ?_
  refine tr tbk 2 (.mk ?_)
  refine nb tbk h1 fun x26 h1 => ?_
  refine tr tbk 2 (.mk ?_)
  cases x26
  replace h1 := cf h1
  refine tr tbk 40 (.mk ?_)
  exact lf h1 () leA
  replace h1 := ct h1
  refine tr tbk 1 (.mk ?_)
  refine rst rfl rfl rfl (yv_to (y := .pt 3 v20 0 1) (yv_indexAddrA rfl Tryz.underlying67 sh3 rfl rfl rfl rfl rfl (by decide)) rfl) ?_
  refine tr tbk 2 (.mk ?_)
  refine nb tbk h1 fun x27 h1 => ?_
  refine tr tbk 2 (.mk ?_)
  cases x27
  replace h1 := cf h1
  refine tr tbk 33 (.mk ?_)
  exact lf h1 () leA
  replace h1 := ct h1
  refine tr tbk 2 (.mk ?_)
  obtain ⟨x28, e28, h1⟩ := bind_e h1
  refine rst rfl rfl rfl (yv_to (y := .pp [int x28.Now, boo x28.Closed, lst 4 GPool.av x28.Pools, lst 1 fI x28.Bal, lst 11 GRoll.av x28.Rolls, lst 1 fI x28.Prices, lst 1 fI x28.Down, lst 8 GEnt.av x28.Ahead]) (yv_ixT rfl Tryz.underlying27 sh42 rfl rfl e28) (congrArg AV.pp (GEnt.av_eq x28))) ?_
  refine tr tbk 2 (.mk ?_)
  obtain ⟨x29, e29, h1⟩ := bind_e h1
  refine rst rfl rfl rfl (yv_ixT rfl Tryz.underlying23 sh3 rfl rfl e29) ?_
  refine tr tbk 2 (.mk ?_)
  refine ni tbk h1 fun x30 h1 => ?_
  refine nb tbk h1 fun x31 h1 => ?_
  refine tr tbk 2 (.mk ?_)
  cases x31
  replace h1 := cf h1
  refine tr tbk 21 (.mk ?_)
  exact lf h1 () leA
  replace h1 := ct h1
  refine tr tbk 2 (.mk ?_)
  obtain ⟨x32, e32, h1⟩ := bind_e h1
  refine rst rfl rfl rfl (yv_to (y := .pp [int x32.Now, boo x32.Closed, lst 4 GPool.av x32.Pools, lst 1 fI x32.Bal, lst 11 GRoll.av x32.Rolls, lst 1 fI x32.Prices, lst 1 fI x32.Down, lst 8 GEnt.av x32.Ahead]) (yv_ixT rfl Tryz.underlying27 sh42 rfl rfl e32) (congrArg AV.pp (GEnt.av_eq x32))) ?_
  refine tr tbk 2 (.mk ?_)
  obtain ⟨x33, e33, h1⟩ := bind_e h1
  refine rst rfl rfl rfl (yv_ixT rfl Tryz.underlying23 sh3 rfl rfl e33) ?_
  refine tr tbk 1 (.mk ?_)
  refine nb tbk h1 fun x34 h1 => ?_
  refine tr tbk 2 (.mk ?_)
  cases x34
  replace h1 := cf h1
  refine tr tbk 11 (.mk ?_)
  exact lf h1 () leA
  replace h1 := ct h1
  refine tr tbk 1 (.mk ?_)
  obtain ⟨x35, e35, h1⟩ := bind_e h1
  refine rst rfl rfl rfl (yv_callP rfl rfl (.cons rfl (.cons rfl (.cons rfl .nil))) cal18 (CvL.refl _) (d_ref14_Worth_c e35)) ?_
  refine tr tbk 2 (.mk ?_)
  refine nb tbk h1 fun x36 h1 => ?_
  refine tr tbk 2 (.mk ?_)
  cases x36
  replace h1 := cf h1
  refine tr tbk 4 (.mk ?_)
  exact lf h1 () leA
  replace h1 := ct h1
  obtain ⟨x37, e37, h1⟩ := bind_e h1
  refine rst rfl rfl rfl (yv_callP rfl rfl .nil cal30 (CvL.refl _) (d_law16_awake_c e37)) ?_
  refine tr tbk 3 (.mk ?_)
  exact lf h1 () leA
  rintro y1_1 _ h0
  obtain rfl := nxt_e h0
  refine w_ret (hret _ _ _ (.tmp rfl .nil) (fun _ _ h => h) ?_)
  exact .refl _
  replace h0 := ct h0
  refine tc tbk 5 (.mk ?_)
  obtain rfl := nxt_e h0
  refine w_ret (hret _ _ _ (.tmp rfl .nil) (fun _ _ h => h) ?_)
  exact .refl _
end Go.Pv
