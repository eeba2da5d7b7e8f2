import Derived.Test.YtbcjcecegdfnpaaGreatK6c
set_option linter.unusedVariables false
namespace Go.Pv
open Go.Proofs
set_option maxRecDepth 10000
set_option maxHeartbeats 1000000
def d_match_Do (n : Nat) (a1 : GState) (a2 : GOp) : Option (GState × Int) :=
(show Option (Bool) from
bnd (decide (a2.Kind ≠ 2)) fun x7 =>
cond x7 (bnd (decide (a2.Kind ≠ 3)) fun x8 =>
some (x8 : Bool)) (some (false : Bool))).bind <| fun y0_1 =>
cond y0_1 (some ((a1 : GState), (1 : Int))) ((show Option (Bool) from
bnd (decide (a2.Ref < 0)) fun x10 =>
cond x10 (some (true : Bool)) (bnd (decide (a2.Ref ≥ (a1.Receipts.length : Int))) fun x11 =>
some (x11 : Bool))).bind <| fun y1_1 =>
cond y1_1 (some ((a1 : GState), (4 : Int))) ((ix a1.Receipts a2.Ref).bind fun x12 =>
(d_stock_Ready a1 x12.Entity x12.Item).bind fun x14 =>
bnd (decide (x14 ≠ 0)) fun x15 =>
cond x15 (some ((a1 : GState), (x14 : Int))) (bnd (decide (a2.Kind = 3)) fun x16 =>
cond x16 ((show Option ((GState × Int × GReceipt)) from
bnd (w64 (x12.Qty - x12.Back)) fun x41 =>
bnd (decide (a2.Qty > x41)) fun x42 =>
cond x42 (some ((a1 : GState), (5 : Int), (x12 : GReceipt))) ((show Option (Bool) from
bnd (decide (x12.Open > 0)) fun x44 =>
cond x44 (bnd (decide (x12.Open < a2.Qty)) fun x45 =>
some (x45 : Bool)) (some (false : Bool))).bind <| fun y3_1 =>
cond y3_1 (some ((a1 : GState), (9 : Int), (x12 : GReceipt))) ((d_stock_Fetch n a1 x12.Entity x12.Item x12.Loc 3 a2.Qty).bind fun x46 =>
bnd x46.2.2.1 fun x48 =>
bnd (decide (x46.2.2.2 ≠ 0)) fun x49 =>
cond x49 (some ((x46.1 : GState), (x46.2.2.2 : Int), (x12 : GReceipt))) ((d_match_due_paid n x12 a2.Qty).bind fun x50 =>
bnd (decide (x12.Open > 0)) fun x51 =>
(show Option (Int × Int × GReceipt) from
cond x51 ((d_match_Due n x12 a2.Qty).bind fun x53 =>
bnd (w64 (x12.Open - a2.Qty)) fun x54 =>
bnd (w64 (x12.Accrued - x53)) fun x55 =>
some ((x53 : Int), (1 : Int), ((⟨x12.Entity, x12.Item, x12.Loc, x12.Qty, x12.Value, x54, x55, x12.Back⟩ : GReceipt) : GReceipt))) (some ((x50 : Int), (2 : Int), (x12 : GReceipt)))).bind <| p2 fun (y4_1 : Int) (q0 : Int × GReceipt) => (p2 fun (y4_2 : Int) (y4_3 : GReceipt) =>
bnd (w64 (y4_3.Back + a2.Qty)) fun x56 =>
(d_match_line y4_2 y4_1).bind fun x57 =>
bnd (w64 (x46.2.1.Value - y4_1)) fun x58 =>
(d_match_line 6 x58).bind fun x59 =>
bnd (w64 (0 - x46.2.1.Value)) fun x60 =>
(d_match_line 0 x60).bind fun x61 =>
(d_stock_Post n x46.1 y4_3.Entity ([x57, x59, x61] : List GLine)).bind fun x62 =>
bnd (decide (x62.2 ≠ 0)) fun x63 =>
cond x63 (some ((x62.1 : GState), (x62.2 : Int), ((⟨y4_3.Entity, y4_3.Item, y4_3.Loc, y4_3.Qty, y4_3.Value, y4_3.Open, y4_3.Accrued, x56⟩ : GReceipt) : GReceipt))) ((d_stock_Turn x62.1 y4_3.Entity y4_3.Item (⟨0, 0, 0, 0, 0, 0, 0, x46.2.1.Value, 0, 0, 0⟩ : GRoll)).bind fun x64 =>
some ((x64.1 : GState), (x64.2 : Int), ((⟨y4_3.Entity, y4_3.Item, y4_3.Loc, y4_3.Qty, y4_3.Value, y4_3.Open, y4_3.Accrued, x56⟩ : GReceipt) : GReceipt)))) q0)))).bind <| p2 fun (y2_1 : GState) (q0 : Int × GReceipt) => (p2 fun (y2_2 : Int) (y2_3 : GReceipt) =>
bnd (decide (y2_2 ≠ 0)) fun x66 =>
cond x66 (some ((a1 : GState), (y2_2 : Int))) (asrt (y2_1.Receipts.length ≤ 68719476736) <|
(ix y2_1.Receipts a2.Ref).bind fun x69 =>
bnd (y2_1.Receipts.set (Int.toNat a2.Ref) (y2_3 : GReceipt)) fun x70 =>
some (((⟨y2_1.Master, y2_1.Ents, x70, y2_1.Sales, y2_1.Transits, y2_1.Done⟩ : GState) : GState), (0 : Int)))) q0) ((show Option ((GState × Int × GReceipt)) from
bnd (decide (a2.Qty > x12.Open)) fun x21 =>
cond x21 (some ((a1 : GState), (5 : Int), (x12 : GReceipt))) ((d_match_Due n x12 a2.Qty).bind fun x22 =>
(d_match_line 1 x22).bind fun x23 =>
bnd (w64 (a2.Amount - x22)) fun x24 =>
(d_match_line 6 x24).bind fun x25 =>
bnd (w64 (0 - a2.Amount)) fun x26 =>
(d_match_line 2 x26).bind fun x27 =>
(d_stock_Post n a1 x12.Entity ([x23, x25, x27] : List GLine)).bind fun x28 =>
bnd (w64 (x12.Open - a2.Qty)) fun x29 =>
bnd (w64 (x12.Accrued - x22)) fun x30 =>
some ((x28.1 : GState), (x28.2 : Int), ((⟨x12.Entity, x12.Item, x12.Loc, x12.Qty, x12.Value, x29, x30, x12.Back⟩ : GReceipt) : GReceipt)))).bind <| p2 fun (y2_1 : GState) (q0 : Int × GReceipt) => (p2 fun (y2_2 : Int) (y2_3 : GReceipt) =>
bnd (decide (y2_2 ≠ 0)) fun x32 =>
cond x32 (some ((a1 : GState), (y2_2 : Int))) (asrt (y2_1.Receipts.length ≤ 68719476736) <|
(ix y2_1.Receipts a2.Ref).bind fun x35 =>
bnd (y2_1.Receipts.set (Int.toNat a2.Ref) (y2_3 : GReceipt)) fun x36 =>
some (((⟨y2_1.Master, y2_1.Ents, x36, y2_1.Sales, y2_1.Transits, y2_1.Done⟩ : GState) : GState), (0 : Int)))) q0))))
theorem d_match_Do_c {n : Nat} {a1 : GState} {a2 : GOp} {r : GState × Int} (h0 : d_match_Do n a1 a2 = some r) : PP Tryz.prog 26 [.agg (GState.av a1), .agg (GOp.av a2)] (fun y => y = .tup [.agg (GState.av r.1), int r.2]) := by
  unfold d_match_Do at h0
  refine pp_of_pc (R0 := fun y H => Cv (frzH H) y (.tup [.agg (GState.av r.1), int r.2])) ?_ (fun y H hc => ⟨_, rfl, .tup (pvl2 ((fun (a : GState) => PV.agg (GState.pvc a)) (r.1)) (pvI (r.2))), hc⟩)
  refine pcw (c := _) Tryz.func26 rfl rfl ?_; intro Q hret hnorm
  refine tc tbk 2 (.mk ?_)
  refine rse rfl rfl rfl (yl_box 1 .any rfl rfl rfl) ?_; rintro _ _ ⟨v3, -, rfl, rfl⟩
  refine rse rfl rfl rfl (yl_box 2 .any rfl rfl rfl) ?_; rintro _ _ ⟨v4, -, rfl, rfl⟩
  refine rse rfl rfl rfl (yl_alloc 3 .any rfl z32 rfl) ?_; rintro _ _ ⟨v5, -, rfl, rfl⟩
  refine tr tbk 4 (.mk ?_)
  refine jn h0 [2, 3, 4, 5] [1, 2, 3] (fun (a : Bool) (k : Unit) => [(18, boo a)]) (fun a k => []) ⟨fun j6 h1 => ?_, ?_⟩
  refine tc tbk 3 (.mk ?_)
  refine nb tbk h1 fun x7 h1 => ?_
  refine tr tbk 1 (.mk ?_)
  cases x7
  replace h1 := cf h1
  refine tr tbk 5 (.mk ?_)
  exact lf h1 () leA
  replace h1 := ct h1
  refine tr tbk 2 (.mk ?_)
  refine nb tbk h1 fun x8 h1 => ?_
  refine tr tbk 2 (.mk ?_)
  exact lf h1 () leA
  rintro y0_1 _ h0
  cases y0_1
  replace h0 := cf h0
  refine tc tbk 4 (.mk ?_)
  refine jn h0 [2, 3, 4, 5] [1, 2, 3] (fun (a : Bool) (k : Unit) => [(30, boo a)]) (fun a k => []) ⟨fun j9 h1 => ?_, ?_⟩
  refine tc tbk 3 (.mk ?_)
  refine nb tbk h1 fun x10 h1 => ?_
  refine tr tbk 1 (.mk ?_)
  cases x10
  replace h1 := cf h1
  refine tr tbk 4 (.mk ?_)
  refine rst rfl rfl rfl (yv_len_sl rfl Tryz.underlying28 rfl (lst_len _)) ?_
  refine nb tbk h1 fun x11 h1 => ?_
  refine tr tbk 2 (.mk ?_)
  exact lf h1 () leA
  replace h1 := ct h1
  refine tr tbk 8 (.mk ?_)
  exact lf h1 () leA
  rintro y1_1 _ h0
  cases y1_1
  replace h0 := cf h0
  refine tc tbk 8 (.mk ?_)
  obtain ⟨x12, e12, h0⟩ := bind_e h0
  refine rst rfl rfl rfl (yv_ixT rfl Tryz.underlying28 sh44 rfl rfl e12) ?_
  refine tr tbk 1 (.mk ?_)
  refine rse rfl rfl rfl (yl_alloc 4 .any rfl z44 rfl) ?_; rintro _ _ ⟨v13, -, rfl, rfl⟩
  refine sS ⟨44, 8, true, true, v13, [[int x12.Entity, int x12.Item, int x12.Loc, int x12.Qty, int x12.Value, int x12.Open, int x12.Accrued, int x12.Back]]⟩ sh44 ?_
  refine tr tbk 9 (.mk ?_)
  obtain ⟨x14, e14, h0⟩ := bind_e h0
  refine rst rfl rfl rfl (yv_callP rfl rfl (.cons rfl (.cons rfl (.cons rfl .nil))) cal37 (CvL.refl _) (d_stock_Ready_c e14)) ?_
  refine tr tbk 5 (.mk ?_)
  refine nb tbk h0 fun x15 h0 => ?_
  refine tr tbk 1 (.mk ?_)
  cases x15
  replace h0 := cf h0
  refine tc tbk 11 (.mk ?_)
  refine nb tbk h0 fun x16 h0 => ?_
  refine tr tbk 1 (.mk ?_)
  cases x16
  replace h0 := cf h0
  refine tc tbk 7 (.mk ?_)
  obtain ⟨j17, h1, h0⟩ := bind_e h0
  refine rse (Out := fun y H' => (∃ (a : GState × Int × GReceipt) (k : Unit), a = j17 ∧ y = .tup [.agg [int a.1.Master.Entities, int a.1.Master.Periods, lst 1 fI a.1.Master.Weights, lst 1 (fL 1 fI) a.1.Master.Methods, lst 1 (fL 1 fI) a.1.Master.Costs, lst 8 GEnt.av a.1.Ents, lst 8 GReceipt.av a.1.Receipts, lst 9 GSale.av a.1.Sales, lst 6 GTransit.av a.1.Transits, int a.1.Done], int a.2.1] ∧ H' = hk [(1, ⟨32, 10, true, true, v3, [[int a1.Master.Entities, int a1.Master.Periods, lst 1 fI a1.Master.Weights, lst 1 (fL 1 fI) a1.Master.Methods, lst 1 (fL 1 fI) a1.Master.Costs, lst 8 GEnt.av a1.Ents, lst 8 GReceipt.av a1.Receipts, lst 9 GSale.av a1.Sales, lst 6 GTransit.av a1.Transits, int a1.Done]]⟩), (2, ⟨38, 9, true, true, v4, [[int a2.Kind, int a2.E, int a2.Item, int a2.Loc, int a2.To, int a2.Qty, int a2.Amount, int a2.Ref, lst 1 fI a2.Refs]]⟩), (3, ⟨32, 10, true, true, v5, [[int 0, int 0, .sc (.slice none 0 0), .sc (.slice none 0 0), .sc (.slice none 0 0), .sc (.slice none 0 0), .sc (.slice none 0 0), .sc (.slice none 0 0), .sc (.slice none 0 0), int 0]]⟩), (4, ⟨44, 8, true, true, v13, [[int a.2.2.Entity, int a.2.2.Item, int a.2.2.Loc, int a.2.2.Qty, int a.2.2.Value, int a.2.2.Open, int a.2.2.Accrued, int a.2.2.Back]]⟩)])) rfl rfl rfl (yl_call rfl rfl (.cons rfl (.cons rfl (.cons rfl .nil))) cal55 ?_) ?_
  refine pcw (c := _) Tryz.func55 rfl rfl ?_; intro Q hret hnorm
  refine tc tbk 2 (.mk ?_)
  refine rse rfl rfl rfl (yl_box 5 .any rfl rfl rfl) ?_; rintro _ _ ⟨v18, -, rfl, rfl⟩
  refine rse rfl rfl rfl (yl_box 6 .any rfl rfl rfl) ?_; rintro _ _ ⟨v19, -, rfl, rfl⟩
  refine rse rfl rfl rfl (yl_alloc 7 .any rfl z32 rfl) ?_; rintro _ _ ⟨v20, -, rfl, rfl⟩
  refine tr tbk 4 (.mk ?_)
  refine c_drawE [0, 1, 0, 4, 12, 28, 63] (rl [(0, [6]), (1, [6]), (3, [4]), (4, [4]), (5, [4])] []) (fun i => [4, 6]) (fun i => true) [0, 1, 2, 3, 4, 5, 6] mixed (by kernel_rfl) ?_; intro K hK
  refine eF fo38_5 ?_
  refine eL sh3 ?_
  refine eM ?_
  refine eN ?_
  refine eF fo44_5 ?_
  refine eL sh3 ?_
  obtain ⟨x21, e21, h1⟩ := bnd_e h1
  refine eP (fun H hH => yv_to (y := boo x21) (yv_gtr rfl rfl rfl) (congrArg boo e21)) ?_
  refine de_nil (hK _ ?_)
  cases x21
  replace h1 := cf h1
  refine tc tbk 3 (.mk ?_)
  refine c_drawE [0, 1, 3, 0, 8, 31, 63] (rl [(1, [4]), (2, [4]), (3, [6]), (4, [6])] []) (fun i => [4, 6]) (fun i => true) [0, 1, 2, 3, 4, 5, 6] mixed (by kernel_rfl) ?_; intro K hK
  refine eM ?_
  refine eN ?_
  refine eL sh44 ?_
  refine eF fo38_5 ?_
  refine eL sh3 ?_
  obtain ⟨x22, e22, h1⟩ := bind_e h1
  refine eP (fun H hH => yv_callP rfl rfl (.cons rfl (.cons rfl .nil)) cal22 (CvL.refl _) (d_match_Due_c e22)) ?_
  refine eA ?_
  refine de_nil (hK _ ?_)
  refine tc tbk 1 (.mk ?_)
  refine c_drawE [0, 0, 2, 6, 14, 0, 32, 0, 128, 0, 896, 2016, 0, 4096, 12288, 32736, 65504, 131071, 262143, 524287, 524287, 1048575, 4194303] (rl [(0, [5]), (2, [4]), (3, [4]), (4, [4]), (7, [6]), (8, [6]), (12, [6]), (13, [6])] []) (rl [(21, [])] [4, 5, 6]) (rl [(21, false)] true) [0, 1, 2, 3, 4, 5, 6, 7, 8, 9, 10, 11, 12, 13, 14, 15, 16, 17, 18, 19, 20, 21, 22] mixed (by kernel_rfl) ?_; intro K hK
  refine eL sh32 ?_
  refine eM ?_
  refine eN ?_
  refine eF fo44_0 ?_
  refine eL sh3 ?_
  refine eM ?_
  obtain ⟨x23, e23, h1⟩ := bind_e h1
  refine eP (fun H hH => yv_callP rfl rfl (.cons rfl (.cons rfl .nil)) cal94 (CvL.refl _) (d_match_line_c e23)) ?_
  refine eF fo38_6 ?_
  refine eL sh3 ?_
  refine eM ?_
  obtain ⟨x24, e24, h1⟩ := bnd_e h1
  refine eP (fun H hH => yv_sub rfl rfl rfl e24) ?_
  obtain ⟨x25, e25, h1⟩ := bind_e h1
  refine eP (fun H hH => yv_callP rfl rfl (.cons rfl (.cons rfl .nil)) cal94 (CvL.refl _) (d_match_line_c e25)) ?_
  refine eF fo38_6 ?_
  refine eL sh3 ?_
  obtain ⟨x26, e26, h1⟩ := bnd_e h1
  refine eP (fun H hH => yv_neg rfl rfl e26) ?_
  obtain ⟨x27, e27, h1⟩ := bind_e h1
  refine eP (fun H hH => yv_callP rfl rfl (.cons rfl (.cons rfl .nil)) cal94 (CvL.refl _) (d_match_line_c e27)) ?_
  refine eP (fun H hH => yv_to (y := lst 2 GLine.av ([x23, x25, x27] : List GLine)) (yv_buildSlice (ps := [(0, _), (1, _), (2, _)]) (rows := [[int x23.Account, int x23.Amount], [int x25.Account, int x25.Amount], [int x27.Account, int x27.Amount]]) rfl Tryz.underlying79 bz78 (.cons rfl (.cons rfl (.cons rfl .nil))) (by kernel_rfl) rfl rfl rfl) rfl) ?_
  obtain ⟨x28, e28, h1⟩ := bind_e h1
  refine eP (fun H hH => yv_callP rfl rfl (.cons rfl (.cons rfl (.cons rfl .nil))) cal42 (CvL.refl _) (d_stock_Post_c e28)) ?_
  refine eM ?_
  iterate 2 refine eX ?_
  refine de_eff0 rfl rfl rfl rfl (Yield.weak (yl_ob (ob' := (⟨32, 10, true, true, v18, [[int x28.1.Master.Entities, int x28.1.Master.Periods, lst 1 fI x28.1.Master.Weights, lst 1 (fL 1 fI) x28.1.Master.Methods, lst 1 (fL 1 fI) x28.1.Master.Costs, lst 8 GEnt.av x28.1.Ents, lst 8 GReceipt.av x28.1.Receipts, lst 9 GSale.av x28.1.Sales, lst 6 GTransit.av x28.1.Transits, int x28.1.Done]]⟩ : AObj)) (yl_store rfl sh32 rfl rfl rfl rfl rfl rfl rfl rfl rfl) rfl) (fun _ h => h) (fun _ _ => trivial)) (by rintro _ _ ⟨rfl, rfl⟩; exact trivial) ?_; rintro _ _ ⟨rfl, rfl⟩
  refine eA ?_
  refine de_nil (hK _ ?_)
  refine tc tbk 1 (.mk ?_)
  refine c_drawE [0, 0, 0, 4, 12, 28, 0, 64, 252, 0, 512, 1536, 3584, 0, 15872, 8189, 40957, 106493, 262143, 524287, 1048575] (rl [(3, [4]), (4, [4]), (5, [4]), (6, [6]), (7, [6]), (10, [4]), (11, [4]), (12, [4]), (15, [4]), (16, [4]), (18, [4]), (19, [4])] []) (rl [(17, []), (20, [])] [4, 6]) (rl [(17, false), (20, false)] true) [0, 1, 2, 3, 4, 5, 6, 7, 8, 9, 10, 11, 12, 13, 14, 15, 16, 17, 18, 19, 20] mixed (by kernel_rfl) ?_; intro K hK
  iterate 3 refine eM ?_
  refine eN ?_
  refine eF fo44_5 ?_
  refine eL sh3 ?_
  refine eF fo38_5 ?_
  refine eL sh3 ?_
  obtain ⟨x29, e29, h1⟩ := bnd_e h1
  refine eP (fun H hH => yv_sub rfl rfl rfl e29) ?_
  refine eM ?_
  refine eN ?_
  refine eF fo44_6 ?_
  refine eL sh3 ?_
  refine eM ?_
  obtain ⟨x30, e30, h1⟩ := bnd_e h1
  refine eP (fun H hH => yv_sub rfl rfl rfl e30) ?_
  refine eN ?_
  refine eF fo44_5 ?_
  refine de_eff0 rfl rfl rfl rfl (Yield.weak (yl_ob (ob' := (⟨44, 8, true, true, v13, [[int x12.Entity, int x12.Item, int x12.Loc, int x12.Qty, int x12.Value, int x29, int x12.Accrued, int x12.Back]]⟩ : AObj)) (yl_store rfl sh3 rfl rfl rfl rfl rfl rfl rfl rfl rfl) rfl) (fun _ h => h) (fun _ _ => trivial)) (by rintro _ _ ⟨rfl, rfl⟩; exact trivial) ?_; rintro _ _ ⟨rfl, rfl⟩
  refine eN ?_
  refine eF fo44_6 ?_
  refine de_eff0 rfl rfl rfl rfl (Yield.weak (yl_ob (ob' := (⟨44, 8, true, true, v13, [[int x12.Entity, int x12.Item, int x12.Loc, int x12.Qty, int x12.Value, int x29, int x30, int x12.Back]]⟩ : AObj)) (yl_store rfl sh3 rfl rfl rfl rfl rfl rfl rfl rfl rfl) rfl) (fun _ h => h) (fun _ _ => trivial)) (by rintro _ _ ⟨rfl, rfl⟩; exact trivial) ?_; rintro _ _ ⟨rfl, rfl⟩
  refine de_nil (hK _ ?_)
  refine tc tbk 4 (.mk ?_)
  refine sS ⟨32, 10, true, true, v20, [[int x28.1.Master.Entities, int x28.1.Master.Periods, lst 1 fI x28.1.Master.Weights, lst 1 (fL 1 fI) x28.1.Master.Methods, lst 1 (fL 1 fI) x28.1.Master.Costs, lst 8 GEnt.av x28.1.Ents, lst 8 GReceipt.av x28.1.Receipts, lst 9 GSale.av x28.1.Sales, lst 6 GTransit.av x28.1.Transits, int x28.1.Done]]⟩ sh32 ?_
  refine tr tbk 2 (.mk ?_)
  obtain rfl := nxt_e h1
  refine w_ret (hret _ _ (hk [(1, ⟨32, 10, true, true, v3, [[int a1.Master.Entities, int a1.Master.Periods, lst 1 fI a1.Master.Weights, lst 1 (fL 1 fI) a1.Master.Methods, lst 1 (fL 1 fI) a1.Master.Costs, lst 8 GEnt.av a1.Ents, lst 8 GReceipt.av a1.Receipts, lst 9 GSale.av a1.Sales, lst 6 GTransit.av a1.Transits, int a1.Done]]⟩), (2, ⟨38, 9, true, true, v4, [[int a2.Kind, int a2.E, int a2.Item, int a2.Loc, int a2.To, int a2.Qty, int a2.Amount, int a2.Ref, lst 1 fI a2.Refs]]⟩), (3, ⟨32, 10, true, true, v5, [[int 0, int 0, .sc (.slice none 0 0), .sc (.slice none 0 0), .sc (.slice none 0 0), .sc (.slice none 0 0), .sc (.slice none 0 0), .sc (.slice none 0 0), .sc (.slice none 0 0), int 0]]⟩), (4, ⟨44, 8, true, true, v13, [[int (⟨x12.Entity, x12.Item, x12.Loc, x12.Qty, x12.Value, x29, x30, x12.Back⟩ : GReceipt).Entity, int (⟨x12.Entity, x12.Item, x12.Loc, x12.Qty, x12.Value, x29, x30, x12.Back⟩ : GReceipt).Item, int (⟨x12.Entity, x12.Item, x12.Loc, x12.Qty, x12.Value, x29, x30, x12.Back⟩ : GReceipt).Loc, int (⟨x12.Entity, x12.Item, x12.Loc, x12.Qty, x12.Value, x29, x30, x12.Back⟩ : GReceipt).Qty, int (⟨x12.Entity, x12.Item, x12.Loc, x12.Qty, x12.Value, x29, x30, x12.Back⟩ : GReceipt).Value, int (⟨x12.Entity, x12.Item, x12.Loc, x12.Qty, x12.Value, x29, x30, x12.Back⟩ : GReceipt).Open, int (⟨x12.Entity, x12.Item, x12.Loc, x12.Qty, x12.Value, x29, x30, x12.Back⟩ : GReceipt).Accrued, int (⟨x12.Entity, x12.Item, x12.Loc, x12.Qty, x12.Value, x29, x30, x12.Back⟩ : GReceipt).Back]]⟩)]) (.cell rfl (.pt rfl rfl rfl) sh32 rfl (.tmp rfl .nil)) (HK.le ⟨rfl, rfl, rfl, (by first | rfl), trivial⟩) ?_)
  exact ⟨(x28.1, x28.2, (⟨x12.Entity, x12.Item, x12.Loc, x12.Qty, x12.Value, x29, x30, x12.Back⟩ : GReceipt)), (), rfl, rfl, rfl⟩
  replace h1 := ct h1
  refine tc tbk 4 (.mk ?_)
  refine sS ⟨32, 10, true, true, v20, [[int a1.Master.Entities, int a1.Master.Periods, lst 1 fI a1.Master.Weights, lst 1 (fL 1 fI) a1.Master.Methods, lst 1 (fL 1 fI) a1.Master.Costs, lst 8 GEnt.av a1.Ents, lst 8 GReceipt.av a1.Receipts, lst 9 GSale.av a1.Sales, lst 6 GTransit.av a1.Transits, int a1.Done]]⟩ sh32 ?_
  refine tr tbk 2 (.mk ?_)
  obtain rfl := nxt_e h1
  refine w_ret (hret _ _ (hk [(1, ⟨32, 10, true, true, v3, [[int a1.Master.Entities, int a1.Master.Periods, lst 1 fI a1.Master.Weights, lst 1 (fL 1 fI) a1.Master.Methods, lst 1 (fL 1 fI) a1.Master.Costs, lst 8 GEnt.av a1.Ents, lst 8 GReceipt.av a1.Receipts, lst 9 GSale.av a1.Sales, lst 6 GTransit.av a1.Transits, int a1.Done]]⟩), (2, ⟨38, 9, true, true, v4, [[int a2.Kind, int a2.E, int a2.Item, int a2.Loc, int a2.To, int a2.Qty, int a2.Amount, int a2.Ref, lst 1 fI a2.Refs]]⟩), (3, ⟨32, 10, true, true, v5, [[int 0, int 0, .sc (.slice none 0 0), .sc (.slice none 0 0), .sc (.slice none 0 0), .sc (.slice none 0 0), .sc (.slice none 0 0), .sc (.slice none 0 0), .sc (.slice none 0 0), int 0]]⟩), (4, ⟨44, 8, true, true, v13, [[int x12.Entity, int x12.Item, int x12.Loc, int x12.Qty, int x12.Value, int x12.Open, int x12.Accrued, int x12.Back]]⟩)]) (.cell rfl (.pt rfl rfl rfl) sh32 rfl (.tmp rfl .nil)) (HK.le ⟨rfl, rfl, rfl, rfl, trivial⟩) ?_)
  exact ⟨(a1, 5, x12), (), rfl, rfl, rfl⟩
  rintro y _ ⟨⟨y2_1, y2_2, y2_3⟩, _, rfl, hc, rfl⟩
  replace h0 := p2_e h0
  replace h0 := p2_e h0
  subst hc
  refine tr tbk 3 (.mk ?_)
  refine rse rfl rfl rfl (yl_alloc 8 .any rfl z32 rfl) ?_; rintro _ _ ⟨v31, -, rfl, rfl⟩
  refine sS ⟨32, 10, true, true, v31, [[int y2_1.Master.Entities, int y2_1.Master.Periods, lst 1 fI y2_1.Master.Weights, lst 1 (fL 1 fI) y2_1.Master.Methods, lst 1 (fL 1 fI) y2_1.Master.Costs, lst 8 GEnt.av y2_1.Ents, lst 8 GReceipt.av y2_1.Receipts, lst 9 GSale.av y2_1.Sales, lst 6 GTransit.av y2_1.Transits, int y2_1.Done]]⟩ sh32 ?_
  refine tr tbk 6 (.mk ?_)
  refine nb tbk h0 fun x32 h0 => ?_
  refine tr tbk 1 (.mk ?_)
  cases x32
  replace h0 := cf h0
  refine tc tbk 6 (.mk ?_)
  obtain ⟨p33, h0⟩ := asrt_e h0
  refine rse rfl rfl rfl (yl_call rfl rfl (.cons rfl .nil) cal45 (pc_cv (clone45_c (id := 9) (l := y2_1.Receipts) rfl p33) (.cons (.refl _) .nil))) ?_; rintro _ _ ⟨v34, rfl, rfl⟩
  refine tr tbk 1 (.mk ?_)
  refine sS ⟨32, 10, true, true, v31, [[int y2_1.Master.Entities, int y2_1.Master.Periods, lst 1 fI y2_1.Master.Weights, lst 1 (fL 1 fI) y2_1.Master.Methods, lst 1 (fL 1 fI) y2_1.Master.Costs, lst 8 GEnt.av y2_1.Ents, .sl 9 v34 0 y2_1.Receipts.length, lst 9 GSale.av y2_1.Sales, lst 6 GTransit.av y2_1.Transits, int y2_1.Done]]⟩ sh28 ?_
  refine tr tbk 8 (.mk ?_)
  obtain ⟨x35, e35, h0⟩ := bind_e h0
  refine rst rfl rfl rfl (yv_ixO rfl Tryz.underlying28 sh44 rfl rfl rfl rfl rfl (Eq.symm rfl) (List.length_map _) e35) ?_
  obtain ⟨x36, e36, h0⟩ := bnd_e h0
  have fx36 := ix_set e35 e36; have lx36 := len_setV e36 (rfl : y2_1.Receipts.length = y2_1.Receipts.length)
  refine rsstore rfl rfl (yl_ob (ob' := (⟨44, 8, true, true, v34, x36.map GReceipt.av⟩ : AObj)) (yl_store rfl sh44 rfl rfl rfl rfl rfl (ix_get e35) rfl rfl rfl) (ob_eq (map_setV e36))) ?_
  refine tr tbk 4 (.mk ?_)
  refine sS ⟨32, 10, true, true, v5, [[int y2_1.Master.Entities, int y2_1.Master.Periods, lst 1 fI y2_1.Master.Weights, lst 1 (fL 1 fI) y2_1.Master.Methods, lst 1 (fL 1 fI) y2_1.Master.Costs, lst 8 GEnt.av y2_1.Ents, .sl 9 v34 0 y2_1.Receipts.length, lst 9 GSale.av y2_1.Sales, lst 6 GTransit.av y2_1.Transits, int y2_1.Done]]⟩ sh32 ?_
  refine tr tbk 2 (.mk ?_)
  obtain rfl := nxt_e h0
  refine w_ret (hret _ _ _ (.cell rfl (.pt rfl rfl rfl) sh32 rfl (.tmp rfl .nil)) (fun _ _ h => h) ?_)
  exact CvL.tup (.cons (CvL.agg (.cons (.refl _) (.cons (.refl _) (.cons (.refl _) (.cons (.refl _) (.cons (.refl _) (.cons (.refl _) (.cons (cv_lst rfl rfl rfl rfl rfl (Eq.symm lx36)) (.cons (.refl _) (.cons (.refl _) (.cons (.refl _) .nil))))))))))) (.cons (.refl _) .nil))
  replace h0 := ct h0
  refine tc tbk 5 (.mk ?_)
  refine sS ⟨32, 10, true, true, v5, [[int a1.Master.Entities, int a1.Master.Periods, lst 1 fI a1.Master.Weights, lst 1 (fL 1 fI) a1.Master.Methods, lst 1 (fL 1 fI) a1.Master.Costs, lst 8 GEnt.av a1.Ents, lst 8 GReceipt.av a1.Receipts, lst 9 GSale.av a1.Sales, lst 6 GTransit.av a1.Transits, int a1.Done]]⟩ sh32 ?_
  refine tr tbk 2 (.mk ?_)
  obtain rfl := nxt_e h0
  refine w_ret (hret _ _ _ (.cell rfl (.pt rfl rfl rfl) sh32 rfl (.tmp rfl .nil)) (fun _ _ h => h) ?_)
  exact .refl _
  replace h0 := ct h0
  refine tc tbk 9 (.mk ?_)
  obtain ⟨j37, h1, h0⟩ := bind_e h0
  refine rse (Out := fun y H' => (∃ (a : GState × Int × GReceipt) (k : Unit), a = j37 ∧ y = .tup [.agg [int a.1.Master.Entities, int a.1.Master.Periods, lst 1 fI a.1.Master.Weights, lst 1 (fL 1 fI) a.1.Master.Methods, lst 1 (fL 1 fI) a.1.Master.Costs, lst 8 GEnt.av a.1.Ents, lst 8 GReceipt.av a.1.Receipts, lst 9 GSale.av a.1.Sales, lst 6 GTransit.av a.1.Transits, int a.1.Done], int a.2.1] ∧ H' = hk [(1, ⟨32, 10, true, true, v3, [[int a1.Master.Entities, int a1.Master.Periods, lst 1 fI a1.Master.Weights, lst 1 (fL 1 fI) a1.Master.Methods, lst 1 (fL 1 fI) a1.Master.Costs, lst 8 GEnt.av a1.Ents, lst 8 GReceipt.av a1.Receipts, lst 9 GSale.av a1.Sales, lst 6 GTransit.av a1.Transits, int a1.Done]]⟩), (2, ⟨38, 9, true, true, v4, [[int a2.Kind, int a2.E, int a2.Item, int a2.Loc, int a2.To, int a2.Qty, int a2.Amount, int a2.Ref, lst 1 fI a2.Refs]]⟩), (3, ⟨32, 10, true, true, v5, [[int 0, int 0, .sc (.slice none 0 0), .sc (.slice none 0 0), .sc (.slice none 0 0), .sc (.slice none 0 0), .sc (.slice none 0 0), .sc (.slice none 0 0), .sc (.slice none 0 0), int 0]]⟩), (4, ⟨44, 8, true, true, v13, [[int a.2.2.Entity, int a.2.2.Item, int a.2.2.Loc, int a.2.2.Qty, int a.2.2.Value, int a.2.2.Open, int a.2.2.Accrued, int a.2.2.Back]]⟩)])) rfl rfl rfl (yl_call rfl rfl (.cons rfl (.cons rfl (.cons rfl .nil))) cal56 ?_) ?_
  refine pcw (c := _) Tryz.func56 rfl rfl ?_; intro Q hret hnorm
  refine tc tbk 2 (.mk ?_)
  refine rse rfl rfl rfl (yl_box 10 .any rfl rfl rfl) ?_; rintro _ _ ⟨v38, -, rfl, rfl⟩
  refine rse rfl rfl rfl (yl_box 11 .any rfl rfl rfl) ?_; rintro _ _ ⟨v39, -, rfl, rfl⟩
  refine rse rfl rfl rfl (yl_alloc 12 .any rfl z32 rfl) ?_; rintro _ _ ⟨v40, -, rfl, rfl⟩
  refine tr tbk 5 (.mk ?_)
  refine c_drawE [0, 1, 0, 4, 12, 28, 0, 64, 192, 448, 1020, 2047, 4095] (rl [(0, [11]), (1, [11]), (3, [4]), (4, [4]), (5, [4]), (7, [4]), (8, [4]), (9, [4])] []) (fun i => [4, 11]) (fun i => true) [0, 1, 2, 3, 4, 5, 6, 7, 8, 9, 10, 11, 12] mixed (by kernel_rfl) ?_; intro K hK
  refine eF fo38_5 ?_
  refine eL sh3 ?_
  refine eM ?_
  refine eN ?_
  refine eF fo44_3 ?_
  refine eL sh3 ?_
  refine eM ?_
  refine eN ?_
  refine eF fo44_7 ?_
  refine eL sh3 ?_
  obtain ⟨x41, e41, h1⟩ := bnd_e h1
  refine eP (fun H hH => yv_sub rfl rfl rfl e41) ?_
  obtain ⟨x42, e42, h1⟩ := bnd_e h1
  refine eP (fun H hH => yv_to (y := boo x42) (yv_gtr rfl rfl rfl) (congrArg boo e42)) ?_
  refine eA ?_
  refine de_nil (hK _ ?_)
  cases x42
  replace h1 := cf h1
  refine tc tbk 2 (.mk ?_)
  refine jn h1 [2, 3, 4, 6, 7] [1, 2, 3, 4, 10, 11, 12] (fun (a : Bool) (k : Unit) => [(27, boo a)]) (fun a k => []) ⟨fun j43 h2 => ?_, ?_⟩
  refine c_drawE [0, 1, 3, 7, 15, 31, 63, 127, 255, 511, 63, 1087, 4095, 8191, 16383] (rl [(1, [4]), (2, [4]), (3, [4]), (7, [4]), (8, [4]), (9, [4]), (10, [11]), (11, [11])] []) (fun i => [4, 11]) (fun i => true) [0, 1, 2, 3, 4, 5, 6, 7, 8, 9, 10, 11, 12, 13, 14] mixed (by kernel_rfl) ?_; intro K hK
  refine eM ?_
  refine eN ?_
  refine eF fo44_5 ?_
  refine eL sh3 ?_
  obtain ⟨x44, e44, h2⟩ := bnd_e h2
  refine eP (fun H hH => yv_to (y := boo x44) (yv_gtr rfl rfl rfl) (congrArg boo e44)) ?_
  refine eM ?_
  cases x44
  replace h2 := cf h2
  refine de_skip rfl rfl rfl ?_
  refine de_skip rfl rfl rfl ?_
  refine de_skip rfl rfl rfl ?_
  refine de_skip rfl rfl rfl ?_
  refine de_skip rfl rfl rfl ?_
  refine de_skip rfl rfl rfl ?_
  refine de_skip rfl rfl rfl ?_
  refine eP (fun H hH => yv_pick rfl rfl (fun _ => rfl) (fun _ => rfl) rfl) ?_
  refine eA ?_
  refine de_nil (hK _ ?_)
  exact lf h2 () leA
  replace h2 := ct h2
  refine eM ?_
  refine eN ?_
  refine eF fo44_5 ?_
  refine eL sh3 ?_
  refine eF fo38_5 ?_
  refine eL sh3 ?_
  obtain ⟨x45, e45, h2⟩ := bnd_e h2
  refine eP (fun H hH => yv_to (y := boo x45) (yv_lss rfl rfl rfl) (congrArg boo e45)) ?_
  refine eP (fun H hH => yv_pick rfl rfl (fun _ => rfl) (fun _ => rfl) rfl) ?_
  refine eA ?_
  refine de_nil (hK _ ?_)
  exact lf h2 () leA
  rintro y3_1 _ h1
  cases y3_1
  replace h1 := cf h1
  refine tc tbk 4 (.mk ?_)
  refine c_drawE [0, 0, 2, 6, 14, 0, 32, 96, 224, 0, 512, 1536, 3584, 0, 8192, 32767, 65535, 131071, 131071, 131071, 131071, 0, 2359295, 6815743, 15728639, 33554431] (rl [(0, [10]), (2, [4]), (3, [4]), (4, [4]), (6, [4]), (7, [4]), (8, [4]), (10, [4]), (11, [4]), (12, [4]), (13, [11]), (14, [11])] []) (rl [(22, []), (23, [])] [4, 10, 11]) (rl [(21, false), (22, false), (23, false)] true) [0, 1, 2, 3, 4, 5, 6, 7, 8, 9, 10, 11, 12, 13, 14, 15, 16, 17, 18, 19, 20, 21, 22, 23, 24, 25] mixed (by kernel_rfl) ?_; intro K hK
  refine eL sh32 ?_
  refine eM ?_
  refine eN ?_
  refine eF fo44_0 ?_
  refine eL sh3 ?_
  refine eM ?_
  refine eN ?_
  refine eF fo44_1 ?_
  refine eL sh3 ?_
  refine eM ?_
  refine eN ?_
  refine eF fo44_2 ?_
  refine eL sh3 ?_
  refine eF fo38_5 ?_
  refine eL sh3 ?_
  obtain ⟨x46, e46, h1⟩ := bind_e h1
  refine eP (fun H hH => yv_callP rfl rfl (.cons rfl (.cons rfl (.cons rfl (.cons rfl (.cons rfl (.cons rfl .nil)))))) cal95 (CvL.refl _) (d_stock_Fetch_c e46)) ?_
  refine eM ?_
  iterate 4 refine eX ?_
  refine de_eff rfl rfl rfl rfl (yl_alloc 13 .any rfl z46 rfl) (by rintro _ _ ⟨v47, -, rfl, rfl⟩; exact ⟨rfl, rfl, rfl, trivial⟩) ?_; rintro _ _ ⟨v47, -, rfl, rfl⟩
  refine de_eff0 rfl rfl rfl rfl (Yield.weak (yl_ob (ob' := (⟨32, 10, true, true, v38, [[int x46.1.Master.Entities, int x46.1.Master.Periods, lst 1 fI x46.1.Master.Weights, lst 1 (fL 1 fI) x46.1.Master.Methods, lst 1 (fL 1 fI) x46.1.Master.Costs, lst 8 GEnt.av x46.1.Ents, lst 8 GReceipt.av x46.1.Receipts, lst 9 GSale.av x46.1.Sales, lst 6 GTransit.av x46.1.Transits, int x46.1.Done]]⟩ : AObj)) (yl_store rfl sh32 rfl rfl rfl rfl rfl rfl rfl rfl rfl) rfl) (fun _ h => h) (fun _ _ => trivial)) (by rintro _ _ ⟨rfl, rfl⟩; exact trivial) ?_; rintro _ _ ⟨rfl, rfl⟩
  refine de_eff0 rfl rfl rfl rfl (Yield.weak (yl_ob (ob' := (⟨46, 3, true, true, v47, [[int x46.2.1.Qty, int x46.2.1.Value, int x46.2.1.Profit]]⟩ : AObj)) (yl_store rfl sh46 rfl rfl rfl rfl rfl rfl rfl rfl rfl) rfl) (fun _ h => h) (fun _ _ => trivial)) (by rintro _ _ ⟨rfl, rfl⟩; exact trivial) ?_; rintro _ _ ⟨rfl, rfl⟩
  obtain ⟨x48, e48, h1⟩ := bnd_e h1
  refine eP (fun H hH => yv_to (y := boo x48) (yv_assign rfl rfl) (congrArg boo e48)) ?_
  refine eA ?_
  refine de_nil (hK _ ?_)
  refine tc tbk 4 (.mk ?_)
  refine nb tbk h1 fun x49 h1 => ?_
  refine tr tbk 1 (.mk ?_)
  cases x49
  replace h1 := cf h1
  refine tc tbk 3 (.mk ?_)
  refine c_drawE [0, 1, 3, 0, 8, 31, 63, 127] (rl [(1, [4]), (2, [4]), (3, [11]), (4, [11])] []) (fun i => [4, 11]) (fun i => true) [0, 1, 2, 3, 4, 5, 6, 7] mixed (by kernel_rfl) ?_; intro K hK
  refine eM ?_
  refine eN ?_
  refine eL sh44 ?_
  refine eF fo38_5 ?_
  refine eL sh3 ?_
  obtain ⟨x50, e50, h1⟩ := bind_e h1
  refine eP (fun H hH => yv_callP rfl rfl (.cons rfl (.cons rfl .nil)) cal96 (CvL.refl _) (d_match_due_paid_c e50)) ?_
  iterate 2 refine eA ?_
  refine de_nil (hK _ ?_)
  refine tc tbk 7 (.mk ?_)
  refine nb tbk h1 fun x51 h1 => ?_
  refine tr tbk 1 (.mk ?_)
  refine jn h1 [2, 3, 4, 6, 7, 8] [1, 2, 3, 10, 11, 12, 13] (fun (a : Int × Int × GReceipt) (k : Unit) => [(11, int a.1), (12, int a.2.1)]) (fun a k => [(4, ⟨44, 8, true, true, v13, [[int a.2.2.Entity, int a.2.2.Item, int a.2.2.Loc, int a.2.2.Qty, int a.2.2.Value, int a.2.2.Open, int a.2.2.Accrued, int a.2.2.Back]]⟩)]) ⟨fun j52 h2 => ?_, ?_⟩
  cases x51
  replace h2 := cf h2
  refine tc tbk 2 (.mk ?_)
  exact lf h2 () leA
  replace h2 := ct h2
  refine tc tbk 2 (.mk ?_)
  refine c_drawE [0, 1, 3, 0, 8, 31, 63, 127] (rl [(1, [4]), (2, [4]), (3, [11]), (4, [11])] []) (fun i => [4, 11]) (fun i => true) [0, 1, 2, 3, 4, 5, 6, 7] mixed (by kernel_rfl) ?_; intro K hK
  refine eM ?_
  refine eN ?_
  refine eL sh44 ?_
  refine eF fo38_5 ?_
  refine eL sh3 ?_
  obtain ⟨x53, e53, h2⟩ := bind_e h2
  refine eP (fun H hH => yv_callP rfl rfl (.cons rfl (.cons rfl .nil)) cal22 (CvL.refl _) (d_match_Due_c e53)) ?_
  iterate 2 refine eA ?_
  refine de_nil (hK _ ?_)
  refine c_drawE [0, 0, 0, 4, 12, 28, 0, 64, 252, 0, 512, 1536, 3584, 0, 15872, 8189, 40957, 106493, 262143, 524287, 1048575] (rl [(3, [4]), (4, [4]), (5, [4]), (6, [11]), (7, [11]), (10, [4]), (11, [4]), (12, [4]), (15, [4]), (16, [4]), (18, [4]), (19, [4])] []) (rl [(17, []), (20, [])] [4, 11]) (rl [(17, false), (20, false)] true) [0, 1, 2, 3, 4, 5, 6, 7, 8, 9, 10, 11, 12, 13, 14, 15, 16, 17, 18, 19, 20] mixed (by kernel_rfl) ?_; intro K hK
  iterate 3 refine eM ?_
  refine eN ?_
  refine eF fo44_5 ?_
  refine eL sh3 ?_
  refine eF fo38_5 ?_
  refine eL sh3 ?_
  obtain ⟨x54, e54, h2⟩ := bnd_e h2
  refine eP (fun H hH => yv_sub rfl rfl rfl e54) ?_
  refine eM ?_
  refine eN ?_
  refine eF fo44_6 ?_
  refine eL sh3 ?_
  refine eM ?_
  obtain ⟨x55, e55, h2⟩ := bnd_e h2
  refine eP (fun H hH => yv_sub rfl rfl rfl e55) ?_
  refine eN ?_
  refine eF fo44_5 ?_
  refine de_eff0 rfl rfl rfl rfl (Yield.weak (yl_ob (ob' := (⟨44, 8, true, true, v13, [[int x12.Entity, int x12.Item, int x12.Loc, int x12.Qty, int x12.Value, int x54, int x12.Accrued, int x12.Back]]⟩ : AObj)) (yl_store rfl sh3 rfl rfl rfl rfl rfl rfl rfl rfl rfl) rfl) (fun _ h => h) (fun _ _ => trivial)) (by rintro _ _ ⟨rfl, rfl⟩; exact trivial) ?_; rintro _ _ ⟨rfl, rfl⟩
  refine eN ?_
  refine eF fo44_6 ?_
  refine de_eff0 rfl rfl rfl rfl (Yield.weak (yl_ob (ob' := (⟨44, 8, true, true, v13, [[int x12.Entity, int x12.Item, int x12.Loc, int x12.Qty, int x12.Value, int x54, int x55, int x12.Back]]⟩ : AObj)) (yl_store rfl sh3 rfl rfl rfl rfl rfl rfl rfl rfl rfl) rfl) (fun _ h => h) (fun _ _ => trivial)) (by rintro _ _ ⟨rfl, rfl⟩; exact trivial) ?_; rintro _ _ ⟨rfl, rfl⟩
  refine de_nil (hK _ ?_)
  exact lf h2 () leA
  rintro ⟨y4_1, y4_2, y4_3⟩ _ h1
  replace h1 := p2_e h1
  replace h1 := p2_e h1
  refine tc tbk 1 (.mk ?_)
  refine c_drawE [0, 1, 3, 7, 0, 16, 63, 127, 255, 511] (rl [(1, [4]), (2, [4]), (3, [4]), (4, [11]), (5, [11]), (7, [4]), (8, [4])] []) (rl [(9, [])] [4, 11]) (rl [(9, false)] true) [0, 1, 2, 3, 4, 5, 6, 7, 8, 9] mixed (by kernel_rfl) ?_; intro K hK
  refine eM ?_
  refine eN ?_
  refine eF fo44_7 ?_
  refine eL sh3 ?_
  refine eF fo38_5 ?_
  refine eL sh3 ?_
  obtain ⟨x56, e56, h1⟩ := bnd_e h1
  refine eP (fun H hH => yv_add rfl rfl rfl e56) ?_
  refine eN ?_
  refine eF fo44_7 ?_
  refine de_eff0 rfl rfl rfl rfl (Yield.weak (yl_ob (ob' := (⟨44, 8, true, true, v13, [[int y4_3.Entity, int y4_3.Item, int y4_3.Loc, int y4_3.Qty, int y4_3.Value, int y4_3.Open, int y4_3.Accrued, int x56]]⟩ : AObj)) (yl_store rfl sh3 rfl rfl rfl rfl rfl rfl rfl rfl rfl) rfl) (fun _ h => h) (fun _ _ => trivial)) (by rintro _ _ ⟨rfl, rfl⟩; exact trivial) ?_; rintro _ _ ⟨rfl, rfl⟩
  refine de_nil (hK _ ?_)
  refine tc tbk 1 (.mk ?_)
  refine c_drawE [0, 0, 2, 6, 14, 0, 0, 96, 0, 256, 0, 1792, 4064, 0, 8192, 24576, 65504, 131040, 262143, 524287, 1048575, 1048575, 2097151, 8388607] (rl [(0, [10]), (2, [4]), (3, [4]), (4, [4]), (8, [13]), (9, [13]), (13, [13]), (14, [13])] []) (rl [(22, [])] [4, 10, 13]) (rl [(22, false)] true) [0, 1, 2, 3, 4, 5, 6, 7, 8, 9, 10, 11, 12, 13, 14, 15, 16, 17, 18, 19, 20, 21, 22, 23] mixed (by kernel_rfl) ?_; intro K hK
  refine eL sh32 ?_
  refine eM ?_
  refine eN ?_
  refine eF fo44_0 ?_
  refine eL sh3 ?_
  iterate 2 refine eM ?_
  obtain ⟨x57, e57, h1⟩ := bind_e h1
  refine eP (fun H hH => yv_callP rfl rfl (.cons rfl (.cons rfl .nil)) cal94 (CvL.refl _) (d_match_line_c e57)) ?_
  refine eF fo46_1 ?_
  refine eL sh3 ?_
  refine eM ?_
  obtain ⟨x58, e58, h1⟩ := bnd_e h1
  refine eP (fun H hH => yv_sub rfl rfl rfl e58) ?_
  obtain ⟨x59, e59, h1⟩ := bind_e h1
  refine eP (fun H hH => yv_callP rfl rfl (.cons rfl (.cons rfl .nil)) cal94 (CvL.refl _) (d_match_line_c e59)) ?_
  refine eF fo46_1 ?_
  refine eL sh3 ?_
  obtain ⟨x60, e60, h1⟩ := bnd_e h1
  refine eP (fun H hH => yv_neg rfl rfl e60) ?_
  obtain ⟨x61, e61, h1⟩ := bind_e h1
  refine eP (fun H hH => yv_callP rfl rfl (.cons rfl (.cons rfl .nil)) cal94 (CvL.refl _) (d_match_line_c e61)) ?_
  refine eP (fun H hH => yv_to (y := lst 2 GLine.av ([x57, x59, x61] : List GLine)) (yv_buildSlice (ps := [(0, _), (1, _), (2, _)]) (rows := [[int x57.Account, int x57.Amount], [int x59.Account, int x59.Amount], [int x61.Account, int x61.Amount]]) rfl Tryz.underlying79 bz78 (.cons rfl (.cons rfl (.cons rfl .nil))) (by kernel_rfl) rfl rfl rfl) rfl) ?_
  obtain ⟨x62, e62, h1⟩ := bind_e h1
  refine eP (fun H hH => yv_callP rfl rfl (.cons rfl (.cons rfl (.cons rfl .nil))) cal42 (CvL.refl _) (d_stock_Post_c e62)) ?_
  refine eM ?_
  iterate 2 refine eX ?_
  refine de_eff0 rfl rfl rfl rfl (Yield.weak (yl_ob (ob' := (⟨32, 10, true, true, v38, [[int x62.1.Master.Entities, int x62.1.Master.Periods, lst 1 fI x62.1.Master.Weights, lst 1 (fL 1 fI) x62.1.Master.Methods, lst 1 (fL 1 fI) x62.1.Master.Costs, lst 8 GEnt.av x62.1.Ents, lst 8 GReceipt.av x62.1.Receipts, lst 9 GSale.av x62.1.Sales, lst 6 GTransit.av x62.1.Transits, int x62.1.Done]]⟩ : AObj)) (yl_store rfl sh32 rfl rfl rfl rfl rfl rfl rfl rfl rfl) rfl) (fun _ h => h) (fun _ _ => trivial)) (by rintro _ _ ⟨rfl, rfl⟩; exact trivial) ?_; rintro _ _ ⟨rfl, rfl⟩
  refine eA ?_
  refine de_nil (hK _ ?_)
  refine tc tbk 4 (.mk ?_)
  refine nb tbk h1 fun x63 h1 => ?_
  refine tr tbk 1 (.mk ?_)
  cases x63
  replace h1 := cf h1
  refine tc tbk 3 (.mk ?_)
  refine c_drawE [0, 0, 2, 6, 14, 0, 32, 96, 224, 0, 512, 1536, 4095, 8191, 8191, 32767, 65535] (rl [(0, [10]), (2, [4]), (3, [4]), (4, [4]), (6, [4]), (7, [4]), (8, [4]), (9, [13]), (10, [13])] []) (rl [(15, [])] [4, 10, 13]) (rl [(15, false)] true) [0, 1, 2, 3, 4, 5, 6, 7, 8, 9, 10, 11, 12, 13, 14, 15, 16] mixed (by kernel_rfl) ?_; intro K hK
  refine eL sh32 ?_
  refine eM ?_
  refine eN ?_
  refine eF fo44_0 ?_
  refine eL sh3 ?_
  refine eM ?_
  refine eN ?_
  refine eF fo44_1 ?_
  refine eL sh3 ?_
  refine eF fo46_1 ?_
  refine eL sh3 ?_
  refine eP (fun H hH => yv_build (cs := [int 0, int 0, int 0, int 0, int 0, int 0, int 0, int x46.2.1.Value, int 0, int 0, int 0]) (ps := [(7, _)]) rfl pl49 z49 rfl (.cons rfl .nil) (by kernel_rfl)) ?_
  obtain ⟨x64, e64, h1⟩ := bind_e h1
  refine eP (fun H hH => yv_callP rfl rfl (.cons rfl (.cons rfl (.cons rfl (.cons rfl .nil)))) cal44 (CvL.refl _) (d_stock_Turn_c e64)) ?_
  iterate 2 refine eX ?_
  refine de_eff0 rfl rfl rfl rfl (Yield.weak (yl_ob (ob' := (⟨32, 10, true, true, v40, [[int x64.1.Master.Entities, int x64.1.Master.Periods, lst 1 fI x64.1.Master.Weights, lst 1 (fL 1 fI) x64.1.Master.Methods, lst 1 (fL 1 fI) x64.1.Master.Costs, lst 8 GEnt.av x64.1.Ents, lst 8 GReceipt.av x64.1.Receipts, lst 9 GSale.av x64.1.Sales, lst 6 GTransit.av x64.1.Transits, int x64.1.Done]]⟩ : AObj)) (yl_store rfl sh32 rfl rfl rfl rfl rfl rfl rfl rfl rfl) rfl) (fun _ h => h) (fun _ _ => trivial)) (by rintro _ _ ⟨rfl, rfl⟩; exact trivial) ?_; rintro _ _ ⟨rfl, rfl⟩
  refine eA ?_
  refine de_nil (hK _ ?_)
  obtain rfl := nxt_e h1
  refine w_ret (hret _ _ (hk [(1, ⟨32, 10, true, true, v3, [[int a1.Master.Entities, int a1.Master.Periods, lst 1 fI a1.Master.Weights, lst 1 (fL 1 fI) a1.Master.Methods, lst 1 (fL 1 fI) a1.Master.Costs, lst 8 GEnt.av a1.Ents, lst 8 GReceipt.av a1.Receipts, lst 9 GSale.av a1.Sales, lst 6 GTransit.av a1.Transits, int a1.Done]]⟩), (2, ⟨38, 9, true, true, v4, [[int a2.Kind, int a2.E, int a2.Item, int a2.Loc, int a2.To, int a2.Qty, int a2.Amount, int a2.Ref, lst 1 fI a2.Refs]]⟩), (3, ⟨32, 10, true, true, v5, [[int 0, int 0, .sc (.slice none 0 0), .sc (.slice none 0 0), .sc (.slice none 0 0), .sc (.slice none 0 0), .sc (.slice none 0 0), .sc (.slice none 0 0), .sc (.slice none 0 0), int 0]]⟩), (4, ⟨44, 8, true, true, v13, [[int (⟨y4_3.Entity, y4_3.Item, y4_3.Loc, y4_3.Qty, y4_3.Value, y4_3.Open, y4_3.Accrued, x56⟩ : GReceipt).Entity, int (⟨y4_3.Entity, y4_3.Item, y4_3.Loc, y4_3.Qty, y4_3.Value, y4_3.Open, y4_3.Accrued, x56⟩ : GReceipt).Item, int (⟨y4_3.Entity, y4_3.Item, y4_3.Loc, y4_3.Qty, y4_3.Value, y4_3.Open, y4_3.Accrued, x56⟩ : GReceipt).Loc, int (⟨y4_3.Entity, y4_3.Item, y4_3.Loc, y4_3.Qty, y4_3.Value, y4_3.Open, y4_3.Accrued, x56⟩ : GReceipt).Qty, int (⟨y4_3.Entity, y4_3.Item, y4_3.Loc, y4_3.Qty, y4_3.Value, y4_3.Open, y4_3.Accrued, x56⟩ : GReceipt).Value, int (⟨y4_3.Entity, y4_3.Item, y4_3.Loc, y4_3.Qty, y4_3.Value, y4_3.Open, y4_3.Accrued, x56⟩ : GReceipt).Open, int (⟨y4_3.Entity, y4_3.Item, y4_3.Loc, y4_3.Qty, y4_3.Value, y4_3.Open, y4_3.Accrued, x56⟩ : GReceipt).Accrued, int (⟨y4_3.Entity, y4_3.Item, y4_3.Loc, y4_3.Qty, y4_3.Value, y4_3.Open, y4_3.Accrued, x56⟩ : GReceipt).Back]]⟩)]) (.cell rfl (.pt rfl rfl rfl) sh32 rfl (.tmp rfl .nil)) (HK.le ⟨rfl, rfl, rfl, (by first | rfl), trivial⟩) ?_)
  exact ⟨(x64.1, x64.2, (⟨y4_3.Entity, y4_3.Item, y4_3.Loc, y4_3.Qty, y4_3.Value, y4_3.Open, y4_3.Accrued, x56⟩ : GReceipt)), (), rfl, rfl, rfl⟩
  replace h1 := ct h1
  refine tc tbk 5 (.mk ?_)
  refine sS ⟨32, 10, true, true, v40, [[int x62.1.Master.Entities, int x62.1.Master.Periods, lst 1 fI x62.1.Master.Weights, lst 1 (fL 1 fI) x62.1.Master.Methods, lst 1 (fL 1 fI) x62.1.Master.Costs, lst 8 GEnt.av x62.1.Ents, lst 8 GReceipt.av x62.1.Receipts, lst 9 GSale.av x62.1.Sales, lst 6 GTransit.av x62.1.Transits, int x62.1.Done]]⟩ sh32 ?_
  refine tr tbk 2 (.mk ?_)
  obtain rfl := nxt_e h1
  refine w_ret (hret _ _ (hk [(1, ⟨32, 10, true, true, v3, [[int a1.Master.Entities, int a1.Master.Periods, lst 1 fI a1.Master.Weights, lst 1 (fL 1 fI) a1.Master.Methods, lst 1 (fL 1 fI) a1.Master.Costs, lst 8 GEnt.av a1.Ents, lst 8 GReceipt.av a1.Receipts, lst 9 GSale.av a1.Sales, lst 6 GTransit.av a1.Transits, int a1.Done]]⟩), (2, ⟨38, 9, true, true, v4, [[int a2.Kind, int a2.E, int a2.Item, int a2.Loc, int a2.To, int a2.Qty, int a2.Amount, int a2.Ref, lst 1 fI a2.Refs]]⟩), (3, ⟨32, 10, true, true, v5, [[int 0, int 0, .sc (.slice none 0 0), .sc (.slice none 0 0), .sc (.slice none 0 0), .sc (.slice none 0 0), .sc (.slice none 0 0), .sc (.slice none 0 0), .sc (.slice none 0 0), int 0]]⟩), (4, ⟨44, 8, true, true, v13, [[int (⟨y4_3.Entity, y4_3.Item, y4_3.Loc, y4_3.Qty, y4_3.Value, y4_3.Open, y4_3.Accrued, x56⟩ : GReceipt).Entity, int (⟨y4_3.Entity, y4_3.Item, y4_3.Loc, y4_3.Qty, y4_3.Value, y4_3.Open, y4_3.Accrued, x56⟩ : GReceipt).Item, int (⟨y4_3.Entity, y4_3.Item, y4_3.Loc, y4_3.Qty, y4_3.Value, y4_3.Open, y4_3.Accrued, x56⟩ : GReceipt).Loc, int (⟨y4_3.Entity, y4_3.Item, y4_3.Loc, y4_3.Qty, y4_3.Value, y4_3.Open, y4_3.Accrued, x56⟩ : GReceipt).Qty, int (⟨y4_3.Entity, y4_3.Item, y4_3.Loc, y4_3.Qty, y4_3.Value, y4_3.Open, y4_3.Accrued, x56⟩ : GReceipt).Value, int (⟨y4_3.Entity, y4_3.Item, y4_3.Loc, y4_3.Qty, y4_3.Value, y4_3.Open, y4_3.Accrued, x56⟩ : GReceipt).Open, int (⟨y4_3.Entity, y4_3.Item, y4_3.Loc, y4_3.Qty, y4_3.Value, y4_3.Open, y4_3.Accrued, x56⟩ : GReceipt).Accrued, int (⟨y4_3.Entity, y4_3.Item, y4_3.Loc, y4_3.Qty, y4_3.Value, y4_3.Open, y4_3.Accrued, x56⟩ : GReceipt).Back]]⟩)]) (.cell rfl (.pt rfl rfl rfl) sh32 rfl (.tmp rfl .nil)) (HK.le ⟨rfl, rfl, rfl, (by first | rfl), trivial⟩) ?_)
  exact ⟨(x62.1, x62.2, (⟨y4_3.Entity, y4_3.Item, y4_3.Loc, y4_3.Qty, y4_3.Value, y4_3.Open, y4_3.Accrued, x56⟩ : GReceipt)), (), rfl, rfl, rfl⟩
  replace h1 := ct h1
  refine tc tbk 5 (.mk ?_)
  refine sS ⟨32, 10, true, true, v40, [[int x46.1.Master.Entities, int x46.1.Master.Periods, lst 1 fI x46.1.Master.Weights, lst 1 (fL 1 fI) x46.1.Master.Methods, lst 1 (fL 1 fI) x46.1.Master.Costs, lst 8 GEnt.av x46.1.Ents, lst 8 GReceipt.av x46.1.Receipts, lst 9 GSale.av x46.1.Sales, lst 6 GTransit.av x46.1.Transits, int x46.1.Done]]⟩ sh32 ?_
  refine tr tbk 2 (.mk ?_)
  obtain rfl := nxt_e h1
  refine w_ret (hret _ _ (hk [(1, ⟨32, 10, true, true, v3, [[int a1.Master.Entities, int a1.Master.Periods, lst 1 fI a1.Master.Weights, lst 1 (fL 1 fI) a1.Master.Methods, lst 1 (fL 1 fI) a1.Master.Costs, lst 8 GEnt.av a1.Ents, lst 8 GReceipt.av a1.Receipts, lst 9 GSale.av a1.Sales, lst 6 GTransit.av a1.Transits, int a1.Done]]⟩), (2, ⟨38, 9, true, true, v4, [[int a2.Kind, int a2.E, int a2.Item, int a2.Loc, int a2.To, int a2.Qty, int a2.Amount, int a2.Ref, lst 1 fI a2.Refs]]⟩), (3, ⟨32, 10, true, true, v5, [[int 0, int 0, .sc (.slice none 0 0), .sc (.slice none 0 0), .sc (.slice none 0 0), .sc (.slice none 0 0), .sc (.slice none 0 0), .sc (.slice none 0 0), .sc (.slice none 0 0), int 0]]⟩), (4, ⟨44, 8, true, true, v13, [[int x12.Entity, int x12.Item, int x12.Loc, int x12.Qty, int x12.Value, int x12.Open, int x12.Accrued, int x12.Back]]⟩)]) (.cell rfl (.pt rfl rfl rfl) sh32 rfl (.tmp rfl .nil)) (HK.le ⟨rfl, rfl, rfl, rfl, trivial⟩) ?_)
  exact ⟨(x46.1, x46.2.2.2, x12), (), rfl, rfl, rfl⟩
  replace h1 := ct h1
  refine tc tbk 4 (.mk ?_)
  refine sS ⟨32, 10, true, true, v40, [[int a1.Master.Entities, int a1.Master.Periods, lst 1 fI a1.Master.Weights, lst 1 (fL 1 fI) a1.Master.Methods, lst 1 (fL 1 fI) a1.Master.Costs, lst 8 GEnt.av a1.Ents, lst 8 GReceipt.av a1.Receipts, lst 9 GSale.av a1.Sales, lst 6 GTransit.av a1.Transits, int a1.Done]]⟩ sh32 ?_
  refine tr tbk 2 (.mk ?_)
  obtain rfl := nxt_e h1
  refine w_ret (hret _ _ (hk [(1, ⟨32, 10, true, true, v3, [[int a1.Master.Entities, int a1.Master.Periods, lst 1 fI a1.Master.Weights, lst 1 (fL 1 fI) a1.Master.Methods, lst 1 (fL 1 fI) a1.Master.Costs, lst 8 GEnt.av a1.Ents, lst 8 GReceipt.av a1.Receipts, lst 9 GSale.av a1.Sales, lst 6 GTransit.av a1.Transits, int a1.Done]]⟩), (2, ⟨38, 9, true, true, v4, [[int a2.Kind, int a2.E, int a2.Item, int a2.Loc, int a2.To, int a2.Qty, int a2.Amount, int a2.Ref, lst 1 fI a2.Refs]]⟩), (3, ⟨32, 10, true, true, v5, [[int 0, int 0, .sc (.slice none 0 0), .sc (.slice none 0 0), .sc (.slice none 0 0), .sc (.slice none 0 0), .sc (.slice none 0 0), .sc (.slice none 0 0), .sc (.slice none 0 0), int 0]]⟩), (4, ⟨44, 8, true, true, v13, [[int x12.Entity, int x12.Item, int x12.Loc, int x12.Qty, int x12.Value, int x12.Open, int x12.Accrued, int x12.Back]]⟩)]) (.cell rfl (.pt rfl rfl rfl) sh32 rfl (.tmp rfl .nil)) (HK.le ⟨rfl, rfl, rfl, rfl, trivial⟩) ?_)
  exact ⟨(a1, 9, x12), (), rfl, rfl, rfl⟩
  replace h1 := ct h1
  refine tc tbk 4 (.mk ?_)
  refine sS ⟨32, 10, true, true, v40, [[int a1.Master.Entities, int a1.Master.Periods, lst 1 fI a1.Master.Weights, lst 1 (fL 1 fI) a1.Master.Methods, lst 1 (fL 1 fI) a1.Master.Costs, lst 8 GEnt.av a1.Ents, lst 8 GReceipt.av a1.Receipts, lst 9 GSale.av a1.Sales, lst 6 GTransit.av a1.Transits, int a1.Done]]⟩ sh32 ?_
  refine tr tbk 2 (.mk ?_)
  obtain rfl := nxt_e h1
  refine w_ret (hret _ _ (hk [(1, ⟨32, 10, true, true, v3, [[int a1.Master.Entities, int a1.Master.Periods, lst 1 fI a1.Master.Weights, lst 1 (fL 1 fI) a1.Master.Methods, lst 1 (fL 1 fI) a1.Master.Costs, lst 8 GEnt.av a1.Ents, lst 8 GReceipt.av a1.Receipts, lst 9 GSale.av a1.Sales, lst 6 GTransit.av a1.Transits, int a1.Done]]⟩), (2, ⟨38, 9, true, true, v4, [[int a2.Kind, int a2.E, int a2.Item, int a2.Loc, int a2.To, int a2.Qty, int a2.Amount, int a2.Ref, lst 1 fI a2.Refs]]⟩), (3, ⟨32, 10, true, true, v5, [[int 0, int 0, .sc (.slice none 0 0), .sc (.slice none 0 0), .sc (.slice none 0 0), .sc (.slice none 0 0), .sc (.slice none 0 0), .sc (.slice none 0 0), .sc (.slice none 0 0), int 0]]⟩), (4, ⟨44, 8, true, true, v13, [[int x12.Entity, int x12.Item, int x12.Loc, int x12.Qty, int x12.Value, int x12.Open, int x12.Accrued, int x12.Back]]⟩)]) (.cell rfl (.pt rfl rfl rfl) sh32 rfl (.tmp rfl .nil)) (HK.le ⟨rfl, rfl, rfl, rfl, trivial⟩) ?_)
  exact ⟨(a1, 5, x12), (), rfl, rfl, rfl⟩
  rintro y _ ⟨⟨y2_1, y2_2, y2_3⟩, _, rfl, hc, rfl⟩
  replace h0 := p2_e h0
  replace h0 := p2_e h0
  subst hc
  refine tr tbk 3 (.mk ?_)
  refine rse rfl rfl rfl (yl_alloc 8 .any rfl z32 rfl) ?_; rintro _ _ ⟨v65, -, rfl, rfl⟩
  refine sS ⟨32, 10, true, true, v65, [[int y2_1.Master.Entities, int y2_1.Master.Periods, lst 1 fI y2_1.Master.Weights, lst 1 (fL 1 fI) y2_1.Master.Methods, lst 1 (fL 1 fI) y2_1.Master.Costs, lst 8 GEnt.av y2_1.Ents, lst 8 GReceipt.av y2_1.Receipts, lst 9 GSale.av y2_1.Sales, lst 6 GTransit.av y2_1.Transits, int y2_1.Done]]⟩ sh32 ?_
  refine tr tbk 6 (.mk ?_)
  refine nb tbk h0 fun x66 h0 => ?_
  refine tr tbk 1 (.mk ?_)
  cases x66
  replace h0 := cf h0
  refine tc tbk 6 (.mk ?_)
  obtain ⟨p67, h0⟩ := asrt_e h0
  refine rse rfl rfl rfl (yl_call rfl rfl (.cons rfl .nil) cal45 (pc_cv (clone45_c (id := 9) (l := y2_1.Receipts) rfl p67) (.cons (.refl _) .nil))) ?_; rintro _ _ ⟨v68, rfl, rfl⟩
  refine tr tbk 1 (.mk ?_)
  refine sS ⟨32, 10, true, true, v65, [[int y2_1.Master.Entities, int y2_1.Master.Periods, lst 1 fI y2_1.Master.Weights, lst 1 (fL 1 fI) y2_1.Master.Methods, lst 1 (fL 1 fI) y2_1.Master.Costs, lst 8 GEnt.av y2_1.Ents, .sl 9 v68 0 y2_1.Receipts.length, lst 9 GSale.av y2_1.Sales, lst 6 GTransit.av y2_1.Transits, int y2_1.Done]]⟩ sh28 ?_
  refine tr tbk 8 (.mk ?_)
  obtain ⟨x69, e69, h0⟩ := bind_e h0
  refine rst rfl rfl rfl (yv_ixO rfl Tryz.underlying28 sh44 rfl rfl rfl rfl rfl (Eq.symm rfl) (List.length_map _) e69) ?_
  obtain ⟨x70, e70, h0⟩ := bnd_e h0
  have fx70 := ix_set e69 e70; have lx70 := len_setV e70 (rfl : y2_1.Receipts.length = y2_1.Receipts.length)
  refine rsstore rfl rfl (yl_ob (ob' := (⟨44, 8, true, true, v68, x70.map GReceipt.av⟩ : AObj)) (yl_store rfl sh44 rfl rfl rfl rfl rfl (ix_get e69) rfl rfl rfl) (ob_eq (map_setV e70))) ?_
  refine tr tbk 4 (.mk ?_)
  refine sS ⟨32, 10, true, true, v5, [[int y2_1.Master.Entities, int y2_1.Master.Periods, lst 1 fI y2_1.Master.Weights, lst 1 (fL 1 fI) y2_1.Master.Methods, lst 1 (fL 1 fI) y2_1.Master.Costs, lst 8 GEnt.av y2_1.Ents, .sl 9 v68 0 y2_1.Receipts.length, lst 9 GSale.av y2_1.Sales, lst 6 GTransit.av y2_1.Transits, int y2_1.Done]]⟩ sh32 ?_
  refine tr tbk 2 (.mk ?_)
  obtain rfl := nxt_e h0
  refine w_ret (hret _ _ _ (.cell rfl (.pt rfl rfl rfl) sh32 rfl (.tmp rfl .nil)) (fun _ _ h => h) ?_)
  exact CvL.tup (.cons (CvL.agg (.cons (.refl _) (.cons (.refl _) (.cons (.refl _) (.cons (.refl _) (.cons (.refl _) (.cons (.refl _) (.cons (cv_lst rfl rfl rfl rfl rfl (Eq.symm lx70)) (.cons (.refl _) (.cons (.refl _) (.cons (.refl _) .nil))))))))))) (.cons (.refl _) .nil))
  replace h0 := ct h0
  refine tc tbk 5 (.mk ?_)
  refine sS ⟨32, 10, true, true, v5, [[int a1.Master.Entities, int a1.Master.Periods, lst 1 fI a1.Master.Weights, lst 1 (fL 1 fI) a1.Master.Methods, lst 1 (fL 1 fI) a1.Master.Costs, lst 8 GEnt.av a1.Ents, lst 8 GReceipt.av a1.Receipts, lst 9 GSale.av a1.Sales, lst 6 GTransit.av a1.Transits, int a1.Done]]⟩ sh32 ?_
  refine tr tbk 2 (.mk ?_)
  obtain rfl := nxt_e h0
  refine w_ret (hret _ _ _ (.cell rfl (.pt rfl rfl rfl) sh32 rfl (.tmp rfl .nil)) (fun _ _ h => h) ?_)
  exact .refl _
  replace h0 := ct h0
  refine tc tbk 5 (.mk ?_)
  refine sS ⟨32, 10, true, true, v5, [[int a1.Master.Entities, int a1.Master.Periods, lst 1 fI a1.Master.Weights, lst 1 (fL 1 fI) a1.Master.Methods, lst 1 (fL 1 fI) a1.Master.Costs, lst 8 GEnt.av a1.Ents, lst 8 GReceipt.av a1.Receipts, lst 9 GSale.av a1.Sales, lst 6 GTransit.av a1.Transits, int a1.Done]]⟩ sh32 ?_
  refine tr tbk 2 (.mk ?_)
  obtain rfl := nxt_e h0
  refine w_ret (hret _ _ _ (.cell rfl (.pt rfl rfl rfl) sh32 rfl (.tmp rfl .nil)) (fun _ _ h => h) ?_)
  exact .refl _
  replace h0 := ct h0
  refine tc tbk 4 (.mk ?_)
  refine sS ⟨32, 10, true, true, v5, [[int a1.Master.Entities, int a1.Master.Periods, lst 1 fI a1.Master.Weights, lst 1 (fL 1 fI) a1.Master.Methods, lst 1 (fL 1 fI) a1.Master.Costs, lst 8 GEnt.av a1.Ents, lst 8 GReceipt.av a1.Receipts, lst 9 GSale.av a1.Sales, lst 6 GTransit.av a1.Transits, int a1.Done]]⟩ sh32 ?_
  refine tr tbk 2 (.mk ?_)
  obtain rfl := nxt_e h0
  refine w_ret (hret _ _ _ (.cell rfl (.pt rfl rfl rfl) sh32 rfl (.tmp rfl .nil)) (fun _ _ h => h) ?_)
  exact .refl _
  replace h0 := ct h0
  refine tc tbk 4 (.mk ?_)
  refine sS ⟨32, 10, true, true, v5, [[int a1.Master.Entities, int a1.Master.Periods, lst 1 fI a1.Master.Weights, lst 1 (fL 1 fI) a1.Master.Methods, lst 1 (fL 1 fI) a1.Master.Costs, lst 8 GEnt.av a1.Ents, lst 8 GReceipt.av a1.Receipts, lst 9 GSale.av a1.Sales, lst 6 GTransit.av a1.Transits, int a1.Done]]⟩ sh32 ?_
  refine tr tbk 2 (.mk ?_)
  obtain rfl := nxt_e h0
  refine w_ret (hret _ _ _ (.cell rfl (.pt rfl rfl rfl) sh32 rfl (.tmp rfl .nil)) (fun _ _ h => h) ?_)
  exact .refl _
def d_law18_awake (n : Nat)  : Option (Bool) :=
(d_law18_stocked n 0 10 100).bind fun x1 =>
(d_match_Do n x1 (⟨2, 0, 0, 0, 0, 10, 120, 0, []⟩ : GOp)).bind fun x2 =>
(d_match_Do n x2.1 (⟨2, 0, 0, 0, 0, 1, 0, 0, []⟩ : GOp)).bind fun x4 =>
(show Option (Bool) from
bnd (decide (x2.2 = 0)) fun x7 =>
cond x7 (bnd (decide ((x2.1.Ents.length : Int) = 2)) fun x8 =>
cond x8 ((ix x2.1.Ents 0).bind fun x9 =>
(ix x9.Bal 6).bind fun x10 =>
bnd (decide (x10 = 20)) fun x11 =>
cond x11 ((ix x2.1.Ents 0).bind fun x12 =>
(ix x12.Bal 1).bind fun x13 =>
bnd (decide (x13 = 0)) fun x14 =>
cond x14 ((ix x2.1.Ents 0).bind fun x15 =>
(ix x15.Bal 2).bind fun x16 =>
bnd (decide (x16 = (-120))) fun x17 =>
cond x17 (bnd (decide (x4.2 = 5)) fun x18 =>
cond x18 ((d_match_Due n (⟨0, 0, 0, 0, 0, 2, 7, 0⟩ : GReceipt) 1).bind fun x19 =>
bnd (decide (x19 = 3)) fun x20 =>
some (x20 : Bool)) (some (false : Bool))) (some (false : Bool))) (some (false : Bool))) (some (false : Bool))) (some (false : Bool))) (some (false : Bool))).bind <| fun y0_1 =>
some ((y0_1 : Bool))
theorem d_law18_awake_c {n : Nat}  {r : Bool} (h0 : d_law18_awake n  = some r) : PP Tryz.prog 24 [] (fun y => y = boo r) := by
  unfold d_law18_awake at h0
  refine pp_of_pc (R0 := fun y H => Cv (frzH H) y (boo r)) ?_ (fun y H hc => ⟨_, rfl, pvB r, hc⟩)
  refine pcw (c := _) Tryz.func24 rfl rfl ?_; intro Q hret hnorm
  refine tc tbk 6 (.mk ?_)
  obtain ⟨x1, e1, h0⟩ := bind_e h0
  refine rst rfl rfl rfl (yv_callP rfl rfl (.cons rfl (.cons rfl (.cons rfl .nil))) cal25 (CvL.refl _) (d_law18_stocked_c e1)) ?_
  refine rst rfl rfl rfl (yv_build (cs := [int 2, int 0, int 0, int 0, int 0, int 10, int 120, int 0, .sc (.slice none 0 0)]) (ps := [(0, _), (5, _), (6, _)]) rfl pl38 z38 rfl (.cons rfl (.cons rfl (.cons rfl .nil))) (by kernel_rfl)) ?_
  obtain ⟨x2, e2, h0⟩ := bind_e h0
  refine rst rfl rfl rfl (yv_callP rfl rfl (.cons rfl (.cons rfl .nil)) cal26 (.cons (.refl _) (.cons (CvL.agg (.cons (.refl _) (.cons (.refl _) (.cons (.refl _) (.cons (.refl _) (.cons (.refl _) (.cons (.refl _) (.cons (.refl _) (.cons (.refl _) (.cons (.nil _) .nil)))))))))) .nil)) (d_match_Do_c e2)) ?_
  refine tr tbk 3 (.mk ?_)
  refine rse rfl rfl rfl (yl_alloc 1 .any rfl z32 rfl) ?_; rintro _ _ ⟨v3, -, rfl, rfl⟩
  refine sS ⟨32, 10, true, true, v3, [[int x2.1.Master.Entities, int x2.1.Master.Periods, lst 1 fI x2.1.Master.Weights, lst 1 (fL 1 fI) x2.1.Master.Methods, lst 1 (fL 1 fI) x2.1.Master.Costs, lst 8 GEnt.av x2.1.Ents, lst 8 GReceipt.av x2.1.Receipts, lst 9 GSale.av x2.1.Sales, lst 6 GTransit.av x2.1.Transits, int x2.1.Done]]⟩ sh32 ?_
  refine tr tbk 5 (.mk ?_)
  refine rst rfl rfl rfl (yv_build (cs := [int 2, int 0, int 0, int 0, int 0, int 1, int 0, int 0, .sc (.slice none 0 0)]) (ps := [(0, _), (5, _)]) rfl pl38 z38 rfl (.cons rfl (.cons rfl .nil)) (by kernel_rfl)) ?_
  obtain ⟨x4, e4, h0⟩ := bind_e h0
  refine rst rfl rfl rfl (yv_callP rfl rfl (.cons rfl (.cons rfl .nil)) cal26 (.cons (.refl _) (.cons (CvL.agg (.cons (.refl _) (.cons (.refl _) (.cons (.refl _) (.cons (.refl _) (.cons (.refl _) (.cons (.refl _) (.cons (.refl _) (.cons (.refl _) (.cons (.nil _) .nil)))))))))) .nil)) (d_match_Do_c e4)) ?_
  refine tr tbk 3 (.mk ?_)
  refine rse rfl rfl rfl (yl_alloc 2 .any rfl z32 rfl) ?_; rintro _ _ ⟨v5, -, rfl, rfl⟩
  refine sS ⟨32, 10, true, true, v5, [[int x4.1.Master.Entities, int x4.1.Master.Periods, lst 1 fI x4.1.Master.Weights, lst 1 (fL 1 fI) x4.1.Master.Methods, lst 1 (fL 1 fI) x4.1.Master.Costs, lst 8 GEnt.av x4.1.Ents, lst 8 GReceipt.av x4.1.Receipts, lst 9 GSale.av x4.1.Sales, lst 6 GTransit.av x4.1.Transits, int x4.1.Done]]⟩ sh32 ?_
  refine tr tbk 3 (.mk ?_)
  refine jn h0 [] [] (fun (a : Bool) (k : Unit) => [(0, boo a)]) (fun a k => []) ⟨fun j6 h1 => ?_, ?_⟩
  refine tc tbk 2 (.mk ?_)
  refine nb tbk h1 fun x7 h1 => ?_
  refine tr tbk 1 (.mk ?_)
  cases x7
  replace h1 := cf h1
  refine tr tbk 46 (.mk ?_)
  exact lf h1 () leA
  replace h1 := ct h1
  refine tr tbk 2 (.mk ?_)
  refine rst rfl rfl rfl (yv_len_sl rfl Tryz.underlying27 rfl (lst_len _)) ?_
  refine nb tbk h1 fun x8 h1 => ?_
  refine tr tbk 2 (.mk ?_)
  cases x8
  replace h1 := cf h1
  refine tr tbk 40 (.mk ?_)
  exact lf h1 () leA
  replace h1 := ct h1
  refine tr tbk 2 (.mk ?_)
  obtain ⟨x9, e9, h1⟩ := bind_e h1
  refine rst rfl rfl rfl (yv_to (y := .pp [int x9.Now, boo x9.Closed, lst 4 GPool.av x9.Pools, lst 1 fI x9.Bal, lst 11 GRoll.av x9.Rolls, lst 1 fI x9.Prices, lst 1 fI x9.Down, lst 8 GEnt.av x9.Ahead]) (yv_ixT rfl Tryz.underlying27 sh42 rfl rfl e9) (congrArg AV.pp (GEnt.av_eq x9))) ?_
  refine tr tbk 2 (.mk ?_)
  obtain ⟨x10, e10, h1⟩ := bind_e h1
  refine rst rfl rfl rfl (yv_ixT rfl Tryz.underlying23 sh3 rfl rfl e10) ?_
  refine tr tbk 1 (.mk ?_)
  refine nb tbk h1 fun x11 h1 => ?_
  refine tr tbk 2 (.mk ?_)
  cases x11
  replace h1 := cf h1
  refine tr tbk 30 (.mk ?_)
  exact lf h1 () leA
  replace h1 := ct h1
  refine tr tbk 2 (.mk ?_)
  obtain ⟨x12, e12, h1⟩ := bind_e h1
  refine rst rfl rfl rfl (yv_to (y := .pp [int x12.Now, boo x12.Closed, lst 4 GPool.av x12.Pools, lst 1 fI x12.Bal, lst 11 GRoll.av x12.Rolls, lst 1 fI x12.Prices, lst 1 fI x12.Down, lst 8 GEnt.av x12.Ahead]) (yv_ixT rfl Tryz.underlying27 sh42 rfl rfl e12) (congrArg AV.pp (GEnt.av_eq x12))) ?_
  refine tr tbk 2 (.mk ?_)
  obtain ⟨x13, e13, h1⟩ := bind_e h1
  refine rst rfl rfl rfl (yv_ixT rfl Tryz.underlying23 sh3 rfl rfl e13) ?_
  refine tr tbk 1 (.mk ?_)
  refine nb tbk h1 fun x14 h1 => ?_
  refine tr tbk 2 (.mk ?_)
  cases x14
  replace h1 := cf h1
  refine tr tbk 20 (.mk ?_)
  exact lf h1 () leA
  replace h1 := ct h1
  refine tr tbk 2 (.mk ?_)
  obtain ⟨x15, e15, h1⟩ := bind_e h1
  refine rst rfl rfl rfl (yv_to (y := .pp [int x15.Now, boo x15.Closed, lst 4 GPool.av x15.Pools, lst 1 fI x15.Bal, lst 11 GRoll.av x15.Rolls, lst 1 fI x15.Prices, lst 1 fI x15.Down, lst 8 GEnt.av x15.Ahead]) (yv_ixT rfl Tryz.underlying27 sh42 rfl rfl e15) (congrArg AV.pp (GEnt.av_eq x15))) ?_
  refine tr tbk 2 (.mk ?_)
  obtain ⟨x16, e16, h1⟩ := bind_e h1
  refine rst rfl rfl rfl (yv_ixT rfl Tryz.underlying23 sh3 rfl rfl e16) ?_
  refine tr tbk 1 (.mk ?_)
  refine nb tbk h1 fun x17 h1 => ?_
  refine tr tbk 2 (.mk ?_)
  cases x17
  replace h1 := cf h1
  refine tr tbk 10 (.mk ?_)
  exact lf h1 () leA
  replace h1 := ct h1
  refine tr tbk 1 (.mk ?_)
  refine nb tbk h1 fun x18 h1 => ?_
  refine tr tbk 2 (.mk ?_)
  cases x18
  replace h1 := cf h1
  refine tr tbk 6 (.mk ?_)
  exact lf h1 () leA
  replace h1 := ct h1
  refine rst rfl rfl rfl (yv_build (cs := [int 0, int 0, int 0, int 0, int 0, int 2, int 7, int 0]) (ps := [(5, _), (6, _)]) rfl pl44 z44 rfl (.cons rfl (.cons rfl .nil)) (by kernel_rfl)) ?_
  obtain ⟨x19, e19, h1⟩ := bind_e h1
  refine rst rfl rfl rfl (yv_callP rfl rfl (.cons rfl (.cons rfl .nil)) cal22 (CvL.refl _) (d_match_Due_c e19)) ?_
  refine nb tbk h1 fun x20 h1 => ?_
  refine tr tbk 3 (.mk ?_)
  exact lf h1 () leA
  rintro y0_1 _ h0
  obtain rfl := nxt_e h0
  refine w_ret (hret _ _ _ (.tmp rfl .nil) (fun _ _ h => h) ?_)
  exact .refl _
def d_law18_MatchParts_L0 (a3 : List Int) : Nat → Int → Int → Int → GState → Option ((Int × Int × GState) ⊕ (Bool))
  | 0, _, _, _, _ => none
  | n + 1, y0_1, y0_2, y0_3, y0_4 =>
    (show Option (Bool) from
    bnd (decide (y0_1 > 0)) fun x11 =>
    cond x11 (bnd (decide (y0_3 < 12)) fun x12 =>
    some (x12 : Bool)) (some (false : Bool))).bind <| fun y1_1 =>
    cond y1_1 (bnd (decide (y0_3 < (a3.length : Int))) fun x13 =>
    (show Option (Int × Int) from
    cond x13 ((ix a3 y0_3).bind fun x15 =>
    (d_law00_Place x15 500).bind fun x16 =>
    bnd (decide (y0_3 < 11)) fun x17 =>
    cond x17 ((ix a3 y0_3).bind fun x18 =>
    (d_law00_Place x18 y0_1).bind fun x19 =>
    bnd (w64 (1 + x19)) fun x20 =>
    some ((x20 : Int), (x16 : Int))) (some ((y0_1 : Int), (x16 : Int)))) (some ((y0_1 : Int), (0 : Int)))).bind <| p2 fun (y2_1 : Int) (y2_2 : Int) =>
    (d_match_Do n y0_4 (⟨2, 0, 0, 0, 0, y2_1, y2_2, 0, []⟩ : GOp)).bind fun x21 =>
    (show Option (Bool) from
    bnd (decide (x21.2 ≠ 0)) fun x24 =>
    cond x24 (some (true : Bool)) (bnd (decide ((x21.1.Receipts.length : Int) ≠ 1)) fun x25 =>
    cond x25 (some (true : Bool)) (bnd (decide ((x21.1.Ents.length : Int) ≠ 2)) fun x26 =>
    cond x26 (some (true : Bool)) ((ix x21.1.Ents 0).bind fun x27 =>
    (ix x27.Bal 1).bind fun x28 =>
    (ix x21.1.Receipts 0).bind fun x29 =>
    bnd (w64 (0 - x29.Accrued)) fun x30 =>
    bnd (decide (x28 ≠ x30)) fun x31 =>
    cond x31 (some (true : Bool)) ((ix x21.1.Receipts 0).bind fun x32 =>
    bnd (w64 (y0_1 - y2_1)) fun x33 =>
    bnd (decide (x32.Open ≠ x33)) fun x34 =>
    some (x34 : Bool)))))).bind <| fun y3_1 =>
    cond y3_1 (esc (some ((false : Bool)))) (bnd (w64 (y0_1 - y2_1)) fun x35 =>
    bnd (w64 (y0_2 + y2_2)) fun x36 =>
    bnd (w64 (y0_3 + 1)) fun x37 =>
    d_law18_MatchParts_L0 a3 n (x35 : Int) (x36 : Int) (x37 : Int) (x21.1 : GState))) (brk ((y0_1 : Int), (y0_2 : Int), (y0_4 : GState)))
def d_law18_MatchParts (n : Nat) (a1 : Int) (a2 : Int) (a3 : List Int) : Option (Bool) :=
(d_law00_Place a1 100).bind fun x4 =>
bnd (w64 (1 + x4)) fun x5 =>
(d_law00_Place a2 10000).bind fun x6 =>
(d_law18_stocked n 1 x5 x6).bind fun x7 =>
(show Option ((Int × Int × GState) ⊕ (Bool)) from
d_law18_MatchParts_L0 a3 n (x5 : Int) (0 : Int) (0 : Int) (x7 : GState)).bind <| sel <| p2 fun (y4_1 : Int) (q0 : Int × GState) => (p2 fun (y4_2 : Int) (y4_3 : GState) =>
(ix y4_3.Ents 0).bind fun x39 =>
(show Option (Bool) from
bnd (decide (y4_1 = 0)) fun x41 =>
cond x41 ((ix x39.Bal 1).bind fun x42 =>
bnd (decide (x42 = 0)) fun x43 =>
cond x43 ((ix x39.Bal 2).bind fun x44 =>
bnd (w64 (0 - y4_2)) fun x45 =>
bnd (decide (x44 = x45)) fun x46 =>
cond x46 ((ix x39.Bal 6).bind fun x47 =>
bnd (w64 (y4_2 - x6)) fun x48 =>
bnd (decide (x47 = x48)) fun x49 =>
cond x49 ((ix x39.Bal 0).bind fun x50 =>
bnd (decide (x50 = x6)) fun x51 =>
cond x51 ((d_law18_awake n).bind fun x52 =>
some (x52 : Bool)) (some (false : Bool))) (some (false : Bool))) (some (false : Bool))) (some (false : Bool))) (some (false : Bool))).bind <| fun y5_1 =>
some ((y5_1 : Bool))) q0
theorem d_law18_MatchParts_c {n : Nat} {a1 : Int} {a2 : Int} {a3 : List Int} {r : Bool} (h0 : d_law18_MatchParts n a1 a2 a3 = some r) : PP Tryz.prog 7 [int a1, int a2, lst 1 fI a3] (fun y => y = boo r) := by
  unfold d_law18_MatchParts at h0
  refine pp_of_pc (R0 := fun y H => Cv (frzH H) y (boo r)) ?_ (fun y H hc => ⟨_, rfl, pvB r, hc⟩)
  refine pcw (c := _) Tryz.func7 rfl rfl ?_; intro Q hret hnorm
  refine tc tbk 7 (.mk ?_)
  obtain ⟨x4, e4, h0⟩ := bind_e h0
  refine rst rfl rfl rfl (yv_callP rfl rfl (.cons rfl (.cons rfl .nil)) cal15 (CvL.refl _) (d_law00_Place_c e4)) ?_
  refine ni tbk h0 fun x5 h0 => ?_
  refine tr tbk 1 (.mk ?_)
  obtain ⟨x6, e6, h0⟩ := bind_e h0
  refine rst rfl rfl rfl (yv_callP rfl rfl (.cons rfl (.cons rfl .nil)) cal15 (CvL.refl _) (d_law00_Place_c e6)) ?_
  refine tr tbk 7 (.mk ?_)
  obtain ⟨x7, e7, h0⟩ := bind_e h0
  refine rst rfl rfl rfl (yv_callP rfl rfl (.cons rfl (.cons rfl (.cons rfl .nil))) cal25 (CvL.refl _) (d_law18_stocked_c e7)) ?_
  refine rse rfl rfl rfl (yl_alloc 1 .any rfl z32 rfl) ?_; rintro _ _ ⟨v8, -, rfl, rfl⟩
  refine sS ⟨32, 10, true, true, v8, [[int x7.Master.Entities, int x7.Master.Periods, lst 1 fI x7.Master.Weights, lst 1 (fL 1 fI) x7.Master.Methods, lst 1 (fL 1 fI) x7.Master.Costs, lst 8 GEnt.av x7.Ents, lst 8 GReceipt.av x7.Receipts, lst 9 GSale.av x7.Sales, lst 6 GTransit.av x7.Transits, int x7.Done]]⟩ sh32 ?_
  refine tr tbk 12 (.mk ?_)
  refine jnE h0 [6, 8, 9] [] (fun (a : Int × Int × GState) (k : Unit) => [(10, int a.1), (11, int a.2.1)]) (fun a k => [(1, ⟨32, 10, true, true, v8, [[int a.2.2.Master.Entities, int a.2.2.Master.Periods, lst 1 fI a.2.2.Master.Weights, lst 1 (fL 1 fI) a.2.2.Master.Methods, lst 1 (fL 1 fI) a.2.2.Master.Costs, lst 8 GEnt.av a.2.2.Ents, lst 8 GReceipt.av a.2.2.Receipts, lst 9 GSale.av a.2.2.Sales, lst 6 GTransit.av a.2.2.Transits, int a.2.2.Done]]⟩)]) ⟨fun j9 h1 h0 => ?_, ?_⟩
  refine tc tbk 1 (.mk ?_)
  refine lp (fun n (a : Int × Int × Int × GState) => d_law18_MatchParts_L0 a3 n a.1 a.2.1 a.2.2.1 a.2.2.2) ((x5 : Int), (0 : Int), (0 : Int), (x7 : GState)) () h1 [2, 6, 8, 9] [] (fun (a : Int × Int × Int × GState) (k : Unit) => [(10, int a.1), (11, int a.2.1), (12, int a.2.2.1)]) (fun a k => [(1, ⟨32, 10, true, true, v8, [[int a.2.2.2.Master.Entities, int a.2.2.2.Master.Periods, lst 1 fI a.2.2.2.Master.Weights, lst 1 (fL 1 fI) a.2.2.2.Master.Methods, lst 1 (fL 1 fI) a.2.2.2.Master.Costs, lst 8 GEnt.av a.2.2.2.Ents, lst 8 GReceipt.av a.2.2.2.Receipts, lst 9 GSale.av a.2.2.2.Sales, lst 6 GTransit.av a.2.2.2.Transits, int a.2.2.2.Done]]⟩)]) (fun _ => rfl) ⟨leA, ?_⟩
  rintro n ⟨y0_1, y0_2, y0_3, y0_4⟩ _ hm h1
  replace h1 : d_law18_MatchParts_L0 a3 (n + 1) y0_1 y0_2 y0_3 y0_4 = some _ := h1
  rw [d_law18_MatchParts_L0] at h1
  refine tc tbk 2 (.mk ?_)
  refine jn h1 [2, 6, 8, 9, 10, 11, 12] [1] (fun (a : Bool) (k : Unit) => [(32, boo a)]) (fun a k => []) ⟨fun j10 h2 => ?_, ?_⟩
  refine tc tbk 2 (.mk ?_)
  refine nb tbk h2 fun x11 h2 => ?_
  refine tr tbk 1 (.mk ?_)
  cases x11
  replace h2 := cf h2
  refine tr tbk 4 (.mk ?_)
  exact lf h2 () leA
  replace h2 := ct h2
  refine tr tbk 1 (.mk ?_)
  refine nb tbk h2 fun x12 h2 => ?_
  refine tr tbk 2 (.mk ?_)
  exact lf h2 () leA
  rintro y1_1 _ h1
  cases y1_1
  replace h1 := cf h1
  refine tc tbk 2 (.mk ?_)
  exact lfE h1 () leA
  replace h1 := ct h1
  refine tc tbk 15 (.mk ?_)
  refine rst rfl rfl rfl (yv_len_sl rfl Tryz.underlying23 rfl (lst_len _)) ?_
  refine nb tbk h1 fun x13 h1 => ?_
  refine tr tbk 1 (.mk ?_)
  refine jn h1 [2, 6, 8, 9, 10, 11, 12] [1] (fun (a : Int × Int) (k : Unit) => [(13, int a.1), (14, int a.2)]) (fun a k => []) ⟨fun j14 h2 => ?_, ?_⟩
  cases x13
  replace h2 := cf h2
  refine tc tbk 2 (.mk ?_)
  exact lf h2 () leA
  replace h2 := ct h2
  refine tc tbk 5 (.mk ?_)
  obtain ⟨x15, e15, h2⟩ := bind_e h2
  refine rst rfl rfl rfl (yv_ixT rfl Tryz.underlying23 sh3 rfl rfl e15) ?_
  refine tr tbk 1 (.mk ?_)
  obtain ⟨x16, e16, h2⟩ := bind_e h2
  refine rst rfl rfl rfl (yv_callP rfl rfl (.cons rfl (.cons rfl .nil)) cal15 (CvL.refl _) (d_law00_Place_c e16)) ?_
  refine tr tbk 5 (.mk ?_)
  refine nb tbk h2 fun x17 h2 => ?_
  refine tr tbk 1 (.mk ?_)
  cases x17
  replace h2 := cf h2
  refine tc tbk 2 (.mk ?_)
  exact lf h2 () leA
  replace h2 := ct h2
  refine tc tbk 4 (.mk ?_)
  obtain ⟨x18, e18, h2⟩ := bind_e h2
  refine rst rfl rfl rfl (yv_ixT rfl Tryz.underlying23 sh3 rfl rfl e18) ?_
  refine tr tbk 2 (.mk ?_)
  obtain ⟨x19, e19, h2⟩ := bind_e h2
  refine rst rfl rfl rfl (yv_callP rfl rfl (.cons rfl (.cons rfl .nil)) cal15 (CvL.refl _) (d_law00_Place_c e19)) ?_
  refine ni tbk h2 fun x20 h2 => ?_
  refine tr tbk 2 (.mk ?_)
  exact lf h2 () leA
  rintro ⟨y2_1, y2_2⟩ _ h1
  replace h1 := p2_e h1
  refine tc tbk 5 (.mk ?_)
  refine rst rfl rfl rfl (yv_build (cs := [int 2, int 0, int 0, int 0, int 0, int y2_1, int y2_2, int 0, .sc (.slice none 0 0)]) (ps := [(0, _), (5, _), (6, _)]) rfl pl38 z38 rfl (.cons rfl (.cons rfl (.cons rfl .nil))) (by kernel_rfl)) ?_
  obtain ⟨x21, e21, h1⟩ := bind_e h1
  refine rst rfl rfl rfl (yv_callP rfl rfl (.cons rfl (.cons rfl .nil)) cal26 (.cons (.refl _) (.cons (CvL.agg (.cons (.refl _) (.cons (.refl _) (.cons (.refl _) (.cons (.refl _) (.cons (.refl _) (.cons (.refl _) (.cons (.refl _) (.cons (.refl _) (.cons (.nil _) .nil)))))))))) .nil)) (d_match_Do_c e21)) ?_
  refine tr tbk 3 (.mk ?_)
  refine rse rfl rfl rfl (yl_alloc 2 .any rfl z32 rfl) ?_; rintro _ _ ⟨v22, -, rfl, rfl⟩
  refine sS ⟨32, 10, true, true, v22, [[int x21.1.Master.Entities, int x21.1.Master.Periods, lst 1 fI x21.1.Master.Weights, lst 1 (fL 1 fI) x21.1.Master.Methods, lst 1 (fL 1 fI) x21.1.Master.Costs, lst 8 GEnt.av x21.1.Ents, lst 8 GReceipt.av x21.1.Receipts, lst 9 GSale.av x21.1.Sales, lst 6 GTransit.av x21.1.Transits, int x21.1.Done]]⟩ sh32 ?_
  refine tr tbk 4 (.mk ?_)
  refine jn h1 [2, 6, 8, 9, 10, 11, 12, 13, 14, 15] [1, 2] (fun (a : Bool) (k : Unit) => [(102, boo a)]) (fun a k => []) ⟨fun j23 h2 => ?_, ?_⟩
  refine c_drawE [0, 1, 3, 7, 15, 31, 63, 127, 255, 511, 1023, 2047, 4095, 8191, 16383, 32767, 65535, 131071, 262143, 524287, 1048575, 2097151, 32767, 4227071, 12615679, 29392895, 62947327, 130056191, 268435455, 536870911, 1073741823, 2147483647, 4294967295, 8589934591, 17179869183, 34359738367, 2147483647, 2147483647, 208305913855, 549755813887, 1099511627775] (rl [(3, [2]), (4, [2]), (9, [2]), (10, [2]), (15, [2]), (16, [2]), (22, [2]), (23, [2]), (31, [2]), (32, [2])] []) (fun i => [2]) (fun i => true) [0, 1, 2, 3, 4, 5, 6, 7, 8, 9, 10, 11, 12, 13, 14, 15, 16, 17, 18, 19, 20, 21, 22, 23, 24, 25, 26, 27, 28, 29, 30, 31, 32, 33, 34, 35, 36, 37, 38, 39, 40] mixed (by kernel_rfl) ?_; intro K hK
  refine eM ?_
  obtain ⟨x24, e24, h2⟩ := bnd_e h2
  refine eP (fun H hH => yv_to (y := boo x24) (yv_neq rfl rfl rfl) (congrArg boo e24)) ?_
  refine eM ?_
  cases x24
  replace h2 := cf h2
  refine eF fo32_2 ?_
  refine eL sh28 ?_
  refine eP (fun H hH => yv_len_sl rfl Tryz.underlying28 rfl (lst_len _)) ?_
  obtain ⟨x25, e25, h2⟩ := bnd_e h2
  refine eP (fun H hH => yv_to (y := boo x25) (yv_neq rfl rfl rfl) (congrArg boo e25)) ?_
  refine eP (fun H hH => yv_pick rfl rfl (fun _ => rfl) (fun _ => rfl) rfl) ?_
  refine eM ?_
  cases x25
  replace h2 := cf h2
  refine eF fo32_1 ?_
  refine eL sh27 ?_
  refine eP (fun H hH => yv_len_sl rfl Tryz.underlying27 rfl (lst_len _)) ?_
  obtain ⟨x26, e26, h2⟩ := bnd_e h2
  refine eP (fun H hH => yv_to (y := boo x26) (yv_neq rfl rfl rfl) (congrArg boo e26)) ?_
  refine eP (fun H hH => yv_pick rfl rfl (fun _ => rfl) (fun _ => rfl) rfl) ?_
  refine eM ?_
  cases x26
  replace h2 := cf h2
  refine eF fo32_1 ?_
  refine eL sh27 ?_
  obtain ⟨x27, e27, h2⟩ := bind_e h2
  refine eP (fun H hH => yv_to (y := .pp [int x27.Now, boo x27.Closed, lst 4 GPool.av x27.Pools, lst 1 fI x27.Bal, lst 11 GRoll.av x27.Rolls, lst 1 fI x27.Prices, lst 1 fI x27.Down, lst 8 GEnt.av x27.Ahead]) (yv_ixT rfl Tryz.underlying27 sh42 rfl rfl e27) (congrArg AV.pp (GEnt.av_eq x27))) ?_
  refine eP (fun H hH => yv_fieldAddr rfl fo42_3 rfl (.pp _) (.pp _ _)) ?_
  refine eP (fun H hH => yv_load rfl sh23 rfl (.pp _) rfl) ?_
  obtain ⟨x28, e28, h2⟩ := bind_e h2
  refine eP (fun H hH => yv_ixT rfl Tryz.underlying23 sh3 rfl rfl e28) ?_
  refine eP (fun H hH => yv_load rfl sh3 rfl (.pp _) rfl) ?_
  refine eF fo32_2 ?_
  refine eL sh28 ?_
  obtain ⟨x29, e29, h2⟩ := bind_e h2
  refine eP (fun H hH => yv_ixT rfl Tryz.underlying28 sh44 rfl rfl e29) ?_
  refine eP (fun H hH => yv_fieldAddr rfl fo44_6 rfl (.pp _) (.pp _ _)) ?_
  refine eP (fun H hH => yv_load rfl sh3 rfl (.pp _) rfl) ?_
  obtain ⟨x30, e30, h2⟩ := bnd_e h2
  refine eP (fun H hH => yv_neg rfl rfl e30) ?_
  obtain ⟨x31, e31, h2⟩ := bnd_e h2
  refine eP (fun H hH => yv_to (y := boo x31) (yv_neq rfl rfl rfl) (congrArg boo e31)) ?_
  refine eP (fun H hH => yv_pick rfl rfl (fun _ => rfl) (fun _ => rfl) rfl) ?_
  refine eM ?_
  cases x31
  replace h2 := cf h2
  refine eF fo32_2 ?_
  refine eL sh28 ?_
  obtain ⟨x32, e32, h2⟩ := bind_e h2
  refine eP (fun H hH => yv_ixT rfl Tryz.underlying28 sh44 rfl rfl e32) ?_
  refine eP (fun H hH => yv_fieldAddr rfl fo44_5 rfl (.pp _) (.pp _ _)) ?_
  refine eP (fun H hH => yv_load rfl sh3 rfl (.pp _) rfl) ?_
  iterate 2 refine eM ?_
  obtain ⟨x33, e33, h2⟩ := bnd_e h2
  refine eP (fun H hH => yv_sub rfl rfl rfl e33) ?_
  obtain ⟨x34, e34, h2⟩ := bnd_e h2
  refine eP (fun H hH => yv_to (y := boo x34) (yv_neq rfl rfl rfl) (congrArg boo e34)) ?_
  refine eP (fun H hH => yv_pick rfl rfl (fun _ => rfl) (fun _ => rfl) rfl) ?_
  refine de_nil (hK _ ?_)
  exact lf h2 () leA
  replace h2 := ct h2
  refine de_skip rfl rfl rfl ?_
  refine de_skip rfl rfl rfl ?_
  refine de_skip rfl rfl rfl ?_
  refine de_skip rfl rfl rfl ?_
  refine de_skip rfl rfl rfl ?_
  refine de_skip rfl rfl rfl ?_
  refine de_skip rfl rfl rfl ?_
  refine de_skip rfl rfl rfl ?_
  refine de_skip rfl rfl rfl ?_
  refine eP (fun H hH => yv_pick rfl rfl (fun _ => rfl) (fun _ => rfl) rfl) ?_
  refine de_nil (hK _ ?_)
  exact lf h2 () leA
  replace h2 := ct h2
  refine de_skip rfl rfl rfl ?_
  refine de_skip rfl rfl rfl ?_
  refine de_skip rfl rfl rfl ?_
  refine de_skip rfl rfl rfl ?_
  refine de_skip rfl rfl rfl ?_
  refine de_skip rfl rfl rfl ?_
  refine de_skip rfl rfl rfl ?_
  refine de_skip rfl rfl rfl ?_
  refine de_skip rfl rfl rfl ?_
  refine de_skip rfl rfl rfl ?_
  refine de_skip rfl rfl rfl ?_
  refine de_skip rfl rfl rfl ?_
  refine de_skip rfl rfl rfl ?_
  refine de_skip rfl rfl rfl ?_
  refine eP (fun H hH => yv_pick rfl rfl (fun _ => rfl) (fun _ => rfl) rfl) ?_
  refine eM ?_
  refine de_skip rfl rfl rfl ?_
  refine de_skip rfl rfl rfl ?_
  refine de_skip rfl rfl rfl ?_
  refine de_skip rfl rfl rfl ?_
  refine de_skip rfl rfl rfl ?_
  refine de_skip rfl rfl rfl ?_
  refine de_skip rfl rfl rfl ?_
  refine de_skip rfl rfl rfl ?_
  refine de_skip rfl rfl rfl ?_
  refine eP (fun H hH => yv_pick rfl rfl (fun _ => rfl) (fun _ => rfl) rfl) ?_
  refine de_nil (hK _ ?_)
  exact lf h2 () leA
  replace h2 := ct h2
  refine de_skip rfl rfl rfl ?_
  refine de_skip rfl rfl rfl ?_
  refine de_skip rfl rfl rfl ?_
  refine de_skip rfl rfl rfl ?_
  refine eP (fun H hH => yv_pick rfl rfl (fun _ => rfl) (fun _ => rfl) rfl) ?_
  refine eM ?_
  refine de_skip rfl rfl rfl ?_
  refine de_skip rfl rfl rfl ?_
  refine de_skip rfl rfl rfl ?_
  refine de_skip rfl rfl rfl ?_
  refine de_skip rfl rfl rfl ?_
  refine de_skip rfl rfl rfl ?_
  refine de_skip rfl rfl rfl ?_
  refine de_skip rfl rfl rfl ?_
  refine de_skip rfl rfl rfl ?_
  refine de_skip rfl rfl rfl ?_
  refine de_skip rfl rfl rfl ?_
  refine de_skip rfl rfl rfl ?_
  refine de_skip rfl rfl rfl ?_
  refine de_skip rfl rfl rfl ?_
  refine eP (fun H hH => yv_pick rfl rfl (fun _ => rfl) (fun _ => rfl) rfl) ?_
  refine eM ?_
  refine de_skip rfl rfl rfl ?_
  refine de_skip rfl rfl rfl ?_
  refine de_skip rfl rfl rfl ?_
  refine de_skip rfl rfl rfl ?_
  refine de_skip rfl rfl rfl ?_
  refine de_skip rfl rfl rfl ?_
  refine de_skip rfl rfl rfl ?_
  refine de_skip rfl rfl rfl ?_
  refine de_skip rfl rfl rfl ?_
  refine eP (fun H hH => yv_pick rfl rfl (fun _ => rfl) (fun _ => rfl) rfl) ?_
  refine de_nil (hK _ ?_)
  exact lf h2 () leA
  replace h2 := ct h2
  refine de_skip rfl rfl rfl ?_
  refine de_skip rfl rfl rfl ?_
  refine de_skip rfl rfl rfl ?_
  refine de_skip rfl rfl rfl ?_
  refine eP (fun H hH => yv_pick rfl rfl (fun _ => rfl) (fun _ => rfl) rfl) ?_
  refine eM ?_
  refine de_skip rfl rfl rfl ?_
  refine de_skip rfl rfl rfl ?_
  refine de_skip rfl rfl rfl ?_
  refine de_skip rfl rfl rfl ?_
  refine eP (fun H hH => yv_pick rfl rfl (fun _ => rfl) (fun _ => rfl) rfl) ?_
  refine eM ?_
  refine de_skip rfl rfl rfl ?_
  refine de_skip rfl rfl rfl ?_
  refine de_skip rfl rfl rfl ?_
  refine de_skip rfl rfl rfl ?_
  refine de_skip rfl rfl rfl ?_
  refine de_skip rfl rfl rfl ?_
  refine de_skip rfl rfl rfl ?_
  refine de_skip rfl rfl rfl ?_
  refine de_skip rfl rfl rfl ?_
  refine de_skip rfl rfl rfl ?_
  refine de_skip rfl rfl rfl ?_
  refine de_skip rfl rfl rfl ?_
  refine de_skip rfl rfl rfl ?_
  refine de_skip rfl rfl rfl ?_
  refine eP (fun H hH => yv_pick rfl rfl (fun _ => rfl) (fun _ => rfl) rfl) ?_
  refine eM ?_
  refine de_skip rfl rfl rfl ?_
  refine de_skip rfl rfl rfl ?_
  refine de_skip rfl rfl rfl ?_
  refine de_skip rfl rfl rfl ?_
  refine de_skip rfl rfl rfl ?_
  refine de_skip rfl rfl rfl ?_
  refine de_skip rfl rfl rfl ?_
  refine de_skip rfl rfl rfl ?_
  refine de_skip rfl rfl rfl ?_
  refine eP (fun H hH => yv_pick rfl rfl (fun _ => rfl) (fun _ => rfl) rfl) ?_
  refine de_nil (hK _ ?_)
  exact lf h2 () leA
  rintro y3_1 _ h1
  cases y3_1
  replace h1 := cf h1
  refine tc tbk 6 (.mk ?_)
  refine ni tbk h1 fun x35 h1 => ?_
  refine tr tbk 2 (.mk ?_)
  refine ni tbk h1 fun x36 h1 => ?_
  refine sS ⟨32, 10, true, true, v8, [[int x21.1.Master.Entities, int x21.1.Master.Periods, lst 1 fI x21.1.Master.Weights, lst 1 (fL 1 fI) x21.1.Master.Methods, lst 1 (fL 1 fI) x21.1.Master.Costs, lst 8 GEnt.av x21.1.Ents, lst 8 GReceipt.av x21.1.Receipts, lst 9 GSale.av x21.1.Sales, lst 6 GTransit.av x21.1.Transits, int x21.1.Done]]⟩ sh32 ?_
  refine tr tbk 6 (.mk ?_)
  refine ni tbk h1 fun x37 h1 => ?_
  refine tr tbk 2 (.mk ?_)
  exact bk (x35, x36, x37, x21.1) () h1 leA
  replace h1 := ct h1
  refine tc tbk 5 (.mk ?_)
  obtain ⟨c38, hX, hj⟩ := esc_e h1; subst hj; replace h0 := hX.trans (sel_r h0)
  obtain rfl := nxt_e h0
  refine w_ret (hret _ _ _ (.tmp rfl .nil) (fun _ _ h => h) ?_)
  exact .refl _
  rintro ⟨y4_1, y4_2, y4_3⟩ _ h0
  replace h0 := p2_e h0
  replace h0 := p2_e h0
  refine tc tbk 4 (.mk ?_)
  obtain ⟨x39, e39, h0⟩ := bind_e h0
  refine rst rfl rfl rfl (yv_to (y := .pp [int x39.Now, boo x39.Closed, lst 4 GPool.av x39.Pools, lst 1 fI x39.Bal, lst 11 GRoll.av x39.Rolls, lst 1 fI x39.Prices, lst 1 fI x39.Down, lst 8 GEnt.av x39.Ahead]) (yv_ixT rfl Tryz.underlying27 sh42 rfl rfl e39) (congrArg AV.pp (GEnt.av_eq x39))) ?_
  refine tr tbk 5 (.mk ?_)
  refine jn h0 [] [] (fun (a : Bool) (k : Unit) => [(6, boo a)]) (fun a k => []) ⟨fun j40 h1 => ?_, ?_⟩
  refine tc tbk 2 (.mk ?_)
  refine nb tbk h1 fun x41 h1 => ?_
  refine tr tbk 1 (.mk ?_)
  cases x41
  replace h1 := cf h1
  refine tr tbk 34 (.mk ?_)
  exact lf h1 () leA
  replace h1 := ct h1
  refine tr tbk 1 (.mk ?_)
  obtain ⟨x42, e42, h1⟩ := bind_e h1
  refine rst rfl rfl rfl (yv_ixT rfl Tryz.underlying23 sh3 rfl rfl e42) ?_
  refine tr tbk 1 (.mk ?_)
  refine nb tbk h1 fun x43 h1 => ?_
  refine tr tbk 2 (.mk ?_)
  cases x43
  replace h1 := cf h1
  refine tr tbk 28 (.mk ?_)
  exact lf h1 () leA
  replace h1 := ct h1
  refine tr tbk 1 (.mk ?_)
  obtain ⟨x44, e44, h1⟩ := bind_e h1
  refine rst rfl rfl rfl (yv_ixT rfl Tryz.underlying23 sh3 rfl rfl e44) ?_
  refine tr tbk 2 (.mk ?_)
  refine ni tbk h1 fun x45 h1 => ?_
  refine nb tbk h1 fun x46 h1 => ?_
  refine tr tbk 2 (.mk ?_)
  cases x46
  replace h1 := cf h1
  refine tr tbk 20 (.mk ?_)
  exact lf h1 () leA
  replace h1 := ct h1
  refine tr tbk 1 (.mk ?_)
  obtain ⟨x47, e47, h1⟩ := bind_e h1
  refine rst rfl rfl rfl (yv_ixT rfl Tryz.underlying23 sh3 rfl rfl e47) ?_
  refine tr tbk 3 (.mk ?_)
  refine ni tbk h1 fun x48 h1 => ?_
  refine nb tbk h1 fun x49 h1 => ?_
  refine tr tbk 2 (.mk ?_)
  cases x49
  replace h1 := cf h1
  refine tr tbk 11 (.mk ?_)
  exact lf h1 () leA
  replace h1 := ct h1
  refine tr tbk 1 (.mk ?_)
  obtain ⟨x50, e50, h1⟩ := bind_e h1
  refine rst rfl rfl rfl (yv_ixT rfl Tryz.underlying23 sh3 rfl rfl e50) ?_
  refine tr tbk 2 (.mk ?_)
  refine nb tbk h1 fun x51 h1 => ?_
  refine tr tbk 2 (.mk ?_)
  cases x51
  replace h1 := cf h1
  refine tr tbk 4 (.mk ?_)
  exact lf h1 () leA
  replace h1 := ct h1
  obtain ⟨x52, e52, h1⟩ := bind_e h1
  refine rst rfl rfl rfl (yv_callP rfl rfl .nil cal24 (CvL.refl _) (d_law18_awake_c e52)) ?_
  refine tr tbk 3 (.mk ?_)
  exact lf h1 () leA
  rintro y5_1 _ h0
  obtain rfl := nxt_e h0
  refine w_ret (hret _ _ _ (.tmp rfl .nil) (fun _ _ h => h) ?_)
  exact .refl _
end Go.Pv
