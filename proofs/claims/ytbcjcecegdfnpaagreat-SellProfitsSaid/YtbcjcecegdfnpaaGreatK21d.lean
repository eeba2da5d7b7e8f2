import Derived.Test.YtbcjcecegdfnpaaGreatK21c
set_option linter.unusedVariables false
namespace Go.Pv
open Go.Proofs
set_option maxRecDepth 10000
set_option maxHeartbeats 1000000
def d_sell_back (n : Nat) (a1 : GState) (a2 : GOp) (a3 : GSale) : Option (GState × Int) :=
bnd (w64 (a3.Qty - a3.Back)) fun x8 =>
(d_money_Part n a3.Cost a2.Qty x8).bind fun x9 =>
bnd (w64 (a3.Qty - a3.Back)) fun x10 =>
(d_money_Part n a3.Profit a2.Qty x10).bind fun x11 =>
(d_stock_Bring n a1 a2.E a2.Item a2.Loc (⟨a2.Qty, x9, x11⟩ : GLayer)).bind fun x12 =>
bnd (decide (x12.2.2.2 ≠ 0)) fun x14 =>
cond x14 (some ((a1 : GState), (x12.2.2.2 : Int))) ((d_sell_line 0 x12.2.1).bind fun x15 =>
(d_sell_line 6 x12.2.2.1).bind fun x16 =>
bnd (w64 (0 - x9)) fun x17 =>
(d_sell_line 5 x17).bind fun x18 =>
(d_sell_line 4 a2.Amount).bind fun x19 =>
bnd (w64 (0 - a2.Amount)) fun x20 =>
(d_sell_line 3 x20).bind fun x21 =>
(d_stock_Post n x12.1 a2.E ([x15, x16, x18, x19, x21] : List GLine)).bind fun x22 =>
bnd (decide (x22.2 ≠ 0)) fun x23 =>
cond x23 (some ((a1 : GState), (x22.2 : Int))) ((d_stock_Turn x22.1 a2.E a2.Item (⟨0, 0, 0, 0, x12.2.1, 0, 0, 0, 0, 0, 0⟩ : GRoll)).bind fun x24 =>
bnd (decide (x24.2 ≠ 0)) fun x25 =>
cond x25 (some ((a1 : GState), (x24.2 : Int))) ((show Option ((Unit)) from
asrt (x24.1.Sales.length ≤ 68719476736) <|
(ix x24.1.Sales a2.Ref).bind fun x29 =>
some ()).bind <| fun _ =>
(ix x24.1.Sales a2.Ref).bind fun x30 =>
bnd (w64 (x30.Cost - x9)) fun x31 =>
bnd (w64 (x30.Profit - x11)) fun x32 =>
bnd (w64 (x30.Back + a2.Qty)) fun x33 =>
bnd (x24.1.Sales.set (Int.toNat a2.Ref) ((⟨x30.Entity, x30.Item, x30.Loc, x30.Qty, x30.Back, x31, x30.Profit, x30.Period, x30.Waits⟩ : GSale) : GSale)) fun x34 =>
bnd (x34.set (Int.toNat a2.Ref) ((⟨((⟨x30.Entity, x30.Item, x30.Loc, x30.Qty, x30.Back, x31, x30.Profit, x30.Period, x30.Waits⟩ : GSale) : GSale).Entity, ((⟨x30.Entity, x30.Item, x30.Loc, x30.Qty, x30.Back, x31, x30.Profit, x30.Period, x30.Waits⟩ : GSale) : GSale).Item, ((⟨x30.Entity, x30.Item, x30.Loc, x30.Qty, x30.Back, x31, x30.Profit, x30.Period, x30.Waits⟩ : GSale) : GSale).Loc, ((⟨x30.Entity, x30.Item, x30.Loc, x30.Qty, x30.Back, x31, x30.Profit, x30.Period, x30.Waits⟩ : GSale) : GSale).Qty, ((⟨x30.Entity, x30.Item, x30.Loc, x30.Qty, x30.Back, x31, x30.Profit, x30.Period, x30.Waits⟩ : GSale) : GSale).Back, ((⟨x30.Entity, x30.Item, x30.Loc, x30.Qty, x30.Back, x31, x30.Profit, x30.Period, x30.Waits⟩ : GSale) : GSale).Cost, x32, ((⟨x30.Entity, x30.Item, x30.Loc, x30.Qty, x30.Back, x31, x30.Profit, x30.Period, x30.Waits⟩ : GSale) : GSale).Period, ((⟨x30.Entity, x30.Item, x30.Loc, x30.Qty, x30.Back, x31, x30.Profit, x30.Period, x30.Waits⟩ : GSale) : GSale).Waits⟩ : GSale) : GSale)) fun x35 =>
bnd (x35.set (Int.toNat a2.Ref) ((⟨((⟨((⟨x30.Entity, x30.Item, x30.Loc, x30.Qty, x30.Back, x31, x30.Profit, x30.Period, x30.Waits⟩ : GSale) : GSale).Entity, ((⟨x30.Entity, x30.Item, x30.Loc, x30.Qty, x30.Back, x31, x30.Profit, x30.Period, x30.Waits⟩ : GSale) : GSale).Item, ((⟨x30.Entity, x30.Item, x30.Loc, x30.Qty, x30.Back, x31, x30.Profit, x30.Period, x30.Waits⟩ : GSale) : GSale).Loc, ((⟨x30.Entity, x30.Item, x30.Loc, x30.Qty, x30.Back, x31, x30.Profit, x30.Period, x30.Waits⟩ : GSale) : GSale).Qty, ((⟨x30.Entity, x30.Item, x30.Loc, x30.Qty, x30.Back, x31, x30.Profit, x30.Period, x30.Waits⟩ : GSale) : GSale).Back, ((⟨x30.Entity, x30.Item, x30.Loc, x30.Qty, x30.Back, x31, x30.Profit, x30.Period, x30.Waits⟩ : GSale) : GSale).Cost, x32, ((⟨x30.Entity, x30.Item, x30.Loc, x30.Qty, x30.Back, x31, x30.Profit, x30.Period, x30.Waits⟩ : GSale) : GSale).Period, ((⟨x30.Entity, x30.Item, x30.Loc, x30.Qty, x30.Back, x31, x30.Profit, x30.Period, x30.Waits⟩ : GSale) : GSale).Waits⟩ : GSale) : GSale).Entity, ((⟨((⟨x30.Entity, x30.Item, x30.Loc, x30.Qty, x30.Back, x31, x30.Profit, x30.Period, x30.Waits⟩ : GSale) : GSale).Entity, ((⟨x30.Entity, x30.Item, x30.Loc, x30.Qty, x30.Back, x31, x30.Profit, x30.Period, x30.Waits⟩ : GSale) : GSale).Item, ((⟨x30.Entity, x30.Item, x30.Loc, x30.Qty, x30.Back, x31, x30.Profit, x30.Period, x30.Waits⟩ : GSale) : GSale).Loc, ((⟨x30.Entity, x30.Item, x30.Loc, x30.Qty, x30.Back, x31, x30.Profit, x30.Period, x30.Waits⟩ : GSale) : GSale).Qty, ((⟨x30.Entity, x30.Item, x30.Loc, x30.Qty, x30.Back, x31, x30.Profit, x30.Period, x30.Waits⟩ : GSale) : GSale).Back, ((⟨x30.Entity, x30.Item, x30.Loc, x30.Qty, x30.Back, x31, x30.Profit, x30.Period, x30.Waits⟩ : GSale) : GSale).Cost, x32, ((⟨x30.Entity, x30.Item, x30.Loc, x30.Qty, x30.Back, x31, x30.Profit, x30.Period, x30.Waits⟩ : GSale) : GSale).Period, ((⟨x30.Entity, x30.Item, x30.Loc, x30.Qty, x30.Back, x31, x30.Profit, x30.Period, x30.Waits⟩ : GSale) : GSale).Waits⟩ : GSale) : GSale).Item, ((⟨((⟨x30.Entity, x30.Item, x30.Loc, x30.Qty, x30.Back, x31, x30.Profit, x30.Period, x30.Waits⟩ : GSale) : GSale).Entity, ((⟨x30.Entity, x30.Item, x30.Loc, x30.Qty, x30.Back, x31, x30.Profit, x30.Period, x30.Waits⟩ : GSale) : GSale).Item, ((⟨x30.Entity, x30.Item, x30.Loc, x30.Qty, x30.Back, x31, x30.Profit, x30.Period, x30.Waits⟩ : GSale) : GSale).Loc, ((⟨x30.Entity, x30.Item, x30.Loc, x30.Qty, x30.Back, x31, x30.Profit, x30.Period, x30.Waits⟩ : GSale) : GSale).Qty, ((⟨x30.Entity, x30.Item, x30.Loc, x30.Qty, x30.Back, x31, x30.Profit, x30.Period, x30.Waits⟩ : GSale) : GSale).Back, ((⟨x30.Entity, x30.Item, x30.Loc, x30.Qty, x30.Back, x31, x30.Profit, x30.Period, x30.Waits⟩ : GSale) : GSale).Cost, x32, ((⟨x30.Entity, x30.Item, x30.Loc, x30.Qty, x30.Back, x31, x30.Profit, x30.Period, x30.Waits⟩ : GSale) : GSale).Period, ((⟨x30.Entity, x30.Item, x30.Loc, x30.Qty, x30.Back, x31, x30.Profit, x30.Period, x30.Waits⟩ : GSale) : GSale).Waits⟩ : GSale) : GSale).Loc, ((⟨((⟨x30.Entity, x30.Item, x30.Loc, x30.Qty, x30.Back, x31, x30.Profit, x30.Period, x30.Waits⟩ : GSale) : GSale).Entity, ((⟨x30.Entity, x30.Item, x30.Loc, x30.Qty, x30.Back, x31, x30.Profit, x30.Period, x30.Waits⟩ : GSale) : GSale).Item, ((⟨x30.Entity, x30.Item, x30.Loc, x30.Qty, x30.Back, x31, x30.Profit, x30.Period, x30.Waits⟩ : GSale) : GSale).Loc, ((⟨x30.Entity, x30.Item, x30.Loc, x30.Qty, x30.Back, x31, x30.Profit, x30.Period, x30.Waits⟩ : GSale) : GSale).Qty, ((⟨x30.Entity, x30.Item, x30.Loc, x30.Qty, x30.Back, x31, x30.Profit, x30.Period, x30.Waits⟩ : GSale) : GSale).Back, ((⟨x30.Entity, x30.Item, x30.Loc, x30.Qty, x30.Back, x31, x30.Profit, x30.Period, x30.Waits⟩ : GSale) : GSale).Cost, x32, ((⟨x30.Entity, x30.Item, x30.Loc, x30.Qty, x30.Back, x31, x30.Profit, x30.Period, x30.Waits⟩ : GSale) : GSale).Period, ((⟨x30.Entity, x30.Item, x30.Loc, x30.Qty, x30.Back, x31, x30.Profit, x30.Period, x30.Waits⟩ : GSale) : GSale).Waits⟩ : GSale) : GSale).Qty, x33, ((⟨((⟨x30.Entity, x30.Item, x30.Loc, x30.Qty, x30.Back, x31, x30.Profit, x30.Period, x30.Waits⟩ : GSale) : GSale).Entity, ((⟨x30.Entity, x30.Item, x30.Loc, x30.Qty, x30.Back, x31, x30.Profit, x30.Period, x30.Waits⟩ : GSale) : GSale).Item, ((⟨x30.Entity, x30.Item, x30.Loc, x30.Qty, x30.Back, x31, x30.Profit, x30.Period, x30.Waits⟩ : GSale) : GSale).Loc, ((⟨x30.Entity, x30.Item, x30.Loc, x30.Qty, x30.Back, x31, x30.Profit, x30.Period, x30.Waits⟩ : GSale) : GSale).Qty, ((⟨x30.Entity, x30.Item, x30.Loc, x30.Qty, x30.Back, x31, x30.Profit, x30.Period, x30.Waits⟩ : GSale) : GSale).Back, ((⟨x30.Entity, x30.Item, x30.Loc, x30.Qty, x30.Back, x31, x30.Profit, x30.Period, x30.Waits⟩ : GSale) : GSale).Cost, x32, ((⟨x30.Entity, x30.Item, x30.Loc, x30.Qty, x30.Back, x31, x30.Profit, x30.Period, x30.Waits⟩ : GSale) : GSale).Period, ((⟨x30.Entity, x30.Item, x30.Loc, x30.Qty, x30.Back, x31, x30.Profit, x30.Period, x30.Waits⟩ : GSale) : GSale).Waits⟩ : GSale) : GSale).Cost, ((⟨((⟨x30.Entity, x30.Item, x30.Loc, x30.Qty, x30.Back, x31, x30.Profit, x30.Period, x30.Waits⟩ : GSale) : GSale).Entity, ((⟨x30.Entity, x30.Item, x30.Loc, x30.Qty, x30.Back, x31, x30.Profit, x30.Period, x30.Waits⟩ : GSale) : GSale).Item, ((⟨x30.Entity, x30.Item, x30.Loc, x30.Qty, x30.Back, x31, x30.Profit, x30.Period, x30.Waits⟩ : GSale) : GSale).Loc, ((⟨x30.Entity, x30.Item, x30.Loc, x30.Qty, x30.Back, x31, x30.Profit, x30.Period, x30.Waits⟩ : GSale) : GSale).Qty, ((⟨x30.Entity, x30.Item, x30.Loc, x30.Qty, x30.Back, x31, x30.Profit, x30.Period, x30.Waits⟩ : GSale) : GSale).Back, ((⟨x30.Entity, x30.Item, x30.Loc, x30.Qty, x30.Back, x31, x30.Profit, x30.Period, x30.Waits⟩ : GSale) : GSale).Cost, x32, ((⟨x30.Entity, x30.Item, x30.Loc, x30.Qty, x30.Back, x31, x30.Profit, x30.Period, x30.Waits⟩ : GSale) : GSale).Period, ((⟨x30.Entity, x30.Item, x30.Loc, x30.Qty, x30.Back, x31, x30.Profit, x30.Period, x30.Waits⟩ : GSale) : GSale).Waits⟩ : GSale) : GSale).Profit, ((⟨((⟨x30.Entity, x30.Item, x30.Loc, x30.Qty, x30.Back, x31, x30.Profit, x30.Period, x30.Waits⟩ : GSale) : GSale).Entity, ((⟨x30.Entity, x30.Item, x30.Loc, x30.Qty, x30.Back, x31, x30.Profit, x30.Period, x30.Waits⟩ : GSale) : GSale).Item, ((⟨x30.Entity, x30.Item, x30.Loc, x30.Qty, x30.Back, x31, x30.Profit, x30.Period, x30.Waits⟩ : GSale) : GSale).Loc, ((⟨x30.Entity, x30.Item, x30.Loc, x30.Qty, x30.Back, x31, x30.Profit, x30.Period, x30.Waits⟩ : GSale) : GSale).Qty, ((⟨x30.Entity, x30.Item, x30.Loc, x30.Qty, x30.Back, x31, x30.Profit, x30.Period, x30.Waits⟩ : GSale) : GSale).Back, ((⟨x30.Entity, x30.Item, x30.Loc, x30.Qty, x30.Back, x31, x30.Profit, x30.Period, x30.Waits⟩ : GSale) : GSale).Cost, x32, ((⟨x30.Entity, x30.Item, x30.Loc, x30.Qty, x30.Back, x31, x30.Profit, x30.Period, x30.Waits⟩ : GSale) : GSale).Period, ((⟨x30.Entity, x30.Item, x30.Loc, x30.Qty, x30.Back, x31, x30.Profit, x30.Period, x30.Waits⟩ : GSale) : GSale).Waits⟩ : GSale) : GSale).Period, ((⟨((⟨x30.Entity, x30.Item, x30.Loc, x30.Qty, x30.Back, x31, x30.Profit, x30.Period, x30.Waits⟩ : GSale) : GSale).Entity, ((⟨x30.Entity, x30.Item, x30.Loc, x30.Qty, x30.Back, x31, x30.Profit, x30.Period, x30.Waits⟩ : GSale) : GSale).Item, ((⟨x30.Entity, x30.Item, x30.Loc, x30.Qty, x30.Back, x31, x30.Profit, x30.Period, x30.Waits⟩ : GSale) : GSale).Loc, ((⟨x30.Entity, x30.Item, x30.Loc, x30.Qty, x30.Back, x31, x30.Profit, x30.Period, x30.Waits⟩ : GSale) : GSale).Qty, ((⟨x30.Entity, x30.Item, x30.Loc, x30.Qty, x30.Back, x31, x30.Profit, x30.Period, x30.Waits⟩ : GSale) : GSale).Back, ((⟨x30.Entity, x30.Item, x30.Loc, x30.Qty, x30.Back, x31, x30.Profit, x30.Period, x30.Waits⟩ : GSale) : GSale).Cost, x32, ((⟨x30.Entity, x30.Item, x30.Loc, x30.Qty, x30.Back, x31, x30.Profit, x30.Period, x30.Waits⟩ : GSale) : GSale).Period, ((⟨x30.Entity, x30.Item, x30.Loc, x30.Qty, x30.Back, x31, x30.Profit, x30.Period, x30.Waits⟩ : GSale) : GSale).Waits⟩ : GSale) : GSale).Waits⟩ : GSale) : GSale)) fun x36 =>
some (((⟨x24.1.Master, x24.1.Ents, x24.1.Receipts, x36, x24.1.Transits, x24.1.Done⟩ : GState) : GState), (0 : Int)))))
theorem d_sell_back_c {n : Nat} {a1 : GState} {a2 : GOp} {a3 : GSale} {r : GState × Int} (h0 : d_sell_back n a1 a2 a3 = some r) : PP Tryz.prog 63 [.agg (GState.av a1), .agg (GOp.av a2), .agg (GSale.av a3)] (fun y => y = .tup [.agg (GState.av r.1), int r.2]) := by
  unfold d_sell_back at h0
  refine pp_of_pc (R0 := fun y H => Cv (frzH H) y (.tup [.agg (GState.av r.1), int r.2])) ?_ (fun y H hc => ⟨_, rfl, .tup (pvl2 ((fun (a : GState) => PV.agg (GState.pvc a)) (r.1)) (pvI (r.2))), hc⟩)
  refine pcw (c := _) Tryz.func63 rfl rfl ?_; intro Q hret hnorm
  refine tc tbk 2 (.mk ?_)
  refine rse rfl rfl rfl (yl_box 1 .any rfl rfl rfl) ?_; rintro _ _ ⟨v4, -, rfl, rfl⟩
  refine rse rfl rfl rfl (yl_box 2 .any rfl rfl rfl) ?_; rintro _ _ ⟨v5, -, rfl, rfl⟩
  refine rse rfl rfl rfl (yl_box 3 .any rfl rfl rfl) ?_; rintro _ _ ⟨v6, -, rfl, rfl⟩
  refine rse rfl rfl rfl (yl_alloc 4 .any rfl z32 rfl) ?_; rintro _ _ ⟨v7, -, rfl, rfl⟩
  refine tr tbk 3 (.mk ?_)
  refine c_drawE [0, 1, 0, 4, 0, 16, 0, 64, 240, 511, 0, 1024, 0, 4096, 0, 16384, 0, 65536, 245760, 524287, 1048575, 2097151] (rl [(0, [3]), (1, [3]), (2, [2]), (3, [2]), (4, [3]), (5, [3]), (6, [3]), (7, [3]), (10, [3]), (11, [3]), (12, [2]), (13, [2]), (14, [3]), (15, [3]), (16, [3]), (17, [3])] []) (fun i => [2, 3]) (fun i => true) [0, 1, 2, 3, 4, 5, 6, 7, 8, 9, 10, 11, 12, 13, 14, 15, 16, 17, 18, 19, 20, 21] mixed (by kernel_rfl) ?_; intro K hK
  refine eF fo64_5 ?_
  refine eL sh3 ?_
  refine eF fo38_5 ?_
  refine eL sh3 ?_
  refine eF fo64_3 ?_
  refine eL sh3 ?_
  refine eF fo64_4 ?_
  refine eL sh3 ?_
  obtain ⟨x8, e8, h0⟩ := bnd_e h0
  refine eP (fun H hH => yv_sub rfl rfl rfl e8) ?_
  obtain ⟨x9, e9, h0⟩ := bind_e h0
  refine eP (fun H hH => yv_callP rfl rfl (.cons rfl (.cons rfl (.cons rfl .nil))) cal91 (CvL.refl _) (d_money_Part_c e9)) ?_
  refine eF fo64_6 ?_
  refine eL sh3 ?_
  refine eF fo38_5 ?_
  refine eL sh3 ?_
  refine eF fo64_3 ?_
  refine eL sh3 ?_
  refine eF fo64_4 ?_
  refine eL sh3 ?_
  obtain ⟨x10, e10, h0⟩ := bnd_e h0
  refine eP (fun H hH => yv_sub rfl rfl rfl e10) ?_
  obtain ⟨x11, e11, h0⟩ := bind_e h0
  refine eP (fun H hH => yv_callP rfl rfl (.cons rfl (.cons rfl (.cons rfl .nil))) cal91 (CvL.refl _) (d_money_Part_c e11)) ?_
  iterate 2 refine eA ?_
  refine de_nil (hK _ ?_)
  refine tc tbk 14 (.mk ?_)
  obtain ⟨x12, e12, h0⟩ := bind_e h0
  refine rst rfl rfl rfl (yv_callP rfl rfl (.cons rfl (.cons rfl (.cons rfl (.cons rfl (.cons rfl .nil))))) cal40 (CvL.refl _) (d_stock_Bring_c e12)) ?_
  refine tr tbk 5 (.mk ?_)
  refine rse rfl rfl rfl (yl_alloc 5 .any rfl z32 rfl) ?_; rintro _ _ ⟨v13, -, rfl, rfl⟩
  refine sS ⟨32, 10, true, true, v13, [(GState.av x12.1)]⟩ sh32 ?_
  refine tr tbk 8 (.mk ?_)
  refine nb tbk h0 fun x14 h0 => ?_
  refine tr tbk 1 (.mk ?_)
  cases x14
  replace h0 := cf h0
  refine tc tbk 3 (.mk ?_)
  refine c_drawE [0, 0, 2, 0, 8, 0, 56, 0, 128, 504, 0, 1024, 4088, 0, 8192, 24576, 65528, 131064, 262143, 524287, 1048575, 1048575, 2097151, 8388607] (rl [(0, [5]), (1, [2]), (2, [2]), (10, [2]), (11, [2]), (13, [2]), (14, [2])] []) (rl [(22, [])] [2, 5]) (rl [(22, false)] true) [0, 1, 2, 3, 4, 5, 6, 7, 8, 9, 10, 11, 12, 13, 14, 15, 16, 17, 18, 19, 20, 21, 22, 23] mixed (by kernel_rfl) ?_; intro K hK
  refine eL sh32 ?_
  refine eF fo38_1 ?_
  refine eL sh3 ?_
  refine eM ?_
  obtain ⟨x15, e15, h0⟩ := bind_e h0
  refine eP (fun H hH => yv_callP rfl rfl (.cons rfl (.cons rfl .nil)) cal102 (CvL.refl _) (d_sell_line_c e15)) ?_
  refine eM ?_
  obtain ⟨x16, e16, h0⟩ := bind_e h0
  refine eP (fun H hH => yv_callP rfl rfl (.cons rfl (.cons rfl .nil)) cal102 (CvL.refl _) (d_sell_line_c e16)) ?_
  refine eM ?_
  obtain ⟨x17, e17, h0⟩ := bnd_e h0
  refine eP (fun H hH => yv_neg rfl rfl e17) ?_
  obtain ⟨x18, e18, h0⟩ := bind_e h0
  refine eP (fun H hH => yv_callP rfl rfl (.cons rfl (.cons rfl .nil)) cal102 (CvL.refl _) (d_sell_line_c e18)) ?_
  refine eF fo38_6 ?_
  refine eL sh3 ?_
  obtain ⟨x19, e19, h0⟩ := bind_e h0
  refine eP (fun H hH => yv_callP rfl rfl (.cons rfl (.cons rfl .nil)) cal102 (CvL.refl _) (d_sell_line_c e19)) ?_
  refine eF fo38_6 ?_
  refine eL sh3 ?_
  obtain ⟨x20, e20, h0⟩ := bnd_e h0
  refine eP (fun H hH => yv_neg rfl rfl e20) ?_
  obtain ⟨x21, e21, h0⟩ := bind_e h0
  refine eP (fun H hH => yv_callP rfl rfl (.cons rfl (.cons rfl .nil)) cal102 (CvL.refl _) (d_sell_line_c e21)) ?_
  refine eP (fun H hH => yv_to (y := lst 2 GLine.av ([x15, x16, x18, x19, x21] : List GLine)) (yv_buildSlice (ps := [(0, _), (1, _), (2, _), (3, _), (4, _)]) (rows := [[int x15.Account, int x15.Amount], [int x16.Account, int x16.Amount], [int x18.Account, int x18.Amount], [int x19.Account, int x19.Amount], [int x21.Account, int x21.Amount]]) rfl Tryz.underlying79 bz78 (.cons rfl (.cons rfl (.cons rfl (.cons rfl (.cons rfl .nil))))) (by kernel_rfl) rfl rfl rfl) rfl) ?_
  obtain ⟨x22, e22, h0⟩ := bind_e h0
  refine eP (fun H hH => yv_callP rfl rfl (.cons rfl (.cons rfl (.cons rfl .nil))) cal42 (CvL.refl _) (d_stock_Post_c e22)) ?_
  refine eM ?_
  iterate 2 refine eX ?_
  refine de_eff0 rfl rfl rfl rfl (Yield.weak (yl_ob (ob' := (⟨32, 10, true, true, v13, [(GState.av x22.1)]⟩ : AObj)) (yl_store rfl sh32 rfl rfl rfl rfl rfl rfl rfl rfl rfl) rfl) (fun _ h => h) (fun _ _ => trivial)) (by rintro _ _ ⟨rfl, rfl⟩; exact trivial) ?_; rintro _ _ ⟨rfl, rfl⟩
  refine eA ?_
  refine de_nil (hK _ ?_)
  refine tc tbk 4 (.mk ?_)
  refine nb tbk h0 fun x23 h0 => ?_
  refine tr tbk 1 (.mk ?_)
  cases x23
  replace h0 := cf h0
  refine tc tbk 10 (.mk ?_)
  refine rst rfl rfl rfl (yv_build (cs := [int 0, int 0, int 0, int 0, int x12.2.1, int 0, int 0, int 0, int 0, int 0, int 0]) (ps := [(4, _)]) rfl pl49 z49 rfl (.cons rfl .nil) (by kernel_rfl)) ?_
  obtain ⟨x24, e24, h0⟩ := bind_e h0
  refine rst rfl rfl rfl (yv_callP rfl rfl (.cons rfl (.cons rfl (.cons rfl (.cons rfl .nil)))) cal44 (CvL.refl _) (d_stock_Turn_c e24)) ?_
  refine tr tbk 3 (.mk ?_)
  refine sS ⟨32, 10, true, true, v13, [(GState.av x24.1)]⟩ sh32 ?_
  refine tr tbk 6 (.mk ?_)
  refine nb tbk h0 fun x25 h0 => ?_
  refine tr tbk 1 (.mk ?_)
  cases x25
  replace h0 := cf h0
  refine tc tbk 6 (.mk ?_)
  obtain ⟨j26, h1, h0⟩ := bind_e h0
  refine rse (Out := fun y H' => (∃ (a : Unit) (k : Nat), a = j26 ∧ y = .pt 6 k (Int.toNat a2.Ref) 0 ∧ H' = hk [(1, ⟨32, 10, true, true, v4, [(GState.av a1)]⟩), (2, ⟨38, 9, true, true, v5, [[int a2.Kind, int a2.E, int a2.Item, int a2.Loc, int a2.To, int a2.Qty, int a2.Amount, int a2.Ref, lst 1 fI a2.Refs]]⟩), (3, ⟨64, 9, true, true, v6, [[int a3.Entity, int a3.Item, int a3.Loc, int a3.Qty, int a3.Back, int a3.Cost, int a3.Profit, int a3.Period, boo a3.Waits]]⟩), (4, ⟨32, 10, true, true, v7, [[int 0, int 0, .sc (.slice none 0 0), .sc (.slice none 0 0), .sc (.slice none 0 0), .sc (.slice none 0 0), .sc (.slice none 0 0), .sc (.slice none 0 0), .sc (.slice none 0 0), int 0]]⟩), (5, ⟨32, 10, true, true, v13, [[int x24.1.Master.Entities, int x24.1.Master.Periods, lst 1 fI x24.1.Master.Weights, lst 1 (fL 1 fI) x24.1.Master.Methods, lst 1 (fL 1 fI) x24.1.Master.Costs, lst 8 GEnt.av x24.1.Ents, lst 8 GReceipt.av x24.1.Receipts, .sl 6 k 0 x24.1.Sales.length, lst 6 GTransit.av x24.1.Transits, int x24.1.Done]]⟩), (6, ⟨64, 9, true, true, k, x24.1.Sales.map GSale.av⟩)])) rfl rfl rfl (yl_call rfl rfl (.cons rfl (.cons rfl .nil)) cal108 ?_) ?_
  refine pcw (c := _) Tryz.func108 rfl rfl ?_; intro Q hret hnorm
  refine tc tbk 11 (.mk ?_)
  obtain ⟨p27, h1⟩ := asrt_e h1
  refine rse rfl rfl rfl (yl_call rfl rfl (.cons rfl .nil) cal103 (pc_cv (clone103_c (id := 6) (l := x24.1.Sales) rfl p27) (.cons (.refl _) .nil))) ?_; rintro _ _ ⟨v28, rfl, rfl⟩
  refine tr tbk 2 (.mk ?_)
  refine sS ⟨32, 10, true, true, v13, [[int x24.1.Master.Entities, int x24.1.Master.Periods, lst 1 fI x24.1.Master.Weights, lst 1 (fL 1 fI) x24.1.Master.Methods, lst 1 (fL 1 fI) x24.1.Master.Costs, lst 8 GEnt.av x24.1.Ents, lst 8 GReceipt.av x24.1.Receipts, .sl 6 v28 0 x24.1.Sales.length, lst 6 GTransit.av x24.1.Transits, int x24.1.Done]]⟩ sh29 ?_
  refine tr tbk 8 (.mk ?_)
  obtain ⟨x29, e29, h1⟩ := bind_e h1
  refine rst rfl rfl rfl (yv_ixO rfl Tryz.underlying29 sh64 rfl rfl rfl rfl rfl (Eq.symm rfl) (List.length_map _) e29) ?_
  refine tr tbk 2 (.mk ?_)
  obtain rfl := nxt_e h1
  refine w_ret (hret _ _ (hk [(1, ⟨32, 10, true, true, v4, [(GState.av a1)]⟩), (2, ⟨38, 9, true, true, v5, [[int a2.Kind, int a2.E, int a2.Item, int a2.Loc, int a2.To, int a2.Qty, int a2.Amount, int a2.Ref, lst 1 fI a2.Refs]]⟩), (3, ⟨64, 9, true, true, v6, [[int a3.Entity, int a3.Item, int a3.Loc, int a3.Qty, int a3.Back, int a3.Cost, int a3.Profit, int a3.Period, boo a3.Waits]]⟩), (4, ⟨32, 10, true, true, v7, [[int 0, int 0, .sc (.slice none 0 0), .sc (.slice none 0 0), .sc (.slice none 0 0), .sc (.slice none 0 0), .sc (.slice none 0 0), .sc (.slice none 0 0), .sc (.slice none 0 0), int 0]]⟩), (5, ⟨32, 10, true, true, v13, [[int x24.1.Master.Entities, int x24.1.Master.Periods, lst 1 fI x24.1.Master.Weights, lst 1 (fL 1 fI) x24.1.Master.Methods, lst 1 (fL 1 fI) x24.1.Master.Costs, lst 8 GEnt.av x24.1.Ents, lst 8 GReceipt.av x24.1.Receipts, .sl 6 v28 0 x24.1.Sales.length, lst 6 GTransit.av x24.1.Transits, int x24.1.Done]]⟩), (6, ⟨64, 9, true, true, v28, x24.1.Sales.map GSale.av⟩)]) (.tmp rfl .nil) (HK.le ⟨rfl, rfl, rfl, rfl, rfl, rfl, trivial⟩) ?_)
  exact ⟨(), v28, rfl, rfl, rfl⟩
  rintro y _ ⟨_, w0_1, rfl, hc, rfl⟩
  subst hc
  refine tr tbk 3 (.mk ?_)
  refine c_drawE [0, 0, 0, 0, 8, 24, 56, 0, 248, 0, 512, 1536, 3584, 0, 15872, 0, 32768, 98304, 229376, 0, 524288, 2064384, 499705, 4694009, 13082617, 29884411, 63438843, 130547707, 268435455, 536870911, 1073741823] (rl [(4, [6]), (5, [6]), (6, [6]), (10, [6]), (11, [6]), (12, [6]), (16, [6]), (17, [6]), (18, [6]), (19, [2]), (20, [2]), (22, [6]), (23, [6]), (25, [6]), (26, [6]), (28, [6]), (29, [6])] []) (rl [(24, [2]), (27, [2]), (30, [])] [2, 6]) (rl [(24, false), (27, false), (30, false)] true) [0, 1, 2, 3, 4, 5, 6, 7, 8, 9, 10, 11, 12, 13, 14, 15, 16, 17, 18, 19, 20, 21, 22, 23, 24, 25, 26, 27, 28, 29, 30] mixed (by kernel_rfl) ?_; intro K hK
  iterate 4 refine eM ?_
  obtain ⟨x30, e30, h0⟩ := bind_e h0
  refine eN (hr := ix_get e30) ?_
  refine eF fo64_5 (hr := ix_get e30) ?_
  refine eL sh3 (hr := ix_get e30) ?_
  refine eM ?_
  obtain ⟨x31, e31, h0⟩ := bnd_e h0
  refine eP (fun H hH => yv_sub rfl rfl rfl e31) ?_
  refine eM ?_
  refine eN (hr := ix_get e30) ?_
  refine eF fo64_6 (hr := ix_get e30) ?_
  refine eL sh3 (hr := ix_get e30) ?_
  refine eM ?_
  obtain ⟨x32, e32, h0⟩ := bnd_e h0
  refine eP (fun H hH => yv_sub rfl rfl rfl e32) ?_
  refine eM ?_
  refine eN (hr := ix_get e30) ?_
  refine eF fo64_4 (hr := ix_get e30) ?_
  refine eL sh3 (hr := ix_get e30) ?_
  refine eF fo38_5 ?_
  refine eL sh3 ?_
  obtain ⟨x33, e33, h0⟩ := bnd_e h0
  refine eP (fun H hH => yv_add rfl rfl rfl e33) ?_
  refine eN (hr := ix_get e30) ?_
  refine eF fo64_5 (hr := ix_get e30) ?_
  obtain ⟨x34, e34, h0⟩ := bnd_e h0
  have fx34 := ix_set e30 e34; have lx34 := len_setV e34 (rfl : x24.1.Sales.length = x24.1.Sales.length)
  refine de_eff0 rfl rfl rfl rfl (Yield.weak (yl_ob (ob' := (⟨64, 9, true, true, w0_1, x34.map GSale.av⟩ : AObj)) (yl_store rfl sh3 rfl rfl rfl rfl rfl (ix_get e30) rfl rfl rfl) (ob_eq (map_setV e34))) (fun _ h => h) (fun _ _ => trivial)) (by rintro _ _ ⟨rfl, rfl⟩; exact ⟨rfl, trivial⟩) ?_; rintro _ _ ⟨rfl, rfl⟩
  refine eN (hr := ix_get fx34) ?_
  refine eF fo64_6 (hr := ix_get fx34) ?_
  obtain ⟨x35, e35, h0⟩ := bnd_e h0
  have fx35 := ix_set fx34 e35; have lx35 := len_setV e35 lx34
  refine de_eff0 rfl rfl rfl rfl (Yield.weak (yl_ob (ob' := (⟨64, 9, true, true, w0_1, x35.map GSale.av⟩ : AObj)) (yl_store rfl sh3 rfl rfl rfl rfl rfl (ix_get fx34) rfl rfl rfl) (ob_eq (map_setV e35))) (fun _ h => h) (fun _ _ => trivial)) (by rintro _ _ ⟨rfl, rfl⟩; exact ⟨rfl, trivial⟩) ?_; rintro _ _ ⟨rfl, rfl⟩
  refine eN (hr := ix_get fx35) ?_
  refine eF fo64_4 (hr := ix_get fx35) ?_
  obtain ⟨x36, e36, h0⟩ := bnd_e h0
  have fx36 := ix_set fx35 e36; have lx36 := len_setV e36 lx35
  refine de_eff0 rfl rfl rfl rfl (Yield.weak (yl_ob (ob' := (⟨64, 9, true, true, w0_1, x36.map GSale.av⟩ : AObj)) (yl_store rfl sh3 rfl rfl rfl rfl rfl (ix_get fx35) rfl rfl rfl) (ob_eq (map_setV e36))) (fun _ h => h) (fun _ _ => trivial)) (by rintro _ _ ⟨rfl, rfl⟩; exact trivial) ?_; rintro _ _ ⟨rfl, rfl⟩
  refine de_nil (hK _ ?_)
  refine tc tbk 3 (.mk ?_)
  refine sS ⟨32, 10, true, true, v7, [[int x24.1.Master.Entities, int x24.1.Master.Periods, lst 1 fI x24.1.Master.Weights, lst 1 (fL 1 fI) x24.1.Master.Methods, lst 1 (fL 1 fI) x24.1.Master.Costs, lst 8 GEnt.av x24.1.Ents, lst 8 GReceipt.av x24.1.Receipts, .sl 6 w0_1 0 x24.1.Sales.length, lst 6 GTransit.av x24.1.Transits, int x24.1.Done]]⟩ sh32 ?_
  refine tr tbk 2 (.mk ?_)
  obtain rfl := nxt_e h0
  refine w_ret (hret _ _ _ (.cell rfl (.pt rfl rfl rfl) sh32 rfl (.tmp rfl .nil)) (fun _ _ h => h) ?_)
  exact CvL.tup (.cons (CvL.agg (.cons (.refl _) (.cons (.refl _) (.cons (.refl _) (.cons (.refl _) (.cons (.refl _) (.cons (.refl _) (.cons (.refl _) (.cons (cv_lst rfl rfl rfl rfl rfl (Eq.symm lx36)) (.cons (.refl _) (.cons (.refl _) .nil))))))))))) (.cons (.refl _) .nil))
  replace h0 := ct h0
  refine tc tbk 5 (.mk ?_)
  refine sS ⟨32, 10, true, true, v7, [(GState.av a1)]⟩ sh32 ?_
  refine tr tbk 2 (.mk ?_)
  obtain rfl := nxt_e h0
  refine w_ret (hret _ _ _ (.cell rfl (.pt rfl rfl rfl) sh32 rfl (.tmp rfl .nil)) (fun _ _ h => h) ?_)
  exact .refl _
  replace h0 := ct h0
  refine tc tbk 5 (.mk ?_)
  refine sS ⟨32, 10, true, true, v7, [(GState.av a1)]⟩ sh32 ?_
  refine tr tbk 2 (.mk ?_)
  obtain rfl := nxt_e h0
  refine w_ret (hret _ _ _ (.cell rfl (.pt rfl rfl rfl) sh32 rfl (.tmp rfl .nil)) (fun _ _ h => h) ?_)
  exact .refl _
  replace h0 := ct h0
  refine tc tbk 5 (.mk ?_)
  refine sS ⟨32, 10, true, true, v7, [(GState.av a1)]⟩ sh32 ?_
  refine tr tbk 2 (.mk ?_)
  obtain rfl := nxt_e h0
  refine w_ret (hret _ _ _ (.cell rfl (.pt rfl rfl rfl) sh32 rfl (.tmp rfl .nil)) (fun _ _ h => h) ?_)
  exact .refl _
def d_pavg_is (a1 : Int) : Option (Bool) :=
(show Option (Bool) from
bnd (decide (a1 ≥ 0)) fun x3 =>
cond x3 (bnd (decide (a1 < 3)) fun x4 =>
some (x4 : Bool)) (some (false : Bool))).bind <| fun y0_1 =>
some ((y0_1 : Bool))
theorem d_pavg_is_c {a1 : Int} {r : Bool} (h0 : d_pavg_is a1 = some r) : PP Tryz.prog 143 [int a1] (fun y => y = boo r) := by
  unfold d_pavg_is at h0
  refine pp_of_pc (R0 := fun y H => Cv (frzH H) y (boo r)) ?_ (fun y H hc => ⟨_, rfl, pvB r, hc⟩)
  refine pcw (c := _) Tryz.func143 rfl rfl ?_; intro Q hret hnorm
  refine tc tbk 5 (.mk ?_)
  refine jn h0 [] [] (fun (a : Bool) (k : Unit) => [(2, boo a)]) (fun a k => []) ⟨fun j2 h1 => ?_, ?_⟩
  refine tc tbk 2 (.mk ?_)
  refine nb tbk h1 fun x3 h1 => ?_
  refine tr tbk 1 (.mk ?_)
  cases x3
  replace h1 := cf h1
  refine tr tbk 5 (.mk ?_)
  exact lf h1 () leA
  replace h1 := ct h1
  refine tr tbk 1 (.mk ?_)
  refine nb tbk h1 fun x4 h1 => ?_
  refine tr tbk 3 (.mk ?_)
  exact lf h1 () leA
  rintro y0_1 _ h0
  obtain rfl := nxt_e h0
  refine w_ret (hret _ _ _ (.tmp rfl .nil) (fun _ _ h => h) ?_)
  exact .refl _
def d_pavg_Back (a1 : GPool) (a2 : Int) (a3 : Int) : Option (GPool × Int) :=
(d_pavg_own a1 a1.Layers).bind fun x6 =>
(show Option ((Unit) ⊕ (GPool × Int)) from
(show Option (Bool) from
(d_pavg_is a2).bind fun x9 =>
bnd (!x9) fun x10 =>
cond x10 (some (true : Bool)) (bnd (decide (a3 < 1)) fun x11 =>
some (x11 : Bool))).bind <| fun y0_1 =>
cond y0_1 (esc (some ((x6 : GPool), (1 : Int)))) (bnd (decide (a2 = 0)) fun x12 =>
cond x12 (bnd (decide (a3 > x6.Pend.a0)) fun x19 =>
cond x19 (esc (some ((x6 : GPool), (5 : Int)))) (brk ())) (bnd (decide (a2 = 1)) fun x13 =>
cond x13 (bnd (decide (a3 > x6.Pend.a1)) fun x17 =>
cond x17 (esc (some ((x6 : GPool), (5 : Int)))) (brk ())) (asrt (a2 = 2) <|
bnd (decide (a3 > x6.Pend.a2)) fun x15 =>
cond x15 (esc (some ((x6 : GPool), (5 : Int)))) (brk ()))))).bind <| sel <| fun _ =>
bnd (decide (a2 = 0)) fun x22 =>
cond x22 (bnd (w64 (x6.Pend.a0 - a3)) fun x27 =>
some (((⟨x6.Layers, (⟨x27, x6.Pend.a1, x6.Pend.a2⟩ : A3_Int)⟩ : GPool) : GPool), (0 : Int))) (bnd (decide (a2 = 1)) fun x23 =>
cond x23 (bnd (w64 (x6.Pend.a1 - a3)) fun x26 =>
some (((⟨x6.Layers, (⟨x6.Pend.a0, x26, x6.Pend.a2⟩ : A3_Int)⟩ : GPool) : GPool), (0 : Int))) (asrt (a2 = 2) <|
bnd (w64 (x6.Pend.a2 - a3)) fun x25 =>
some (((⟨x6.Layers, (⟨x6.Pend.a0, x6.Pend.a1, x25⟩ : A3_Int)⟩ : GPool) : GPool), (0 : Int))))
theorem d_pavg_Back_c {a1 : GPool} {a2 : Int} {a3 : Int} {r : GPool × Int} (h0 : d_pavg_Back a1 a2 a3 = some r) : PP Tryz.prog 104 [.agg (GPool.av a1), int a2, int a3] (fun y => y = .tup [.agg (GPool.av r.1), int r.2]) := by
  unfold d_pavg_Back at h0
  refine pp_of_pc (R0 := fun y H => Cv (frzH H) y (.tup [.agg (GPool.av r.1), int r.2])) ?_ (fun y H hc => ⟨_, rfl, .tup (pvl2 ((fun (a : GPool) => PV.agg (GPool.pvc a)) (r.1)) (pvI (r.2))), hc⟩)
  refine pcw (c := _) Tryz.func104 rfl rfl ?_; intro Q hret hnorm
  refine tc tbk 2 (.mk ?_)
  refine rse rfl rfl rfl (yl_box 1 .any rfl rfl rfl) ?_; rintro _ _ ⟨v4, -, rfl, rfl⟩
  refine rse rfl rfl rfl (yl_alloc 2 .any rfl z69 rfl) ?_; rintro _ _ ⟨v5, -, rfl, rfl⟩
  refine tr tbk 7 (.mk ?_)
  obtain ⟨x6, e6, h0⟩ := bind_e h0
  refine rst rfl rfl rfl (yv_callP rfl rfl (.cons rfl (.cons rfl .nil)) cal142 (CvL.refl _) (d_pavg_own_c e6)) ?_
  refine sS ⟨69, 4, true, true, v4, [[lst 3 GLayer.av x6.Layers, int x6.Pend.a0, int x6.Pend.a1, int x6.Pend.a2]]⟩ sh69 ?_
  refine tr tbk 2 (.mk ?_)
  refine jnE h0 [1, 2, 3, 6, 7] [1, 2] (fun (a : Unit) (k : Unit) => []) (fun a k => []) ⟨fun j7 h1 h0 => ?_, ?_⟩
  refine tc tbk 2 (.mk ?_)
  refine jn h1 [1, 2, 3, 6, 7] [1, 2] (fun (a : Bool) (k : Unit) => [(12, boo a)]) (fun a k => []) ⟨fun j8 h2 => ?_, ?_⟩
  refine tc tbk 2 (.mk ?_)
  obtain ⟨x9, e9, h2⟩ := bind_e h2
  refine rst rfl rfl rfl (yv_callP rfl rfl (.cons rfl .nil) cal143 (CvL.refl _) (d_pavg_is_c e9)) ?_
  refine nb tbk h2 fun x10 h2 => ?_
  refine tr tbk 1 (.mk ?_)
  cases x10
  replace h2 := cf h2
  refine tr tbk 1 (.mk ?_)
  refine nb tbk h2 fun x11 h2 => ?_
  refine tr tbk 3 (.mk ?_)
  exact lf h2 () leA
  replace h2 := ct h2
  refine tr tbk 5 (.mk ?_)
  exact lf h2 () leA
  rintro y0_1 _ h1
  cases y0_1
  replace h1 := cf h1
  refine tc tbk 6 (.mk ?_)
  obtain ⟨x12, e12, h1⟩ := bnd_e h1
  cases x12
  replace h1 := cf h1
  obtain ⟨x13, e13, h1⟩ := bnd_e h1
  cases x13
  replace h1 := cf h1
  obtain ⟨p14, h1⟩ := asrt_e h1
  refine rsas 23 (int 2) rfl (congrArg int p14) ?_
  refine rst rfl rfl rfl (yv_to (y := .pt 1 v4 0 3) (yv_indexAddrA rfl Tryz.underlying67 sh3 rfl rfl rfl rfl rfl (by decide)) rfl) ?_
  refine tr tbk 1 (.mk ?_)
  refine nb tbk h1 fun x15 h1 => ?_
  refine tr tbk 2 (.mk ?_)
  cases x15
  replace h1 := cf h1
  refine tc tbk 3 (.mk ?_)
  exact lfE h1 () leA
  replace h1 := ct h1
  refine tc tbk 4 (.mk ?_)
  refine sS ⟨69, 4, true, true, v5, [[lst 3 GLayer.av x6.Layers, int x6.Pend.a0, int x6.Pend.a1, int x6.Pend.a2]]⟩ sh69 ?_
  refine tr tbk 2 (.mk ?_)
  obtain ⟨c16, hX, hj⟩ := esc_e h1; subst hj; replace h0 := hX.trans (sel_r h0)
  obtain rfl := nxt_e h0
  refine w_ret (hret _ _ _ (.cell rfl (.pt rfl rfl rfl) sh69 rfl (.tmp rfl .nil)) (fun _ _ h => h) ?_)
  exact .refl _
  replace h1 := ct h1
  refine rsas 23 (int 1) rfl (congrArg int (of_decide_eq_true e13)) ?_
  refine rst rfl rfl rfl (yv_to (y := .pt 1 v4 0 2) (yv_indexAddrA rfl Tryz.underlying67 sh3 rfl rfl rfl rfl rfl (by decide)) rfl) ?_
  refine tr tbk 1 (.mk ?_)
  refine nb tbk h1 fun x17 h1 => ?_
  refine tr tbk 2 (.mk ?_)
  cases x17
  replace h1 := cf h1
  refine tc tbk 3 (.mk ?_)
  exact lfE h1 () leA
  replace h1 := ct h1
  refine tc tbk 4 (.mk ?_)
  refine sS ⟨69, 4, true, true, v5, [[lst 3 GLayer.av x6.Layers, int x6.Pend.a0, int x6.Pend.a1, int x6.Pend.a2]]⟩ sh69 ?_
  refine tr tbk 2 (.mk ?_)
  obtain ⟨c18, hX, hj⟩ := esc_e h1; subst hj; replace h0 := hX.trans (sel_r h0)
  obtain rfl := nxt_e h0
  refine w_ret (hret _ _ _ (.cell rfl (.pt rfl rfl rfl) sh69 rfl (.tmp rfl .nil)) (fun _ _ h => h) ?_)
  exact .refl _
  replace h1 := ct h1
  refine rsas 23 (int 0) rfl (congrArg int (of_decide_eq_true e12)) ?_
  refine rst rfl rfl rfl (yv_to (y := .pt 1 v4 0 1) (yv_indexAddrA rfl Tryz.underlying67 sh3 rfl rfl rfl rfl rfl (by decide)) rfl) ?_
  refine tr tbk 1 (.mk ?_)
  refine nb tbk h1 fun x19 h1 => ?_
  refine tr tbk 2 (.mk ?_)
  cases x19
  replace h1 := cf h1
  refine tc tbk 3 (.mk ?_)
  exact lfE h1 () leA
  replace h1 := ct h1
  refine tc tbk 4 (.mk ?_)
  refine sS ⟨69, 4, true, true, v5, [[lst 3 GLayer.av x6.Layers, int x6.Pend.a0, int x6.Pend.a1, int x6.Pend.a2]]⟩ sh69 ?_
  refine tr tbk 2 (.mk ?_)
  obtain ⟨c20, hX, hj⟩ := esc_e h1; subst hj; replace h0 := hX.trans (sel_r h0)
  obtain rfl := nxt_e h0
  refine w_ret (hret _ _ _ (.cell rfl (.pt rfl rfl rfl) sh69 rfl (.tmp rfl .nil)) (fun _ _ h => h) ?_)
  exact .refl _
  replace h1 := ct h1
  refine tc tbk 4 (.mk ?_)
  refine sS ⟨69, 4, true, true, v5, [[lst 3 GLayer.av x6.Layers, int x6.Pend.a0, int x6.Pend.a1, int x6.Pend.a2]]⟩ sh69 ?_
  refine tr tbk 2 (.mk ?_)
  obtain ⟨c21, hX, hj⟩ := esc_e h1; subst hj; replace h0 := hX.trans (sel_r h0)
  obtain rfl := nxt_e h0
  refine w_ret (hret _ _ _ (.cell rfl (.pt rfl rfl rfl) sh69 rfl (.tmp rfl .nil)) (fun _ _ h => h) ?_)
  exact .refl _
  rintro _ _ h0
  refine tc tbk 4 (.mk ?_)
  obtain ⟨x22, e22, h0⟩ := bnd_e h0
  cases x22
  replace h0 := cf h0
  obtain ⟨x23, e23, h0⟩ := bnd_e h0
  cases x23
  replace h0 := cf h0
  obtain ⟨p24, h0⟩ := asrt_e h0
  refine rsas 29 (int 2) rfl (congrArg int p24) ?_
  refine rst rfl rfl rfl (yv_to (y := .pt 1 v4 0 3) (yv_indexAddrA rfl Tryz.underlying67 sh3 rfl rfl rfl rfl rfl (by decide)) rfl) ?_
  refine tr tbk 2 (.mk ?_)
  refine ni tbk h0 fun x25 h0 => ?_
  refine tr tbk 1 (.mk ?_)
  refine rst rfl rfl rfl (yv_to (y := .pt 1 v4 0 3) (yv_indexAddrA rfl Tryz.underlying67 sh3 rfl rfl rfl rfl rfl (by decide)) rfl) ?_
  refine sS ⟨69, 4, true, true, v4, [[lst 3 GLayer.av x6.Layers, int x6.Pend.a0, int x6.Pend.a1, int x25]]⟩ sh3 ?_
  refine tr tbk 4 (.mk ?_)
  refine sS ⟨69, 4, true, true, v5, [[lst 3 GLayer.av x6.Layers, int x6.Pend.a0, int x6.Pend.a1, int x25]]⟩ sh69 ?_
  refine tr tbk 2 (.mk ?_)
  obtain rfl := nxt_e h0
  refine w_ret (hret _ _ _ (.cell rfl (.pt rfl rfl rfl) sh69 rfl (.tmp rfl .nil)) (fun _ _ h => h) ?_)
  exact .refl _
  replace h0 := ct h0
  refine rsas 29 (int 1) rfl (congrArg int (of_decide_eq_true e23)) ?_
  refine rst rfl rfl rfl (yv_to (y := .pt 1 v4 0 2) (yv_indexAddrA rfl Tryz.underlying67 sh3 rfl rfl rfl rfl rfl (by decide)) rfl) ?_
  refine tr tbk 2 (.mk ?_)
  refine ni tbk h0 fun x26 h0 => ?_
  refine tr tbk 1 (.mk ?_)
  refine rst rfl rfl rfl (yv_to (y := .pt 1 v4 0 2) (yv_indexAddrA rfl Tryz.underlying67 sh3 rfl rfl rfl rfl rfl (by decide)) rfl) ?_
  refine sS ⟨69, 4, true, true, v4, [[lst 3 GLayer.av x6.Layers, int x6.Pend.a0, int x26, int x6.Pend.a2]]⟩ sh3 ?_
  refine tr tbk 4 (.mk ?_)
  refine sS ⟨69, 4, true, true, v5, [[lst 3 GLayer.av x6.Layers, int x6.Pend.a0, int x26, int x6.Pend.a2]]⟩ sh69 ?_
  refine tr tbk 2 (.mk ?_)
  obtain rfl := nxt_e h0
  refine w_ret (hret _ _ _ (.cell rfl (.pt rfl rfl rfl) sh69 rfl (.tmp rfl .nil)) (fun _ _ h => h) ?_)
  exact .refl _
  replace h0 := ct h0
  refine rsas 29 (int 0) rfl (congrArg int (of_decide_eq_true e22)) ?_
  refine rst rfl rfl rfl (yv_to (y := .pt 1 v4 0 1) (yv_indexAddrA rfl Tryz.underlying67 sh3 rfl rfl rfl rfl rfl (by decide)) rfl) ?_
  refine tr tbk 2 (.mk ?_)
  refine ni tbk h0 fun x27 h0 => ?_
  refine tr tbk 1 (.mk ?_)
  refine rst rfl rfl rfl (yv_to (y := .pt 1 v4 0 1) (yv_indexAddrA rfl Tryz.underlying67 sh3 rfl rfl rfl rfl rfl (by decide)) rfl) ?_
  refine sS ⟨69, 4, true, true, v4, [[lst 3 GLayer.av x6.Layers, int x27, int x6.Pend.a1, int x6.Pend.a2]]⟩ sh3 ?_
  refine tr tbk 4 (.mk ?_)
  refine sS ⟨69, 4, true, true, v5, [[lst 3 GLayer.av x6.Layers, int x27, int x6.Pend.a1, int x6.Pend.a2]]⟩ sh69 ?_
  refine tr tbk 2 (.mk ?_)
  obtain rfl := nxt_e h0
  refine w_ret (hret _ _ _ (.cell rfl (.pt rfl rfl rfl) sh69 rfl (.tmp rfl .nil)) (fun _ _ h => h) ?_)
  exact .refl _
def d_sell_unsell (n : Nat) (a1 : GState) (a2 : GOp) : Option (GState × Int) :=
(d_stock_At a1 a2.E a2.Item a2.Loc).bind fun x6 =>
(d_pavg_Back x6 0 a2.Qty).bind fun x7 =>
bnd (decide (x7.2 ≠ 0)) fun x9 =>
cond x9 (some ((a1 : GState), (x7.2 : Int))) ((d_sell_line 4 a2.Amount).bind fun x10 =>
bnd (w64 (0 - a2.Amount)) fun x11 =>
(d_sell_line 3 x11).bind fun x12 =>
(d_stock_Post n a1 a2.E ([x10, x12] : List GLine)).bind fun x13 =>
bnd (decide (x13.2 ≠ 0)) fun x15 =>
cond x15 (some ((a1 : GState), (x13.2 : Int))) (asrt (x13.1.Ents.length ≤ 68719476736) <|
(ix x13.1.Ents a2.E).bind fun x18 =>
asrt (x18.Pools.length ≤ 68719476736) <|
bnd (w64 (a2.Item * 2)) fun x21 =>
bnd (w64 (x21 + a2.Loc)) fun x22 =>
(ix x18.Pools x22).bind fun x23 =>
bnd (x18.Pools.set (Int.toNat x22) (x7.1 : GPool)) fun x24 =>
(show Option ((Unit)) from
asrt (x13.1.Sales.length ≤ 68719476736) <|
(ix x13.1.Sales a2.Ref).bind fun x28 =>
some ()).bind <| fun _ =>
(ix x13.1.Sales a2.Ref).bind fun x29 =>
bnd (w64 (x29.Back + a2.Qty)) fun x30 =>
bnd (x13.1.Sales.set (Int.toNat a2.Ref) ((⟨x29.Entity, x29.Item, x29.Loc, x29.Qty, x30, x29.Cost, x29.Profit, x29.Period, x29.Waits⟩ : GSale) : GSale)) fun x31 =>
some (((⟨x13.1.Master, (x13.1.Ents.set (Int.toNat a2.E) (⟨x18.Now, x18.Closed, x24, x18.Bal, x18.Rolls, x18.Prices, x18.Down, x18.Ahead⟩ : GEnt)), x13.1.Receipts, x31, x13.1.Transits, x13.1.Done⟩ : GState) : GState), (0 : Int))))
theorem d_sell_unsell_c {n : Nat} {a1 : GState} {a2 : GOp} {r : GState × Int} (h0 : d_sell_unsell n a1 a2 = some r) : PP Tryz.prog 62 [.agg (GState.av a1), .agg (GOp.av a2)] (fun y => y = .tup [.agg (GState.av r.1), int r.2]) := by
  unfold d_sell_unsell at h0
  refine pp_of_pc (R0 := fun y H => Cv (frzH H) y (.tup [.agg (GState.av r.1), int r.2])) ?_ (fun y H hc => ⟨_, rfl, .tup (pvl2 ((fun (a : GState) => PV.agg (GState.pvc a)) (r.1)) (pvI (r.2))), hc⟩)
  refine pcw (c := _) Tryz.func62 rfl rfl ?_; intro Q hret hnorm
  refine tc tbk 2 (.mk ?_)
  refine rse rfl rfl rfl (yl_box 1 .any rfl rfl rfl) ?_; rintro _ _ ⟨v3, -, rfl, rfl⟩
  refine rse rfl rfl rfl (yl_box 2 .any rfl rfl rfl) ?_; rintro _ _ ⟨v4, -, rfl, rfl⟩
  refine rse rfl rfl rfl (yl_alloc 3 .any rfl z32 rfl) ?_; rintro _ _ ⟨v5, -, rfl, rfl⟩
  refine tr tbk 3 (.mk ?_)
  refine c_drawE [0, 0, 2, 0, 8, 0, 32, 127, 0, 256, 1023, 2047, 4095, 4095, 0, 24575, 65535] (rl [(0, [1]), (1, [2]), (2, [2]), (3, [2]), (4, [2]), (5, [2]), (6, [2]), (8, [2]), (9, [2])] []) (rl [(15, [])] [1, 2]) (rl [(14, false), (15, false)] true) [0, 1, 2, 3, 4, 5, 6, 7, 8, 9, 10, 11, 12, 13, 14, 15, 16] mixed (by kernel_rfl) ?_; intro K hK
  refine eL sh32 ?_
  refine eF fo38_1 ?_
  refine eL sh3 ?_
  refine eF fo38_2 ?_
  refine eL sh3 ?_
  refine eF fo38_3 ?_
  refine eL sh3 ?_
  obtain ⟨x6, e6, h0⟩ := bind_e h0
  refine eP (fun H hH => yv_callP rfl rfl (.cons rfl (.cons rfl (.cons rfl (.cons rfl .nil)))) cal105 (CvL.refl _) (d_stock_At_c e6)) ?_
  refine eF fo38_5 ?_
  refine eL sh3 ?_
  obtain ⟨x7, e7, h0⟩ := bind_e h0
  refine eP (fun H hH => yv_callP rfl rfl (.cons rfl (.cons rfl (.cons rfl .nil))) cal104 (CvL.refl _) (d_pavg_Back_c e7)) ?_
  refine eM ?_
  iterate 2 refine eX ?_
  refine de_eff rfl rfl rfl rfl (yl_alloc 4 .any rfl z69 rfl) (by rintro _ _ ⟨v8, -, rfl, rfl⟩; exact ⟨rfl, rfl, trivial⟩) ?_; rintro _ _ ⟨v8, -, rfl, rfl⟩
  refine de_eff0 rfl rfl rfl rfl (Yield.weak (yl_ob (ob' := (⟨69, 4, true, true, v8, [[lst 3 GLayer.av x7.1.Layers, int x7.1.Pend.a0, int x7.1.Pend.a1, int x7.1.Pend.a2]]⟩ : AObj)) (yl_store rfl sh69 rfl rfl rfl rfl rfl rfl rfl rfl rfl) rfl) (fun _ h => h) (fun _ _ => trivial)) (by rintro _ _ ⟨rfl, rfl⟩; exact trivial) ?_; rintro _ _ ⟨rfl, rfl⟩
  refine eA ?_
  refine de_nil (hK _ ?_)
  refine tc tbk 4 (.mk ?_)
  refine nb tbk h0 fun x9 h0 => ?_
  refine tr tbk 1 (.mk ?_)
  cases x9
  replace h0 := cf h0
  refine tc tbk 3 (.mk ?_)
  refine c_drawE [0, 0, 2, 0, 8, 24, 0, 64, 192, 504, 1016, 2047, 4095, 8191, 8191, 0, 49151, 131071] (rl [(0, [1]), (1, [2]), (2, [2]), (3, [2]), (4, [2]), (6, [2]), (7, [2])] []) (rl [(16, [])] [1, 2]) (rl [(15, false), (16, false)] true) [0, 1, 2, 3, 4, 5, 6, 7, 8, 9, 10, 11, 12, 13, 14, 15, 16, 17] mixed (by kernel_rfl) ?_; intro K hK
  refine eL sh32 ?_
  refine eF fo38_1 ?_
  refine eL sh3 ?_
  refine eF fo38_6 ?_
  refine eL sh3 ?_
  obtain ⟨x10, e10, h0⟩ := bind_e h0
  refine eP (fun H hH => yv_callP rfl rfl (.cons rfl (.cons rfl .nil)) cal102 (CvL.refl _) (d_sell_line_c e10)) ?_
  refine eF fo38_6 ?_
  refine eL sh3 ?_
  obtain ⟨x11, e11, h0⟩ := bnd_e h0
  refine eP (fun H hH => yv_neg rfl rfl e11) ?_
  obtain ⟨x12, e12, h0⟩ := bind_e h0
  refine eP (fun H hH => yv_callP rfl rfl (.cons rfl (.cons rfl .nil)) cal102 (CvL.refl _) (d_sell_line_c e12)) ?_
  refine eP (fun H hH => yv_to (y := lst 2 GLine.av ([x10, x12] : List GLine)) (yv_buildSlice (ps := [(0, _), (1, _)]) (rows := [[int x10.Account, int x10.Amount], [int x12.Account, int x12.Amount]]) rfl Tryz.underlying79 bz78 (.cons rfl (.cons rfl .nil)) (by kernel_rfl) rfl rfl rfl) rfl) ?_
  obtain ⟨x13, e13, h0⟩ := bind_e h0
  refine eP (fun H hH => yv_callP rfl rfl (.cons rfl (.cons rfl (.cons rfl .nil))) cal42 (CvL.refl _) (d_stock_Post_c e13)) ?_
  refine eM ?_
  iterate 2 refine eX ?_
  refine de_eff rfl rfl rfl rfl (yl_alloc 5 .any rfl z32 rfl) (by rintro _ _ ⟨v14, -, rfl, rfl⟩; exact ⟨rfl, rfl, trivial⟩) ?_; rintro _ _ ⟨v14, -, rfl, rfl⟩
  refine de_eff0 rfl rfl rfl rfl (Yield.weak (yl_ob (ob' := (⟨32, 10, true, true, v14, [(GState.av x13.1)]⟩ : AObj)) (yl_store rfl sh32 rfl rfl rfl rfl rfl rfl rfl rfl rfl) rfl) (fun _ h => h) (fun _ _ => trivial)) (by rintro _ _ ⟨rfl, rfl⟩; exact trivial) ?_; rintro _ _ ⟨rfl, rfl⟩
  refine eA ?_
  refine de_nil (hK _ ?_)
  refine tc tbk 4 (.mk ?_)
  refine nb tbk h0 fun x15 h0 => ?_
  refine tr tbk 1 (.mk ?_)
  cases x15
  replace h0 := cf h0
  refine tc tbk 6 (.mk ?_)
  obtain ⟨p16, h0⟩ := asrt_e h0
  refine rse rfl rfl rfl (yl_call rfl rfl (.cons rfl .nil) cal106 (pc_cv (clone106_c (id := 6) (l := x13.1.Ents) rfl p16) (.cons (.refl _) .nil))) ?_; rintro _ _ ⟨v17, rfl, rfl⟩
  refine tr tbk 1 (.mk ?_)
  refine sS ⟨32, 10, true, true, v14, [[int x13.1.Master.Entities, int x13.1.Master.Periods, lst 1 fI x13.1.Master.Weights, lst 1 (fL 1 fI) x13.1.Master.Methods, lst 1 (fL 1 fI) x13.1.Master.Costs, .sl 6 v17 0 x13.1.Ents.length, lst 8 GReceipt.av x13.1.Receipts, lst 9 GSale.av x13.1.Sales, lst 6 GTransit.av x13.1.Transits, int x13.1.Done]]⟩ sh27 ?_
  refine tr tbk 7 (.mk ?_)
  obtain ⟨x18, e18, h0⟩ := bind_e h0
  refine rst rfl rfl rfl (yv_ixO rfl Tryz.underlying27 sh42 rfl rfl rfl rfl rfl (Eq.symm rfl) (List.length_map _) e18) ?_
  refine tr tbk 6 (.mk ?_)
  refine rst rfl rfl rfl (yv_nilCheck rfl rfl (.pt rfl rfl (ix_get' e18 (GEnt.av_eq _)))) ?_
  refine rst rfl rfl rfl (yv_fieldAddr rfl fo42_2 rfl (.pt rfl rfl (ix_get' e18 (GEnt.av_eq _))) (.pt _ _ _ _ _)) ?_
  refine rst rfl rfl rfl (yv_load rfl sh39 rfl (.pt rfl rfl (ix_get' e18 (GEnt.av_eq _))) rfl) ?_
  obtain ⟨p19, h0⟩ := asrt_e h0
  refine rse rfl rfl rfl (yl_call rfl rfl (.cons rfl .nil) cal107 (pc_cv (clone107_c (id := 7) (l := x18.Pools) rfl p19) (.cons (.refl _) .nil))) ?_; rintro _ _ ⟨v20, rfl, rfl⟩
  refine rst rfl rfl rfl (yv_nilCheck rfl rfl (.pt rfl rfl (ix_get' e18 (GEnt.av_eq _)))) ?_
  refine rst rfl rfl rfl (yv_fieldAddr rfl fo42_2 rfl (.pt rfl rfl (ix_get' e18 (GEnt.av_eq _))) (.pt _ _ _ _ _)) ?_
  refine rsstore rfl rfl (yl_ob (ob' := (⟨42, 8, true, true, v17, (x13.1.Ents.map GEnt.av).set (Int.toNat a2.E) [int x18.Now, boo x18.Closed, .sl 7 v20 0 x18.Pools.length, lst 1 fI x18.Bal, lst 11 GRoll.av x18.Rolls, lst 1 fI x18.Prices, lst 1 fI x18.Down, lst 8 GEnt.av x18.Ahead]⟩ : AObj)) (yl_store rfl sh39 rfl rfl rfl rfl rfl (ix_get' e18 (GEnt.av_eq _)) rfl rfl rfl) (ob_eq rfl)) ?_
  refine tr tbk 2 (.mk ?_)
  refine c_drawE [0, 1, 3, 7, 0, 16, 48, 0, 128, 496, 0, 2047, 4095] (rl [(1, [6]), (2, [6]), (3, [6]), (4, [2]), (5, [2]), (7, [2]), (8, [2]), (10, [4]), (11, [7])] []) (rl [(12, [])] [2, 4, 6, 7]) (rl [(12, false)] true) [0, 1, 2, 3, 4, 5, 6, 7, 8, 9, 10, 11, 12] mixed (by kernel_rfl) ?_; intro K hK
  refine eM ?_
  refine eN (hr := set_get e18) ?_
  refine eF fo42_2 (hr := set_get e18) ?_
  refine eL sh39 (hr := set_get e18) ?_
  refine eF fo38_2 ?_
  refine eL sh3 ?_
  obtain ⟨x21, e21, h0⟩ := bnd_e h0
  refine eP (fun H hH => yv_mul rfl rfl rfl e21) ?_
  refine eF fo38_3 ?_
  refine eL sh3 ?_
  obtain ⟨x22, e22, h0⟩ := bnd_e h0
  refine eP (fun H hH => yv_add rfl rfl rfl e22) ?_
  refine eL sh69 ?_
  obtain ⟨x23, e23, h0⟩ := bind_e h0
  refine de_pure rfl rfl rfl rfl (fun H hH => yv_ixO rfl Tryz.underlying39 sh69 rfl rfl ((hH _ (by decide)).trans rfl) rfl rfl (Eq.symm rfl) (List.length_map _) e23) ?_
  obtain ⟨x24, e24, h0⟩ := bnd_e h0
  have fx24 := ix_set e23 e24; have lx24 := len_setV e24 (rfl : x18.Pools.length = x18.Pools.length)
  refine de_eff0 rfl rfl rfl rfl (Yield.weak (yl_ob (ob' := (⟨69, 4, true, true, v20, x24.map GPool.av⟩ : AObj)) (yl_store rfl sh69 rfl rfl rfl rfl rfl (ix_get e23) rfl rfl rfl) (ob_eq (map_setV e24))) (fun _ h => h) (fun _ _ => trivial)) (by rintro _ _ ⟨rfl, rfl⟩; exact trivial) ?_; rintro _ _ ⟨rfl, rfl⟩
  refine de_nil (hK _ ?_)
  refine tc tbk 1 (.mk ?_)
  refine c_drawE [0, 1, 3, 7, 15, 31, 0, 64, 255, 511, 1023, 2047] (rl [(0, [2]), (1, [2]), (3, [8]), (4, [8]), (5, [8]), (6, [2]), (7, [2]), (9, [8]), (10, [8])] []) (rl [(2, [2]), (11, [])] [2, 8]) (rl [(2, false), (11, false)] true) [0, 1, 6, 7, 2, 3, 4, 5, 8, 9, 10, 11] mixed (by kernel_rfl) ?_; intro K hK
  refine eF fo38_7 ?_
  refine eL sh3 ?_
  refine eF fo38_5 ?_
  refine eL sh3 ?_
  obtain ⟨j25, h1, h0⟩ := bind_e h0
  refine de_eff (Out := fun y H' => (∃ (a : Unit) (k : Nat), a = j25 ∧ y = .pt 8 k (Int.toNat a2.Ref) 0 ∧ H' = hk [(1, ⟨32, 10, true, true, v3, [(GState.av a1)]⟩), (2, ⟨38, 9, true, true, v4, [[int a2.Kind, int a2.E, int a2.Item, int a2.Loc, int a2.To, int a2.Qty, int a2.Amount, int a2.Ref, lst 1 fI a2.Refs]]⟩), (3, ⟨32, 10, true, true, v5, [[int 0, int 0, .sc (.slice none 0 0), .sc (.slice none 0 0), .sc (.slice none 0 0), .sc (.slice none 0 0), .sc (.slice none 0 0), .sc (.slice none 0 0), .sc (.slice none 0 0), int 0]]⟩), (4, ⟨69, 4, true, true, v8, [[lst 3 GLayer.av x7.1.Layers, int x7.1.Pend.a0, int x7.1.Pend.a1, int x7.1.Pend.a2]]⟩), (5, ⟨32, 10, true, true, v14, [[int x13.1.Master.Entities, int x13.1.Master.Periods, lst 1 fI x13.1.Master.Weights, lst 1 (fL 1 fI) x13.1.Master.Methods, lst 1 (fL 1 fI) x13.1.Master.Costs, .sl 6 v17 0 x13.1.Ents.length, lst 8 GReceipt.av x13.1.Receipts, .sl 8 k 0 x13.1.Sales.length, lst 6 GTransit.av x13.1.Transits, int x13.1.Done]]⟩), (6, ⟨42, 8, true, true, v17, (x13.1.Ents.map GEnt.av).set (Int.toNat a2.E) [int x18.Now, boo x18.Closed, .sl 7 v20 0 x18.Pools.length, lst 1 fI x18.Bal, lst 11 GRoll.av x18.Rolls, lst 1 fI x18.Prices, lst 1 fI x18.Down, lst 8 GEnt.av x18.Ahead]⟩), (7, ⟨69, 4, true, true, v20, x24.map GPool.av⟩), (8, ⟨64, 9, true, true, k, x13.1.Sales.map GSale.av⟩)])) rfl rfl rfl rfl (yl_call rfl rfl (.cons rfl (.cons rfl .nil)) cal108 ?_) (by rintro y _ ⟨_, w1_1, rfl, hc, rfl⟩ <;> exact ⟨rfl, trivial⟩) ?_
  refine pcw (c := _) Tryz.func108 rfl rfl ?_; intro Q hret hnorm
  refine tc tbk 11 (.mk ?_)
  obtain ⟨p26, h1⟩ := asrt_e h1
  refine rse rfl rfl rfl (yl_call rfl rfl (.cons rfl .nil) cal103 (pc_cv (clone103_c (id := 8) (l := x13.1.Sales) rfl p26) (.cons (.refl _) .nil))) ?_; rintro _ _ ⟨v27, rfl, rfl⟩
  refine tr tbk 2 (.mk ?_)
  refine sS ⟨32, 10, true, true, v14, [[int x13.1.Master.Entities, int x13.1.Master.Periods, lst 1 fI x13.1.Master.Weights, lst 1 (fL 1 fI) x13.1.Master.Methods, lst 1 (fL 1 fI) x13.1.Master.Costs, .sl 6 v17 0 x13.1.Ents.length, lst 8 GReceipt.av x13.1.Receipts, .sl 8 v27 0 x13.1.Sales.length, lst 6 GTransit.av x13.1.Transits, int x13.1.Done]]⟩ sh29 ?_
  refine tr tbk 8 (.mk ?_)
  obtain ⟨x28, e28, h1⟩ := bind_e h1
  refine rst rfl rfl rfl (yv_ixO rfl Tryz.underlying29 sh64 rfl rfl rfl rfl rfl (Eq.symm rfl) (List.length_map _) e28) ?_
  refine tr tbk 2 (.mk ?_)
  obtain rfl := nxt_e h1
  refine w_ret (hret _ _ (hk [(1, ⟨32, 10, true, true, v3, [(GState.av a1)]⟩), (2, ⟨38, 9, true, true, v4, [[int a2.Kind, int a2.E, int a2.Item, int a2.Loc, int a2.To, int a2.Qty, int a2.Amount, int a2.Ref, lst 1 fI a2.Refs]]⟩), (3, ⟨32, 10, true, true, v5, [[int 0, int 0, .sc (.slice none 0 0), .sc (.slice none 0 0), .sc (.slice none 0 0), .sc (.slice none 0 0), .sc (.slice none 0 0), .sc (.slice none 0 0), .sc (.slice none 0 0), int 0]]⟩), (4, ⟨69, 4, true, true, v8, [[lst 3 GLayer.av x7.1.Layers, int x7.1.Pend.a0, int x7.1.Pend.a1, int x7.1.Pend.a2]]⟩), (5, ⟨32, 10, true, true, v14, [[int x13.1.Master.Entities, int x13.1.Master.Periods, lst 1 fI x13.1.Master.Weights, lst 1 (fL 1 fI) x13.1.Master.Methods, lst 1 (fL 1 fI) x13.1.Master.Costs, .sl 6 v17 0 x13.1.Ents.length, lst 8 GReceipt.av x13.1.Receipts, .sl 8 v27 0 x13.1.Sales.length, lst 6 GTransit.av x13.1.Transits, int x13.1.Done]]⟩), (6, ⟨42, 8, true, true, v17, (x13.1.Ents.map GEnt.av).set (Int.toNat a2.E) [int x18.Now, boo x18.Closed, .sl 7 v20 0 x18.Pools.length, lst 1 fI x18.Bal, lst 11 GRoll.av x18.Rolls, lst 1 fI x18.Prices, lst 1 fI x18.Down, lst 8 GEnt.av x18.Ahead]⟩), (7, ⟨69, 4, true, true, v20, x24.map GPool.av⟩), (8, ⟨64, 9, true, true, v27, x13.1.Sales.map GSale.av⟩)]) (.tmp rfl .nil) (HK.le ⟨rfl, rfl, rfl, rfl, rfl, rfl, rfl, rfl, trivial⟩) ?_)
  exact ⟨(), v27, rfl, rfl, rfl⟩
  rintro y _ ⟨_, w1_1, rfl, hc, rfl⟩
  subst hc
  obtain ⟨x29, e29, h0⟩ := bind_e h0
  refine eN (hr := ix_get e29) ?_
  refine eF fo64_4 (hr := ix_get e29) ?_
  refine eL sh3 (hr := ix_get e29) ?_
  obtain ⟨x30, e30, h0⟩ := bnd_e h0
  refine eP (fun H hH => yv_add rfl rfl rfl e30) ?_
  refine eN (hr := ix_get e29) ?_
  refine eF fo64_4 (hr := ix_get e29) ?_
  obtain ⟨x31, e31, h0⟩ := bnd_e h0
  have fx31 := ix_set e29 e31; have lx31 := len_setV e31 (rfl : x13.1.Sales.length = x13.1.Sales.length)
  refine de_eff0 rfl rfl rfl rfl (Yield.weak (yl_ob (ob' := (⟨64, 9, true, true, w1_1, x31.map GSale.av⟩ : AObj)) (yl_store rfl sh3 rfl rfl rfl rfl rfl (ix_get e29) rfl rfl rfl) (ob_eq (map_setV e31))) (fun _ h => h) (fun _ _ => trivial)) (by rintro _ _ ⟨rfl, rfl⟩; exact trivial) ?_; rintro _ _ ⟨rfl, rfl⟩
  refine de_nil (hK _ ?_)
  refine tc tbk 3 (.mk ?_)
  refine sS ⟨32, 10, true, true, v5, [[int x13.1.Master.Entities, int x13.1.Master.Periods, lst 1 fI x13.1.Master.Weights, lst 1 (fL 1 fI) x13.1.Master.Methods, lst 1 (fL 1 fI) x13.1.Master.Costs, .sl 6 v17 0 x13.1.Ents.length, lst 8 GReceipt.av x13.1.Receipts, .sl 8 w1_1 0 x13.1.Sales.length, lst 6 GTransit.av x13.1.Transits, int x13.1.Done]]⟩ sh32 ?_
  refine tr tbk 2 (.mk ?_)
  obtain rfl := nxt_e h0
  refine w_ret (hret _ _ _ (.cell rfl (.pt rfl rfl rfl) sh32 rfl (.tmp rfl .nil)) (fun _ _ h => h) ?_)
  exact CvL.tup (.cons (CvL.agg (.cons (.refl _) (.cons (.refl _) (.cons (.refl _) (.cons (.refl _) (.cons (.refl _) (.cons (cv_ov rfl rfl rfl rfl rfl (Eq.symm rfl) e18 (cvl_to (.cons (.refl _) (.cons (.refl _) (.cons (cv_lst rfl rfl rfl rfl rfl (Eq.symm lx24)) (.cons (.refl _) (.cons (.refl _) (.cons (.refl _) (.cons (.refl _) (.cons (.refl _) .nil)))))))) (GEnt.av_eq _))) (.cons (.refl _) (.cons (cv_lst rfl rfl rfl rfl rfl (Eq.symm lx31)) (.cons (.refl _) (.cons (.refl _) .nil))))))))))) (.cons (.refl _) .nil))
  replace h0 := ct h0
  refine tc tbk 5 (.mk ?_)
  refine sS ⟨32, 10, true, true, v5, [(GState.av a1)]⟩ sh32 ?_
  refine tr tbk 2 (.mk ?_)
  obtain rfl := nxt_e h0
  refine w_ret (hret _ _ _ (.cell rfl (.pt rfl rfl rfl) sh32 rfl (.tmp rfl .nil)) (fun _ _ h => h) ?_)
  exact .refl _
  replace h0 := ct h0
  refine tc tbk 5 (.mk ?_)
  refine sS ⟨32, 10, true, true, v5, [(GState.av a1)]⟩ sh32 ?_
  refine tr tbk 2 (.mk ?_)
  obtain rfl := nxt_e h0
  refine w_ret (hret _ _ _ (.cell rfl (.pt rfl rfl rfl) sh32 rfl (.tmp rfl .nil)) (fun _ _ h => h) ?_)
  exact .refl _
def d_fifo_has_L0 (a1 : List GLayer) : Nat → Int → Int → Option ((Unit) ⊕ (Bool))
  | 0, _, _ => none
  | n + 1, y0_1, y0_2 =>
    bnd (decide (y0_2 < (a1.length : Int))) fun x4 =>
    cond x4 ((ix a1 y0_2).bind fun x5 =>
    bnd (if 0 > x5.Qty then 0 else x5.Qty) fun x7 =>
    bnd (if y0_1 < x7 then y0_1 else x7) fun x8 =>
    bnd (w64 (y0_1 - x8)) fun x9 =>
    bnd (decide (x9 = 0)) fun x10 =>
    cond x10 (esc (some ((true : Bool)))) (bnd (w64 (y0_2 + 1)) fun x11 =>
    d_fifo_has_L0 a1 n (x9 : Int) (x11 : Int))) (brk ())
def d_fifo_has (n : Nat) (a1 : List GLayer) (a2 : Int) : Option (Bool) :=
(show Option ((Unit) ⊕ (Bool)) from
d_fifo_has_L0 a1 n (a2 : Int) (0 : Int)).bind <| sel <| fun _ =>
some ((false : Bool))
theorem d_fifo_has_c {n : Nat} {a1 : List GLayer} {a2 : Int} {r : Bool} (h0 : d_fifo_has n a1 a2 = some r) : PP Tryz.prog 189 [lst 3 GLayer.av a1, int a2] (fun y => y = boo r) := by
  unfold d_fifo_has at h0
  refine pp_of_pc (R0 := fun y H => Cv (frzH H) y (boo r)) ?_ (fun y H hc => ⟨_, rfl, pvB r, hc⟩)
  refine pcw (c := _) Tryz.func189 rfl rfl ?_; intro Q hret hnorm
  refine tc tbk 8 (.mk ?_)
  refine rst rfl rfl rfl (yv_len_sl rfl Tryz.underlying66 rfl (lst_len _)) ?_
  refine tr tbk 2 (.mk ?_)
  refine jnE h0 [4] [] (fun (a : Unit) (k : Unit) => []) (fun a k => []) ⟨fun j3 h1 h0 => ?_, ?_⟩
  refine tc tbk 1 (.mk ?_)
  refine lp (fun n (a : Int × Int) => d_fifo_has_L0 a1 n a.1 a.2) ((a2 : Int), (0 : Int)) () h1 [4, 7, 8] [] (fun (a : Int × Int) (k : Unit) => [(1, int a.1), (9, int a.2)]) (fun a k => []) (fun _ => rfl) ⟨leA, ?_⟩
  rintro n ⟨y0_1, y0_2⟩ _ hm h1
  replace h1 : d_fifo_has_L0 a1 (n + 1) y0_1 y0_2 = some _ := h1
  rw [d_fifo_has_L0] at h1
  refine tc tbk 2 (.mk ?_)
  refine nb tbk h1 fun x4 h1 => ?_
  refine tr tbk 2 (.mk ?_)
  cases x4
  replace h1 := cf h1
  refine tc tbk 2 (.mk ?_)
  exact lfE h1 () leA
  replace h1 := ct h1
  refine tc tbk 6 (.mk ?_)
  obtain ⟨x5, e5, h1⟩ := bind_e h1
  refine rst rfl rfl rfl (yv_ixT rfl Tryz.underlying66 sh46 rfl rfl e5) ?_
  refine tr tbk 1 (.mk ?_)
  refine rse rfl rfl rfl (yl_alloc 1 .any rfl z46 rfl) ?_; rintro _ _ ⟨v6, -, rfl, rfl⟩
  refine sS ⟨46, 3, true, true, v6, [[int x5.Qty, int x5.Value, int x5.Profit]]⟩ sh46 ?_
  refine tr tbk 6 (.mk ?_)
  obtain ⟨x7, e7, h1⟩ := bnd_e h1
  refine rst rfl rfl rfl (yv_max rfl rfl rfl e7) ?_
  refine tr tbk 1 (.mk ?_)
  obtain ⟨x8, e8, h1⟩ := bnd_e h1
  refine rst rfl rfl rfl (yv_min rfl rfl rfl e8) ?_
  refine ni tbk h1 fun x9 h1 => ?_
  refine tr tbk 5 (.mk ?_)
  refine nb tbk h1 fun x10 h1 => ?_
  refine tr tbk 1 (.mk ?_)
  cases x10
  replace h1 := cf h1
  refine tc tbk 4 (.mk ?_)
  refine ni tbk h1 fun x11 h1 => ?_
  refine tr tbk 2 (.mk ?_)
  exact bk (x9, x11) () h1 leA
  replace h1 := ct h1
  refine tc tbk 5 (.mk ?_)
  obtain ⟨c12, hX, hj⟩ := esc_e h1; subst hj; replace h0 := hX.trans (sel_r h0)
  obtain rfl := nxt_e h0
  refine w_ret (hret _ _ _ (.tmp rfl .nil) (fun _ _ h => h) ?_)
  exact .refl _
  rintro _ _ h0
  refine tc tbk 4 (.mk ?_)
  obtain rfl := nxt_e h0
  refine w_ret (hret _ _ _ (.tmp rfl .nil) (fun _ _ h => h) ?_)
  exact .refl _
def d_stdcost_Out_L0 : Nat → Nat → Nat → Int → (List GLayer) → GLayer → Option (Nat × Nat × (List GLayer) × GLayer)
  | 0, _, _, _, _, _ => none
  | n + 1, y1_1, y1_2, y1_3, y1_4, y1_5 =>
    (show Option (Bool) from
    bnd (decide ((y1_2 : Int) > 0)) fun x21 =>
    cond x21 (bnd (decide (y1_3 > 0)) fun x22 =>
    some (x22 : Bool)) (some (false : Bool))).bind <| fun y2_1 =>
    cond y2_1 (asrt ((0 : Int) ≤ 0 ∧ 0 < (y1_2 : Int)) <|
    (ix y1_4 (((y1_1 : Nat) : Int) + 0)).bind fun x24 =>
    bnd (decide (x24.Qty > y1_3)) fun x26 =>
    (show Option (Nat × Nat × (List GLayer) × GLayer) from
    cond x26 ((d_money_Part n x24.Value y1_3 x24.Qty).bind fun x30 =>
    (d_money_Part n x24.Profit y1_3 x24.Qty).bind fun x31 =>
    asrt ((0 : Int) ≤ 0 ∧ 0 < (y1_2 : Int)) <|
    bnd (w64 (x24.Qty - y1_3)) fun x33 =>
    asrt ((0 : Int) ≤ 0 ∧ 0 < (y1_2 : Int)) <|
    bnd (w64 (x24.Value - x30)) fun x35 =>
    asrt ((0 : Int) ≤ 0 ∧ 0 < (y1_2 : Int)) <|
    bnd (w64 (x24.Profit - x31)) fun x37 =>
    asrt ((0 : Int) ≤ 0 ∧ 0 < (y1_2 : Int)) <|
    bnd (y1_4.set (Int.toNat (((y1_1 : Nat) : Int) + 0)) ((⟨x33, x24.Value, x24.Profit⟩ : GLayer) : GLayer)) fun x39 =>
    asrt ((0 : Int) ≤ 0 ∧ 0 < (y1_2 : Int)) <|
    bnd (x39.set (Int.toNat (((y1_1 : Nat) : Int) + 0)) ((⟨((⟨x33, x24.Value, x24.Profit⟩ : GLayer) : GLayer).Qty, x35, ((⟨x33, x24.Value, x24.Profit⟩ : GLayer) : GLayer).Profit⟩ : GLayer) : GLayer)) fun x41 =>
    asrt ((0 : Int) ≤ 0 ∧ 0 < (y1_2 : Int)) <|
    bnd (x41.set (Int.toNat (((y1_1 : Nat) : Int) + 0)) ((⟨((⟨((⟨x33, x24.Value, x24.Profit⟩ : GLayer) : GLayer).Qty, x35, ((⟨x33, x24.Value, x24.Profit⟩ : GLayer) : GLayer).Profit⟩ : GLayer) : GLayer).Qty, ((⟨((⟨x33, x24.Value, x24.Profit⟩ : GLayer) : GLayer).Qty, x35, ((⟨x33, x24.Value, x24.Profit⟩ : GLayer) : GLayer).Profit⟩ : GLayer) : GLayer).Value, x37⟩ : GLayer) : GLayer)) fun x43 =>
    some ((y1_1 : Nat), (y1_2 : Nat), (x43 : List GLayer), ((⟨y1_3, x30, x31⟩ : GLayer) : GLayer))) (asrt ((0 : Int) ≤ 1 ∧ 1 ≤ (y1_2 : Int) ∧ (y1_2 : Int) ≤ (y1_2 : Int) ∧ 1 < (y1_2 + 1 : Int)) <|
    bnd (if (Int.toNat (y1_2 : Int)) = 1 then y1_1 else y1_1 + 1) fun x29 =>
    some ((x29 : Nat), (((Int.toNat (y1_2 : Int)) - 1) : Nat), (y1_4 : List GLayer), (x24 : GLayer)))).bind <| p2 fun (y3_1 : Nat) (q0 : Nat × (List GLayer) × GLayer) => (p2 fun (y3_2 : Nat) (q1 : (List GLayer) × GLayer) => (p2 fun (y3_3 : List GLayer) (y3_4 : GLayer) =>
    bnd (w64 (y1_5.Qty + y3_4.Qty)) fun x44 =>
    bnd (w64 (y1_5.Value + y3_4.Value)) fun x45 =>
    bnd (w64 (y1_5.Profit + y3_4.Profit)) fun x46 =>
    bnd (w64 (y1_3 - y3_4.Qty)) fun x47 =>
    d_stdcost_Out_L0 n (y3_1 : Nat) (y3_2 : Nat) (x47 : Int) (y3_3 : List GLayer) ((⟨x44, x45, x46⟩ : GLayer) : GLayer)) q1) q0) (some ((y1_1 : Nat), (y1_2 : Nat), (y1_4 : List GLayer), (y1_5 : GLayer)))
def d_stdcost_Out (n : Nat) (a1 : List GLayer) (a2 : Int) (a3 : Int) : Option ((List GLayer) × GLayer × Int) :=
(d_stdcost_rate_fits a3).bind fun x5 =>
bnd (!x5) fun x6 =>
cond x6 (asrt (a1.length ≤ 68719476736) <|
some ((a1 : List GLayer), ((⟨0, 0, 0⟩ : GLayer) : GLayer), (1 : Int))) ((show Option ((Nat × Nat × GLayer × Int × (List GLayer))) from
(show Option ((Unit)) from
some ()).bind <| fun _ =>
(show Option ((Nat × Nat × GLayer × Int × (List GLayer))) from
asrt (a1.length ≤ 68719476736) <|
bnd (decide (a2 < 1)) fun x15 =>
cond x15 (some ((0 : Nat), (a1.length : Nat), ((⟨0, 0, 0⟩ : GLayer) : GLayer), (1 : Int), (a1 : List GLayer))) ((d_fifo_has n a1 a2).bind fun x16 =>
bnd (!x16) fun x17 =>
cond x17 (some ((0 : Nat), (a1.length : Nat), ((⟨0, 0, 0⟩ : GLayer) : GLayer), (5 : Int), (a1 : List GLayer))) ((show Option (Nat × Nat × (List GLayer) × GLayer) from
d_stdcost_Out_L0 n (0 : Nat) (a1.length : Nat) (a2 : Int) (a1 : List GLayer) ((⟨0, 0, 0⟩ : GLayer) : GLayer)).bind <| p2 fun (y4_1 : Nat) (q0 : Nat × (List GLayer) × GLayer) => (p2 fun (y4_2 : Nat) (q1 : (List GLayer) × GLayer) => (p2 fun (y4_3 : List GLayer) (y4_4 : GLayer) =>
some ((y4_1 : Nat), (y4_2 : Nat), (y4_4 : GLayer), (0 : Int), (y4_3 : List GLayer))) q1) q0))).bind <| p2 fun (y5_2 : Nat) (q0 : Nat × GLayer × Int × (List GLayer)) => (p2 fun (y5_3 : Nat) (q1 : GLayer × Int × (List GLayer)) => (p2 fun (y5_4 : GLayer) (q2 : Int × (List GLayer)) => (p2 fun (y5_5 : Int) (y5_6 : List GLayer) =>
some ((y5_2 : Nat), (y5_3 : Nat), (y5_4 : GLayer), (y5_5 : Int), (y5_6 : List GLayer))) q2) q1) q0).bind <| p2 fun (y6_2 : Nat) (q0 : Nat × GLayer × Int × (List GLayer)) => (p2 fun (y6_3 : Nat) (q1 : GLayer × Int × (List GLayer)) => (p2 fun (y6_4 : GLayer) (q2 : Int × (List GLayer)) => (p2 fun (y6_5 : Int) (y6_6 : List GLayer) =>
(show Option (Bool) from
bnd (decide (y6_5 ≠ 0)) fun x50 =>
cond x50 (some (true : Bool)) (bnd (decide ((y6_3 : Int) = 0)) fun x51 =>
some (x51 : Bool))).bind <| fun y7_1 =>
cond y7_1 (asrt (y6_2 + y6_3 ≤ y6_6.length) <|
some (((((y6_6).drop y6_2).take y6_3) : List GLayer), (y6_4 : GLayer), (y6_5 : Int))) ((d_stdcost_rate_of n a3 a2).bind fun x52 =>
asrt ((0 : Int) ≤ 0 ∧ 0 < (y6_3 : Int)) <|
(ix y6_6 (((y6_2 : Nat) : Int) + 0)).bind fun x54 =>
bnd (w64 (x54.Value + y6_4.Value)) fun x55 =>
(show Option (Bool) from
bnd (decide (x52.2 ≠ 0)) fun x57 =>
cond x57 (some (true : Bool)) (bnd (decide (x52.1 > x55)) fun x58 =>
some (x58 : Bool))).bind <| fun y8_1 =>
(show Option (Int) from
cond y8_1 (some (x55 : Int)) (some (x52.1 : Int))).bind <| fun y9_1 =>
asrt ((0 : Int) ≤ 0 ∧ 0 < (y6_3 : Int)) <|
bnd (w64 (y6_4.Value - y9_1)) fun x61 =>
bnd (w64 (x54.Value + x61)) fun x62 =>
asrt ((0 : Int) ≤ 0 ∧ 0 < (y6_3 : Int)) <|
bnd (y6_6.set (Int.toNat (((y6_2 : Nat) : Int) + 0)) ((⟨x54.Qty, x62, x54.Profit⟩ : GLayer) : GLayer)) fun x64 =>
asrt (y6_2 + y6_3 ≤ x64.length) <|
some (((((x64).drop y6_2).take y6_3) : List GLayer), ((⟨y6_4.Qty, y9_1, y6_4.Profit⟩ : GLayer) : GLayer), (0 : Int)))) q2) q1) q0)
theorem d_stdcost_Out_c {n : Nat} {a1 : List GLayer} {a2 : Int} {a3 : Int} {r : (List GLayer) × GLayer × Int} (h0 : d_stdcost_Out n a1 a2 a3 = some r) : PP Tryz.prog 206 [lst 3 GLayer.av a1, int a2, int a3] (fun y => y = .tup [lst 3 GLayer.av r.1, .agg (GLayer.av r.2.1), int r.2.2]) := by
  unfold d_stdcost_Out at h0
  refine pp_of_pc (R0 := fun y H => Cv (frzH H) y (.tup [lst 3 GLayer.av r.1, .agg (GLayer.av r.2.1), int r.2.2])) ?_ (fun y H hc => ⟨_, rfl, .tup (pvl3 ((pvLs GLayer.pvc) (r.1)) ((fun (a : GLayer) => PV.agg (GLayer.pvc a)) (r.2.1)) (pvI (r.2.2))), hc⟩)
  refine pcw (c := _) Tryz.func206 rfl rfl ?_; intro Q hret hnorm
  refine tc tbk 3 (.mk ?_)
  refine rse rfl rfl rfl (yl_alloc 1 .any rfl z46 rfl) ?_; rintro _ _ ⟨v4, -, rfl, rfl⟩
  refine tr tbk 6 (.mk ?_)
  obtain ⟨x5, e5, h0⟩ := bind_e h0
  refine rst rfl rfl rfl (yv_callP rfl rfl (.cons rfl .nil) cal207 (CvL.refl _) (d_stdcost_rate_fits_c e5)) ?_
  refine nb tbk h0 fun x6 h0 => ?_
  refine tr tbk 1 (.mk ?_)
  cases x6
  replace h0 := cf h0
  refine tc tbk 6 (.mk ?_)
  obtain ⟨j7, h1, h0⟩ := bind_e h0
  refine rse (Out := fun y H' => (∃ (a : Nat × Nat × GLayer × Int × (List GLayer)) (k : Nat), a = j7 ∧ y = .tup [.sl 6 k a.1 a.2.1, .agg [int a.2.2.1.Qty, int a.2.2.1.Value, int a.2.2.1.Profit], int a.2.2.2.1] ∧ H' = hk [(1, ⟨46, 3, true, true, v4, [[int 0, int 0, int 0]]⟩), (6, ⟨46, 3, true, true, k, a.2.2.2.2.map GLayer.av⟩)])) rfl rfl rfl (yl_call rfl rfl (.cons rfl (.cons rfl .nil)) cal197 ?_) ?_
  refine pcw (c := _) Tryz.func197 rfl rfl ?_; intro Q hret hnorm
  refine tc tbk 3 (.mk ?_)
  refine rse rfl rfl rfl (yl_alloc 3 .any rfl z46 rfl) ?_; rintro _ _ ⟨v8, -, rfl, rfl⟩
  refine tr tbk 4 (.mk ?_)
  obtain ⟨j9, h2, h1⟩ := bind_e h1
  refine rse (Out := fun y H' => (∃ (a : Unit) (k : Unit), a = j9 ∧ y = .agg [.fn (.func 186) [] [], .fn (.func 187) [] [], .fn (.func 115) [] []] ∧ H' = hk [(1, ⟨46, 3, true, true, v4, [[int 0, int 0, int 0]]⟩), (3, ⟨46, 3, true, true, v8, [[int 0, int 0, int 0]]⟩)])) rfl rfl rfl (yl_call rfl rfl .nil cal198 ?_) ?_
  refine pcw (c := _) Tryz.func198 rfl rfl ?_; intro Q hret hnorm
  refine tc tbk 2 (.mk ?_)
  refine rse rfl rfl rfl (yl_alloc 4 .any rfl z235 rfl) ?_; rintro _ _ ⟨v10, -, rfl, rfl⟩
  refine tr tbk 4 (.mk ?_)
  refine sS ⟨235, 3, true, true, v10, [[.fn (.func 186) [] [], .fn (.func 187) [] [], .fn (.func 115) [] []]]⟩ sh235 ?_
  refine tr tbk 1 (.mk ?_)
  obtain rfl := nxt_e h2
  refine w_ret (hret _ _ (hk [(1, ⟨46, 3, true, true, v4, [[int 0, int 0, int 0]]⟩), (3, ⟨46, 3, true, true, v8, [[int 0, int 0, int 0]]⟩)]) (.cell rfl (.pt rfl rfl rfl) sh235 rfl .nil) (HK.le ⟨rfl, rfl, trivial⟩) ?_)
  exact ⟨(), (), rfl, rfl, rfl⟩
  rintro y _ ⟨_, _, rfl, hc, rfl⟩
  subst hc
  refine tr tbk 3 (.mk ?_)
  obtain ⟨j11, h2, h1⟩ := bind_e h1
  refine rse (Out := fun y H' => (∃ (a : Nat × Nat × GLayer × Int × (List GLayer)) (k : Nat), a = j11 ∧ y = .tup [.sl 6 k a.1 a.2.1, .agg [int a.2.2.1.Qty, int a.2.2.1.Value, int a.2.2.1.Profit], int a.2.2.2.1] ∧ H' = hk [(1, ⟨46, 3, true, true, v4, [[int 0, int 0, int 0]]⟩), (3, ⟨46, 3, true, true, v8, [[int 0, int 0, int 0]]⟩), (6, ⟨46, 3, true, true, k, a.2.2.2.2.map GLayer.av⟩)])) rfl rfl rfl (yl_call rfl rfl (.cons rfl (.cons rfl .nil)) cal187 ?_) ?_
  refine pcw (c := _) Tryz.func187 rfl rfl ?_; intro Q hret hnorm
  refine tc tbk 3 (.mk ?_)
  refine rse rfl rfl rfl (yl_alloc 5 .any rfl z46 rfl) ?_; rintro _ _ ⟨v12, -, rfl, rfl⟩
  refine tr tbk 5 (.mk ?_)
  obtain ⟨p13, h2⟩ := asrt_e h2
  refine rse rfl rfl rfl (yl_call rfl rfl (.cons rfl .nil) cal144 (pc_cv (clone144_c (id := 6) (l := a1) rfl p13) (.cons (.refl _) .nil))) ?_; rintro _ _ ⟨v14, rfl, rfl⟩
  refine tr tbk 6 (.mk ?_)
  refine nb tbk h2 fun x15 h2 => ?_
  refine tr tbk 1 (.mk ?_)
  cases x15
  replace h2 := cf h2
  refine tc tbk 7 (.mk ?_)
  obtain ⟨x16, e16, h2⟩ := bind_e h2
  refine rst rfl rfl rfl (yv_callT (v := boo x16) rfl rfl (.cons rfl (.cons rfl .nil)) cal189 (.cons (cv_lst rfl rfl rfl rfl rfl (Eq.symm rfl)) (.cons (.refl _) .nil)) (d_fifo_has_c e16) rfl) ?_
  refine nb tbk h2 fun x17 h2 => ?_
  refine tr tbk 1 (.mk ?_)
  cases x17
  replace h2 := cf h2
  refine tc tbk 4 (.mk ?_)
  refine rse rfl rfl rfl (yl_alloc 7 .any rfl z46 rfl) ?_; rintro _ _ ⟨v18, -, rfl, rfl⟩
  refine tr tbk 2 (.mk ?_)
  refine jn h2 [4, 5, 6, 7] [1, 3, 5] (fun (a : Nat × Nat × (List GLayer) × GLayer) (k : Unit) => [(0, .sl 6 v14 a.1 a.2.1)]) (fun a k => [(6, ⟨46, 3, true, true, v14, a.2.2.1.map GLayer.av⟩), (7, ⟨46, 3, true, true, v18, [[int a.2.2.2.Qty, int a.2.2.2.Value, int a.2.2.2.Profit]]⟩)]) ⟨fun j19 h3 => ?_, ?_⟩
  refine tc tbk 1 (.mk ?_)
  refine lp (fun n (a : Nat × Nat × Int × (List GLayer) × GLayer) => d_stdcost_Out_L0 n a.1 a.2.1 a.2.2.1 a.2.2.2.1 a.2.2.2.2) ((0 : Nat), (a1.length : Nat), (a2 : Int), (a1 : List GLayer), ((⟨0, 0, 0⟩ : GLayer) : GLayer)) () h3 [4, 5, 6, 7] [1, 3, 5] (fun (a : Nat × Nat × Int × (List GLayer) × GLayer) (k : Unit) => [(0, .sl 6 v14 a.1 a.2.1), (1, int a.2.2.1)]) (fun a k => [(6, ⟨46, 3, true, true, v14, a.2.2.2.1.map GLayer.av⟩), (7, ⟨46, 3, true, true, v18, [[int a.2.2.2.2.Qty, int a.2.2.2.2.Value, int a.2.2.2.2.Profit]]⟩)]) (fun _ => rfl) ⟨leA, ?_⟩
  rintro n ⟨y1_1, y1_2, y1_3, y1_4, y1_5⟩ _ hm h3
  replace h3 : d_stdcost_Out_L0 (n + 1) y1_1 y1_2 y1_3 y1_4 y1_5 = some _ := h3
  rw [d_stdcost_Out_L0] at h3
  refine tc tbk 2 (.mk ?_)
  refine jn h3 [0, 1, 4, 5, 6, 7] [1, 3, 5, 6, 7] (fun (a : Bool) (k : Unit) => [(27, boo a)]) (fun a k => []) ⟨fun j20 h4 => ?_, ?_⟩
  refine tc tbk 2 (.mk ?_)
  refine rst rfl rfl rfl (yv_len_sl rfl Tryz.underlying66 rfl (.sl rfl rfl)) ?_
  refine nb tbk h4 fun x21 h4 => ?_
  refine tr tbk 1 (.mk ?_)
  cases x21
  replace h4 := cf h4
  refine tr tbk 4 (.mk ?_)
  exact lf h4 () leA
  replace h4 := ct h4
  refine tr tbk 1 (.mk ?_)
  refine nb tbk h4 fun x22 h4 => ?_
  refine tr tbk 2 (.mk ?_)
  exact lf h4 () leA
  rintro y2_1 _ h3
  cases y2_1
  replace h3 := cf h3
  refine tc tbk 2 (.mk ?_)
  exact lf h3 () leA
  replace h3 := ct h3
  refine tc tbk 6 (.mk ?_)
  obtain ⟨p23, h3⟩ := asrt_e h3
  obtain ⟨x24, e24, h3⟩ := bind_e h3
  refine rst rfl rfl rfl (yv_ixW rfl Tryz.underlying66 sh46 rfl rfl rfl rfl rfl p23 (List.length_map _) e24) ?_
  refine rst rfl rfl rfl (yv_load rfl sh46 rfl (.pt rfl rfl (ix_get e24)) rfl) ?_
  refine rse rfl rfl rfl (yl_alloc 8 .any rfl z46 rfl) ?_; rintro _ _ ⟨v25, -, rfl, rfl⟩
  refine sS ⟨46, 3, true, true, v25, [[int x24.Qty, int x24.Value, int x24.Profit]]⟩ sh46 ?_
  refine tr tbk 7 (.mk ?_)
  refine nb tbk h3 fun x26 h3 => ?_
  refine tr tbk 1 (.mk ?_)
  refine jn h3 [1, 4, 5, 6, 7, 8] [1, 3, 5, 7] (fun (a : Nat × Nat × (List GLayer) × GLayer) (k : Unit) => [(0, .sl 6 v14 a.1 a.2.1)]) (fun a k => [(6, ⟨46, 3, true, true, v14, a.2.2.1.map GLayer.av⟩), (8, ⟨46, 3, true, true, v25, [[int a.2.2.2.Qty, int a.2.2.2.Value, int a.2.2.2.Profit]]⟩)]) ⟨fun j27 h4 => ?_, ?_⟩
  cases x26
  replace h4 := cf h4
  refine tc tbk 4 (.mk ?_)
  refine rst rfl rfl rfl (yv_len_sl rfl Tryz.underlying66 rfl (.sl rfl rfl)) ?_
  refine tr tbk 1 (.mk ?_)
  refine rst rfl rfl rfl (yv_len_sl rfl Tryz.underlying66 rfl (.sl rfl rfl)) ?_
  obtain ⟨p28, h4⟩ := asrt_e h4
  obtain ⟨x29, e29, h4⟩ := bnd_e h4
  refine rst rfl rfl rfl (yv_slO3 (len := y1_2) (i := 1) (j := (Int.toNat (y1_2 : Int))) rfl Tryz.underlying66 sh46 rfl rfl rfl rfl (.yes rfl (by first | omega | (dsimp only; omega) | (dsimp only at *; omega))) (.yes rfl (by first | omega | (dsimp only; omega) | (dsimp only at *; omega))) (.yes rfl (by first | omega | (dsimp only; omega) | (dsimp only at *; omega))) (by first | omega | (dsimp only; omega) | (dsimp only at *; omega)) (by first | omega | (dsimp only; omega) | (dsimp only at *; omega)) e29) ?_
  refine tr tbk 2 (.mk ?_)
  exact lf h4 () leA
  replace h4 := ct h4
  refine tc tbk 2 (.mk ?_)
  refine c_drawE [0, 0, 2, 0, 0, 16, 62, 0, 128, 0, 0, 1024, 4094, 8191, 16383] (rl [(1, [8]), (2, [8]), (4, [8]), (5, [8]), (7, [8]), (8, [8]), (10, [8]), (11, [8])] []) (rl [(14, [])] [8]) (rl [(14, false)] true) [0, 1, 2, 3, 4, 5, 6, 7, 8, 9, 10, 11, 12, 13, 14] mixed (by kernel_rfl) ?_; intro K hK
  refine eM ?_
  refine eF fo46_1 ?_
  refine eL sh3 ?_
  refine eM ?_
  refine eF fo46_0 ?_
  refine eL sh3 ?_
  obtain ⟨x30, e30, h4⟩ := bind_e h4
  refine eP (fun H hH => yv_callP rfl rfl (.cons rfl (.cons rfl (.cons rfl .nil))) cal91 (CvL.refl _) (d_money_Part_c e30)) ?_
  refine eF fo46_2 ?_
  refine eL sh3 ?_
  refine eM ?_
  refine eF fo46_0 ?_
  refine eL sh3 ?_
  obtain ⟨x31, e31, h4⟩ := bind_e h4
  refine eP (fun H hH => yv_callP rfl rfl (.cons rfl (.cons rfl (.cons rfl .nil))) cal91 (CvL.refl _) (d_money_Part_c e31)) ?_
  refine eP (fun H hH => yv_build (cs := [int y1_3, int x30, int x31]) (ps := [(0, _), (1, _), (2, _)]) rfl pl46 z46 rfl (.cons rfl (.cons rfl (.cons rfl .nil))) (by kernel_rfl)) ?_
  refine de_eff0 rfl rfl rfl rfl (Yield.weak (yl_ob (ob' := (⟨46, 3, true, true, v25, [[int y1_3, int x30, int x31]]⟩ : AObj)) (yl_store rfl sh46 rfl rfl rfl rfl rfl rfl rfl rfl rfl) rfl) (fun _ h => h) (fun _ _ => trivial)) (by rintro _ _ ⟨rfl, rfl⟩; exact trivial) ?_; rintro _ _ ⟨rfl, rfl⟩
  refine de_nil (hK _ ?_)
  refine c_drawE [0, 0, 0, 0, 8, 24, 56, 0, 128, 504, 0, 1024, 3072, 7168, 0, 16384, 64512, 0, 131072, 393216, 917504, 0, 2097152, 8257536, 1982457, 18759673, 52314105, 119537659, 253755387, 522190843, 1073741823, 2147483647, 4294967295] (rl [(4, [6]), (5, [6]), (6, [6]), (7, [8]), (8, [8]), (11, [6]), (12, [6]), (13, [6]), (14, [8]), (15, [8]), (18, [6]), (19, [6]), (20, [6]), (21, [8]), (22, [8]), (24, [6]), (25, [6]), (27, [6]), (28, [6]), (30, [6]), (31, [6])] []) (rl [(26, [8]), (29, [8]), (32, [])] [6, 8]) (rl [(26, false), (29, false), (32, false)] true) [0, 1, 2, 3, 4, 5, 6, 7, 8, 9, 10, 11, 12, 13, 14, 15, 16, 17, 18, 19, 20, 21, 22, 23, 24, 25, 26, 27, 28, 29, 30, 31, 32] mixed (by kernel_rfl) ?_; intro K hK
  iterate 4 refine eM ?_
  obtain ⟨p32, h4⟩ := asrt_e h4
  refine de_pure rfl rfl rfl rfl (fun H hH => yv_ixW rfl Tryz.underlying66 sh46 rfl rfl ((hH _ (by decide)).trans rfl) rfl rfl p32 (List.length_map _) e24) ?_
  refine eF fo46_0 (hr := ix_get e24) ?_
  refine eL sh3 (hr := ix_get e24) ?_
  refine eF fo46_0 ?_
  refine eL sh3 ?_
  obtain ⟨x33, e33, h4⟩ := bnd_e h4
  refine eP (fun H hH => yv_sub rfl rfl rfl e33) ?_
  refine eM ?_
  obtain ⟨p34, h4⟩ := asrt_e h4
  refine de_pure rfl rfl rfl rfl (fun H hH => yv_ixW rfl Tryz.underlying66 sh46 rfl rfl ((hH _ (by decide)).trans rfl) rfl rfl p34 (List.length_map _) e24) ?_
  refine eF fo46_1 (hr := ix_get e24) ?_
  refine eL sh3 (hr := ix_get e24) ?_
  refine eF fo46_1 ?_
  refine eL sh3 ?_
  obtain ⟨x35, e35, h4⟩ := bnd_e h4
  refine eP (fun H hH => yv_sub rfl rfl rfl e35) ?_
  refine eM ?_
  obtain ⟨p36, h4⟩ := asrt_e h4
  refine de_pure rfl rfl rfl rfl (fun H hH => yv_ixW rfl Tryz.underlying66 sh46 rfl rfl ((hH _ (by decide)).trans rfl) rfl rfl p36 (List.length_map _) e24) ?_
  refine eF fo46_2 (hr := ix_get e24) ?_
  refine eL sh3 (hr := ix_get e24) ?_
  refine eF fo46_2 ?_
  refine eL sh3 ?_
  obtain ⟨x37, e37, h4⟩ := bnd_e h4
  refine eP (fun H hH => yv_sub rfl rfl rfl e37) ?_
  obtain ⟨p38, h4⟩ := asrt_e h4
  refine de_pure rfl rfl rfl rfl (fun H hH => yv_ixW rfl Tryz.underlying66 sh46 rfl rfl ((hH _ (by decide)).trans rfl) rfl rfl p38 (List.length_map _) e24) ?_
  refine eF fo46_0 (hr := ix_get e24) ?_
  obtain ⟨x39, e39, h4⟩ := bnd_e h4
  have fx39 := ix_set e24 e39; have lx39 := len_setV e39 (rfl : y1_4.length = y1_4.length)
  refine de_eff0 rfl rfl rfl rfl (Yield.weak (yl_ob (ob' := (⟨46, 3, true, true, v14, x39.map GLayer.av⟩ : AObj)) (yl_store rfl sh3 rfl rfl rfl rfl rfl (ix_get e24) rfl rfl rfl) (ob_eq (map_setV e39))) (fun _ h => h) (fun _ _ => trivial)) (by rintro _ _ ⟨rfl, rfl⟩; exact ⟨rfl, trivial⟩) ?_; rintro _ _ ⟨rfl, rfl⟩
  obtain ⟨p40, h4⟩ := asrt_e h4
  refine de_pure rfl rfl rfl rfl (fun H hH => yv_ixW rfl Tryz.underlying66 sh46 rfl rfl ((hH _ (by decide)).trans rfl) rfl rfl p40 (List.length_map _) fx39) ?_
  refine eF fo46_1 (hr := ix_get fx39) ?_
  obtain ⟨x41, e41, h4⟩ := bnd_e h4
  have fx41 := ix_set fx39 e41; have lx41 := len_setV e41 lx39
  refine de_eff0 rfl rfl rfl rfl (Yield.weak (yl_ob (ob' := (⟨46, 3, true, true, v14, x41.map GLayer.av⟩ : AObj)) (yl_store rfl sh3 rfl rfl rfl rfl rfl (ix_get fx39) rfl rfl rfl) (ob_eq (map_setV e41))) (fun _ h => h) (fun _ _ => trivial)) (by rintro _ _ ⟨rfl, rfl⟩; exact ⟨rfl, trivial⟩) ?_; rintro _ _ ⟨rfl, rfl⟩
  obtain ⟨p42, h4⟩ := asrt_e h4
  refine de_pure rfl rfl rfl rfl (fun H hH => yv_ixW rfl Tryz.underlying66 sh46 rfl rfl ((hH _ (by decide)).trans rfl) rfl rfl p42 (List.length_map _) fx41) ?_
  refine eF fo46_2 (hr := ix_get fx41) ?_
  obtain ⟨x43, e43, h4⟩ := bnd_e h4
  have fx43 := ix_set fx41 e43; have lx43 := len_setV e43 lx41
  refine de_eff0 rfl rfl rfl rfl (Yield.weak (yl_ob (ob' := (⟨46, 3, true, true, v14, x43.map GLayer.av⟩ : AObj)) (yl_store rfl sh3 rfl rfl rfl rfl rfl (ix_get fx41) rfl rfl rfl) (ob_eq (map_setV e43))) (fun _ h => h) (fun _ _ => trivial)) (by rintro _ _ ⟨rfl, rfl⟩; exact trivial) ?_; rintro _ _ ⟨rfl, rfl⟩
  refine de_nil (hK _ ?_)
  exact lf h4 () leA
  rintro ⟨y3_1, y3_2, y3_3, y3_4⟩ _ h3
  replace h3 := p2_e h3
  replace h3 := p2_e h3
  replace h3 := p2_e h3
  refine tc tbk 1 (.mk ?_)
  refine c_drawE [0, 1, 0, 4, 15, 0, 32, 0, 128, 480, 0, 1024, 0, 4096, 15360, 3199, 35967, 102399, 233471, 524287, 1048575] (rl [(0, [7]), (1, [7]), (2, [8]), (3, [8]), (5, [7]), (6, [7]), (7, [8]), (8, [8]), (10, [7]), (11, [7]), (12, [8]), (13, [8]), (15, [7]), (17, [7]), (19, [7])] []) (rl [(16, [8]), (18, [8]), (20, [])] [7, 8]) (rl [(16, false), (18, false), (20, false)] true) [0, 1, 2, 3, 4, 5, 6, 7, 8, 9, 10, 11, 12, 13, 14, 15, 16, 17, 18, 19, 20] mixed (by kernel_rfl) ?_; intro K hK
  refine eF fo46_0 ?_
  refine eL sh3 ?_
  refine eF fo46_0 ?_
  refine eL sh3 ?_
  obtain ⟨x44, e44, h3⟩ := bnd_e h3
  refine eP (fun H hH => yv_add rfl rfl rfl e44) ?_
  refine eF fo46_1 ?_
  refine eL sh3 ?_
  refine eF fo46_1 ?_
  refine eL sh3 ?_
  obtain ⟨x45, e45, h3⟩ := bnd_e h3
  refine eP (fun H hH => yv_add rfl rfl rfl e45) ?_
  refine eF fo46_2 ?_
  refine eL sh3 ?_
  refine eF fo46_2 ?_
  refine eL sh3 ?_
  obtain ⟨x46, e46, h3⟩ := bnd_e h3
  refine eP (fun H hH => yv_add rfl rfl rfl e46) ?_
  refine eF fo46_0 ?_
  refine de_eff0 rfl rfl rfl rfl (Yield.weak (yl_ob (ob' := (⟨46, 3, true, true, v18, [[int x44, int y1_5.Value, int y1_5.Profit]]⟩ : AObj)) (yl_store rfl sh3 rfl rfl rfl rfl rfl rfl rfl rfl rfl) rfl) (fun _ h => h) (fun _ _ => trivial)) (by rintro _ _ ⟨rfl, rfl⟩; exact ⟨rfl, trivial⟩) ?_; rintro _ _ ⟨rfl, rfl⟩
  refine eF fo46_1 ?_
  refine de_eff0 rfl rfl rfl rfl (Yield.weak (yl_ob (ob' := (⟨46, 3, true, true, v18, [[int x44, int x45, int y1_5.Profit]]⟩ : AObj)) (yl_store rfl sh3 rfl rfl rfl rfl rfl rfl rfl rfl rfl) rfl) (fun _ h => h) (fun _ _ => trivial)) (by rintro _ _ ⟨rfl, rfl⟩; exact ⟨rfl, trivial⟩) ?_; rintro _ _ ⟨rfl, rfl⟩
  refine eF fo46_2 ?_
  refine de_eff0 rfl rfl rfl rfl (Yield.weak (yl_ob (ob' := (⟨46, 3, true, true, v18, [[int x44, int x45, int x46]]⟩ : AObj)) (yl_store rfl sh3 rfl rfl rfl rfl rfl rfl rfl rfl rfl) rfl) (fun _ h => h) (fun _ _ => trivial)) (by rintro _ _ ⟨rfl, rfl⟩; exact trivial) ?_; rintro _ _ ⟨rfl, rfl⟩
  refine de_nil (hK _ ?_)
  refine tc tbk 4 (.mk ?_)
  refine ni tbk h3 fun x47 h3 => ?_
  refine tr tbk 3 (.mk ?_)
  exact bk (y3_1, y3_2, x47, y3_3, (⟨x44, x45, x46⟩ : GLayer)) () h3 leA
  rintro ⟨y4_1, y4_2, y4_3, y4_4⟩ _ h2
  replace h2 := p2_e h2
  replace h2 := p2_e h2
  replace h2 := p2_e h2
  refine tc tbk 1 (.mk ?_)
  refine c_drawE [0, 0, 1, 7, 15] (rl [(1, [7])] []) (rl [(3, [])] [7]) (rl [(3, false)] true) [0, 1, 2, 3, 4] mixed (by kernel_rfl) ?_; intro K hK
  refine eM ?_
  refine eL sh46 ?_
  refine eA ?_
  refine de_eff0 rfl rfl rfl rfl (Yield.weak (yl_ob (ob' := (⟨46, 3, true, true, v12, [[int y4_4.Qty, int y4_4.Value, int y4_4.Profit]]⟩ : AObj)) (yl_store rfl sh46 rfl rfl rfl rfl rfl rfl rfl rfl rfl) rfl) (fun _ h => h) (fun _ _ => trivial)) (by rintro _ _ ⟨rfl, rfl⟩; exact trivial) ?_; rintro _ _ ⟨rfl, rfl⟩
  refine eA ?_
  refine de_nil (hK _ ?_)
  obtain rfl := nxt_e h2
  refine w_ret (hret _ _ (hk [(1, ⟨46, 3, true, true, v4, [[int 0, int 0, int 0]]⟩), (3, ⟨46, 3, true, true, v8, [[int 0, int 0, int 0]]⟩), (6, ⟨46, 3, true, true, v14, y4_3.map GLayer.av⟩)]) (.tmp rfl (.cell rfl (.pt rfl rfl rfl) sh46 rfl (.tmp rfl .nil))) (HK.le ⟨rfl, rfl, rfl, trivial⟩) ?_)
  exact ⟨(y4_1, y4_2, y4_4, 0, y4_3), v14, rfl, rfl, rfl⟩
  replace h2 := ct h2
  refine tc tbk 6 (.mk ?_)
  refine sS ⟨46, 3, true, true, v12, [[int 0, int 0, int 0]]⟩ sh46 ?_
  refine tr tbk 2 (.mk ?_)
  obtain rfl := nxt_e h2
  refine w_ret (hret _ _ (hk [(1, ⟨46, 3, true, true, v4, [[int 0, int 0, int 0]]⟩), (3, ⟨46, 3, true, true, v8, [[int 0, int 0, int 0]]⟩), (6, ⟨46, 3, true, true, v14, a1.map GLayer.av⟩)]) (.tmp rfl (.cell rfl (.pt rfl rfl rfl) sh46 rfl (.tmp rfl .nil))) (HK.le ⟨rfl, rfl, rfl, trivial⟩) ?_)
  exact ⟨(0, a1.length, (⟨0, 0, 0⟩ : GLayer), 5, a1), v14, rfl, rfl, rfl⟩
  replace h2 := ct h2
  refine tc tbk 6 (.mk ?_)
  refine sS ⟨46, 3, true, true, v12, [[int 0, int 0, int 0]]⟩ sh46 ?_
  refine tr tbk 2 (.mk ?_)
  obtain rfl := nxt_e h2
  refine w_ret (hret _ _ (hk [(1, ⟨46, 3, true, true, v4, [[int 0, int 0, int 0]]⟩), (3, ⟨46, 3, true, true, v8, [[int 0, int 0, int 0]]⟩), (6, ⟨46, 3, true, true, v14, a1.map GLayer.av⟩)]) (.tmp rfl (.cell rfl (.pt rfl rfl rfl) sh46 rfl (.tmp rfl .nil))) (HK.le ⟨rfl, rfl, rfl, trivial⟩) ?_)
  exact ⟨(0, a1.length, (⟨0, 0, 0⟩ : GLayer), 1, a1), v14, rfl, rfl, rfl⟩
  rintro y _ ⟨⟨y5_2, y5_3, y5_4, y5_5, y5_6⟩, w5_1, rfl, hc, rfl⟩
  replace h1 := p2_e h1
  replace h1 := p2_e h1
  replace h1 := p2_e h1
  replace h1 := p2_e h1
  subst hc
  refine tr tbk 4 (.mk ?_)
  refine sS ⟨46, 3, true, true, v8, [[int y5_4.Qty, int y5_4.Value, int y5_4.Profit]]⟩ sh46 ?_
  refine tr tbk 2 (.mk ?_)
  obtain rfl := nxt_e h1
  refine w_ret (hret _ _ (hk [(1, ⟨46, 3, true, true, v4, [[int 0, int 0, int 0]]⟩), (6, ⟨46, 3, true, true, w5_1, y5_6.map GLayer.av⟩)]) (.tmp rfl (.cell rfl (.pt rfl rfl rfl) sh46 rfl (.tmp rfl .nil))) (HK.le ⟨rfl, rfl, trivial⟩) ?_)
  exact ⟨(y5_2, y5_3, y5_4, y5_5, y5_6), w5_1, rfl, rfl, rfl⟩
  rintro y _ ⟨⟨y6_2, y6_3, y6_4, y6_5, y6_6⟩, w6_1, rfl, hc, rfl⟩
  replace h0 := p2_e h0
  replace h0 := p2_e h0
  replace h0 := p2_e h0
  replace h0 := p2_e h0
  subst hc
  refine tr tbk 4 (.mk ?_)
  refine rse rfl rfl rfl (yl_alloc 9 .any rfl z46 rfl) ?_; rintro _ _ ⟨v48, -, rfl, rfl⟩
  refine tr tbk 1 (.mk ?_)
  refine sS ⟨46, 3, true, true, v48, [[int y6_4.Qty, int y6_4.Value, int y6_4.Profit]]⟩ sh46 ?_
  refine tr tbk 4 (.mk ?_)
  refine jn h0 [1, 2, 6, 7, 8, 9, 10, 11] [1, 6, 9] (fun (a : Bool) (k : Unit) => [(33, boo a)]) (fun a k => []) ⟨fun j49 h1 => ?_, ?_⟩
  refine tc tbk 2 (.mk ?_)
  refine nb tbk h1 fun x50 h1 => ?_
  refine tr tbk 1 (.mk ?_)
  cases x50
  replace h1 := cf h1
  refine tr tbk 1 (.mk ?_)
  refine rst rfl rfl rfl (yv_len_sl rfl Tryz.underlying66 rfl (.sl rfl rfl)) ?_
  refine nb tbk h1 fun x51 h1 => ?_
  refine tr tbk 2 (.mk ?_)
  exact lf h1 () leA
  replace h1 := ct h1
  refine tr tbk 5 (.mk ?_)
  exact lf h1 () leA
  rintro y7_1 _ h0
  cases y7_1
  replace h0 := cf h0
  refine tc tbk 6 (.mk ?_)
  obtain ⟨x52, e52, h0⟩ := bind_e h0
  refine rst rfl rfl rfl (yv_callP rfl rfl (.cons rfl (.cons rfl .nil)) cal208 (CvL.refl _) (d_stdcost_rate_of_c e52)) ?_
  refine tr tbk 8 (.mk ?_)
  refine c_drawE [0, 1, 3, 7, 0, 16, 63, 127] (rl [(1, [6]), (2, [6]), (3, [6]), (4, [9]), (5, [9])] []) (fun i => [6, 9]) (fun i => true) [0, 1, 2, 3, 4, 5, 6, 7] mixed (by kernel_rfl) ?_; intro K hK
  refine eM ?_
  obtain ⟨p53, h0⟩ := asrt_e h0
  obtain ⟨x54, e54, h0⟩ := bind_e h0
  refine de_pure rfl rfl rfl rfl (fun H hH => yv_ixW rfl Tryz.underlying66 sh46 rfl rfl ((hH _ (by decide)).trans rfl) rfl rfl p53 (List.length_map _) e54) ?_
  refine eF fo46_1 (hr := ix_get e54) ?_
  refine eL sh3 (hr := ix_get e54) ?_
  refine eF fo46_1 ?_
  refine eL sh3 ?_
  obtain ⟨x55, e55, h0⟩ := bnd_e h0
  refine eP (fun H hH => yv_add rfl rfl rfl e55) ?_
  refine eA ?_
  refine de_nil (hK _ ?_)
  refine tc tbk 1 (.mk ?_)
  refine jn h0 [6, 7, 8, 9, 10, 12, 13] [1, 6, 9] (fun (a : Bool) (k : Unit) => [(56, boo a)]) (fun a k => []) ⟨fun j56 h1 => ?_, ?_⟩
  refine tc tbk 2 (.mk ?_)
  refine nb tbk h1 fun x57 h1 => ?_
  refine tr tbk 1 (.mk ?_)
  cases x57
  replace h1 := cf h1
  refine tr tbk 2 (.mk ?_)
  refine nb tbk h1 fun x58 h1 => ?_
  refine tr tbk 2 (.mk ?_)
  exact lf h1 () leA
  replace h1 := ct h1
  refine tr tbk 5 (.mk ?_)
  exact lf h1 () leA
  rintro y8_1 _ h0
  refine jn h0 [6, 7, 8, 9, 10] [1, 6, 9] (fun (a : Int) (k : Unit) => [(12, int a)]) (fun a k => []) ⟨fun j59 h1 => ?_, ?_⟩
  cases y8_1
  replace h1 := cf h1
  refine tc tbk 2 (.mk ?_)
  exact lf h1 () leA
  replace h1 := ct h1
  refine tc tbk 5 (.mk ?_)
  exact lf h1 () leA
  rintro y9_1 _ h0
  refine tc tbk 1 (.mk ?_)
  refine c_drawE [0, 1, 3, 7, 0, 16, 0, 112, 255, 511, 1023, 2047] (rl [(1, [6]), (2, [6]), (3, [6]), (4, [9]), (5, [9]), (9, [6]), (10, [6])] []) (rl [(11, [])] [6, 9]) (rl [(11, false)] true) [0, 1, 2, 3, 4, 5, 6, 7, 8, 9, 10, 11] mixed (by kernel_rfl) ?_; intro K hK
  refine eM ?_
  obtain ⟨p60, h0⟩ := asrt_e h0
  refine de_pure rfl rfl rfl rfl (fun H hH => yv_ixW rfl Tryz.underlying66 sh46 rfl rfl ((hH _ (by decide)).trans rfl) rfl rfl p60 (List.length_map _) e54) ?_
  refine eF fo46_1 (hr := ix_get e54) ?_
  refine eL sh3 (hr := ix_get e54) ?_
  refine eF fo46_1 ?_
  refine eL sh3 ?_
  refine eM ?_
  obtain ⟨x61, e61, h0⟩ := bnd_e h0
  refine eP (fun H hH => yv_sub rfl rfl rfl e61) ?_
  obtain ⟨x62, e62, h0⟩ := bnd_e h0
  refine eP (fun H hH => yv_add rfl rfl rfl e62) ?_
  obtain ⟨p63, h0⟩ := asrt_e h0
  refine de_pure rfl rfl rfl rfl (fun H hH => yv_ixW rfl Tryz.underlying66 sh46 rfl rfl ((hH _ (by decide)).trans rfl) rfl rfl p63 (List.length_map _) e54) ?_
  refine eF fo46_1 (hr := ix_get e54) ?_
  obtain ⟨x64, e64, h0⟩ := bnd_e h0
  have fx64 := ix_set e54 e64; have lx64 := len_setV e64 (rfl : y6_6.length = y6_6.length)
  refine de_eff0 rfl rfl rfl rfl (Yield.weak (yl_ob (ob' := (⟨46, 3, true, true, w6_1, x64.map GLayer.av⟩ : AObj)) (yl_store rfl sh3 rfl rfl rfl rfl rfl (ix_get e54) rfl rfl rfl) (ob_eq (map_setV e64))) (fun _ h => h) (fun _ _ => trivial)) (by rintro _ _ ⟨rfl, rfl⟩; exact trivial) ?_; rintro _ _ ⟨rfl, rfl⟩
  refine de_nil (hK _ ?_)
  refine tc tbk 4 (.mk ?_)
  refine sS ⟨46, 3, true, true, v48, [[int y6_4.Qty, int y9_1, int y6_4.Profit]]⟩ sh3 ?_
  refine tr tbk 2 (.mk ?_)
  refine c_drawE [0, 0, 1, 7, 15] (rl [(1, [9])] []) (rl [(3, [])] [9]) (rl [(3, false)] true) [0, 1, 2, 3, 4] mixed (by kernel_rfl) ?_; intro K hK
  refine eM ?_
  refine eL sh46 ?_
  refine eA ?_
  refine de_eff0 rfl rfl rfl rfl (Yield.weak (yl_ob (ob' := (⟨46, 3, true, true, v4, [[int y6_4.Qty, int y9_1, int y6_4.Profit]]⟩ : AObj)) (yl_store rfl sh46 rfl rfl rfl rfl rfl rfl rfl rfl rfl) rfl) (fun _ h => h) (fun _ _ => trivial)) (by rintro _ _ ⟨rfl, rfl⟩; exact trivial) ?_; rintro _ _ ⟨rfl, rfl⟩
  refine eA ?_
  refine de_nil (hK _ ?_)
  obtain ⟨p65, h0⟩ := asrt_e h0
  obtain rfl := nxt_e h0
  refine w_ret (hret _ _ _ (.tmp rfl (.cell rfl (.pt rfl rfl rfl) sh46 rfl (.tmp rfl .nil))) (fun _ _ h => h) ?_)
  exact CvL.tup (.cons (cv_win (l := x64) rfl rfl rfl rfl (CvLL.refl _) (by first | omega | (simp only [List.length_set]; omega)) rfl) (.cons (.refl _) (.cons (.refl _) .nil)))
  replace h0 := ct h0
  refine tc tbk 2 (.mk ?_)
  refine c_drawE [0, 0, 0, 1, 11, 31] (rl [(1, [9])] []) (rl [(4, [])] [9]) (rl [(4, false)] true) [0, 1, 2, 3, 4, 5] mixed (by kernel_rfl) ?_; intro K hK
  refine eM ?_
  refine eL sh46 ?_
  refine eM ?_
  refine eA ?_
  refine de_eff0 rfl rfl rfl rfl (Yield.weak (yl_ob (ob' := (⟨46, 3, true, true, v4, [[int y6_4.Qty, int y6_4.Value, int y6_4.Profit]]⟩ : AObj)) (yl_store rfl sh46 rfl rfl rfl rfl rfl rfl rfl rfl rfl) rfl) (fun _ h => h) (fun _ _ => trivial)) (by rintro _ _ ⟨rfl, rfl⟩; exact trivial) ?_; rintro _ _ ⟨rfl, rfl⟩
  refine eA ?_
  refine de_nil (hK _ ?_)
  obtain ⟨p66, h0⟩ := asrt_e h0
  obtain rfl := nxt_e h0
  refine w_ret (hret _ _ _ (.tmp rfl (.cell rfl (.pt rfl rfl rfl) sh46 rfl (.tmp rfl .nil))) (fun _ _ h => h) ?_)
  exact CvL.tup (.cons (cv_win (l := y6_6) rfl rfl rfl rfl (CvLL.refl _) (by first | omega | (simp only [List.length_set]; omega)) rfl) (.cons (.refl _) (.cons (.refl _) .nil)))
  replace h0 := ct h0
  refine tc tbk 4 (.mk ?_)
  obtain ⟨p67, h0⟩ := asrt_e h0
  refine rse rfl rfl rfl (yl_call rfl rfl (.cons rfl .nil) cal144 (pc_cv (clone144_c (id := 2) (l := a1) rfl p67) (.cons (.refl _) .nil))) ?_; rintro _ _ ⟨v68, rfl, rfl⟩
  refine tr tbk 2 (.mk ?_)
  refine sS ⟨46, 3, true, true, v4, [[int 0, int 0, int 0]]⟩ sh46 ?_
  refine tr tbk 2 (.mk ?_)
  obtain rfl := nxt_e h0
  refine w_ret (hret _ _ _ (.tmp rfl (.cell rfl (.pt rfl rfl rfl) sh46 rfl (.tmp rfl .nil))) (fun _ _ h => h) ?_)
  exact CvL.tup (.cons (cv_lst rfl rfl rfl rfl rfl (Eq.symm rfl)) (.cons (.refl _) (.cons (.refl _) .nil)))
def d_pavg_Free_L0 (a1 : GPool) : Nat → Int → Int → Option (Int)
  | 0, _, _ => none
  | n + 1, y0_1, y0_2 =>
    bnd (decide (y0_2 < (a1.Layers.length : Int))) fun x4 =>
    cond x4 ((ix a1.Layers y0_2).bind fun x5 =>
    bnd (w64 (y0_1 + x5.Qty)) fun x7 =>
    bnd (w64 (y0_2 + 1)) fun x8 =>
    d_pavg_Free_L0 a1 n (x7 : Int) (x8 : Int)) (some (y0_1 : Int))
def d_pavg_Free_L1 (a1 : GPool) : Nat → Int → Int → Option (Int)
  | 0, _, _ => none
  | n + 1, y2_1, y2_2 =>
    bnd (decide (y2_2 < 3)) fun x10 =>
    cond x10 ((ix ([a1.Pend.a0, a1.Pend.a1, a1.Pend.a2] : List Int) y2_2).bind fun x11 =>
    bnd (w64 (y2_1 - x11)) fun x12 =>
    bnd (w64 (y2_2 + 1)) fun x13 =>
    d_pavg_Free_L1 a1 n (x12 : Int) (x13 : Int)) (some (y2_1 : Int))
def d_pavg_Free (n : Nat) (a1 : GPool) : Option (Int) :=
(show Option (Int) from
d_pavg_Free_L0 a1 n (0 : Int) (0 : Int)).bind <| fun y1_1 =>
(show Option (Int) from
d_pavg_Free_L1 a1 n (y1_1 : Int) (0 : Int)).bind <| fun y3_1 =>
some ((y3_1 : Int))
theorem d_pavg_Free_c {n : Nat} {a1 : GPool} {r : Int} (h0 : d_pavg_Free n a1 = some r) : PP Tryz.prog 163 [.agg (GPool.av a1)] (fun y => y = int r) := by
  unfold d_pavg_Free at h0
  refine pp_of_pc (R0 := fun y H => Cv (frzH H) y (int r)) ?_ (fun y H hc => ⟨_, rfl, pvI r, hc⟩)
  refine pcw (c := _) Tryz.func163 rfl rfl ?_; intro Q hret hnorm
  refine tc tbk 2 (.mk ?_)
  refine rse rfl rfl rfl (yl_box 1 .any rfl rfl rfl) ?_; rintro _ _ ⟨v2, -, rfl, rfl⟩
  refine tr tbk 11 (.mk ?_)
  refine rst rfl rfl rfl (yv_len_sl rfl Tryz.underlying66 rfl (lst_len _)) ?_
  refine tr tbk 2 (.mk ?_)
  refine jn h0 [1, 2] [1] (fun (a : Int) (k : Unit) => [(3, int a)]) (fun a k => []) ⟨fun j3 h1 => ?_, ?_⟩
  refine tc tbk 1 (.mk ?_)
  refine lp (fun n (a : Int × Int) => d_pavg_Free_L0 a1 n a.1 a.2) ((0 : Int), (0 : Int)) () h1 [1, 2, 9, 10] [1] (fun (a : Int × Int) (k : Unit) => [(3, int a.1), (11, int a.2)]) (fun a k => []) (fun _ => rfl) ⟨leA, ?_⟩
  rintro n ⟨y0_1, y0_2⟩ _ hm h1
  replace h1 : d_pavg_Free_L0 a1 (n + 1) y0_1 y0_2 = some _ := h1
  rw [d_pavg_Free_L0] at h1
  refine tc tbk 2 (.mk ?_)
  refine nb tbk h1 fun x4 h1 => ?_
  refine tr tbk 2 (.mk ?_)
  cases x4
  replace h1 := cf h1
  refine tc tbk 2 (.mk ?_)
  exact lf h1 () leA
  replace h1 := ct h1
  refine tc tbk 6 (.mk ?_)
  obtain ⟨x5, e5, h1⟩ := bind_e h1
  refine rst rfl rfl rfl (yv_ixT rfl Tryz.underlying66 sh46 rfl rfl e5) ?_
  refine tr tbk 1 (.mk ?_)
  refine rse rfl rfl rfl (yl_alloc 2 .any rfl z46 rfl) ?_; rintro _ _ ⟨v6, -, rfl, rfl⟩
  refine sS ⟨46, 3, true, true, v6, [[int x5.Qty, int x5.Value, int x5.Profit]]⟩ sh46 ?_
  refine tr tbk 5 (.mk ?_)
  refine ni tbk h1 fun x7 h1 => ?_
  refine tr tbk 4 (.mk ?_)
  refine ni tbk h1 fun x8 h1 => ?_
  refine tr tbk 2 (.mk ?_)
  exact bk (x7, x8) () h1 leA
  rintro y1_1 _ h0
  refine tc tbk 7 (.mk ?_)
  refine jn h0 [2] [] (fun (a : Int) (k : Unit) => [(3, int a)]) (fun a k => []) ⟨fun j9 h1 => ?_, ?_⟩
  refine tc tbk 1 (.mk ?_)
  refine lp (fun n (a : Int × Int) => d_pavg_Free_L1 a1 n a.1 a.2) ((y1_1 : Int), (0 : Int)) () h1 [2, 21] [] (fun (a : Int × Int) (k : Unit) => [(3, int a.1), (22, int a.2)]) (fun a k => []) (fun _ => rfl) ⟨leA, ?_⟩
  rintro n ⟨y2_1, y2_2⟩ _ hm h1
  replace h1 : d_pavg_Free_L1 a1 (n + 1) y2_1 y2_2 = some _ := h1
  rw [d_pavg_Free_L1] at h1
  refine tc tbk 2 (.mk ?_)
  refine nb tbk h1 fun x10 h1 => ?_
  refine tr tbk 2 (.mk ?_)
  cases x10
  replace h1 := cf h1
  refine tc tbk 2 (.mk ?_)
  exact lf h1 () leA
  replace h1 := ct h1
  refine tc tbk 6 (.mk ?_)
  obtain ⟨x11, e11, h1⟩ := bind_e h1
  refine rst rfl rfl rfl (yv_indexAT (g := fI) (l := ([a1.Pend.a0, a1.Pend.a1, a1.Pend.a2] : List Int)) (v := x11) (w := int x11) rfl Tryz.underlying67 sh3 rfl rfl rfl e11 (fun _ => rfl) hw1) ?_
  refine tr tbk 5 (.mk ?_)
  refine ni tbk h1 fun x12 h1 => ?_
  refine tr tbk 4 (.mk ?_)
  refine ni tbk h1 fun x13 h1 => ?_
  refine tr tbk 2 (.mk ?_)
  exact bk (x12, x13) () h1 leA
  rintro y3_1 _ h0
  refine tc tbk 5 (.mk ?_)
  obtain rfl := nxt_e h0
  refine w_ret (hret _ _ _ (.tmp rfl .nil) (fun _ _ h => h) ?_)
  exact .refl _
def d_fifo_Out_L0 : Nat → Nat → Nat → Int → (List GLayer) → GLayer → Option (Nat × Nat × (List GLayer) × GLayer)
  | 0, _, _, _, _, _ => none
  | n + 1, y0_1, y0_2, y0_3, y0_4, y0_5 =>
    (show Option (Bool) from
    bnd (decide ((y0_2 : Int) > 0)) fun x12 =>
    cond x12 (bnd (decide (y0_3 > 0)) fun x13 =>
    some (x13 : Bool)) (some (false : Bool))).bind <| fun y1_1 =>
    cond y1_1 (asrt ((0 : Int) ≤ 0 ∧ 0 < (y0_2 : Int)) <|
    (ix y0_4 (((y0_1 : Nat) : Int) + 0)).bind fun x15 =>
    bnd (decide (x15.Qty > y0_3)) fun x17 =>
    (show Option (Nat × Nat × (List GLayer) × GLayer) from
    cond x17 ((d_money_Part n x15.Value y0_3 x15.Qty).bind fun x21 =>
    (d_money_Part n x15.Profit y0_3 x15.Qty).bind fun x22 =>
    asrt ((0 : Int) ≤ 0 ∧ 0 < (y0_2 : Int)) <|
    bnd (w64 (x15.Qty - y0_3)) fun x24 =>
    asrt ((0 : Int) ≤ 0 ∧ 0 < (y0_2 : Int)) <|
    bnd (w64 (x15.Value - x21)) fun x26 =>
    asrt ((0 : Int) ≤ 0 ∧ 0 < (y0_2 : Int)) <|
    bnd (w64 (x15.Profit - x22)) fun x28 =>
    asrt ((0 : Int) ≤ 0 ∧ 0 < (y0_2 : Int)) <|
    bnd (y0_4.set (Int.toNat (((y0_1 : Nat) : Int) + 0)) ((⟨x24, x15.Value, x15.Profit⟩ : GLayer) : GLayer)) fun x30 =>
    asrt ((0 : Int) ≤ 0 ∧ 0 < (y0_2 : Int)) <|
    bnd (x30.set (Int.toNat (((y0_1 : Nat) : Int) + 0)) ((⟨((⟨x24, x15.Value, x15.Profit⟩ : GLayer) : GLayer).Qty, x26, ((⟨x24, x15.Value, x15.Profit⟩ : GLayer) : GLayer).Profit⟩ : GLayer) : GLayer)) fun x32 =>
    asrt ((0 : Int) ≤ 0 ∧ 0 < (y0_2 : Int)) <|
    bnd (x32.set (Int.toNat (((y0_1 : Nat) : Int) + 0)) ((⟨((⟨((⟨x24, x15.Value, x15.Profit⟩ : GLayer) : GLayer).Qty, x26, ((⟨x24, x15.Value, x15.Profit⟩ : GLayer) : GLayer).Profit⟩ : GLayer) : GLayer).Qty, ((⟨((⟨x24, x15.Value, x15.Profit⟩ : GLayer) : GLayer).Qty, x26, ((⟨x24, x15.Value, x15.Profit⟩ : GLayer) : GLayer).Profit⟩ : GLayer) : GLayer).Value, x28⟩ : GLayer) : GLayer)) fun x34 =>
    some ((y0_1 : Nat), (y0_2 : Nat), (x34 : List GLayer), ((⟨y0_3, x21, x22⟩ : GLayer) : GLayer))) (asrt ((0 : Int) ≤ 1 ∧ 1 ≤ (y0_2 : Int) ∧ (y0_2 : Int) ≤ (y0_2 : Int) ∧ 1 < (y0_2 + 1 : Int)) <|
    bnd (if (Int.toNat (y0_2 : Int)) = 1 then y0_1 else y0_1 + 1) fun x20 =>
    some ((x20 : Nat), (((Int.toNat (y0_2 : Int)) - 1) : Nat), (y0_4 : List GLayer), (x15 : GLayer)))).bind <| p2 fun (y2_1 : Nat) (q0 : Nat × (List GLayer) × GLayer) => (p2 fun (y2_2 : Nat) (q1 : (List GLayer) × GLayer) => (p2 fun (y2_3 : List GLayer) (y2_4 : GLayer) =>
    bnd (w64 (y0_5.Qty + y2_4.Qty)) fun x35 =>
    bnd (w64 (y0_5.Value + y2_4.Value)) fun x36 =>
    bnd (w64 (y0_5.Profit + y2_4.Profit)) fun x37 =>
    bnd (w64 (y0_3 - y2_4.Qty)) fun x38 =>
    d_fifo_Out_L0 n (y2_1 : Nat) (y2_2 : Nat) (x38 : Int) (y2_3 : List GLayer) ((⟨x35, x36, x37⟩ : GLayer) : GLayer)) q1) q0) (some ((y0_1 : Nat), (y0_2 : Nat), (y0_4 : List GLayer), (y0_5 : GLayer)))
def d_fifo_Out (n : Nat) (a1 : List GLayer) (a2 : Int) : Option ((List GLayer) × GLayer × Int) :=
asrt (a1.length ≤ 68719476736) <|
bnd (decide (a2 < 1)) fun x6 =>
cond x6 (some ((a1 : List GLayer), ((⟨0, 0, 0⟩ : GLayer) : GLayer), (1 : Int))) ((d_fifo_has n a1 a2).bind fun x7 =>
bnd (!x7) fun x8 =>
cond x8 (some ((a1 : List GLayer), ((⟨0, 0, 0⟩ : GLayer) : GLayer), (5 : Int))) ((show Option (Nat × Nat × (List GLayer) × GLayer) from
d_fifo_Out_L0 n (0 : Nat) (a1.length : Nat) (a2 : Int) (a1 : List GLayer) ((⟨0, 0, 0⟩ : GLayer) : GLayer)).bind <| p2 fun (y3_1 : Nat) (q0 : Nat × (List GLayer) × GLayer) => (p2 fun (y3_2 : Nat) (q1 : (List GLayer) × GLayer) => (p2 fun (y3_3 : List GLayer) (y3_4 : GLayer) =>
asrt (y3_1 + y3_2 ≤ y3_3.length) <|
some (((((y3_3).drop y3_1).take y3_2) : List GLayer), (y3_4 : GLayer), (0 : Int))) q1) q0))
theorem d_fifo_Out_c {n : Nat} {a1 : List GLayer} {a2 : Int} {r : (List GLayer) × GLayer × Int} (h0 : d_fifo_Out n a1 a2 = some r) : PP Tryz.prog 187 [lst 3 GLayer.av a1, int a2] (fun y => y = .tup [lst 3 GLayer.av r.1, .agg (GLayer.av r.2.1), int r.2.2]) := by
  unfold d_fifo_Out at h0
  refine pp_of_pc (R0 := fun y H => Cv (frzH H) y (.tup [lst 3 GLayer.av r.1, .agg (GLayer.av r.2.1), int r.2.2])) ?_ (fun y H hc => ⟨_, rfl, .tup (pvl3 ((pvLs GLayer.pvc) (r.1)) ((fun (a : GLayer) => PV.agg (GLayer.pvc a)) (r.2.1)) (pvI (r.2.2))), hc⟩)
  refine pcw (c := _) Tryz.func187 rfl rfl ?_; intro Q hret hnorm
  refine tc tbk 3 (.mk ?_)
  refine rse rfl rfl rfl (yl_alloc 1 .any rfl z46 rfl) ?_; rintro _ _ ⟨v3, -, rfl, rfl⟩
  refine tr tbk 5 (.mk ?_)
  obtain ⟨p4, h0⟩ := asrt_e h0
  refine rse rfl rfl rfl (yl_call rfl rfl (.cons rfl .nil) cal144 (pc_cv (clone144_c (id := 2) (l := a1) rfl p4) (.cons (.refl _) .nil))) ?_; rintro _ _ ⟨v5, rfl, rfl⟩
  refine tr tbk 6 (.mk ?_)
  refine nb tbk h0 fun x6 h0 => ?_
  refine tr tbk 1 (.mk ?_)
  cases x6
  replace h0 := cf h0
  refine tc tbk 7 (.mk ?_)
  obtain ⟨x7, e7, h0⟩ := bind_e h0
  refine rst rfl rfl rfl (yv_callT (v := boo x7) rfl rfl (.cons rfl (.cons rfl .nil)) cal189 (.cons (cv_lst rfl rfl rfl rfl rfl (Eq.symm rfl)) (.cons (.refl _) .nil)) (d_fifo_has_c e7) rfl) ?_
  refine nb tbk h0 fun x8 h0 => ?_
  refine tr tbk 1 (.mk ?_)
  cases x8
  replace h0 := cf h0
  refine tc tbk 4 (.mk ?_)
  refine rse rfl rfl rfl (yl_alloc 3 .any rfl z46 rfl) ?_; rintro _ _ ⟨v9, -, rfl, rfl⟩
  refine tr tbk 2 (.mk ?_)
  refine jn h0 [4, 5, 6, 7] [1] (fun (a : Nat × Nat × (List GLayer) × GLayer) (k : Unit) => [(0, .sl 2 v5 a.1 a.2.1)]) (fun a k => [(2, ⟨46, 3, true, true, v5, a.2.2.1.map GLayer.av⟩), (3, ⟨46, 3, true, true, v9, [[int a.2.2.2.Qty, int a.2.2.2.Value, int a.2.2.2.Profit]]⟩)]) ⟨fun j10 h1 => ?_, ?_⟩
  refine tc tbk 1 (.mk ?_)
  refine lp (fun n (a : Nat × Nat × Int × (List GLayer) × GLayer) => d_fifo_Out_L0 n a.1 a.2.1 a.2.2.1 a.2.2.2.1 a.2.2.2.2) ((0 : Nat), (a1.length : Nat), (a2 : Int), (a1 : List GLayer), ((⟨0, 0, 0⟩ : GLayer) : GLayer)) () h1 [4, 5, 6, 7] [1] (fun (a : Nat × Nat × Int × (List GLayer) × GLayer) (k : Unit) => [(0, .sl 2 v5 a.1 a.2.1), (1, int a.2.2.1)]) (fun a k => [(2, ⟨46, 3, true, true, v5, a.2.2.2.1.map GLayer.av⟩), (3, ⟨46, 3, true, true, v9, [[int a.2.2.2.2.Qty, int a.2.2.2.2.Value, int a.2.2.2.2.Profit]]⟩)]) (fun _ => rfl) ⟨leA, ?_⟩
  rintro n ⟨y0_1, y0_2, y0_3, y0_4, y0_5⟩ _ hm h1
  replace h1 : d_fifo_Out_L0 (n + 1) y0_1 y0_2 y0_3 y0_4 y0_5 = some _ := h1
  rw [d_fifo_Out_L0] at h1
  refine tc tbk 2 (.mk ?_)
  refine jn h1 [0, 1, 4, 5, 6, 7] [1, 2, 3] (fun (a : Bool) (k : Unit) => [(27, boo a)]) (fun a k => []) ⟨fun j11 h2 => ?_, ?_⟩
  refine tc tbk 2 (.mk ?_)
  refine rst rfl rfl rfl (yv_len_sl rfl Tryz.underlying66 rfl (.sl rfl rfl)) ?_
  refine nb tbk h2 fun x12 h2 => ?_
  refine tr tbk 1 (.mk ?_)
  cases x12
  replace h2 := cf h2
  refine tr tbk 4 (.mk ?_)
  exact lf h2 () leA
  replace h2 := ct h2
  refine tr tbk 1 (.mk ?_)
  refine nb tbk h2 fun x13 h2 => ?_
  refine tr tbk 2 (.mk ?_)
  exact lf h2 () leA
  rintro y1_1 _ h1
  cases y1_1
  replace h1 := cf h1
  refine tc tbk 2 (.mk ?_)
  exact lf h1 () leA
  replace h1 := ct h1
  refine tc tbk 6 (.mk ?_)
  obtain ⟨p14, h1⟩ := asrt_e h1
  obtain ⟨x15, e15, h1⟩ := bind_e h1
  refine rst rfl rfl rfl (yv_ixW rfl Tryz.underlying66 sh46 rfl rfl rfl rfl rfl p14 (List.length_map _) e15) ?_
  refine rst rfl rfl rfl (yv_load rfl sh46 rfl (.pt rfl rfl (ix_get e15)) rfl) ?_
  refine rse rfl rfl rfl (yl_alloc 4 .any rfl z46 rfl) ?_; rintro _ _ ⟨v16, -, rfl, rfl⟩
  refine sS ⟨46, 3, true, true, v16, [[int x15.Qty, int x15.Value, int x15.Profit]]⟩ sh46 ?_
  refine tr tbk 7 (.mk ?_)
  refine nb tbk h1 fun x17 h1 => ?_
  refine tr tbk 1 (.mk ?_)
  refine jn h1 [1, 4, 5, 6, 7, 8] [1, 3] (fun (a : Nat × Nat × (List GLayer) × GLayer) (k : Unit) => [(0, .sl 2 v5 a.1 a.2.1)]) (fun a k => [(2, ⟨46, 3, true, true, v5, a.2.2.1.map GLayer.av⟩), (4, ⟨46, 3, true, true, v16, [[int a.2.2.2.Qty, int a.2.2.2.Value, int a.2.2.2.Profit]]⟩)]) ⟨fun j18 h2 => ?_, ?_⟩
  cases x17
  replace h2 := cf h2
  refine tc tbk 4 (.mk ?_)
  refine rst rfl rfl rfl (yv_len_sl rfl Tryz.underlying66 rfl (.sl rfl rfl)) ?_
  refine tr tbk 1 (.mk ?_)
  refine rst rfl rfl rfl (yv_len_sl rfl Tryz.underlying66 rfl (.sl rfl rfl)) ?_
  obtain ⟨p19, h2⟩ := asrt_e h2
  obtain ⟨x20, e20, h2⟩ := bnd_e h2
  refine rst rfl rfl rfl (yv_slO3 (len := y0_2) (i := 1) (j := (Int.toNat (y0_2 : Int))) rfl Tryz.underlying66 sh46 rfl rfl rfl rfl (.yes rfl (by first | omega | (dsimp only; omega) | (dsimp only at *; omega))) (.yes rfl (by first | omega | (dsimp only; omega) | (dsimp only at *; omega))) (.yes rfl (by first | omega | (dsimp only; omega) | (dsimp only at *; omega))) (by first | omega | (dsimp only; omega) | (dsimp only at *; omega)) (by first | omega | (dsimp only; omega) | (dsimp only at *; omega)) e20) ?_
  refine tr tbk 2 (.mk ?_)
  exact lf h2 () leA
  replace h2 := ct h2
  refine tc tbk 2 (.mk ?_)
  refine c_drawE [0, 0, 2, 0, 0, 16, 62, 0, 128, 0, 0, 1024, 4094, 8191, 16383] (rl [(1, [4]), (2, [4]), (4, [4]), (5, [4]), (7, [4]), (8, [4]), (10, [4]), (11, [4])] []) (rl [(14, [])] [4]) (rl [(14, false)] true) [0, 1, 2, 3, 4, 5, 6, 7, 8, 9, 10, 11, 12, 13, 14] mixed (by kernel_rfl) ?_; intro K hK
  refine eM ?_
  refine eF fo46_1 ?_
  refine eL sh3 ?_
  refine eM ?_
  refine eF fo46_0 ?_
  refine eL sh3 ?_
  obtain ⟨x21, e21, h2⟩ := bind_e h2
  refine eP (fun H hH => yv_callP rfl rfl (.cons rfl (.cons rfl (.cons rfl .nil))) cal91 (CvL.refl _) (d_money_Part_c e21)) ?_
  refine eF fo46_2 ?_
  refine eL sh3 ?_
  refine eM ?_
  refine eF fo46_0 ?_
  refine eL sh3 ?_
  obtain ⟨x22, e22, h2⟩ := bind_e h2
  refine eP (fun H hH => yv_callP rfl rfl (.cons rfl (.cons rfl (.cons rfl .nil))) cal91 (CvL.refl _) (d_money_Part_c e22)) ?_
  refine eP (fun H hH => yv_build (cs := [int y0_3, int x21, int x22]) (ps := [(0, _), (1, _), (2, _)]) rfl pl46 z46 rfl (.cons rfl (.cons rfl (.cons rfl .nil))) (by kernel_rfl)) ?_
  refine de_eff0 rfl rfl rfl rfl (Yield.weak (yl_ob (ob' := (⟨46, 3, true, true, v16, [[int y0_3, int x21, int x22]]⟩ : AObj)) (yl_store rfl sh46 rfl rfl rfl rfl rfl rfl rfl rfl rfl) rfl) (fun _ h => h) (fun _ _ => trivial)) (by rintro _ _ ⟨rfl, rfl⟩; exact trivial) ?_; rintro _ _ ⟨rfl, rfl⟩
  refine de_nil (hK _ ?_)
  refine c_drawE [0, 0, 0, 0, 8, 24, 56, 0, 128, 504, 0, 1024, 3072, 7168, 0, 16384, 64512, 0, 131072, 393216, 917504, 0, 2097152, 8257536, 1982457, 18759673, 52314105, 119537659, 253755387, 522190843, 1073741823, 2147483647, 4294967295] (rl [(4, [2]), (5, [2]), (6, [2]), (7, [4]), (8, [4]), (11, [2]), (12, [2]), (13, [2]), (14, [4]), (15, [4]), (18, [2]), (19, [2]), (20, [2]), (21, [4]), (22, [4]), (24, [2]), (25, [2]), (27, [2]), (28, [2]), (30, [2]), (31, [2])] []) (rl [(26, [4]), (29, [4]), (32, [])] [2, 4]) (rl [(26, false), (29, false), (32, false)] true) [0, 1, 2, 3, 4, 5, 6, 7, 8, 9, 10, 11, 12, 13, 14, 15, 16, 17, 18, 19, 20, 21, 22, 23, 24, 25, 26, 27, 28, 29, 30, 31, 32] mixed (by kernel_rfl) ?_; intro K hK
  iterate 4 refine eM ?_
  obtain ⟨p23, h2⟩ := asrt_e h2
  refine de_pure rfl rfl rfl rfl (fun H hH => yv_ixW rfl Tryz.underlying66 sh46 rfl rfl ((hH _ (by decide)).trans rfl) rfl rfl p23 (List.length_map _) e15) ?_
  refine eF fo46_0 (hr := ix_get e15) ?_
  refine eL sh3 (hr := ix_get e15) ?_
  refine eF fo46_0 ?_
  refine eL sh3 ?_
  obtain ⟨x24, e24, h2⟩ := bnd_e h2
  refine eP (fun H hH => yv_sub rfl rfl rfl e24) ?_
  refine eM ?_
  obtain ⟨p25, h2⟩ := asrt_e h2
  refine de_pure rfl rfl rfl rfl (fun H hH => yv_ixW rfl Tryz.underlying66 sh46 rfl rfl ((hH _ (by decide)).trans rfl) rfl rfl p25 (List.length_map _) e15) ?_
  refine eF fo46_1 (hr := ix_get e15) ?_
  refine eL sh3 (hr := ix_get e15) ?_
  refine eF fo46_1 ?_
  refine eL sh3 ?_
  obtain ⟨x26, e26, h2⟩ := bnd_e h2
  refine eP (fun H hH => yv_sub rfl rfl rfl e26) ?_
  refine eM ?_
  obtain ⟨p27, h2⟩ := asrt_e h2
  refine de_pure rfl rfl rfl rfl (fun H hH => yv_ixW rfl Tryz.underlying66 sh46 rfl rfl ((hH _ (by decide)).trans rfl) rfl rfl p27 (List.length_map _) e15) ?_
  refine eF fo46_2 (hr := ix_get e15) ?_
  refine eL sh3 (hr := ix_get e15) ?_
  refine eF fo46_2 ?_
  refine eL sh3 ?_
  obtain ⟨x28, e28, h2⟩ := bnd_e h2
  refine eP (fun H hH => yv_sub rfl rfl rfl e28) ?_
  obtain ⟨p29, h2⟩ := asrt_e h2
  refine de_pure rfl rfl rfl rfl (fun H hH => yv_ixW rfl Tryz.underlying66 sh46 rfl rfl ((hH _ (by decide)).trans rfl) rfl rfl p29 (List.length_map _) e15) ?_
  refine eF fo46_0 (hr := ix_get e15) ?_
  obtain ⟨x30, e30, h2⟩ := bnd_e h2
  have fx30 := ix_set e15 e30; have lx30 := len_setV e30 (rfl : y0_4.length = y0_4.length)
  refine de_eff0 rfl rfl rfl rfl (Yield.weak (yl_ob (ob' := (⟨46, 3, true, true, v5, x30.map GLayer.av⟩ : AObj)) (yl_store rfl sh3 rfl rfl rfl rfl rfl (ix_get e15) rfl rfl rfl) (ob_eq (map_setV e30))) (fun _ h => h) (fun _ _ => trivial)) (by rintro _ _ ⟨rfl, rfl⟩; exact ⟨rfl, trivial⟩) ?_; rintro _ _ ⟨rfl, rfl⟩
  obtain ⟨p31, h2⟩ := asrt_e h2
  refine de_pure rfl rfl rfl rfl (fun H hH => yv_ixW rfl Tryz.underlying66 sh46 rfl rfl ((hH _ (by decide)).trans rfl) rfl rfl p31 (List.length_map _) fx30) ?_
  refine eF fo46_1 (hr := ix_get fx30) ?_
  obtain ⟨x32, e32, h2⟩ := bnd_e h2
  have fx32 := ix_set fx30 e32; have lx32 := len_setV e32 lx30
  refine de_eff0 rfl rfl rfl rfl (Yield.weak (yl_ob (ob' := (⟨46, 3, true, true, v5, x32.map GLayer.av⟩ : AObj)) (yl_store rfl sh3 rfl rfl rfl rfl rfl (ix_get fx30) rfl rfl rfl) (ob_eq (map_setV e32))) (fun _ h => h) (fun _ _ => trivial)) (by rintro _ _ ⟨rfl, rfl⟩; exact ⟨rfl, trivial⟩) ?_; rintro _ _ ⟨rfl, rfl⟩
  obtain ⟨p33, h2⟩ := asrt_e h2
  refine de_pure rfl rfl rfl rfl (fun H hH => yv_ixW rfl Tryz.underlying66 sh46 rfl rfl ((hH _ (by decide)).trans rfl) rfl rfl p33 (List.length_map _) fx32) ?_
  refine eF fo46_2 (hr := ix_get fx32) ?_
  obtain ⟨x34, e34, h2⟩ := bnd_e h2
  have fx34 := ix_set fx32 e34; have lx34 := len_setV e34 lx32
  refine de_eff0 rfl rfl rfl rfl (Yield.weak (yl_ob (ob' := (⟨46, 3, true, true, v5, x34.map GLayer.av⟩ : AObj)) (yl_store rfl sh3 rfl rfl rfl rfl rfl (ix_get fx32) rfl rfl rfl) (ob_eq (map_setV e34))) (fun _ h => h) (fun _ _ => trivial)) (by rintro _ _ ⟨rfl, rfl⟩; exact trivial) ?_; rintro _ _ ⟨rfl, rfl⟩
  refine de_nil (hK _ ?_)
  exact lf h2 () leA
  rintro ⟨y2_1, y2_2, y2_3, y2_4⟩ _ h1
  replace h1 := p2_e h1
  replace h1 := p2_e h1
  replace h1 := p2_e h1
  refine tc tbk 1 (.mk ?_)
  refine c_drawE [0, 1, 0, 4, 15, 0, 32, 0, 128, 480, 0, 1024, 0, 4096, 15360, 3199, 35967, 102399, 233471, 524287, 1048575] (rl [(0, [3]), (1, [3]), (2, [4]), (3, [4]), (5, [3]), (6, [3]), (7, [4]), (8, [4]), (10, [3]), (11, [3]), (12, [4]), (13, [4]), (15, [3]), (17, [3]), (19, [3])] []) (rl [(16, [4]), (18, [4]), (20, [])] [3, 4]) (rl [(16, false), (18, false), (20, false)] true) [0, 1, 2, 3, 4, 5, 6, 7, 8, 9, 10, 11, 12, 13, 14, 15, 16, 17, 18, 19, 20] mixed (by kernel_rfl) ?_; intro K hK
  refine eF fo46_0 ?_
  refine eL sh3 ?_
  refine eF fo46_0 ?_
  refine eL sh3 ?_
  obtain ⟨x35, e35, h1⟩ := bnd_e h1
  refine eP (fun H hH => yv_add rfl rfl rfl e35) ?_
  refine eF fo46_1 ?_
  refine eL sh3 ?_
  refine eF fo46_1 ?_
  refine eL sh3 ?_
  obtain ⟨x36, e36, h1⟩ := bnd_e h1
  refine eP (fun H hH => yv_add rfl rfl rfl e36) ?_
  refine eF fo46_2 ?_
  refine eL sh3 ?_
  refine eF fo46_2 ?_
  refine eL sh3 ?_
  obtain ⟨x37, e37, h1⟩ := bnd_e h1
  refine eP (fun H hH => yv_add rfl rfl rfl e37) ?_
  refine eF fo46_0 ?_
  refine de_eff0 rfl rfl rfl rfl (Yield.weak (yl_ob (ob' := (⟨46, 3, true, true, v9, [[int x35, int y0_5.Value, int y0_5.Profit]]⟩ : AObj)) (yl_store rfl sh3 rfl rfl rfl rfl rfl rfl rfl rfl rfl) rfl) (fun _ h => h) (fun _ _ => trivial)) (by rintro _ _ ⟨rfl, rfl⟩; exact ⟨rfl, trivial⟩) ?_; rintro _ _ ⟨rfl, rfl⟩
  refine eF fo46_1 ?_
  refine de_eff0 rfl rfl rfl rfl (Yield.weak (yl_ob (ob' := (⟨46, 3, true, true, v9, [[int x35, int x36, int y0_5.Profit]]⟩ : AObj)) (yl_store rfl sh3 rfl rfl rfl rfl rfl rfl rfl rfl rfl) rfl) (fun _ h => h) (fun _ _ => trivial)) (by rintro _ _ ⟨rfl, rfl⟩; exact ⟨rfl, trivial⟩) ?_; rintro _ _ ⟨rfl, rfl⟩
  refine eF fo46_2 ?_
  refine de_eff0 rfl rfl rfl rfl (Yield.weak (yl_ob (ob' := (⟨46, 3, true, true, v9, [[int x35, int x36, int x37]]⟩ : AObj)) (yl_store rfl sh3 rfl rfl rfl rfl rfl rfl rfl rfl rfl) rfl) (fun _ h => h) (fun _ _ => trivial)) (by rintro _ _ ⟨rfl, rfl⟩; exact trivial) ?_; rintro _ _ ⟨rfl, rfl⟩
  refine de_nil (hK _ ?_)
  refine tc tbk 4 (.mk ?_)
  refine ni tbk h1 fun x38 h1 => ?_
  refine tr tbk 3 (.mk ?_)
  exact bk (y2_1, y2_2, x38, y2_3, (⟨x35, x36, x37⟩ : GLayer)) () h1 leA
  rintro ⟨y3_1, y3_2, y3_3, y3_4⟩ _ h0
  replace h0 := p2_e h0
  replace h0 := p2_e h0
  replace h0 := p2_e h0
  refine tc tbk 1 (.mk ?_)
  refine c_drawE [0, 0, 1, 7, 15] (rl [(1, [3])] []) (rl [(3, [])] [3]) (rl [(3, false)] true) [0, 1, 2, 3, 4] mixed (by kernel_rfl) ?_; intro K hK
  refine eM ?_
  refine eL sh46 ?_
  refine eA ?_
  refine de_eff0 rfl rfl rfl rfl (Yield.weak (yl_ob (ob' := (⟨46, 3, true, true, v3, [[int y3_4.Qty, int y3_4.Value, int y3_4.Profit]]⟩ : AObj)) (yl_store rfl sh46 rfl rfl rfl rfl rfl rfl rfl rfl rfl) rfl) (fun _ h => h) (fun _ _ => trivial)) (by rintro _ _ ⟨rfl, rfl⟩; exact trivial) ?_; rintro _ _ ⟨rfl, rfl⟩
  refine eA ?_
  refine de_nil (hK _ ?_)
  obtain ⟨p39, h0⟩ := asrt_e h0
  obtain rfl := nxt_e h0
  refine w_ret (hret _ _ _ (.tmp rfl (.cell rfl (.pt rfl rfl rfl) sh46 rfl (.tmp rfl .nil))) (fun _ _ h => h) ?_)
  exact CvL.tup (.cons (cv_win (l := y3_3) rfl rfl rfl rfl (CvLL.refl _) (by first | omega | (simp only [List.length_set]; omega)) rfl) (.cons (.refl _) (.cons (.refl _) .nil)))
  replace h0 := ct h0
  refine tc tbk 6 (.mk ?_)
  refine sS ⟨46, 3, true, true, v3, [[int 0, int 0, int 0]]⟩ sh46 ?_
  refine tr tbk 2 (.mk ?_)
  obtain rfl := nxt_e h0
  refine w_ret (hret _ _ _ (.tmp rfl (.cell rfl (.pt rfl rfl rfl) sh46 rfl (.tmp rfl .nil))) (fun _ _ h => h) ?_)
  exact CvL.tup (.cons (cv_lst rfl rfl rfl rfl rfl (Eq.symm rfl)) (.cons (.refl _) (.cons (.refl _) .nil)))
  replace h0 := ct h0
  refine tc tbk 6 (.mk ?_)
  refine sS ⟨46, 3, true, true, v3, [[int 0, int 0, int 0]]⟩ sh46 ?_
  refine tr tbk 2 (.mk ?_)
  obtain rfl := nxt_e h0
  refine w_ret (hret _ _ _ (.tmp rfl (.cell rfl (.pt rfl rfl rfl) sh46 rfl (.tmp rfl .nil))) (fun _ _ h => h) ?_)
  exact CvL.tup (.cons (cv_lst rfl rfl rfl rfl rfl (Eq.symm rfl)) (.cons (.refl _) (.cons (.refl _) .nil)))
def d_mavg_Out (n : Nat) (a1 : List GLayer) (a2 : Int) : Option ((List GLayer) × GLayer × Int) :=
(show Option ((Unit)) from
some ()).bind <| fun _ =>
(d_fifo_Out n a1 a2).bind fun x6 =>
some ((x6.1 : List GLayer), (x6.2.1 : GLayer), (x6.2.2 : Int))
theorem d_mavg_Out_c {n : Nat} {a1 : List GLayer} {a2 : Int} {r : (List GLayer) × GLayer × Int} (h0 : d_mavg_Out n a1 a2 = some r) : PP Tryz.prog 197 [lst 3 GLayer.av a1, int a2] (fun y => y = .tup [lst 3 GLayer.av r.1, .agg (GLayer.av r.2.1), int r.2.2]) := by
  unfold d_mavg_Out at h0
  refine pp_of_pc (R0 := fun y H => Cv (frzH H) y (.tup [lst 3 GLayer.av r.1, .agg (GLayer.av r.2.1), int r.2.2])) ?_ (fun y H hc => ⟨_, rfl, .tup (pvl3 ((pvLs GLayer.pvc) (r.1)) ((fun (a : GLayer) => PV.agg (GLayer.pvc a)) (r.2.1)) (pvI (r.2.2))), hc⟩)
  refine pcw (c := _) Tryz.func197 rfl rfl ?_; intro Q hret hnorm
  refine tc tbk 3 (.mk ?_)
  refine rse rfl rfl rfl (yl_alloc 1 .any rfl z46 rfl) ?_; rintro _ _ ⟨v3, -, rfl, rfl⟩
  refine tr tbk 4 (.mk ?_)
  obtain ⟨j4, h1, h0⟩ := bind_e h0
  refine rse (Out := fun y H' => (∃ (a : Unit) (k : Unit), a = j4 ∧ y = .agg [.fn (.func 186) [] [], .fn (.func 187) [] [], .fn (.func 115) [] []] ∧ H' = hk [(1, ⟨46, 3, true, true, v3, [[int 0, int 0, int 0]]⟩)])) rfl rfl rfl (yl_call rfl rfl .nil cal198 ?_) ?_
  refine pcw (c := _) Tryz.func198 rfl rfl ?_; intro Q hret hnorm
  refine tc tbk 2 (.mk ?_)
  refine rse rfl rfl rfl (yl_alloc 2 .any rfl z235 rfl) ?_; rintro _ _ ⟨v5, -, rfl, rfl⟩
  refine tr tbk 4 (.mk ?_)
  refine sS ⟨235, 3, true, true, v5, [[.fn (.func 186) [] [], .fn (.func 187) [] [], .fn (.func 115) [] []]]⟩ sh235 ?_
  refine tr tbk 1 (.mk ?_)
  obtain rfl := nxt_e h1
  refine w_ret (hret _ _ (hk [(1, ⟨46, 3, true, true, v3, [[int 0, int 0, int 0]]⟩)]) (.cell rfl (.pt rfl rfl rfl) sh235 rfl .nil) (HK.le ⟨rfl, trivial⟩) ?_)
  exact ⟨(), (), rfl, rfl, rfl⟩
  rintro y _ ⟨_, _, rfl, hc, rfl⟩
  subst hc
  refine tr tbk 3 (.mk ?_)
  obtain ⟨x6, e6, h0⟩ := bind_e h0
  refine rst rfl rfl rfl (yv_callP rfl rfl (.cons rfl (.cons rfl .nil)) cal187 (CvL.refl _) (d_fifo_Out_c e6)) ?_
  refine tr tbk 4 (.mk ?_)
  refine sS ⟨46, 3, true, true, v3, [[int x6.2.1.Qty, int x6.2.1.Value, int x6.2.1.Profit]]⟩ sh46 ?_
  refine tr tbk 2 (.mk ?_)
  obtain rfl := nxt_e h0
  refine w_ret (hret _ _ _ (.tmp rfl (.cell rfl (.pt rfl rfl rfl) sh46 rfl (.tmp rfl .nil))) (fun _ _ h => h) ?_)
  exact .refl _
def d_pavg_Out (n : Nat) (a1 : GPool) (a2 : Int) : Option (GPool × GLayer × Int) :=
bnd (decide (a2 < 1)) fun x6 =>
cond x6 ((d_pavg_own a1 a1.Layers).bind fun x13 =>
some ((x13 : GPool), ((⟨0, 0, 0⟩ : GLayer) : GLayer), (1 : Int))) ((d_pavg_Free n a1).bind fun x7 =>
bnd (decide (a2 > x7)) fun x8 =>
cond x8 ((d_pavg_own a1 a1.Layers).bind fun x12 =>
some ((x12 : GPool), ((⟨0, 0, 0⟩ : GLayer) : GLayer), (5 : Int))) ((d_mavg_Out n a1.Layers a2).bind fun x9 =>
(d_pavg_own a1 x9.1).bind fun x11 =>
some ((x11 : GPool), (x9.2.1 : GLayer), (x9.2.2 : Int))))
theorem d_pavg_Out_c {n : Nat} {a1 : GPool} {a2 : Int} {r : GPool × GLayer × Int} (h0 : d_pavg_Out n a1 a2 = some r) : PP Tryz.prog 202 [.agg (GPool.av a1), int a2] (fun y => y = .tup [.agg (GPool.av r.1), .agg (GLayer.av r.2.1), int r.2.2]) := by
  unfold d_pavg_Out at h0
  refine pp_of_pc (R0 := fun y H => Cv (frzH H) y (.tup [.agg (GPool.av r.1), .agg (GLayer.av r.2.1), int r.2.2])) ?_ (fun y H hc => ⟨_, rfl, .tup (pvl3 ((fun (a : GPool) => PV.agg (GPool.pvc a)) (r.1)) ((fun (a : GLayer) => PV.agg (GLayer.pvc a)) (r.2.1)) (pvI (r.2.2))), hc⟩)
  refine pcw (c := _) Tryz.func202 rfl rfl ?_; intro Q hret hnorm
  refine tc tbk 2 (.mk ?_)
  refine rse rfl rfl rfl (yl_box 1 .any rfl rfl rfl) ?_; rintro _ _ ⟨v3, -, rfl, rfl⟩
  refine rse rfl rfl rfl (yl_alloc 2 .any rfl z69 rfl) ?_; rintro _ _ ⟨v4, -, rfl, rfl⟩
  refine rse rfl rfl rfl (yl_alloc 3 .any rfl z46 rfl) ?_; rintro _ _ ⟨v5, -, rfl, rfl⟩
  refine tr tbk 7 (.mk ?_)
  refine nb tbk h0 fun x6 h0 => ?_
  refine tr tbk 2 (.mk ?_)
  cases x6
  replace h0 := cf h0
  refine tc tbk 5 (.mk ?_)
  obtain ⟨x7, e7, h0⟩ := bind_e h0
  refine rst rfl rfl rfl (yv_callP rfl rfl (.cons rfl .nil) cal163 (CvL.refl _) (d_pavg_Free_c e7)) ?_
  refine nb tbk h0 fun x8 h0 => ?_
  refine tr tbk 2 (.mk ?_)
  cases x8
  replace h0 := cf h0
  refine tc tbk 8 (.mk ?_)
  obtain ⟨x9, e9, h0⟩ := bind_e h0
  refine rst rfl rfl rfl (yv_callP rfl rfl (.cons rfl (.cons rfl .nil)) cal197 (CvL.refl _) (d_mavg_Out_c e9)) ?_
  refine tr tbk 4 (.mk ?_)
  refine rse rfl rfl rfl (yl_alloc 4 .any rfl z46 rfl) ?_; rintro _ _ ⟨v10, -, rfl, rfl⟩
  refine tr tbk 1 (.mk ?_)
  refine sS ⟨46, 3, true, true, v10, [[int x9.2.1.Qty, int x9.2.1.Value, int x9.2.1.Profit]]⟩ sh46 ?_
  refine tr tbk 3 (.mk ?_)
  refine c_drawE [0, 0, 3, 0, 0, 7, 47, 127] (rl [(0, [1]), (3, [4])] []) (rl [(5, [4]), (6, [])] [1, 4]) (rl [(5, false), (6, false)] true) [0, 1, 2, 3, 4, 5, 6, 7] mixed (by kernel_rfl) ?_; intro K hK
  refine eL sh69 ?_
  refine eM ?_
  obtain ⟨x11, e11, h0⟩ := bind_e h0
  refine eP (fun H hH => yv_callP rfl rfl (.cons rfl (.cons rfl .nil)) cal142 (CvL.refl _) (d_pavg_own_c e11)) ?_
  refine eL sh46 ?_
  refine eM ?_
  refine de_eff0 rfl rfl rfl rfl (Yield.weak (yl_ob (ob' := (⟨69, 4, true, true, v4, [[lst 3 GLayer.av x11.Layers, int x11.Pend.a0, int x11.Pend.a1, int x11.Pend.a2]]⟩ : AObj)) (yl_store rfl sh69 rfl rfl rfl rfl rfl rfl rfl rfl rfl) rfl) (fun _ h => h) (fun _ _ => trivial)) (by rintro _ _ ⟨rfl, rfl⟩; exact ⟨rfl, trivial⟩) ?_; rintro _ _ ⟨rfl, rfl⟩
  refine de_eff0 rfl rfl rfl rfl (Yield.weak (yl_ob (ob' := (⟨46, 3, true, true, v5, [[int x9.2.1.Qty, int x9.2.1.Value, int x9.2.1.Profit]]⟩ : AObj)) (yl_store rfl sh46 rfl rfl rfl rfl rfl rfl rfl rfl rfl) rfl) (fun _ h => h) (fun _ _ => trivial)) (by rintro _ _ ⟨rfl, rfl⟩; exact trivial) ?_; rintro _ _ ⟨rfl, rfl⟩
  refine eA ?_
  refine de_nil (hK _ ?_)
  obtain rfl := nxt_e h0
  refine w_ret (hret _ _ _ (.cell rfl (.pt rfl rfl rfl) sh69 rfl (.cell rfl (.pt rfl rfl rfl) sh46 rfl (.tmp rfl .nil))) (fun _ _ h => h) ?_)
  exact .refl _
  replace h0 := ct h0
  refine tc tbk 6 (.mk ?_)
  obtain ⟨x12, e12, h0⟩ := bind_e h0
  refine rst rfl rfl rfl (yv_callP rfl rfl (.cons rfl (.cons rfl .nil)) cal142 (CvL.refl _) (d_pavg_own_c e12)) ?_
  refine tr tbk 1 (.mk ?_)
  refine sS ⟨69, 4, true, true, v4, [[lst 3 GLayer.av x12.Layers, int x12.Pend.a0, int x12.Pend.a1, int x12.Pend.a2]]⟩ sh69 ?_
  refine sS ⟨46, 3, true, true, v5, [[int 0, int 0, int 0]]⟩ sh46 ?_
  refine tr tbk 2 (.mk ?_)
  obtain rfl := nxt_e h0
  refine w_ret (hret _ _ _ (.cell rfl (.pt rfl rfl rfl) sh69 rfl (.cell rfl (.pt rfl rfl rfl) sh46 rfl (.tmp rfl .nil))) (fun _ _ h => h) ?_)
  exact .refl _
  replace h0 := ct h0
  refine tc tbk 6 (.mk ?_)
  obtain ⟨x13, e13, h0⟩ := bind_e h0
  refine rst rfl rfl rfl (yv_callP rfl rfl (.cons rfl (.cons rfl .nil)) cal142 (CvL.refl _) (d_pavg_own_c e13)) ?_
  refine tr tbk 1 (.mk ?_)
  refine sS ⟨69, 4, true, true, v4, [[lst 3 GLayer.av x13.Layers, int x13.Pend.a0, int x13.Pend.a1, int x13.Pend.a2]]⟩ sh69 ?_
  refine sS ⟨46, 3, true, true, v5, [[int 0, int 0, int 0]]⟩ sh46 ?_
  refine tr tbk 2 (.mk ?_)
  obtain rfl := nxt_e h0
  refine w_ret (hret _ _ _ (.cell rfl (.pt rfl rfl rfl) sh69 rfl (.cell rfl (.pt rfl rfl rfl) sh46 rfl (.tmp rfl .nil))) (fun _ _ h => h) ?_)
  exact .refl _
def d_pavg_Wait (n : Nat) (a1 : GPool) (a2 : Int) (a3 : Int) : Option (GPool × Int) :=
(d_pavg_own a1 a1.Layers).bind fun x6 =>
(show Option (Bool) from
(d_pavg_is a2).bind fun x8 =>
bnd (!x8) fun x9 =>
cond x9 (some (true : Bool)) (bnd (decide (a3 < 1)) fun x10 =>
some (x10 : Bool))).bind <| fun y0_1 =>
cond y0_1 (some ((x6 : GPool), (1 : Int))) ((d_pavg_Free n x6).bind fun x11 =>
bnd (decide (a3 > x11)) fun x12 =>
cond x12 (some ((x6 : GPool), (5 : Int))) (bnd (decide (a2 = 0)) fun x13 =>
cond x13 (bnd (w64 (x6.Pend.a0 + a3)) fun x18 =>
some (((⟨x6.Layers, (⟨x18, x6.Pend.a1, x6.Pend.a2⟩ : A3_Int)⟩ : GPool) : GPool), (0 : Int))) (bnd (decide (a2 = 1)) fun x14 =>
cond x14 (bnd (w64 (x6.Pend.a1 + a3)) fun x17 =>
some (((⟨x6.Layers, (⟨x6.Pend.a0, x17, x6.Pend.a2⟩ : A3_Int)⟩ : GPool) : GPool), (0 : Int))) (asrt (a2 = 2) <|
bnd (w64 (x6.Pend.a2 + a3)) fun x16 =>
some (((⟨x6.Layers, (⟨x6.Pend.a0, x6.Pend.a1, x16⟩ : A3_Int)⟩ : GPool) : GPool), (0 : Int))))))
theorem d_pavg_Wait_c {n : Nat} {a1 : GPool} {a2 : Int} {a3 : Int} {r : GPool × Int} (h0 : d_pavg_Wait n a1 a2 a3 = some r) : PP Tryz.prog 157 [.agg (GPool.av a1), int a2, int a3] (fun y => y = .tup [.agg (GPool.av r.1), int r.2]) := by
  unfold d_pavg_Wait at h0
  refine pp_of_pc (R0 := fun y H => Cv (frzH H) y (.tup [.agg (GPool.av r.1), int r.2])) ?_ (fun y H hc => ⟨_, rfl, .tup (pvl2 ((fun (a : GPool) => PV.agg (GPool.pvc a)) (r.1)) (pvI (r.2))), hc⟩)
  refine pcw (c := _) Tryz.func157 rfl rfl ?_; intro Q hret hnorm
  refine tc tbk 2 (.mk ?_)
  refine rse rfl rfl rfl (yl_box 1 .any rfl rfl rfl) ?_; rintro _ _ ⟨v4, -, rfl, rfl⟩
  refine rse rfl rfl rfl (yl_alloc 2 .any rfl z69 rfl) ?_; rintro _ _ ⟨v5, -, rfl, rfl⟩
  refine tr tbk 7 (.mk ?_)
  obtain ⟨x6, e6, h0⟩ := bind_e h0
  refine rst rfl rfl rfl (yv_callP rfl rfl (.cons rfl (.cons rfl .nil)) cal142 (CvL.refl _) (d_pavg_own_c e6)) ?_
  refine sS ⟨69, 4, true, true, v4, [[lst 3 GLayer.av x6.Layers, int x6.Pend.a0, int x6.Pend.a1, int x6.Pend.a2]]⟩ sh69 ?_
  refine tr tbk 4 (.mk ?_)
  refine jn h0 [1, 2, 3, 6, 7] [1, 2] (fun (a : Bool) (k : Unit) => [(12, boo a)]) (fun a k => []) ⟨fun j7 h1 => ?_, ?_⟩
  refine tc tbk 2 (.mk ?_)
  obtain ⟨x8, e8, h1⟩ := bind_e h1
  refine rst rfl rfl rfl (yv_callP rfl rfl (.cons rfl .nil) cal143 (CvL.refl _) (d_pavg_is_c e8)) ?_
  refine nb tbk h1 fun x9 h1 => ?_
  refine tr tbk 1 (.mk ?_)
  cases x9
  replace h1 := cf h1
  refine tr tbk 1 (.mk ?_)
  refine nb tbk h1 fun x10 h1 => ?_
  refine tr tbk 3 (.mk ?_)
  exact lf h1 () leA
  replace h1 := ct h1
  refine tr tbk 5 (.mk ?_)
  exact lf h1 () leA
  rintro y0_1 _ h0
  cases y0_1
  replace h0 := cf h0
  refine tc tbk 5 (.mk ?_)
  obtain ⟨x11, e11, h0⟩ := bind_e h0
  refine rst rfl rfl rfl (yv_callP rfl rfl (.cons rfl .nil) cal163 (CvL.refl _) (d_pavg_Free_c e11)) ?_
  refine nb tbk h0 fun x12 h0 => ?_
  refine tr tbk 2 (.mk ?_)
  cases x12
  replace h0 := cf h0
  refine tc tbk 7 (.mk ?_)
  obtain ⟨x13, e13, h0⟩ := bnd_e h0
  cases x13
  replace h0 := cf h0
  obtain ⟨x14, e14, h0⟩ := bnd_e h0
  cases x14
  replace h0 := cf h0
  obtain ⟨p15, h0⟩ := asrt_e h0
  refine rsas 27 (int 2) rfl (congrArg int p15) ?_
  refine rst rfl rfl rfl (yv_to (y := .pt 1 v4 0 3) (yv_indexAddrA rfl Tryz.underlying67 sh3 rfl rfl rfl rfl rfl (by decide)) rfl) ?_
  refine tr tbk 2 (.mk ?_)
  refine ni tbk h0 fun x16 h0 => ?_
  refine tr tbk 1 (.mk ?_)
  refine rst rfl rfl rfl (yv_to (y := .pt 1 v4 0 3) (yv_indexAddrA rfl Tryz.underlying67 sh3 rfl rfl rfl rfl rfl (by decide)) rfl) ?_
  refine sS ⟨69, 4, true, true, v4, [[lst 3 GLayer.av x6.Layers, int x6.Pend.a0, int x6.Pend.a1, int x16]]⟩ sh3 ?_
  refine tr tbk 4 (.mk ?_)
  refine sS ⟨69, 4, true, true, v5, [[lst 3 GLayer.av x6.Layers, int x6.Pend.a0, int x6.Pend.a1, int x16]]⟩ sh69 ?_
  refine tr tbk 2 (.mk ?_)
  obtain rfl := nxt_e h0
  refine w_ret (hret _ _ _ (.cell rfl (.pt rfl rfl rfl) sh69 rfl (.tmp rfl .nil)) (fun _ _ h => h) ?_)
  exact .refl _
  replace h0 := ct h0
  refine rsas 27 (int 1) rfl (congrArg int (of_decide_eq_true e14)) ?_
  refine rst rfl rfl rfl (yv_to (y := .pt 1 v4 0 2) (yv_indexAddrA rfl Tryz.underlying67 sh3 rfl rfl rfl rfl rfl (by decide)) rfl) ?_
  refine tr tbk 2 (.mk ?_)
  refine ni tbk h0 fun x17 h0 => ?_
  refine tr tbk 1 (.mk ?_)
  refine rst rfl rfl rfl (yv_to (y := .pt 1 v4 0 2) (yv_indexAddrA rfl Tryz.underlying67 sh3 rfl rfl rfl rfl rfl (by decide)) rfl) ?_
  refine sS ⟨69, 4, true, true, v4, [[lst 3 GLayer.av x6.Layers, int x6.Pend.a0, int x17, int x6.Pend.a2]]⟩ sh3 ?_
  refine tr tbk 4 (.mk ?_)
  refine sS ⟨69, 4, true, true, v5, [[lst 3 GLayer.av x6.Layers, int x6.Pend.a0, int x17, int x6.Pend.a2]]⟩ sh69 ?_
  refine tr tbk 2 (.mk ?_)
  obtain rfl := nxt_e h0
  refine w_ret (hret _ _ _ (.cell rfl (.pt rfl rfl rfl) sh69 rfl (.tmp rfl .nil)) (fun _ _ h => h) ?_)
  exact .refl _
  replace h0 := ct h0
  refine rsas 27 (int 0) rfl (congrArg int (of_decide_eq_true e13)) ?_
  refine rst rfl rfl rfl (yv_to (y := .pt 1 v4 0 1) (yv_indexAddrA rfl Tryz.underlying67 sh3 rfl rfl rfl rfl rfl (by decide)) rfl) ?_
  refine tr tbk 2 (.mk ?_)
  refine ni tbk h0 fun x18 h0 => ?_
  refine tr tbk 1 (.mk ?_)
  refine rst rfl rfl rfl (yv_to (y := .pt 1 v4 0 1) (yv_indexAddrA rfl Tryz.underlying67 sh3 rfl rfl rfl rfl rfl (by decide)) rfl) ?_
  refine sS ⟨69, 4, true, true, v4, [[lst 3 GLayer.av x6.Layers, int x18, int x6.Pend.a1, int x6.Pend.a2]]⟩ sh3 ?_
  refine tr tbk 4 (.mk ?_)
  refine sS ⟨69, 4, true, true, v5, [[lst 3 GLayer.av x6.Layers, int x18, int x6.Pend.a1, int x6.Pend.a2]]⟩ sh69 ?_
  refine tr tbk 2 (.mk ?_)
  obtain rfl := nxt_e h0
  refine w_ret (hret _ _ _ (.cell rfl (.pt rfl rfl rfl) sh69 rfl (.tmp rfl .nil)) (fun _ _ h => h) ?_)
  exact .refl _
  replace h0 := ct h0
  refine tc tbk 4 (.mk ?_)
  refine sS ⟨69, 4, true, true, v5, [[lst 3 GLayer.av x6.Layers, int x6.Pend.a0, int x6.Pend.a1, int x6.Pend.a2]]⟩ sh69 ?_
  refine tr tbk 2 (.mk ?_)
  obtain rfl := nxt_e h0
  refine w_ret (hret _ _ _ (.cell rfl (.pt rfl rfl rfl) sh69 rfl (.tmp rfl .nil)) (fun _ _ h => h) ?_)
  exact .refl _
  replace h0 := ct h0
  refine tc tbk 4 (.mk ?_)
  refine sS ⟨69, 4, true, true, v5, [[lst 3 GLayer.av x6.Layers, int x6.Pend.a0, int x6.Pend.a1, int x6.Pend.a2]]⟩ sh69 ?_
  refine tr tbk 2 (.mk ?_)
  obtain rfl := nxt_e h0
  refine w_ret (hret _ _ _ (.cell rfl (.pt rfl rfl rfl) sh69 rfl (.tmp rfl .nil)) (fun _ _ h => h) ?_)
  exact .refl _
def d_pool_Out (n : Nat) (a1 : Int) (a2 : Int) (a3 : GPool) (a4 : Int) (a5 : Int) : Option (GPool × GLayer × Bool × Int) :=
(show Option ((Unit) ⊕ (Unit) ⊕ (Unit) ⊕ (Unit) ⊕ (Unit)) from
bnd (decide (a1 = 1)) fun x10 =>
cond x10 (some (.inr (.inr (.inr (.inr ()))))) (bnd (decide (a1 = 2)) fun x11 =>
cond x11 (some (.inr (.inr (.inr (.inl ()))))) (bnd (decide (a1 = 3)) fun x12 =>
cond x12 (some (.inr (.inr (.inl ())))) (bnd (decide (a1 = 4)) fun x13 =>
cond x13 (some (.inr (.inl ()))) (some (.inl ())))))).bind <| selr (fun _ =>
(d_pool_own a3).bind fun x14 =>
some ((x14 : GPool), ((⟨0, 0, 0⟩ : GLayer) : GLayer), (false : Bool), (12 : Int))) <| selr (fun _ =>
(show Option (Bool) from
bnd (decide (a4 < 0)) fun x16 =>
cond x16 (some (true : Bool)) (bnd (decide (a4 > 3)) fun x17 =>
some (x17 : Bool))).bind <| fun y5_1 =>
cond y5_1 ((d_pool_own a3).bind fun x32 =>
some ((x32 : GPool), ((⟨0, 0, 0⟩ : GLayer) : GLayer), (false : Bool), (1 : Int))) ((show Option ((Unit)) from
some ()).bind <| fun _ =>
(show Option ((GPool × GLayer × Int)) from
(d_stdcost_Out n a3.Layers a5 a2).bind fun x27 =>
(d_pool_with a3 x27.1).bind fun x29 =>
some ((x29 : GPool), (x27.2.1 : GLayer), (x27.2.2 : Int))).bind <| p2 fun (y7_1 : GPool) (q0 : GLayer × Int) => (p2 fun (y7_2 : GLayer) (y7_3 : Int) =>
bnd (decide (y7_3 ≠ 0)) fun x30 =>
cond x30 ((d_pool_own a3).bind fun x31 =>
some ((x31 : GPool), ((⟨0, 0, 0⟩ : GLayer) : GLayer), (false : Bool), (y7_3 : Int))) (some ((y7_1 : GPool), (y7_2 : GLayer), (false : Bool), (0 : Int)))) q0)) <| selr (fun _ =>
(show Option (Bool) from
bnd (decide (a4 < 0)) fun x34 =>
cond x34 (some (true : Bool)) (bnd (decide (a4 > 3)) fun x35 =>
some (x35 : Bool))).bind <| fun y5_1 =>
cond y5_1 ((d_pool_own a3).bind fun x51 =>
some ((x51 : GPool), ((⟨0, 0, 0⟩ : GLayer) : GLayer), (false : Bool), (1 : Int))) ((show Option ((Unit)) from
some ()).bind <| fun _ =>
bnd (decide (a4 ≠ 3)) fun x40 =>
(show Option (Int × Bool × GLayer × GPool) from
cond x40 ((d_pavg_Wait n a3 a4 a5).bind fun x48 =>
some ((x48.2 : Int), (true : Bool), ((⟨0, 0, 0⟩ : GLayer) : GLayer), (x48.1 : GPool))) ((show Option ((GPool × GLayer × Int)) from
(d_pavg_Out n a3 a5).bind fun x47 =>
some ((x47.1 : GPool), (x47.2.1 : GLayer), (x47.2.2 : Int))).bind <| p2 fun (y10_1 : GPool) (q0 : GLayer × Int) => (p2 fun (y10_2 : GLayer) (y10_3 : Int) =>
some ((y10_3 : Int), (false : Bool), (y10_2 : GLayer), (y10_1 : GPool))) q0)).bind <| p2 fun (y9_1 : Int) (q0 : Bool × GLayer × GPool) => (p2 fun (y9_2 : Bool) (q1 : GLayer × GPool) => (p2 fun (y9_3 : GLayer) (y9_4 : GPool) =>
bnd (decide (y9_1 ≠ 0)) fun x49 =>
cond x49 ((d_pool_own a3).bind fun x50 =>
some ((x50 : GPool), ((⟨0, 0, 0⟩ : GLayer) : GLayer), (false : Bool), (y9_1 : Int))) (some ((y9_4 : GPool), (y9_3 : GLayer), (y9_2 : Bool), (0 : Int)))) q1) q0)) <| selr (fun _ =>
(show Option (Bool) from
bnd (decide (a4 < 0)) fun x53 =>
cond x53 (some (true : Bool)) (bnd (decide (a4 > 3)) fun x54 =>
some (x54 : Bool))).bind <| fun y5_1 =>
cond y5_1 ((d_pool_own a3).bind fun x69 =>
some ((x69 : GPool), ((⟨0, 0, 0⟩ : GLayer) : GLayer), (false : Bool), (1 : Int))) ((show Option ((Unit)) from
some ()).bind <| fun _ =>
(show Option ((GPool × GLayer × Int)) from
(d_mavg_Out n a3.Layers a5).bind fun x64 =>
(d_pool_with a3 x64.1).bind fun x66 =>
some ((x66 : GPool), (x64.2.1 : GLayer), (x64.2.2 : Int))).bind <| p2 fun (y11_1 : GPool) (q0 : GLayer × Int) => (p2 fun (y11_2 : GLayer) (y11_3 : Int) =>
bnd (decide (y11_3 ≠ 0)) fun x67 =>
cond x67 ((d_pool_own a3).bind fun x68 =>
some ((x68 : GPool), ((⟨0, 0, 0⟩ : GLayer) : GLayer), (false : Bool), (y11_3 : Int))) (some ((y11_1 : GPool), (y11_2 : GLayer), (false : Bool), (0 : Int)))) q0)) <| fun _ =>
(show Option (Bool) from
bnd (decide (a4 < 0)) fun x71 =>
cond x71 (some (true : Bool)) (bnd (decide (a4 > 3)) fun x72 =>
some (x72 : Bool))).bind <| fun y5_1 =>
cond y5_1 ((d_pool_own a3).bind fun x87 =>
some ((x87 : GPool), ((⟨0, 0, 0⟩ : GLayer) : GLayer), (false : Bool), (1 : Int))) ((show Option ((Unit)) from
some ()).bind <| fun _ =>
(show Option ((GPool × GLayer × Int)) from
(d_fifo_Out n a3.Layers a5).bind fun x82 =>
(d_pool_with a3 x82.1).bind fun x84 =>
some ((x84 : GPool), (x82.2.1 : GLayer), (x82.2.2 : Int))).bind <| p2 fun (y12_1 : GPool) (q0 : GLayer × Int) => (p2 fun (y12_2 : GLayer) (y12_3 : Int) =>
bnd (decide (y12_3 ≠ 0)) fun x85 =>
cond x85 ((d_pool_own a3).bind fun x86 =>
some ((x86 : GPool), ((⟨0, 0, 0⟩ : GLayer) : GLayer), (false : Bool), (y12_3 : Int))) (some ((y12_1 : GPool), (y12_2 : GLayer), (false : Bool), (0 : Int)))) q0)
theorem d_pool_Out_c {n : Nat} {a1 : Int} {a2 : Int} {a3 : GPool} {a4 : Int} {a5 : Int} {r : GPool × GLayer × Bool × Int} (h0 : d_pool_Out n a1 a2 a3 a4 a5 = some r) : PP Tryz.prog 135 [int a1, int a2, .agg (GPool.av a3), int a4, int a5] (fun y => y = .tup [.agg (GPool.av r.1), .agg (GLayer.av r.2.1), boo r.2.2.1, int r.2.2.2]) := by
  unfold d_pool_Out at h0
  refine pp_of_pc (R0 := fun y H => Cv (frzH H) y (.tup [.agg (GPool.av r.1), .agg (GLayer.av r.2.1), boo r.2.2.1, int r.2.2.2])) ?_ (fun y H hc => ⟨_, rfl, .tup (pvl4 ((fun (a : GPool) => PV.agg (GPool.pvc a)) (r.1)) ((fun (a : GLayer) => PV.agg (GLayer.pvc a)) (r.2.1)) (pvB (r.2.2.1)) (pvI (r.2.2.2))), hc⟩)
  refine pcw (c := _) Tryz.func135 rfl rfl ?_; intro Q hret hnorm
  refine tc tbk 2 (.mk ?_)
  refine rse rfl rfl rfl (yl_box 1 .any rfl rfl rfl) ?_; rintro _ _ ⟨v6, -, rfl, rfl⟩
  refine rse rfl rfl rfl (yl_alloc 2 .any rfl z69 rfl) ?_; rintro _ _ ⟨v7, -, rfl, rfl⟩
  refine rse rfl rfl rfl (yl_alloc 3 .any rfl z46 rfl) ?_; rintro _ _ ⟨v8, -, rfl, rfl⟩
  refine tr tbk 7 (.mk ?_)
  obtain ⟨j9, h1, h0⟩ := bind_e h0
  refine rse (Out := fun y H' => (∃ (a : Unit) (k : Unit), (.inl a) = j9 ∧ y = .sc .nilIface ∧ H' = hk [(1, ⟨69, 4, true, true, v6, [[lst 3 GLayer.av a3.Layers, int a3.Pend.a0, int a3.Pend.a1, int a3.Pend.a2]]⟩), (2, ⟨69, 4, true, true, v7, [[.sc (.slice none 0 0), int 0, int 0, int 0]]⟩), (3, ⟨46, 3, true, true, v8, [[int 0, int 0, int 0]]⟩)]) ∨ (∃ (a : Unit) (k : Unit), (.inr (.inl a)) = j9 ∧ y = .ifc 186 (.agg [int a2]) ∧ H' = hk [(1, ⟨69, 4, true, true, v6, [[lst 3 GLayer.av a3.Layers, int a3.Pend.a0, int a3.Pend.a1, int a3.Pend.a2]]⟩), (2, ⟨69, 4, true, true, v7, [[.sc (.slice none 0 0), int 0, int 0, int 0]]⟩), (3, ⟨46, 3, true, true, v8, [[int 0, int 0, int 0]]⟩)]) ∨ (∃ (a : Unit) (k : Unit), (.inr (.inr (.inl a))) = j9 ∧ y = .ifc 184 (.agg []) ∧ H' = hk [(1, ⟨69, 4, true, true, v6, [[lst 3 GLayer.av a3.Layers, int a3.Pend.a0, int a3.Pend.a1, int a3.Pend.a2]]⟩), (2, ⟨69, 4, true, true, v7, [[.sc (.slice none 0 0), int 0, int 0, int 0]]⟩), (3, ⟨46, 3, true, true, v8, [[int 0, int 0, int 0]]⟩)]) ∨ (∃ (a : Unit) (k : Unit), (.inr (.inr (.inr (.inl a)))) = j9 ∧ y = .ifc 183 (.agg []) ∧ H' = hk [(1, ⟨69, 4, true, true, v6, [[lst 3 GLayer.av a3.Layers, int a3.Pend.a0, int a3.Pend.a1, int a3.Pend.a2]]⟩), (2, ⟨69, 4, true, true, v7, [[.sc (.slice none 0 0), int 0, int 0, int 0]]⟩), (3, ⟨46, 3, true, true, v8, [[int 0, int 0, int 0]]⟩)]) ∨ (∃ (a : Unit) (k : Unit), (.inr (.inr (.inr (.inr a)))) = j9 ∧ y = .ifc 182 (.agg []) ∧ H' = hk [(1, ⟨69, 4, true, true, v6, [[lst 3 GLayer.av a3.Layers, int a3.Pend.a0, int a3.Pend.a1, int a3.Pend.a2]]⟩), (2, ⟨69, 4, true, true, v7, [[.sc (.slice none 0 0), int 0, int 0, int 0]]⟩), (3, ⟨46, 3, true, true, v8, [[int 0, int 0, int 0]]⟩)])) rfl rfl rfl (yl_call rfl rfl (.cons rfl (.cons rfl .nil)) cal113 ?_) ?_
  refine pcw (c := _) Tryz.func113 rfl rfl ?_; intro Q hret hnorm
  refine tc tbk 12 (.mk ?_)
  refine nb tbk h1 fun x10 h1 => ?_
  refine tr tbk 2 (.mk ?_)
  cases x10
  replace h1 := cf h1
  refine tc tbk 3 (.mk ?_)
  refine nb tbk h1 fun x11 h1 => ?_
  refine tr tbk 2 (.mk ?_)
  cases x11
  replace h1 := cf h1
  refine tc tbk 3 (.mk ?_)
  refine nb tbk h1 fun x12 h1 => ?_
  refine tr tbk 2 (.mk ?_)
  cases x12
  replace h1 := cf h1
  refine tc tbk 3 (.mk ?_)
  refine nb tbk h1 fun x13 h1 => ?_
  refine tr tbk 2 (.mk ?_)
  cases x13
  replace h1 := cf h1
  refine tc tbk 7 (.mk ?_)
  obtain rfl := nxt_e h1
  refine w_ret (hret _ _ (hk [(1, ⟨69, 4, true, true, v6, [[lst 3 GLayer.av a3.Layers, int a3.Pend.a0, int a3.Pend.a1, int a3.Pend.a2]]⟩), (2, ⟨69, 4, true, true, v7, [[.sc (.slice none 0 0), int 0, int 0, int 0]]⟩), (3, ⟨46, 3, true, true, v8, [[int 0, int 0, int 0]]⟩)]) (.tmp rfl .nil) (HK.le ⟨rfl, rfl, rfl, trivial⟩) ?_)
  exact (.inl ⟨(), (), rfl, rfl, rfl⟩)
  replace h1 := ct h1
  refine tc tbk 5 (.mk ?_)
  refine rst rfl rfl rfl (yv_makeIface rfl Tryz.underlying186 (by intro _ h; cases h) rfl) ?_
  refine tr tbk 2 (.mk ?_)
  obtain rfl := nxt_e h1
  refine w_ret (hret _ _ (hk [(1, ⟨69, 4, true, true, v6, [[lst 3 GLayer.av a3.Layers, int a3.Pend.a0, int a3.Pend.a1, int a3.Pend.a2]]⟩), (2, ⟨69, 4, true, true, v7, [[.sc (.slice none 0 0), int 0, int 0, int 0]]⟩), (3, ⟨46, 3, true, true, v8, [[int 0, int 0, int 0]]⟩)]) (.tmp rfl .nil) (HK.le ⟨rfl, rfl, rfl, trivial⟩) ?_)
  exact (.inr (.inl ⟨(), (), rfl, rfl, rfl⟩))
  replace h1 := ct h1
  refine tc tbk 4 (.mk ?_)
  refine rst rfl rfl rfl (yv_makeIface rfl Tryz.underlying184 (by intro _ h; cases h) rfl) ?_
  refine tr tbk 2 (.mk ?_)
  obtain rfl := nxt_e h1
  refine w_ret (hret _ _ (hk [(1, ⟨69, 4, true, true, v6, [[lst 3 GLayer.av a3.Layers, int a3.Pend.a0, int a3.Pend.a1, int a3.Pend.a2]]⟩), (2, ⟨69, 4, true, true, v7, [[.sc (.slice none 0 0), int 0, int 0, int 0]]⟩), (3, ⟨46, 3, true, true, v8, [[int 0, int 0, int 0]]⟩)]) (.tmp rfl .nil) (HK.le ⟨rfl, rfl, rfl, trivial⟩) ?_)
  exact (.inr (.inr (.inl ⟨(), (), rfl, rfl, rfl⟩)))
  replace h1 := ct h1
  refine tc tbk 4 (.mk ?_)
  refine rst rfl rfl rfl (yv_makeIface rfl Tryz.underlying183 (by intro _ h; cases h) rfl) ?_
  refine tr tbk 2 (.mk ?_)
  obtain rfl := nxt_e h1
  refine w_ret (hret _ _ (hk [(1, ⟨69, 4, true, true, v6, [[lst 3 GLayer.av a3.Layers, int a3.Pend.a0, int a3.Pend.a1, int a3.Pend.a2]]⟩), (2, ⟨69, 4, true, true, v7, [[.sc (.slice none 0 0), int 0, int 0, int 0]]⟩), (3, ⟨46, 3, true, true, v8, [[int 0, int 0, int 0]]⟩)]) (.tmp rfl .nil) (HK.le ⟨rfl, rfl, rfl, trivial⟩) ?_)
  exact (.inr (.inr (.inr (.inl ⟨(), (), rfl, rfl, rfl⟩))))
  replace h1 := ct h1
  refine tc tbk 4 (.mk ?_)
  refine rst rfl rfl rfl (yv_makeIface rfl Tryz.underlying182 (by intro _ h; cases h) rfl) ?_
  refine tr tbk 2 (.mk ?_)
  obtain rfl := nxt_e h1
  refine w_ret (hret _ _ (hk [(1, ⟨69, 4, true, true, v6, [[lst 3 GLayer.av a3.Layers, int a3.Pend.a0, int a3.Pend.a1, int a3.Pend.a2]]⟩), (2, ⟨69, 4, true, true, v7, [[.sc (.slice none 0 0), int 0, int 0, int 0]]⟩), (3, ⟨46, 3, true, true, v8, [[int 0, int 0, int 0]]⟩)]) (.tmp rfl .nil) (HK.le ⟨rfl, rfl, rfl, trivial⟩) ?_)
  exact (.inr (.inr (.inr (.inr ⟨(), (), rfl, rfl, rfl⟩))))
  rintro y _ (⟨_, _, rfl, hc, rfl⟩ | ⟨_, _, rfl, hc, rfl⟩ | ⟨_, _, rfl, hc, rfl⟩ | ⟨_, _, rfl, hc, rfl⟩ | ⟨_, _, rfl, hc, rfl⟩)
  replace h0 := selr_l h0
  subst hc
  refine tr tbk 6 (.mk ?_)
  refine rst rfl rfl rfl (yv_ifeqN rfl Tryz.underlying149 rfl rfl) ?_
  refine tr tbk 5 (.mk ?_)
  obtain ⟨x14, e14, h0⟩ := bind_e h0
  refine rst rfl rfl rfl (yv_callP rfl rfl (.cons rfl .nil) cal114 (CvL.refl _) (d_pool_own_c e14)) ?_
  refine tr tbk 1 (.mk ?_)
  refine sS ⟨69, 4, true, true, v7, [[lst 3 GLayer.av x14.Layers, int x14.Pend.a0, int x14.Pend.a1, int x14.Pend.a2]]⟩ sh69 ?_
  refine sS ⟨46, 3, true, true, v8, [[int 0, int 0, int 0]]⟩ sh46 ?_
  refine tr tbk 3 (.mk ?_)
  obtain rfl := nxt_e h0
  refine w_ret (hret _ _ _ (.cell rfl (.pt rfl rfl rfl) sh69 rfl (.cell rfl (.pt rfl rfl rfl) sh46 rfl (.tmp rfl (.tmp rfl .nil)))) (fun _ _ h => h) ?_)
  exact .refl _
  replace h0 := selr_r h0
  replace h0 := selr_l h0
  subst hc
  refine tr tbk 6 (.mk ?_)
  refine rst rfl rfl rfl (yv_ifeq rfl Tryz.underlying149 rfl rfl) ?_
  refine tr tbk 5 (.mk ?_)
  refine jn h0 [3, 4, 7, 10, 11, 12, 13, 14] [1, 2, 3] (fun (a : Bool) (k : Unit) => [(32, boo a)]) (fun a k => []) ⟨fun j15 h1 => ?_, ?_⟩
  refine tc tbk 2 (.mk ?_)
  refine nb tbk h1 fun x16 h1 => ?_
  refine tr tbk 1 (.mk ?_)
  cases x16
  replace h1 := cf h1
  refine tr tbk 1 (.mk ?_)
  refine nb tbk h1 fun x17 h1 => ?_
  refine tr tbk 2 (.mk ?_)
  exact lf h1 () leA
  replace h1 := ct h1
  refine tr tbk 4 (.mk ?_)
  exact lf h1 () leA
  rintro y5_1 _ h0
  cases y5_1
  replace h0 := cf h0
  refine tc tbk 4 (.mk ?_)
  refine rse rfl rfl rfl (yl_alloc 4 .any rfl z46 rfl) ?_; rintro _ _ ⟨v18, -, rfl, rfl⟩
  refine tr tbk 3 (.mk ?_)
  refine rse rfl rfl rfl (yl_alloc 5 .any rfl z69 rfl) ?_; rintro _ _ ⟨v19, -, rfl, rfl⟩
  refine tr tbk 8 (.mk ?_)
  obtain ⟨j20, h1, h0⟩ := bind_e h0
  refine rse (Out := fun y H' => (∃ (a : Unit) (k : Unit), a = j20 ∧ y = boo false ∧ H' = hk [(1, ⟨69, 4, true, true, v6, [[lst 3 GLayer.av a3.Layers, int a3.Pend.a0, int a3.Pend.a1, int a3.Pend.a2]]⟩), (2, ⟨69, 4, true, true, v7, [[.sc (.slice none 0 0), int 0, int 0, int 0]]⟩), (3, ⟨46, 3, true, true, v8, [[int 0, int 0, int 0]]⟩), (4, ⟨46, 3, true, true, v18, [[int 0, int 0, int 0]]⟩), (5, ⟨69, 4, true, true, v19, [[.sc (.slice none 0 0), int 0, int 0, int 0]]⟩)])) rfl rfl rfl (yl_call rfl rfl (.cons rfl .nil) cal156 ?_) ?_
  refine pcw (c := _) Tryz.func156 rfl rfl ?_; intro Q hret hnorm
  refine tc tbk 7 (.mk ?_)
  refine rst rfl rfl rfl (yv_tassF rfl Tryz.underlying184 rfl rfl rfl zag184) ?_
  refine tr tbk 3 (.mk ?_)
  refine rse rfl rfl rfl (yl_alloc 6 .any rfl z184 rfl) ?_; rintro _ _ ⟨v21, -, rfl, rfl⟩
  refine sS ⟨184, 0, true, true, v21, [[]]⟩ sh184 ?_
  refine tr tbk 7 (.mk ?_)
  obtain rfl := nxt_e h1
  refine w_ret (hret _ _ (hk [(1, ⟨69, 4, true, true, v6, [[lst 3 GLayer.av a3.Layers, int a3.Pend.a0, int a3.Pend.a1, int a3.Pend.a2]]⟩), (2, ⟨69, 4, true, true, v7, [[.sc (.slice none 0 0), int 0, int 0, int 0]]⟩), (3, ⟨46, 3, true, true, v8, [[int 0, int 0, int 0]]⟩), (4, ⟨46, 3, true, true, v18, [[int 0, int 0, int 0]]⟩), (5, ⟨69, 4, true, true, v19, [[.sc (.slice none 0 0), int 0, int 0, int 0]]⟩)]) (.tmp rfl .nil) (HK.le ⟨rfl, rfl, rfl, rfl, rfl, trivial⟩) ?_)
  exact ⟨(), (), rfl, rfl, rfl⟩
  rintro y _ ⟨_, _, rfl, hc, rfl⟩
  subst hc
  refine tr tbk 16 (.mk ?_)
  obtain ⟨j22, h1, h0⟩ := bind_e h0
  refine rse (Out := fun y H' => (∃ (a : GPool × GLayer × Int) (k : Unit), a = j22 ∧ y = .tup [.agg [lst 3 GLayer.av a.1.Layers, int a.1.Pend.a0, int a.1.Pend.a1, int a.1.Pend.a2], .agg [int a.2.1.Qty, int a.2.1.Value, int a.2.1.Profit], int a.2.2] ∧ H' = hk [(1, ⟨69, 4, true, true, v6, [[lst 3 GLayer.av a3.Layers, int a3.Pend.a0, int a3.Pend.a1, int a3.Pend.a2]]⟩), (2, ⟨69, 4, true, true, v7, [[.sc (.slice none 0 0), int 0, int 0, int 0]]⟩), (3, ⟨46, 3, true, true, v8, [[int 0, int 0, int 0]]⟩), (4, ⟨46, 3, true, true, v18, [[int 0, int 0, int 0]]⟩), (5, ⟨69, 4, true, true, v19, [[.sc (.slice none 0 0), int 0, int 0, int 0]]⟩)])) rfl rfl rfl (yl_callI rfl rfl mth186_204 (.cons rfl (.cons rfl .nil)) cal204 ?_) ?_
  refine pcw (c := _) Tryz.func204 rfl rfl ?_; intro Q hret hnorm
  refine tc tbk 2 (.mk ?_)
  refine rse rfl rfl rfl (yl_box 7 .any rfl rfl rfl) ?_; rintro _ _ ⟨v23, -, rfl, rfl⟩
  refine rse rfl rfl rfl (yl_box 8 .any rfl rfl rfl) ?_; rintro _ _ ⟨v24, -, rfl, rfl⟩
  refine rse rfl rfl rfl (yl_alloc 9 .any rfl z69 rfl) ?_; rintro _ _ ⟨v25, -, rfl, rfl⟩
  refine rse rfl rfl rfl (yl_alloc 10 .any rfl z46 rfl) ?_; rintro _ _ ⟨v26, -, rfl, rfl⟩
  refine tr tbk 9 (.mk ?_)
  obtain ⟨x27, e27, h1⟩ := bind_e h1
  refine rst rfl rfl rfl (yv_callP rfl rfl (.cons rfl (.cons rfl (.cons rfl .nil))) cal206 (CvL.refl _) (d_stdcost_Out_c e27)) ?_
  refine tr tbk 4 (.mk ?_)
  refine rse rfl rfl rfl (yl_alloc 11 .any rfl z46 rfl) ?_; rintro _ _ ⟨v28, -, rfl, rfl⟩
  refine tr tbk 1 (.mk ?_)
  refine sS ⟨46, 3, true, true, v28, [[int x27.2.1.Qty, int x27.2.1.Value, int x27.2.1.Profit]]⟩ sh46 ?_
  refine tr tbk 3 (.mk ?_)
  refine c_drawE [0, 0, 3, 0, 0, 7, 47, 127] (rl [(0, [8]), (3, [11])] []) (rl [(5, [11]), (6, [])] [8, 11]) (rl [(5, false), (6, false)] true) [0, 1, 2, 3, 4, 5, 6, 7] mixed (by kernel_rfl) ?_; intro K hK
  refine eL sh69 ?_
  refine eM ?_
  obtain ⟨x29, e29, h1⟩ := bind_e h1
  refine eP (fun H hH => yv_callP rfl rfl (.cons rfl (.cons rfl .nil)) cal145 (CvL.refl _) (d_pool_with_c e29)) ?_
  refine eL sh46 ?_
  refine eM ?_
  refine de_eff0 rfl rfl rfl rfl (Yield.weak (yl_ob (ob' := (⟨69, 4, true, true, v25, [[lst 3 GLayer.av x29.Layers, int x29.Pend.a0, int x29.Pend.a1, int x29.Pend.a2]]⟩ : AObj)) (yl_store rfl sh69 rfl rfl rfl rfl rfl rfl rfl rfl rfl) rfl) (fun _ h => h) (fun _ _ => trivial)) (by rintro _ _ ⟨rfl, rfl⟩; exact ⟨rfl, trivial⟩) ?_; rintro _ _ ⟨rfl, rfl⟩
  refine de_eff0 rfl rfl rfl rfl (Yield.weak (yl_ob (ob' := (⟨46, 3, true, true, v26, [[int x27.2.1.Qty, int x27.2.1.Value, int x27.2.1.Profit]]⟩ : AObj)) (yl_store rfl sh46 rfl rfl rfl rfl rfl rfl rfl rfl rfl) rfl) (fun _ h => h) (fun _ _ => trivial)) (by rintro _ _ ⟨rfl, rfl⟩; exact trivial) ?_; rintro _ _ ⟨rfl, rfl⟩
  refine eA ?_
  refine de_nil (hK _ ?_)
  obtain rfl := nxt_e h1
  refine w_ret (hret _ _ (hk [(1, ⟨69, 4, true, true, v6, [[lst 3 GLayer.av a3.Layers, int a3.Pend.a0, int a3.Pend.a1, int a3.Pend.a2]]⟩), (2, ⟨69, 4, true, true, v7, [[.sc (.slice none 0 0), int 0, int 0, int 0]]⟩), (3, ⟨46, 3, true, true, v8, [[int 0, int 0, int 0]]⟩), (4, ⟨46, 3, true, true, v18, [[int 0, int 0, int 0]]⟩), (5, ⟨69, 4, true, true, v19, [[.sc (.slice none 0 0), int 0, int 0, int 0]]⟩)]) (.cell rfl (.pt rfl rfl rfl) sh69 rfl (.cell rfl (.pt rfl rfl rfl) sh46 rfl (.tmp rfl .nil))) (HK.le ⟨rfl, rfl, rfl, rfl, rfl, trivial⟩) ?_)
  exact ⟨(x29, x27.2.1, x27.2.2), (), rfl, rfl, rfl⟩
  rintro y _ ⟨⟨y7_1, y7_2, y7_3⟩, _, rfl, hc, rfl⟩
  replace h0 := p2_e h0
  replace h0 := p2_e h0
  subst hc
  refine tr tbk 4 (.mk ?_)
  refine sS ⟨69, 4, true, true, v19, [[lst 3 GLayer.av y7_1.Layers, int y7_1.Pend.a0, int y7_1.Pend.a1, int y7_1.Pend.a2]]⟩ sh69 ?_
  refine sS ⟨46, 3, true, true, v18, [[int y7_2.Qty, int y7_2.Value, int y7_2.Profit]]⟩ sh46 ?_
  refine tr tbk 6 (.mk ?_)
  refine nb tbk h0 fun x30 h0 => ?_
  refine tr tbk 1 (.mk ?_)
  cases x30
  replace h0 := cf h0
  refine tc tbk 3 (.mk ?_)
  refine c_drawE [0, 0, 0, 1, 11, 31, 63] (rl [(0, [5]), (1, [4])] []) (rl [(3, [4]), (4, [])] [4, 5]) (rl [(3, false), (4, false)] true) [0, 1, 2, 3, 4, 5, 6] mixed (by kernel_rfl) ?_; intro K hK
  refine eL sh69 ?_
  refine eL sh46 ?_
  refine eM ?_
  refine de_eff0 rfl rfl rfl rfl (Yield.weak (yl_ob (ob' := (⟨69, 4, true, true, v7, [[lst 3 GLayer.av y7_1.Layers, int y7_1.Pend.a0, int y7_1.Pend.a1, int y7_1.Pend.a2]]⟩ : AObj)) (yl_store rfl sh69 rfl rfl rfl rfl rfl rfl rfl rfl rfl) rfl) (fun _ h => h) (fun _ _ => trivial)) (by rintro _ _ ⟨rfl, rfl⟩; exact ⟨rfl, trivial⟩) ?_; rintro _ _ ⟨rfl, rfl⟩
  refine de_eff0 rfl rfl rfl rfl (Yield.weak (yl_ob (ob' := (⟨46, 3, true, true, v8, [[int y7_2.Qty, int y7_2.Value, int y7_2.Profit]]⟩ : AObj)) (yl_store rfl sh46 rfl rfl rfl rfl rfl rfl rfl rfl rfl) rfl) (fun _ h => h) (fun _ _ => trivial)) (by rintro _ _ ⟨rfl, rfl⟩; exact trivial) ?_; rintro _ _ ⟨rfl, rfl⟩
  iterate 2 refine eA ?_
  refine de_nil (hK _ ?_)
  obtain rfl := nxt_e h0
  refine w_ret (hret _ _ _ (.cell rfl (.pt rfl rfl rfl) sh69 rfl (.cell rfl (.pt rfl rfl rfl) sh46 rfl (.tmp rfl (.tmp rfl .nil)))) (fun _ _ h => h) ?_)
  exact .refl _
  replace h0 := ct h0
  refine tc tbk 4 (.mk ?_)
  obtain ⟨x31, e31, h0⟩ := bind_e h0
  refine rst rfl rfl rfl (yv_callP rfl rfl (.cons rfl .nil) cal114 (CvL.refl _) (d_pool_own_c e31)) ?_
  refine tr tbk 2 (.mk ?_)
  refine sS ⟨69, 4, true, true, v7, [[lst 3 GLayer.av x31.Layers, int x31.Pend.a0, int x31.Pend.a1, int x31.Pend.a2]]⟩ sh69 ?_
  refine sS ⟨46, 3, true, true, v8, [[int 0, int 0, int 0]]⟩ sh46 ?_
  refine tr tbk 3 (.mk ?_)
  obtain rfl := nxt_e h0
  refine w_ret (hret _ _ _ (.cell rfl (.pt rfl rfl rfl) sh69 rfl (.cell rfl (.pt rfl rfl rfl) sh46 rfl (.tmp rfl (.tmp rfl .nil)))) (fun _ _ h => h) ?_)
  exact .refl _
  replace h0 := ct h0
  refine tc tbk 4 (.mk ?_)
  obtain ⟨x32, e32, h0⟩ := bind_e h0
  refine rst rfl rfl rfl (yv_callP rfl rfl (.cons rfl .nil) cal114 (CvL.refl _) (d_pool_own_c e32)) ?_
  refine tr tbk 1 (.mk ?_)
  refine sS ⟨69, 4, true, true, v7, [[lst 3 GLayer.av x32.Layers, int x32.Pend.a0, int x32.Pend.a1, int x32.Pend.a2]]⟩ sh69 ?_
  refine sS ⟨46, 3, true, true, v8, [[int 0, int 0, int 0]]⟩ sh46 ?_
  refine tr tbk 3 (.mk ?_)
  obtain rfl := nxt_e h0
  refine w_ret (hret _ _ _ (.cell rfl (.pt rfl rfl rfl) sh69 rfl (.cell rfl (.pt rfl rfl rfl) sh46 rfl (.tmp rfl (.tmp rfl .nil)))) (fun _ _ h => h) ?_)
  exact .refl _
  replace h0 := selr_r h0
  replace h0 := selr_r h0
  replace h0 := selr_l h0
  subst hc
  refine tr tbk 6 (.mk ?_)
  refine rst rfl rfl rfl (yv_ifeq rfl Tryz.underlying149 rfl rfl) ?_
  refine tr tbk 5 (.mk ?_)
  refine jn h0 [3, 4, 7, 10, 11, 12, 13, 14] [1, 2, 3] (fun (a : Bool) (k : Unit) => [(32, boo a)]) (fun a k => []) ⟨fun j33 h1 => ?_, ?_⟩
  refine tc tbk 2 (.mk ?_)
  refine nb tbk h1 fun x34 h1 => ?_
  refine tr tbk 1 (.mk ?_)
  cases x34
  replace h1 := cf h1
  refine tr tbk 1 (.mk ?_)
  refine nb tbk h1 fun x35 h1 => ?_
  refine tr tbk 2 (.mk ?_)
  exact lf h1 () leA
  replace h1 := ct h1
  refine tr tbk 4 (.mk ?_)
  exact lf h1 () leA
  rintro y5_1 _ h0
  cases y5_1
  replace h0 := cf h0
  refine tc tbk 4 (.mk ?_)
  refine rse rfl rfl rfl (yl_alloc 4 .any rfl z46 rfl) ?_; rintro _ _ ⟨v36, -, rfl, rfl⟩
  refine tr tbk 3 (.mk ?_)
  refine rse rfl rfl rfl (yl_alloc 5 .any rfl z69 rfl) ?_; rintro _ _ ⟨v37, -, rfl, rfl⟩
  refine tr tbk 8 (.mk ?_)
  obtain ⟨j38, h1, h0⟩ := bind_e h0
  refine rse (Out := fun y H' => (∃ (a : Unit) (k : Unit), a = j38 ∧ y = boo true ∧ H' = hk [(1, ⟨69, 4, true, true, v6, [[lst 3 GLayer.av a3.Layers, int a3.Pend.a0, int a3.Pend.a1, int a3.Pend.a2]]⟩), (2, ⟨69, 4, true, true, v7, [[.sc (.slice none 0 0), int 0, int 0, int 0]]⟩), (3, ⟨46, 3, true, true, v8, [[int 0, int 0, int 0]]⟩), (4, ⟨46, 3, true, true, v36, [[int 0, int 0, int 0]]⟩), (5, ⟨69, 4, true, true, v37, [[.sc (.slice none 0 0), int 0, int 0, int 0]]⟩)])) rfl rfl rfl (yl_call rfl rfl (.cons rfl .nil) cal156 ?_) ?_
  refine pcw (c := _) Tryz.func156 rfl rfl ?_; intro Q hret hnorm
  refine tc tbk 7 (.mk ?_)
  refine rst rfl rfl rfl (yv_tassT rfl Tryz.underlying184 rfl rfl) ?_
  refine tr tbk 3 (.mk ?_)
  refine rse rfl rfl rfl (yl_alloc 6 .any rfl z184 rfl) ?_; rintro _ _ ⟨v39, -, rfl, rfl⟩
  refine sS ⟨184, 0, true, true, v39, [[]]⟩ sh184 ?_
  refine tr tbk 7 (.mk ?_)
  obtain rfl := nxt_e h1
  refine w_ret (hret _ _ (hk [(1, ⟨69, 4, true, true, v6, [[lst 3 GLayer.av a3.Layers, int a3.Pend.a0, int a3.Pend.a1, int a3.Pend.a2]]⟩), (2, ⟨69, 4, true, true, v7, [[.sc (.slice none 0 0), int 0, int 0, int 0]]⟩), (3, ⟨46, 3, true, true, v8, [[int 0, int 0, int 0]]⟩), (4, ⟨46, 3, true, true, v36, [[int 0, int 0, int 0]]⟩), (5, ⟨69, 4, true, true, v37, [[.sc (.slice none 0 0), int 0, int 0, int 0]]⟩)]) (.tmp rfl .nil) (HK.le ⟨rfl, rfl, rfl, rfl, rfl, trivial⟩) ?_)
  exact ⟨(), (), rfl, rfl, rfl⟩
  rintro y _ ⟨_, _, rfl, hc, rfl⟩
  subst hc
  refine tr tbk 2 (.mk ?_)
  refine nb tbk h0 fun x40 h0 => ?_
  refine tr tbk 8 (.mk ?_)
  refine jn h0 [7, 10, 11, 12, 13, 15, 16] [1, 2, 3] (fun (a : Int × Bool × GLayer × GPool) (k : Unit) => [(17, int a.1), (18, boo a.2.1)]) (fun a k => [(4, ⟨46, 3, true, true, v36, [[int a.2.2.1.Qty, int a.2.2.1.Value, int a.2.2.1.Profit]]⟩), (5, ⟨69, 4, true, true, v37, [[lst 3 GLayer.av a.2.2.2.Layers, int a.2.2.2.Pend.a0, int a.2.2.2.Pend.a1, int a.2.2.2.Pend.a2]]⟩)]) ⟨fun j41 h1 => ?_, ?_⟩
  cases x40
  replace h1 := cf h1
  refine tc tbk 5 (.mk ?_)
  obtain ⟨j42, h2, h1⟩ := bind_e h1
  refine rse (Out := fun y H' => (∃ (a : GPool × GLayer × Int) (k : Unit), a = j42 ∧ y = .tup [.agg [lst 3 GLayer.av a.1.Layers, int a.1.Pend.a0, int a.1.Pend.a1, int a.1.Pend.a2], .agg [int a.2.1.Qty, int a.2.1.Value, int a.2.1.Profit], int a.2.2] ∧ H' = hk [(1, ⟨69, 4, true, true, v6, [[lst 3 GLayer.av a3.Layers, int a3.Pend.a0, int a3.Pend.a1, int a3.Pend.a2]]⟩), (2, ⟨69, 4, true, true, v7, [[.sc (.slice none 0 0), int 0, int 0, int 0]]⟩), (3, ⟨46, 3, true, true, v8, [[int 0, int 0, int 0]]⟩), (4, ⟨46, 3, true, true, v36, [[int 0, int 0, int 0]]⟩), (5, ⟨69, 4, true, true, v37, [[.sc (.slice none 0 0), int 0, int 0, int 0]]⟩)])) rfl rfl rfl (yl_callI rfl rfl mth184_200 (.cons rfl (.cons rfl .nil)) cal200 ?_) ?_
  refine pcw (c := _) Tryz.func200 rfl rfl ?_; intro Q hret hnorm
  refine tc tbk 2 (.mk ?_)
  refine rse rfl rfl rfl (yl_box 16 .any rfl rfl rfl) ?_; rintro _ _ ⟨v43, -, rfl, rfl⟩
  refine rse rfl rfl rfl (yl_box 17 .any rfl rfl rfl) ?_; rintro _ _ ⟨v44, -, rfl, rfl⟩
  refine rse rfl rfl rfl (yl_alloc 18 .any rfl z69 rfl) ?_; rintro _ _ ⟨v45, -, rfl, rfl⟩
  refine rse rfl rfl rfl (yl_alloc 19 .any rfl z46 rfl) ?_; rintro _ _ ⟨v46, -, rfl, rfl⟩
  refine tr tbk 6 (.mk ?_)
  obtain ⟨x47, e47, h2⟩ := bind_e h2
  refine rst rfl rfl rfl (yv_callP rfl rfl (.cons rfl (.cons rfl .nil)) cal202 (CvL.refl _) (d_pavg_Out_c e47)) ?_
  refine tr tbk 3 (.mk ?_)
  refine sS ⟨69, 4, true, true, v45, [[lst 3 GLayer.av x47.1.Layers, int x47.1.Pend.a0, int x47.1.Pend.a1, int x47.1.Pend.a2]]⟩ sh69 ?_
  refine sS ⟨46, 3, true, true, v46, [[int x47.2.1.Qty, int x47.2.1.Value, int x47.2.1.Profit]]⟩ sh46 ?_
  refine tr tbk 2 (.mk ?_)
  obtain rfl := nxt_e h2
  refine w_ret (hret _ _ (hk [(1, ⟨69, 4, true, true, v6, [[lst 3 GLayer.av a3.Layers, int a3.Pend.a0, int a3.Pend.a1, int a3.Pend.a2]]⟩), (2, ⟨69, 4, true, true, v7, [[.sc (.slice none 0 0), int 0, int 0, int 0]]⟩), (3, ⟨46, 3, true, true, v8, [[int 0, int 0, int 0]]⟩), (4, ⟨46, 3, true, true, v36, [[int 0, int 0, int 0]]⟩), (5, ⟨69, 4, true, true, v37, [[.sc (.slice none 0 0), int 0, int 0, int 0]]⟩)]) (.cell rfl (.pt rfl rfl rfl) sh69 rfl (.cell rfl (.pt rfl rfl rfl) sh46 rfl (.tmp rfl .nil))) (HK.le ⟨rfl, rfl, rfl, rfl, rfl, trivial⟩) ?_)
  exact ⟨(x47.1, x47.2.1, x47.2.2), (), rfl, rfl, rfl⟩
  rintro y _ ⟨⟨y10_1, y10_2, y10_3⟩, _, rfl, hc, rfl⟩
  replace h1 := p2_e h1
  replace h1 := p2_e h1
  subst hc
  refine tr tbk 4 (.mk ?_)
  refine sS ⟨69, 4, true, true, v37, [[lst 3 GLayer.av y10_1.Layers, int y10_1.Pend.a0, int y10_1.Pend.a1, int y10_1.Pend.a2]]⟩ sh69 ?_
  refine sS ⟨46, 3, true, true, v36, [[int y10_2.Qty, int y10_2.Value, int y10_2.Profit]]⟩ sh46 ?_
  refine tr tbk 2 (.mk ?_)
  exact lf h1 () leA
  replace h1 := ct h1
  refine tc tbk 5 (.mk ?_)
  obtain ⟨x48, e48, h1⟩ := bind_e h1
  refine rst rfl rfl rfl (yv_callP rfl rfl (.cons rfl (.cons rfl (.cons rfl .nil))) cal157 (CvL.refl _) (d_pavg_Wait_c e48)) ?_
  refine tr tbk 3 (.mk ?_)
  refine sS ⟨69, 4, true, true, v37, [[lst 3 GLayer.av x48.1.Layers, int x48.1.Pend.a0, int x48.1.Pend.a1, int x48.1.Pend.a2]]⟩ sh69 ?_
  refine tr tbk 2 (.mk ?_)
  exact lf h1 () leA
  rintro ⟨y9_1, y9_2, y9_3, y9_4⟩ _ h0
  replace h0 := p2_e h0
  replace h0 := p2_e h0
  replace h0 := p2_e h0
  refine tc tbk 4 (.mk ?_)
  refine nb tbk h0 fun x49 h0 => ?_
  refine tr tbk 1 (.mk ?_)
  cases x49
  replace h0 := cf h0
  refine tc tbk 3 (.mk ?_)
  refine c_drawE [0, 0, 0, 1, 11, 31, 63] (rl [(0, [5]), (1, [4])] []) (rl [(3, [4]), (4, [])] [4, 5]) (rl [(3, false), (4, false)] true) [0, 1, 2, 3, 4, 5, 6] mixed (by kernel_rfl) ?_; intro K hK
  refine eL sh69 ?_
  refine eL sh46 ?_
  refine eM ?_
  refine de_eff0 rfl rfl rfl rfl (Yield.weak (yl_ob (ob' := (⟨69, 4, true, true, v7, [[lst 3 GLayer.av y9_4.Layers, int y9_4.Pend.a0, int y9_4.Pend.a1, int y9_4.Pend.a2]]⟩ : AObj)) (yl_store rfl sh69 rfl rfl rfl rfl rfl rfl rfl rfl rfl) rfl) (fun _ h => h) (fun _ _ => trivial)) (by rintro _ _ ⟨rfl, rfl⟩; exact ⟨rfl, trivial⟩) ?_; rintro _ _ ⟨rfl, rfl⟩
  refine de_eff0 rfl rfl rfl rfl (Yield.weak (yl_ob (ob' := (⟨46, 3, true, true, v8, [[int y9_3.Qty, int y9_3.Value, int y9_3.Profit]]⟩ : AObj)) (yl_store rfl sh46 rfl rfl rfl rfl rfl rfl rfl rfl rfl) rfl) (fun _ h => h) (fun _ _ => trivial)) (by rintro _ _ ⟨rfl, rfl⟩; exact trivial) ?_; rintro _ _ ⟨rfl, rfl⟩
  iterate 2 refine eA ?_
  refine de_nil (hK _ ?_)
  obtain rfl := nxt_e h0
  refine w_ret (hret _ _ _ (.cell rfl (.pt rfl rfl rfl) sh69 rfl (.cell rfl (.pt rfl rfl rfl) sh46 rfl (.tmp rfl (.tmp rfl .nil)))) (fun _ _ h => h) ?_)
  exact .refl _
  replace h0 := ct h0
  refine tc tbk 4 (.mk ?_)
  obtain ⟨x50, e50, h0⟩ := bind_e h0
  refine rst rfl rfl rfl (yv_callP rfl rfl (.cons rfl .nil) cal114 (CvL.refl _) (d_pool_own_c e50)) ?_
  refine tr tbk 2 (.mk ?_)
  refine sS ⟨69, 4, true, true, v7, [[lst 3 GLayer.av x50.Layers, int x50.Pend.a0, int x50.Pend.a1, int x50.Pend.a2]]⟩ sh69 ?_
  refine sS ⟨46, 3, true, true, v8, [[int 0, int 0, int 0]]⟩ sh46 ?_
  refine tr tbk 3 (.mk ?_)
  obtain rfl := nxt_e h0
  refine w_ret (hret _ _ _ (.cell rfl (.pt rfl rfl rfl) sh69 rfl (.cell rfl (.pt rfl rfl rfl) sh46 rfl (.tmp rfl (.tmp rfl .nil)))) (fun _ _ h => h) ?_)
  exact .refl _
  replace h0 := ct h0
  refine tc tbk 4 (.mk ?_)
  obtain ⟨x51, e51, h0⟩ := bind_e h0
  refine rst rfl rfl rfl (yv_callP rfl rfl (.cons rfl .nil) cal114 (CvL.refl _) (d_pool_own_c e51)) ?_
  refine tr tbk 1 (.mk ?_)
  refine sS ⟨69, 4, true, true, v7, [[lst 3 GLayer.av x51.Layers, int x51.Pend.a0, int x51.Pend.a1, int x51.Pend.a2]]⟩ sh69 ?_
  refine sS ⟨46, 3, true, true, v8, [[int 0, int 0, int 0]]⟩ sh46 ?_
  refine tr tbk 3 (.mk ?_)
  obtain rfl := nxt_e h0
  refine w_ret (hret _ _ _ (.cell rfl (.pt rfl rfl rfl) sh69 rfl (.cell rfl (.pt rfl rfl rfl) sh46 rfl (.tmp rfl (.tmp rfl .nil)))) (fun _ _ h => h) ?_)
  exact .refl _
  replace h0 := selr_r h0
  replace h0 := selr_r h0
  replace h0 := selr_r h0
  replace h0 := selr_l h0
  subst hc
  refine tr tbk 6 (.mk ?_)
  refine rst rfl rfl rfl (yv_ifeq rfl Tryz.underlying149 rfl rfl) ?_
  refine tr tbk 5 (.mk ?_)
  refine jn h0 [3, 4, 7, 10, 11, 12, 13, 14] [1, 2, 3] (fun (a : Bool) (k : Unit) => [(32, boo a)]) (fun a k => []) ⟨fun j52 h1 => ?_, ?_⟩
  refine tc tbk 2 (.mk ?_)
  refine nb tbk h1 fun x53 h1 => ?_
  refine tr tbk 1 (.mk ?_)
  cases x53
  replace h1 := cf h1
  refine tr tbk 1 (.mk ?_)
  refine nb tbk h1 fun x54 h1 => ?_
  refine tr tbk 2 (.mk ?_)
  exact lf h1 () leA
  replace h1 := ct h1
  refine tr tbk 4 (.mk ?_)
  exact lf h1 () leA
  rintro y5_1 _ h0
  cases y5_1
  replace h0 := cf h0
  refine tc tbk 4 (.mk ?_)
  refine rse rfl rfl rfl (yl_alloc 4 .any rfl z46 rfl) ?_; rintro _ _ ⟨v55, -, rfl, rfl⟩
  refine tr tbk 3 (.mk ?_)
  refine rse rfl rfl rfl (yl_alloc 5 .any rfl z69 rfl) ?_; rintro _ _ ⟨v56, -, rfl, rfl⟩
  refine tr tbk 8 (.mk ?_)
  obtain ⟨j57, h1, h0⟩ := bind_e h0
  refine rse (Out := fun y H' => (∃ (a : Unit) (k : Unit), a = j57 ∧ y = boo false ∧ H' = hk [(1, ⟨69, 4, true, true, v6, [[lst 3 GLayer.av a3.Layers, int a3.Pend.a0, int a3.Pend.a1, int a3.Pend.a2]]⟩), (2, ⟨69, 4, true, true, v7, [[.sc (.slice none 0 0), int 0, int 0, int 0]]⟩), (3, ⟨46, 3, true, true, v8, [[int 0, int 0, int 0]]⟩), (4, ⟨46, 3, true, true, v55, [[int 0, int 0, int 0]]⟩), (5, ⟨69, 4, true, true, v56, [[.sc (.slice none 0 0), int 0, int 0, int 0]]⟩)])) rfl rfl rfl (yl_call rfl rfl (.cons rfl .nil) cal156 ?_) ?_
  refine pcw (c := _) Tryz.func156 rfl rfl ?_; intro Q hret hnorm
  refine tc tbk 7 (.mk ?_)
  refine rst rfl rfl rfl (yv_tassF rfl Tryz.underlying184 rfl rfl rfl zag184) ?_
  refine tr tbk 3 (.mk ?_)
  refine rse rfl rfl rfl (yl_alloc 6 .any rfl z184 rfl) ?_; rintro _ _ ⟨v58, -, rfl, rfl⟩
  refine sS ⟨184, 0, true, true, v58, [[]]⟩ sh184 ?_
  refine tr tbk 7 (.mk ?_)
  obtain rfl := nxt_e h1
  refine w_ret (hret _ _ (hk [(1, ⟨69, 4, true, true, v6, [[lst 3 GLayer.av a3.Layers, int a3.Pend.a0, int a3.Pend.a1, int a3.Pend.a2]]⟩), (2, ⟨69, 4, true, true, v7, [[.sc (.slice none 0 0), int 0, int 0, int 0]]⟩), (3, ⟨46, 3, true, true, v8, [[int 0, int 0, int 0]]⟩), (4, ⟨46, 3, true, true, v55, [[int 0, int 0, int 0]]⟩), (5, ⟨69, 4, true, true, v56, [[.sc (.slice none 0 0), int 0, int 0, int 0]]⟩)]) (.tmp rfl .nil) (HK.le ⟨rfl, rfl, rfl, rfl, rfl, trivial⟩) ?_)
  exact ⟨(), (), rfl, rfl, rfl⟩
  rintro y _ ⟨_, _, rfl, hc, rfl⟩
  subst hc
  refine tr tbk 16 (.mk ?_)
  obtain ⟨j59, h1, h0⟩ := bind_e h0
  refine rse (Out := fun y H' => (∃ (a : GPool × GLayer × Int) (k : Unit), a = j59 ∧ y = .tup [.agg [lst 3 GLayer.av a.1.Layers, int a.1.Pend.a0, int a.1.Pend.a1, int a.1.Pend.a2], .agg [int a.2.1.Qty, int a.2.1.Value, int a.2.1.Profit], int a.2.2] ∧ H' = hk [(1, ⟨69, 4, true, true, v6, [[lst 3 GLayer.av a3.Layers, int a3.Pend.a0, int a3.Pend.a1, int a3.Pend.a2]]⟩), (2, ⟨69, 4, true, true, v7, [[.sc (.slice none 0 0), int 0, int 0, int 0]]⟩), (3, ⟨46, 3, true, true, v8, [[int 0, int 0, int 0]]⟩), (4, ⟨46, 3, true, true, v55, [[int 0, int 0, int 0]]⟩), (5, ⟨69, 4, true, true, v56, [[.sc (.slice none 0 0), int 0, int 0, int 0]]⟩)])) rfl rfl rfl (yl_callI rfl rfl mth183_195 (.cons rfl (.cons rfl .nil)) cal195 ?_) ?_
  refine pcw (c := _) Tryz.func195 rfl rfl ?_; intro Q hret hnorm
  refine tc tbk 2 (.mk ?_)
  refine rse rfl rfl rfl (yl_box 20 .any rfl rfl rfl) ?_; rintro _ _ ⟨v60, -, rfl, rfl⟩
  refine rse rfl rfl rfl (yl_box 21 .any rfl rfl rfl) ?_; rintro _ _ ⟨v61, -, rfl, rfl⟩
  refine rse rfl rfl rfl (yl_alloc 22 .any rfl z69 rfl) ?_; rintro _ _ ⟨v62, -, rfl, rfl⟩
  refine rse rfl rfl rfl (yl_alloc 23 .any rfl z46 rfl) ?_; rintro _ _ ⟨v63, -, rfl, rfl⟩
  refine tr tbk 7 (.mk ?_)
  obtain ⟨x64, e64, h1⟩ := bind_e h1
  refine rst rfl rfl rfl (yv_callP rfl rfl (.cons rfl (.cons rfl .nil)) cal197 (CvL.refl _) (d_mavg_Out_c e64)) ?_
  refine tr tbk 4 (.mk ?_)
  refine rse rfl rfl rfl (yl_alloc 24 .any rfl z46 rfl) ?_; rintro _ _ ⟨v65, -, rfl, rfl⟩
  refine tr tbk 1 (.mk ?_)
  refine sS ⟨46, 3, true, true, v65, [[int x64.2.1.Qty, int x64.2.1.Value, int x64.2.1.Profit]]⟩ sh46 ?_
  refine tr tbk 3 (.mk ?_)
  refine c_drawE [0, 0, 3, 0, 0, 7, 47, 127] (rl [(0, [21]), (3, [24])] []) (rl [(5, [24]), (6, [])] [21, 24]) (rl [(5, false), (6, false)] true) [0, 1, 2, 3, 4, 5, 6, 7] mixed (by kernel_rfl) ?_; intro K hK
  refine eL sh69 ?_
  refine eM ?_
  obtain ⟨x66, e66, h1⟩ := bind_e h1
  refine eP (fun H hH => yv_callP rfl rfl (.cons rfl (.cons rfl .nil)) cal145 (CvL.refl _) (d_pool_with_c e66)) ?_
  refine eL sh46 ?_
  refine eM ?_
  refine de_eff0 rfl rfl rfl rfl (Yield.weak (yl_ob (ob' := (⟨69, 4, true, true, v62, [[lst 3 GLayer.av x66.Layers, int x66.Pend.a0, int x66.Pend.a1, int x66.Pend.a2]]⟩ : AObj)) (yl_store rfl sh69 rfl rfl rfl rfl rfl rfl rfl rfl rfl) rfl) (fun _ h => h) (fun _ _ => trivial)) (by rintro _ _ ⟨rfl, rfl⟩; exact ⟨rfl, trivial⟩) ?_; rintro _ _ ⟨rfl, rfl⟩
  refine de_eff0 rfl rfl rfl rfl (Yield.weak (yl_ob (ob' := (⟨46, 3, true, true, v63, [[int x64.2.1.Qty, int x64.2.1.Value, int x64.2.1.Profit]]⟩ : AObj)) (yl_store rfl sh46 rfl rfl rfl rfl rfl rfl rfl rfl rfl) rfl) (fun _ h => h) (fun _ _ => trivial)) (by rintro _ _ ⟨rfl, rfl⟩; exact trivial) ?_; rintro _ _ ⟨rfl, rfl⟩
  refine eA ?_
  refine de_nil (hK _ ?_)
  obtain rfl := nxt_e h1
  refine w_ret (hret _ _ (hk [(1, ⟨69, 4, true, true, v6, [[lst 3 GLayer.av a3.Layers, int a3.Pend.a0, int a3.Pend.a1, int a3.Pend.a2]]⟩), (2, ⟨69, 4, true, true, v7, [[.sc (.slice none 0 0), int 0, int 0, int 0]]⟩), (3, ⟨46, 3, true, true, v8, [[int 0, int 0, int 0]]⟩), (4, ⟨46, 3, true, true, v55, [[int 0, int 0, int 0]]⟩), (5, ⟨69, 4, true, true, v56, [[.sc (.slice none 0 0), int 0, int 0, int 0]]⟩)]) (.cell rfl (.pt rfl rfl rfl) sh69 rfl (.cell rfl (.pt rfl rfl rfl) sh46 rfl (.tmp rfl .nil))) (HK.le ⟨rfl, rfl, rfl, rfl, rfl, trivial⟩) ?_)
  exact ⟨(x66, x64.2.1, x64.2.2), (), rfl, rfl, rfl⟩
  rintro y _ ⟨⟨y11_1, y11_2, y11_3⟩, _, rfl, hc, rfl⟩
  replace h0 := p2_e h0
  replace h0 := p2_e h0
  subst hc
  refine tr tbk 4 (.mk ?_)
  refine sS ⟨69, 4, true, true, v56, [[lst 3 GLayer.av y11_1.Layers, int y11_1.Pend.a0, int y11_1.Pend.a1, int y11_1.Pend.a2]]⟩ sh69 ?_
  refine sS ⟨46, 3, true, true, v55, [[int y11_2.Qty, int y11_2.Value, int y11_2.Profit]]⟩ sh46 ?_
  refine tr tbk 6 (.mk ?_)
  refine nb tbk h0 fun x67 h0 => ?_
  refine tr tbk 1 (.mk ?_)
  cases x67
  replace h0 := cf h0
  refine tc tbk 3 (.mk ?_)
  refine c_drawE [0, 0, 0, 1, 11, 31, 63] (rl [(0, [5]), (1, [4])] []) (rl [(3, [4]), (4, [])] [4, 5]) (rl [(3, false), (4, false)] true) [0, 1, 2, 3, 4, 5, 6] mixed (by kernel_rfl) ?_; intro K hK
  refine eL sh69 ?_
  refine eL sh46 ?_
  refine eM ?_
  refine de_eff0 rfl rfl rfl rfl (Yield.weak (yl_ob (ob' := (⟨69, 4, true, true, v7, [[lst 3 GLayer.av y11_1.Layers, int y11_1.Pend.a0, int y11_1.Pend.a1, int y11_1.Pend.a2]]⟩ : AObj)) (yl_store rfl sh69 rfl rfl rfl rfl rfl rfl rfl rfl rfl) rfl) (fun _ h => h) (fun _ _ => trivial)) (by rintro _ _ ⟨rfl, rfl⟩; exact ⟨rfl, trivial⟩) ?_; rintro _ _ ⟨rfl, rfl⟩
  refine de_eff0 rfl rfl rfl rfl (Yield.weak (yl_ob (ob' := (⟨46, 3, true, true, v8, [[int y11_2.Qty, int y11_2.Value, int y11_2.Profit]]⟩ : AObj)) (yl_store rfl sh46 rfl rfl rfl rfl rfl rfl rfl rfl rfl) rfl) (fun _ h => h) (fun _ _ => trivial)) (by rintro _ _ ⟨rfl, rfl⟩; exact trivial) ?_; rintro _ _ ⟨rfl, rfl⟩
  iterate 2 refine eA ?_
  refine de_nil (hK _ ?_)
  obtain rfl := nxt_e h0
  refine w_ret (hret _ _ _ (.cell rfl (.pt rfl rfl rfl) sh69 rfl (.cell rfl (.pt rfl rfl rfl) sh46 rfl (.tmp rfl (.tmp rfl .nil)))) (fun _ _ h => h) ?_)
  exact .refl _
  replace h0 := ct h0
  refine tc tbk 4 (.mk ?_)
  obtain ⟨x68, e68, h0⟩ := bind_e h0
  refine rst rfl rfl rfl (yv_callP rfl rfl (.cons rfl .nil) cal114 (CvL.refl _) (d_pool_own_c e68)) ?_
  refine tr tbk 2 (.mk ?_)
  refine sS ⟨69, 4, true, true, v7, [[lst 3 GLayer.av x68.Layers, int x68.Pend.a0, int x68.Pend.a1, int x68.Pend.a2]]⟩ sh69 ?_
  refine sS ⟨46, 3, true, true, v8, [[int 0, int 0, int 0]]⟩ sh46 ?_
  refine tr tbk 3 (.mk ?_)
  obtain rfl := nxt_e h0
  refine w_ret (hret _ _ _ (.cell rfl (.pt rfl rfl rfl) sh69 rfl (.cell rfl (.pt rfl rfl rfl) sh46 rfl (.tmp rfl (.tmp rfl .nil)))) (fun _ _ h => h) ?_)
  exact .refl _
  replace h0 := ct h0
  refine tc tbk 4 (.mk ?_)
  obtain ⟨x69, e69, h0⟩ := bind_e h0
  refine rst rfl rfl rfl (yv_callP rfl rfl (.cons rfl .nil) cal114 (CvL.refl _) (d_pool_own_c e69)) ?_
  refine tr tbk 1 (.mk ?_)
  refine sS ⟨69, 4, true, true, v7, [[lst 3 GLayer.av x69.Layers, int x69.Pend.a0, int x69.Pend.a1, int x69.Pend.a2]]⟩ sh69 ?_
  refine sS ⟨46, 3, true, true, v8, [[int 0, int 0, int 0]]⟩ sh46 ?_
  refine tr tbk 3 (.mk ?_)
  obtain rfl := nxt_e h0
  refine w_ret (hret _ _ _ (.cell rfl (.pt rfl rfl rfl) sh69 rfl (.cell rfl (.pt rfl rfl rfl) sh46 rfl (.tmp rfl (.tmp rfl .nil)))) (fun _ _ h => h) ?_)
  exact .refl _
  replace h0 := selr_r h0
  replace h0 := selr_r h0
  replace h0 := selr_r h0
  replace h0 := selr_r h0
  subst hc
  refine tr tbk 6 (.mk ?_)
  refine rst rfl rfl rfl (yv_ifeq rfl Tryz.underlying149 rfl rfl) ?_
  refine tr tbk 5 (.mk ?_)
  refine jn h0 [3, 4, 7, 10, 11, 12, 13, 14] [1, 2, 3] (fun (a : Bool) (k : Unit) => [(32, boo a)]) (fun a k => []) ⟨fun j70 h1 => ?_, ?_⟩
  refine tc tbk 2 (.mk ?_)
  refine nb tbk h1 fun x71 h1 => ?_
  refine tr tbk 1 (.mk ?_)
  cases x71
  replace h1 := cf h1
  refine tr tbk 1 (.mk ?_)
  refine nb tbk h1 fun x72 h1 => ?_
  refine tr tbk 2 (.mk ?_)
  exact lf h1 () leA
  replace h1 := ct h1
  refine tr tbk 4 (.mk ?_)
  exact lf h1 () leA
  rintro y5_1 _ h0
  cases y5_1
  replace h0 := cf h0
  refine tc tbk 4 (.mk ?_)
  refine rse rfl rfl rfl (yl_alloc 4 .any rfl z46 rfl) ?_; rintro _ _ ⟨v73, -, rfl, rfl⟩
  refine tr tbk 3 (.mk ?_)
  refine rse rfl rfl rfl (yl_alloc 5 .any rfl z69 rfl) ?_; rintro _ _ ⟨v74, -, rfl, rfl⟩
  refine tr tbk 8 (.mk ?_)
  obtain ⟨j75, h1, h0⟩ := bind_e h0
  refine rse (Out := fun y H' => (∃ (a : Unit) (k : Unit), a = j75 ∧ y = boo false ∧ H' = hk [(1, ⟨69, 4, true, true, v6, [[lst 3 GLayer.av a3.Layers, int a3.Pend.a0, int a3.Pend.a1, int a3.Pend.a2]]⟩), (2, ⟨69, 4, true, true, v7, [[.sc (.slice none 0 0), int 0, int 0, int 0]]⟩), (3, ⟨46, 3, true, true, v8, [[int 0, int 0, int 0]]⟩), (4, ⟨46, 3, true, true, v73, [[int 0, int 0, int 0]]⟩), (5, ⟨69, 4, true, true, v74, [[.sc (.slice none 0 0), int 0, int 0, int 0]]⟩)])) rfl rfl rfl (yl_call rfl rfl (.cons rfl .nil) cal156 ?_) ?_
  refine pcw (c := _) Tryz.func156 rfl rfl ?_; intro Q hret hnorm
  refine tc tbk 7 (.mk ?_)
  refine rst rfl rfl rfl (yv_tassF rfl Tryz.underlying184 rfl rfl rfl zag184) ?_
  refine tr tbk 3 (.mk ?_)
  refine rse rfl rfl rfl (yl_alloc 6 .any rfl z184 rfl) ?_; rintro _ _ ⟨v76, -, rfl, rfl⟩
  refine sS ⟨184, 0, true, true, v76, [[]]⟩ sh184 ?_
  refine tr tbk 7 (.mk ?_)
  obtain rfl := nxt_e h1
  refine w_ret (hret _ _ (hk [(1, ⟨69, 4, true, true, v6, [[lst 3 GLayer.av a3.Layers, int a3.Pend.a0, int a3.Pend.a1, int a3.Pend.a2]]⟩), (2, ⟨69, 4, true, true, v7, [[.sc (.slice none 0 0), int 0, int 0, int 0]]⟩), (3, ⟨46, 3, true, true, v8, [[int 0, int 0, int 0]]⟩), (4, ⟨46, 3, true, true, v73, [[int 0, int 0, int 0]]⟩), (5, ⟨69, 4, true, true, v74, [[.sc (.slice none 0 0), int 0, int 0, int 0]]⟩)]) (.tmp rfl .nil) (HK.le ⟨rfl, rfl, rfl, rfl, rfl, trivial⟩) ?_)
  exact ⟨(), (), rfl, rfl, rfl⟩
  rintro y _ ⟨_, _, rfl, hc, rfl⟩
  subst hc
  refine tr tbk 16 (.mk ?_)
  obtain ⟨j77, h1, h0⟩ := bind_e h0
  refine rse (Out := fun y H' => (∃ (a : GPool × GLayer × Int) (k : Unit), a = j77 ∧ y = .tup [.agg [lst 3 GLayer.av a.1.Layers, int a.1.Pend.a0, int a.1.Pend.a1, int a.1.Pend.a2], .agg [int a.2.1.Qty, int a.2.1.Value, int a.2.1.Profit], int a.2.2] ∧ H' = hk [(1, ⟨69, 4, true, true, v6, [[lst 3 GLayer.av a3.Layers, int a3.Pend.a0, int a3.Pend.a1, int a3.Pend.a2]]⟩), (2, ⟨69, 4, true, true, v7, [[.sc (.slice none 0 0), int 0, int 0, int 0]]⟩), (3, ⟨46, 3, true, true, v8, [[int 0, int 0, int 0]]⟩), (4, ⟨46, 3, true, true, v73, [[int 0, int 0, int 0]]⟩), (5, ⟨69, 4, true, true, v74, [[.sc (.slice none 0 0), int 0, int 0, int 0]]⟩)])) rfl rfl rfl (yl_callI rfl rfl mth182_185 (.cons rfl (.cons rfl .nil)) cal185 ?_) ?_
  refine pcw (c := _) Tryz.func185 rfl rfl ?_; intro Q hret hnorm
  refine tc tbk 2 (.mk ?_)
  refine rse rfl rfl rfl (yl_box 25 .any rfl rfl rfl) ?_; rintro _ _ ⟨v78, -, rfl, rfl⟩
  refine rse rfl rfl rfl (yl_box 26 .any rfl rfl rfl) ?_; rintro _ _ ⟨v79, -, rfl, rfl⟩
  refine rse rfl rfl rfl (yl_alloc 27 .any rfl z69 rfl) ?_; rintro _ _ ⟨v80, -, rfl, rfl⟩
  refine rse rfl rfl rfl (yl_alloc 28 .any rfl z46 rfl) ?_; rintro _ _ ⟨v81, -, rfl, rfl⟩
  refine tr tbk 7 (.mk ?_)
  obtain ⟨x82, e82, h1⟩ := bind_e h1
  refine rst rfl rfl rfl (yv_callP rfl rfl (.cons rfl (.cons rfl .nil)) cal187 (CvL.refl _) (d_fifo_Out_c e82)) ?_
  refine tr tbk 4 (.mk ?_)
  refine rse rfl rfl rfl (yl_alloc 29 .any rfl z46 rfl) ?_; rintro _ _ ⟨v83, -, rfl, rfl⟩
  refine tr tbk 1 (.mk ?_)
  refine sS ⟨46, 3, true, true, v83, [[int x82.2.1.Qty, int x82.2.1.Value, int x82.2.1.Profit]]⟩ sh46 ?_
  refine tr tbk 3 (.mk ?_)
  refine c_drawE [0, 0, 3, 0, 0, 7, 47, 127] (rl [(0, [26]), (3, [29])] []) (rl [(5, [29]), (6, [])] [26, 29]) (rl [(5, false), (6, false)] true) [0, 1, 2, 3, 4, 5, 6, 7] mixed (by kernel_rfl) ?_; intro K hK
  refine eL sh69 ?_
  refine eM ?_
  obtain ⟨x84, e84, h1⟩ := bind_e h1
  refine eP (fun H hH => yv_callP rfl rfl (.cons rfl (.cons rfl .nil)) cal145 (CvL.refl _) (d_pool_with_c e84)) ?_
  refine eL sh46 ?_
  refine eM ?_
  refine de_eff0 rfl rfl rfl rfl (Yield.weak (yl_ob (ob' := (⟨69, 4, true, true, v80, [[lst 3 GLayer.av x84.Layers, int x84.Pend.a0, int x84.Pend.a1, int x84.Pend.a2]]⟩ : AObj)) (yl_store rfl sh69 rfl rfl rfl rfl rfl rfl rfl rfl rfl) rfl) (fun _ h => h) (fun _ _ => trivial)) (by rintro _ _ ⟨rfl, rfl⟩; exact ⟨rfl, trivial⟩) ?_; rintro _ _ ⟨rfl, rfl⟩
  refine de_eff0 rfl rfl rfl rfl (Yield.weak (yl_ob (ob' := (⟨46, 3, true, true, v81, [[int x82.2.1.Qty, int x82.2.1.Value, int x82.2.1.Profit]]⟩ : AObj)) (yl_store rfl sh46 rfl rfl rfl rfl rfl rfl rfl rfl rfl) rfl) (fun _ h => h) (fun _ _ => trivial)) (by rintro _ _ ⟨rfl, rfl⟩; exact trivial) ?_; rintro _ _ ⟨rfl, rfl⟩
  refine eA ?_
  refine de_nil (hK _ ?_)
  obtain rfl := nxt_e h1
  refine w_ret (hret _ _ (hk [(1, ⟨69, 4, true, true, v6, [[lst 3 GLayer.av a3.Layers, int a3.Pend.a0, int a3.Pend.a1, int a3.Pend.a2]]⟩), (2, ⟨69, 4, true, true, v7, [[.sc (.slice none 0 0), int 0, int 0, int 0]]⟩), (3, ⟨46, 3, true, true, v8, [[int 0, int 0, int 0]]⟩), (4, ⟨46, 3, true, true, v73, [[int 0, int 0, int 0]]⟩), (5, ⟨69, 4, true, true, v74, [[.sc (.slice none 0 0), int 0, int 0, int 0]]⟩)]) (.cell rfl (.pt rfl rfl rfl) sh69 rfl (.cell rfl (.pt rfl rfl rfl) sh46 rfl (.tmp rfl .nil))) (HK.le ⟨rfl, rfl, rfl, rfl, rfl, trivial⟩) ?_)
  exact ⟨(x84, x82.2.1, x82.2.2), (), rfl, rfl, rfl⟩
  rintro y _ ⟨⟨y12_1, y12_2, y12_3⟩, _, rfl, hc, rfl⟩
  replace h0 := p2_e h0
  replace h0 := p2_e h0
  subst hc
  refine tr tbk 4 (.mk ?_)
  refine sS ⟨69, 4, true, true, v74, [[lst 3 GLayer.av y12_1.Layers, int y12_1.Pend.a0, int y12_1.Pend.a1, int y12_1.Pend.a2]]⟩ sh69 ?_
  refine sS ⟨46, 3, true, true, v73, [[int y12_2.Qty, int y12_2.Value, int y12_2.Profit]]⟩ sh46 ?_
  refine tr tbk 6 (.mk ?_)
  refine nb tbk h0 fun x85 h0 => ?_
  refine tr tbk 1 (.mk ?_)
  cases x85
  replace h0 := cf h0
  refine tc tbk 3 (.mk ?_)
  refine c_drawE [0, 0, 0, 1, 11, 31, 63] (rl [(0, [5]), (1, [4])] []) (rl [(3, [4]), (4, [])] [4, 5]) (rl [(3, false), (4, false)] true) [0, 1, 2, 3, 4, 5, 6] mixed (by kernel_rfl) ?_; intro K hK
  refine eL sh69 ?_
  refine eL sh46 ?_
  refine eM ?_
  refine de_eff0 rfl rfl rfl rfl (Yield.weak (yl_ob (ob' := (⟨69, 4, true, true, v7, [[lst 3 GLayer.av y12_1.Layers, int y12_1.Pend.a0, int y12_1.Pend.a1, int y12_1.Pend.a2]]⟩ : AObj)) (yl_store rfl sh69 rfl rfl rfl rfl rfl rfl rfl rfl rfl) rfl) (fun _ h => h) (fun _ _ => trivial)) (by rintro _ _ ⟨rfl, rfl⟩; exact ⟨rfl, trivial⟩) ?_; rintro _ _ ⟨rfl, rfl⟩
  refine de_eff0 rfl rfl rfl rfl (Yield.weak (yl_ob (ob' := (⟨46, 3, true, true, v8, [[int y12_2.Qty, int y12_2.Value, int y12_2.Profit]]⟩ : AObj)) (yl_store rfl sh46 rfl rfl rfl rfl rfl rfl rfl rfl rfl) rfl) (fun _ h => h) (fun _ _ => trivial)) (by rintro _ _ ⟨rfl, rfl⟩; exact trivial) ?_; rintro _ _ ⟨rfl, rfl⟩
  iterate 2 refine eA ?_
  refine de_nil (hK _ ?_)
  obtain rfl := nxt_e h0
  refine w_ret (hret _ _ _ (.cell rfl (.pt rfl rfl rfl) sh69 rfl (.cell rfl (.pt rfl rfl rfl) sh46 rfl (.tmp rfl (.tmp rfl .nil)))) (fun _ _ h => h) ?_)
  exact .refl _
  replace h0 := ct h0
  refine tc tbk 4 (.mk ?_)
  obtain ⟨x86, e86, h0⟩ := bind_e h0
  refine rst rfl rfl rfl (yv_callP rfl rfl (.cons rfl .nil) cal114 (CvL.refl _) (d_pool_own_c e86)) ?_
  refine tr tbk 2 (.mk ?_)
  refine sS ⟨69, 4, true, true, v7, [[lst 3 GLayer.av x86.Layers, int x86.Pend.a0, int x86.Pend.a1, int x86.Pend.a2]]⟩ sh69 ?_
  refine sS ⟨46, 3, true, true, v8, [[int 0, int 0, int 0]]⟩ sh46 ?_
  refine tr tbk 3 (.mk ?_)
  obtain rfl := nxt_e h0
  refine w_ret (hret _ _ _ (.cell rfl (.pt rfl rfl rfl) sh69 rfl (.cell rfl (.pt rfl rfl rfl) sh46 rfl (.tmp rfl (.tmp rfl .nil)))) (fun _ _ h => h) ?_)
  exact .refl _
  replace h0 := ct h0
  refine tc tbk 4 (.mk ?_)
  obtain ⟨x87, e87, h0⟩ := bind_e h0
  refine rst rfl rfl rfl (yv_callP rfl rfl (.cons rfl .nil) cal114 (CvL.refl _) (d_pool_own_c e87)) ?_
  refine tr tbk 1 (.mk ?_)
  refine sS ⟨69, 4, true, true, v7, [[lst 3 GLayer.av x87.Layers, int x87.Pend.a0, int x87.Pend.a1, int x87.Pend.a2]]⟩ sh69 ?_
  refine sS ⟨46, 3, true, true, v8, [[int 0, int 0, int 0]]⟩ sh46 ?_
  refine tr tbk 3 (.mk ?_)
  obtain rfl := nxt_e h0
  refine w_ret (hret _ _ _ (.cell rfl (.pt rfl rfl rfl) sh69 rfl (.cell rfl (.pt rfl rfl rfl) sh46 rfl (.tmp rfl (.tmp rfl .nil)))) (fun _ _ h => h) ?_)
  exact .refl _
def d_stock_Fetch (n : Nat) (a1 : GState) (a2 : Int) (a3 : Int) (a4 : Int) (a5 : Int) (a6 : Int) : Option (GState × GLayer × Bool × Int) :=
(d_stock_place a1 a2 a3 a4).bind fun x10 =>
bnd (decide (x10 < 0)) fun x11 =>
cond x11 (some ((a1 : GState), ((⟨0, 0, 0⟩ : GLayer) : GLayer), (false : Bool), (4 : Int))) ((ix a1.Master.Methods a2).bind fun x12 =>
(ix x12 a3).bind fun x13 =>
(ix a1.Master.Costs a2).bind fun x14 =>
(ix x14 a3).bind fun x15 =>
(ix a1.Ents a2).bind fun x16 =>
(ix x16.Pools x10).bind fun x17 =>
(d_pool_Out n x13 x15 x17 a5 a6).bind fun x18 =>
bnd x18.2.2.1 fun x20 =>
bnd (decide (x18.2.2.2 ≠ 0)) fun x21 =>
cond x21 (some ((a1 : GState), ((⟨0, 0, 0⟩ : GLayer) : GLayer), (false : Bool), (x18.2.2.2 : Int))) ((show Option ((Int × Bool × (List Int) × (List GRoll) × (List Int) × (List Int) × (List GEnt) × (List GPool))) from
(show Option ((Unit)) from
asrt (a1.Ents.length ≤ 68719476736) <|
(ix a1.Ents a2).bind fun x28 =>
some ()).bind <| fun _ =>
(ix a1.Ents a2).bind fun x29 =>
asrt (x29.Pools.length ≤ 68719476736) <|
(ix x29.Pools x10).bind fun x32 =>
bnd (x29.Pools.set (Int.toNat x10) (x18.1 : GPool)) fun x33 =>
some ((x29.Now : Int), (x29.Closed : Bool), (x29.Bal : List Int), (x29.Rolls : List GRoll), (x29.Prices : List Int), (x29.Down : List Int), (x29.Ahead : List GEnt), (x33 : List GPool))).bind <| p2 fun (y1_2 : Int) (q0 : Bool × (List Int) × (List GRoll) × (List Int) × (List Int) × (List GEnt) × (List GPool)) => (p2 fun (y1_3 : Bool) (q1 : (List Int) × (List GRoll) × (List Int) × (List Int) × (List GEnt) × (List GPool)) => (p2 fun (y1_5 : List Int) (q2 : (List GRoll) × (List Int) × (List Int) × (List GEnt) × (List GPool)) => (p2 fun (y1_6 : List GRoll) (q3 : (List Int) × (List Int) × (List GEnt) × (List GPool)) => (p2 fun (y1_7 : List Int) (q4 : (List Int) × (List GEnt) × (List GPool)) => (p2 fun (y1_8 : List Int) (q5 : (List GEnt) × (List GPool)) => (p2 fun (y1_9 : List GEnt) (y1_10 : List GPool) =>
(ix a1.Ents a2).bind fun x34 =>
some (((⟨a1.Master, (a1.Ents.set (Int.toNat a2) (⟨y1_2, y1_3, y1_10, y1_5, y1_6, y1_7, y1_8, y1_9⟩ : GEnt)), a1.Receipts, a1.Sales, a1.Transits, a1.Done⟩ : GState) : GState), (x18.2.1 : GLayer), (x20 : Bool), (0 : Int))) q5) q4) q3) q2) q1) q0))
theorem d_stock_Fetch_c {n : Nat} {a1 : GState} {a2 : Int} {a3 : Int} {a4 : Int} {a5 : Int} {a6 : Int} {r : GState × GLayer × Bool × Int} (h0 : d_stock_Fetch n a1 a2 a3 a4 a5 a6 = some r) : PP Tryz.prog 95 [.agg (GState.av a1), int a2, int a3, int a4, int a5, int a6] (fun y => y = .tup [.agg (GState.av r.1), .agg (GLayer.av r.2.1), boo r.2.2.1, int r.2.2.2]) := by
  unfold d_stock_Fetch at h0
  refine pp_of_pc (R0 := fun y H => Cv (frzH H) y (.tup [.agg (GState.av r.1), .agg (GLayer.av r.2.1), boo r.2.2.1, int r.2.2.2])) ?_ (fun y H hc => ⟨_, rfl, .tup (pvl4 ((fun (a : GState) => PV.agg (GState.pvc a)) (r.1)) ((fun (a : GLayer) => PV.agg (GLayer.pvc a)) (r.2.1)) (pvB (r.2.2.1)) (pvI (r.2.2.2))), hc⟩)
  refine pcw (c := _) Tryz.func95 rfl rfl ?_; intro Q hret hnorm
  refine tc tbk 2 (.mk ?_)
  refine rse rfl rfl rfl (yl_box 1 .any rfl rfl rfl) ?_; rintro _ _ ⟨v7, -, rfl, rfl⟩
  refine rse rfl rfl rfl (yl_alloc 2 .any rfl z32 rfl) ?_; rintro _ _ ⟨v8, -, rfl, rfl⟩
  refine rse rfl rfl rfl (yl_alloc 3 .any rfl z46 rfl) ?_; rintro _ _ ⟨v9, -, rfl, rfl⟩
  refine tr tbk 9 (.mk ?_)
  obtain ⟨x10, e10, h0⟩ := bind_e h0
  refine rst rfl rfl rfl (yv_callP rfl rfl (.cons rfl (.cons rfl (.cons rfl (.cons rfl .nil)))) cal72 (CvL.refl _) (d_stock_place_c e10)) ?_
  refine tr tbk 6 (.mk ?_)
  refine nb tbk h0 fun x11 h0 => ?_
  refine tr tbk 1 (.mk ?_)
  cases x11
  replace h0 := cf h0
  refine tc tbk 3 (.mk ?_)
  refine c_drawE [0, 1, 3, 0, 15, 31, 0, 127, 255, 0, 512, 1536, 0, 7680, 15872, 0, 65024, 130560, 0, 262144, 0, 1835008, 3932160, 8126464, 0, 33292288, 66846720, 0, 0, 536870911, 1073741823, 2147483647, 2147483647, 2147483647, 2147483647, 0, 38654705663, 111669149695, 257698037759, 549755813887] (rl [(0, [1]), (1, [1]), (2, [1]), (9, [1]), (10, [1]), (11, [1]), (18, [1]), (19, [1])] []) (rl [(36, []), (37, [])] [1]) (rl [(35, false), (36, false), (37, false)] true) [0, 1, 2, 3, 4, 5, 6, 7, 8, 9, 10, 11, 12, 13, 14, 15, 16, 17, 18, 19, 20, 21, 22, 23, 24, 25, 26, 27, 28, 29, 30, 31, 32, 33, 34, 35, 36, 37, 38, 39] mixed (by kernel_rfl) ?_; intro K hK
  refine eF fo32_0 ?_
  refine eF fo26_3 ?_
  refine eL sh24 ?_
  refine eM ?_
  obtain ⟨x12, e12, h0⟩ := bind_e h0
  refine eP (fun H hH => yv_ixT rfl Tryz.underlying24 sh23 rfl rfl e12) ?_
  refine eP (fun H hH => yv_load rfl sh23 rfl (.pp _) rfl) ?_
  refine eM ?_
  obtain ⟨x13, e13, h0⟩ := bind_e h0
  refine eP (fun H hH => yv_ixT rfl Tryz.underlying23 sh3 rfl rfl e13) ?_
  refine eP (fun H hH => yv_load rfl sh3 rfl (.pp _) rfl) ?_
  refine eF fo32_0 ?_
  refine eF fo26_4 ?_
  refine eL sh24 ?_
  refine eM ?_
  obtain ⟨x14, e14, h0⟩ := bind_e h0
  refine eP (fun H hH => yv_ixT rfl Tryz.underlying24 sh23 rfl rfl e14) ?_
  refine eP (fun H hH => yv_load rfl sh23 rfl (.pp _) rfl) ?_
  refine eM ?_
  obtain ⟨x15, e15, h0⟩ := bind_e h0
  refine eP (fun H hH => yv_ixT rfl Tryz.underlying23 sh3 rfl rfl e15) ?_
  refine eP (fun H hH => yv_load rfl sh3 rfl (.pp _) rfl) ?_
  refine eF fo32_1 ?_
  refine eL sh27 ?_
  refine eM ?_
  obtain ⟨x16, e16, h0⟩ := bind_e h0
  refine eP (fun H hH => yv_to (y := .pp [int x16.Now, boo x16.Closed, lst 4 GPool.av x16.Pools, lst 1 fI x16.Bal, lst 11 GRoll.av x16.Rolls, lst 1 fI x16.Prices, lst 1 fI x16.Down, lst 8 GEnt.av x16.Ahead]) (yv_ixT rfl Tryz.underlying27 sh42 rfl rfl e16) (congrArg AV.pp (GEnt.av_eq x16))) ?_
  refine eP (fun H hH => yv_fieldAddr rfl fo42_2 rfl (.pp _) (.pp _ _)) ?_
  refine eP (fun H hH => yv_load rfl sh39 rfl (.pp _) rfl) ?_
  refine eM ?_
  obtain ⟨x17, e17, h0⟩ := bind_e h0
  refine eP (fun H hH => yv_ixT rfl Tryz.underlying39 sh69 rfl rfl e17) ?_
  refine eP (fun H hH => yv_load rfl sh69 rfl (.pp _) rfl) ?_
  iterate 2 refine eM ?_
  obtain ⟨x18, e18, h0⟩ := bind_e h0
  refine eP (fun H hH => yv_callP rfl rfl (.cons rfl (.cons rfl (.cons rfl (.cons rfl (.cons rfl .nil))))) cal135 (CvL.refl _) (d_pool_Out_c e18)) ?_
  refine eM ?_
  iterate 4 refine eX ?_
  refine de_eff rfl rfl rfl rfl (yl_alloc 4 .any rfl z69 rfl) (by rintro _ _ ⟨v19, -, rfl, rfl⟩; exact ⟨rfl, trivial⟩) ?_; rintro _ _ ⟨v19, -, rfl, rfl⟩
  refine de_eff0 rfl rfl rfl rfl (Yield.weak (yl_ob (ob' := (⟨69, 4, true, true, v19, [[lst 3 GLayer.av x18.1.Layers, int x18.1.Pend.a0, int x18.1.Pend.a1, int x18.1.Pend.a2]]⟩ : AObj)) (yl_store rfl sh69 rfl rfl rfl rfl rfl rfl rfl rfl rfl) rfl) (fun _ h => h) (fun _ _ => trivial)) (by rintro _ _ ⟨rfl, rfl⟩; exact trivial) ?_; rintro _ _ ⟨rfl, rfl⟩
  refine de_eff0 rfl rfl rfl rfl (Yield.weak (yl_ob (ob' := (⟨46, 3, true, true, v9, [[int x18.2.1.Qty, int x18.2.1.Value, int x18.2.1.Profit]]⟩ : AObj)) (yl_store rfl sh46 rfl rfl rfl rfl rfl rfl rfl rfl rfl) rfl) (fun _ h => h) (fun _ _ => trivial)) (by rintro _ _ ⟨rfl, rfl⟩; exact trivial) ?_; rintro _ _ ⟨rfl, rfl⟩
  obtain ⟨x20, e20, h0⟩ := bnd_e h0
  refine eP (fun H hH => yv_to (y := boo x20) (yv_assign rfl rfl) (congrArg boo e20)) ?_
  refine eA ?_
  refine de_nil (hK _ ?_)
  refine tc tbk 4 (.mk ?_)
  refine nb tbk h0 fun x21 h0 => ?_
  refine tr tbk 1 (.mk ?_)
  cases x21
  replace h0 := cf h0
  refine tc tbk 5 (.mk ?_)
  refine rst rfl rfl rfl (yv_build (cs := (GState.av a1)) (ps := [(0, _)]) rfl pl104 z104 rfl (.cons rfl .nil) (by kernel_rfl)) ?_
  refine rse rfl rfl rfl (yl_alloc 5 .any rfl z104 rfl) ?_; rintro _ _ ⟨v22, -, rfl, rfl⟩
  refine sS ⟨104, 10, true, true, v22, [(GState.av a1)]⟩ sh104 ?_
  refine tr tbk 6 (.mk ?_)
  obtain ⟨j23, h1, h0⟩ := bind_e h0
  refine rse (Out := fun y H' => (∃ (a : Int × Bool × (List Int) × (List GRoll) × (List Int) × (List Int) × (List GEnt) × (List GPool)) (k : Nat × Nat), a = j23 ∧ y = .tup [] ∧ H' = hk [(1, ⟨32, 10, true, true, v7, [(GState.av a1)]⟩), (2, ⟨32, 10, true, true, v8, [[int 0, int 0, .sc (.slice none 0 0), .sc (.slice none 0 0), .sc (.slice none 0 0), .sc (.slice none 0 0), .sc (.slice none 0 0), .sc (.slice none 0 0), .sc (.slice none 0 0), int 0]]⟩), (3, ⟨46, 3, true, true, v9, [[int x18.2.1.Qty, int x18.2.1.Value, int x18.2.1.Profit]]⟩), (4, ⟨69, 4, true, true, v19, [[lst 3 GLayer.av x18.1.Layers, int x18.1.Pend.a0, int x18.1.Pend.a1, int x18.1.Pend.a2]]⟩), (5, ⟨104, 10, true, true, v22, [[int a1.Master.Entities, int a1.Master.Periods, lst 1 fI a1.Master.Weights, lst 1 (fL 1 fI) a1.Master.Methods, lst 1 (fL 1 fI) a1.Master.Costs, .sl 7 k.1 0 a1.Ents.length, lst 8 GReceipt.av a1.Receipts, lst 9 GSale.av a1.Sales, lst 6 GTransit.av a1.Transits, int a1.Done]]⟩), (7, ⟨42, 8, true, true, k.1, (a1.Ents.map GEnt.av).set (Int.toNat a2) [int a.1, boo a.2.1, .sl 8 k.2 0 a.2.2.2.2.2.2.2.length, lst 1 fI a.2.2.1, lst 11 GRoll.av a.2.2.2.1, lst 1 fI a.2.2.2.2.1, lst 1 fI a.2.2.2.2.2.1, lst 8 GEnt.av a.2.2.2.2.2.2.1]⟩), (8, ⟨69, 4, true, true, k.2, a.2.2.2.2.2.2.2.map GPool.av⟩)])) rfl rfl rfl (yl_call rfl rfl (.cons rfl (.cons rfl (.cons rfl (.cons rfl .nil)))) cal74 ?_) ?_
  refine pcw (c := _) Tryz.func74 rfl rfl ?_; intro Q hret hnorm
  refine tc tbk 2 (.mk ?_)
  refine rse rfl rfl rfl (yl_box 6 .any rfl rfl rfl) ?_; rintro _ _ ⟨v24, -, rfl, rfl⟩
  refine tr tbk 5 (.mk ?_)
  obtain ⟨j25, h2, h1⟩ := bind_e h1
  refine rse (Out := fun y H' => (∃ (a : Unit) (k : Nat), a = j25 ∧ y = .pt 7 k (Int.toNat a2) 0 ∧ H' = hk [(1, ⟨32, 10, true, true, v7, [(GState.av a1)]⟩), (2, ⟨32, 10, true, true, v8, [[int 0, int 0, .sc (.slice none 0 0), .sc (.slice none 0 0), .sc (.slice none 0 0), .sc (.slice none 0 0), .sc (.slice none 0 0), .sc (.slice none 0 0), .sc (.slice none 0 0), int 0]]⟩), (3, ⟨46, 3, true, true, v9, [[int x18.2.1.Qty, int x18.2.1.Value, int x18.2.1.Profit]]⟩), (4, ⟨69, 4, true, true, v19, [[lst 3 GLayer.av x18.1.Layers, int x18.1.Pend.a0, int x18.1.Pend.a1, int x18.1.Pend.a2]]⟩), (5, ⟨104, 10, true, true, v22, [[int a1.Master.Entities, int a1.Master.Periods, lst 1 fI a1.Master.Weights, lst 1 (fL 1 fI) a1.Master.Methods, lst 1 (fL 1 fI) a1.Master.Costs, .sl 7 k 0 a1.Ents.length, lst 8 GReceipt.av a1.Receipts, lst 9 GSale.av a1.Sales, lst 6 GTransit.av a1.Transits, int a1.Done]]⟩), (6, ⟨69, 4, true, true, v24, [[lst 3 GLayer.av x18.1.Layers, int x18.1.Pend.a0, int x18.1.Pend.a1, int x18.1.Pend.a2]]⟩), (7, ⟨42, 8, true, true, k, a1.Ents.map GEnt.av⟩)])) rfl rfl rfl (yl_call rfl rfl (.cons rfl (.cons rfl .nil)) cal79 ?_) ?_
  refine pcw (c := _) Tryz.func79 rfl rfl ?_; intro Q hret hnorm
  refine tc tbk 12 (.mk ?_)
  obtain ⟨p26, h2⟩ := asrt_e h2
  refine rse rfl rfl rfl (yl_call rfl rfl (.cons rfl .nil) cal106 (pc_cv (clone106_c (id := 7) (l := a1.Ents) rfl p26) (.cons (.refl _) .nil))) ?_; rintro _ _ ⟨v27, rfl, rfl⟩
  refine tr tbk 3 (.mk ?_)
  refine sS ⟨104, 10, true, true, v22, [[int a1.Master.Entities, int a1.Master.Periods, lst 1 fI a1.Master.Weights, lst 1 (fL 1 fI) a1.Master.Methods, lst 1 (fL 1 fI) a1.Master.Costs, .sl 7 v27 0 a1.Ents.length, lst 8 GReceipt.av a1.Receipts, lst 9 GSale.av a1.Sales, lst 6 GTransit.av a1.Transits, int a1.Done]]⟩ sh27 ?_
  refine tr tbk 9 (.mk ?_)
  obtain ⟨x28, e28, h2⟩ := bind_e h2
  refine rst rfl rfl rfl (yv_ixO rfl Tryz.underlying27 sh42 rfl rfl rfl rfl rfl (Eq.symm rfl) (List.length_map _) e28) ?_
  refine tr tbk 2 (.mk ?_)
  obtain rfl := nxt_e h2
  refine w_ret (hret _ _ (hk [(1, ⟨32, 10, true, true, v7, [(GState.av a1)]⟩), (2, ⟨32, 10, true, true, v8, [[int 0, int 0, .sc (.slice none 0 0), .sc (.slice none 0 0), .sc (.slice none 0 0), .sc (.slice none 0 0), .sc (.slice none 0 0), .sc (.slice none 0 0), .sc (.slice none 0 0), int 0]]⟩), (3, ⟨46, 3, true, true, v9, [[int x18.2.1.Qty, int x18.2.1.Value, int x18.2.1.Profit]]⟩), (4, ⟨69, 4, true, true, v19, [[lst 3 GLayer.av x18.1.Layers, int x18.1.Pend.a0, int x18.1.Pend.a1, int x18.1.Pend.a2]]⟩), (5, ⟨104, 10, true, true, v22, [[int a1.Master.Entities, int a1.Master.Periods, lst 1 fI a1.Master.Weights, lst 1 (fL 1 fI) a1.Master.Methods, lst 1 (fL 1 fI) a1.Master.Costs, .sl 7 v27 0 a1.Ents.length, lst 8 GReceipt.av a1.Receipts, lst 9 GSale.av a1.Sales, lst 6 GTransit.av a1.Transits, int a1.Done]]⟩), (6, ⟨69, 4, true, true, v24, [[lst 3 GLayer.av x18.1.Layers, int x18.1.Pend.a0, int x18.1.Pend.a1, int x18.1.Pend.a2]]⟩), (7, ⟨42, 8, true, true, v27, a1.Ents.map GEnt.av⟩)]) (.tmp rfl .nil) (HK.le ⟨rfl, rfl, rfl, rfl, rfl, rfl, rfl, trivial⟩) ?_)
  exact ⟨(), v27, rfl, rfl, rfl⟩
  rintro y _ ⟨_, w0_1, rfl, hc, rfl⟩
  subst hc
  refine tr tbk 6 (.mk ?_)
  obtain ⟨x29, e29, h1⟩ := bind_e h1
  refine rst rfl rfl rfl (yv_nilCheck rfl rfl (.pt rfl rfl (ix_get' e29 (GEnt.av_eq _)))) ?_
  refine rst rfl rfl rfl (yv_fieldAddr rfl fo42_2 rfl (.pt rfl rfl (ix_get' e29 (GEnt.av_eq _))) (.pt _ _ _ _ _)) ?_
  refine rst rfl rfl rfl (yv_load rfl sh39 rfl (.pt rfl rfl (ix_get' e29 (GEnt.av_eq _))) rfl) ?_
  obtain ⟨p30, h1⟩ := asrt_e h1
  refine rse rfl rfl rfl (yl_call rfl rfl (.cons rfl .nil) cal107 (pc_cv (clone107_c (id := 8) (l := x29.Pools) rfl p30) (.cons (.refl _) .nil))) ?_; rintro _ _ ⟨v31, rfl, rfl⟩
  refine rst rfl rfl rfl (yv_nilCheck rfl rfl (.pt rfl rfl (ix_get' e29 (GEnt.av_eq _)))) ?_
  refine rst rfl rfl rfl (yv_fieldAddr rfl fo42_2 rfl (.pt rfl rfl (ix_get' e29 (GEnt.av_eq _))) (.pt _ _ _ _ _)) ?_
  refine rsstore rfl rfl (yl_ob (ob' := (⟨42, 8, true, true, w0_1, (a1.Ents.map GEnt.av).set (Int.toNat a2) [int x29.Now, boo x29.Closed, .sl 8 v31 0 x29.Pools.length, lst 1 fI x29.Bal, lst 11 GRoll.av x29.Rolls, lst 1 fI x29.Prices, lst 1 fI x29.Down, lst 8 GEnt.av x29.Ahead]⟩ : AObj)) (yl_store rfl sh39 rfl rfl rfl rfl rfl (ix_get' e29 (GEnt.av_eq _)) rfl rfl rfl) (ob_eq rfl)) ?_
  refine tr tbk 1 (.mk ?_)
  refine c_drawE [0, 1, 3, 7, 0, 0, 63, 127] (rl [(1, [7]), (2, [7]), (3, [7]), (5, [6]), (6, [8])] []) (rl [(7, [])] [6, 7, 8]) (rl [(7, false)] true) [0, 1, 2, 3, 4, 5, 6, 7] mixed (by kernel_rfl) ?_; intro K hK
  refine eM ?_
  refine eN (hr := set_get e29) ?_
  refine eF fo42_2 (hr := set_get e29) ?_
  refine eL sh39 (hr := set_get e29) ?_
  refine eM ?_
  refine eL sh69 ?_
  obtain ⟨x32, e32, h1⟩ := bind_e h1
  refine de_pure rfl rfl rfl rfl (fun H hH => yv_ixO rfl Tryz.underlying39 sh69 rfl rfl ((hH _ (by decide)).trans rfl) rfl rfl (Eq.symm rfl) (List.length_map _) e32) ?_
  obtain ⟨x33, e33, h1⟩ := bnd_e h1
  have fx33 := ix_set e32 e33; have lx33 := len_setV e33 (rfl : x29.Pools.length = x29.Pools.length)
  refine de_eff0 rfl rfl rfl rfl (Yield.weak (yl_ob (ob' := (⟨69, 4, true, true, v31, x33.map GPool.av⟩ : AObj)) (yl_store rfl sh69 rfl rfl rfl rfl rfl (ix_get e32) rfl rfl rfl) (ob_eq (map_setV e33))) (fun _ h => h) (fun _ _ => trivial)) (by rintro _ _ ⟨rfl, rfl⟩; exact trivial) ?_; rintro _ _ ⟨rfl, rfl⟩
  refine de_nil (hK _ ?_)
  obtain rfl := nxt_e h1
  refine c_nil (hnorm _ _ (hk [(1, ⟨32, 10, true, true, v7, [(GState.av a1)]⟩), (2, ⟨32, 10, true, true, v8, [[int 0, int 0, .sc (.slice none 0 0), .sc (.slice none 0 0), .sc (.slice none 0 0), .sc (.slice none 0 0), .sc (.slice none 0 0), .sc (.slice none 0 0), .sc (.slice none 0 0), int 0]]⟩), (3, ⟨46, 3, true, true, v9, [[int x18.2.1.Qty, int x18.2.1.Value, int x18.2.1.Profit]]⟩), (4, ⟨69, 4, true, true, v19, [[lst 3 GLayer.av x18.1.Layers, int x18.1.Pend.a0, int x18.1.Pend.a1, int x18.1.Pend.a2]]⟩), (5, ⟨104, 10, true, true, v22, [[int a1.Master.Entities, int a1.Master.Periods, lst 1 fI a1.Master.Weights, lst 1 (fL 1 fI) a1.Master.Methods, lst 1 (fL 1 fI) a1.Master.Costs, .sl 7 w0_1 0 a1.Ents.length, lst 8 GReceipt.av a1.Receipts, lst 9 GSale.av a1.Sales, lst 6 GTransit.av a1.Transits, int a1.Done]]⟩), (7, ⟨42, 8, true, true, w0_1, (a1.Ents.map GEnt.av).set (Int.toNat a2) [int x29.Now, boo x29.Closed, .sl 8 v31 0 x33.length, lst 1 fI x29.Bal, lst 11 GRoll.av x29.Rolls, lst 1 fI x29.Prices, lst 1 fI x29.Down, lst 8 GEnt.av x29.Ahead]⟩), (8, ⟨69, 4, true, true, v31, x33.map GPool.av⟩)]) .nil (HK.le ⟨rfl, rfl, rfl, rfl, rfl, (by first | rfl | exact lx33 ▸ rfl), rfl, trivial⟩) ?_)
  exact ⟨(x29.Now, x29.Closed, x29.Bal, x29.Rolls, x29.Prices, x29.Down, x29.Ahead, x33), (w0_1, v31), rfl, rfl, rfl⟩
  rintro y _ ⟨⟨y1_2, y1_3, y1_5, y1_6, y1_7, y1_8, y1_9, y1_10⟩, ⟨w1_1, w1_4⟩, rfl, hc, rfl⟩
  replace h0 := p2_e h0
  replace h0 := p2_e h0
  replace h0 := p2_e h0
  replace h0 := p2_e h0
  replace h0 := p2_e h0
  replace h0 := p2_e h0
  replace h0 := p2_e h0
  subst hc
  obtain ⟨x34, e34, h0⟩ := bind_e h0
  refine tr tbk 2 (.mk ?_)
  refine c_drawE [0, 1, 0, 0, 3, 23, 63, 127] (rl [(0, [5]), (1, [5]), (2, [3])] []) (rl [(4, [3]), (5, [])] [3, 5]) (rl [(4, false), (5, false)] true) [0, 1, 2, 3, 4, 5, 6, 7] mixed (by kernel_rfl) ?_; intro K hK
  refine eF fo104_0 ?_
  refine eL sh32 ?_
  refine eL sh46 ?_
  refine eM ?_
  refine de_eff0 rfl rfl rfl rfl (Yield.weak (yl_ob (ob' := (⟨32, 10, true, true, v8, [[int a1.Master.Entities, int a1.Master.Periods, lst 1 fI a1.Master.Weights, lst 1 (fL 1 fI) a1.Master.Methods, lst 1 (fL 1 fI) a1.Master.Costs, .sl 7 w1_1 0 a1.Ents.length, lst 8 GReceipt.av a1.Receipts, lst 9 GSale.av a1.Sales, lst 6 GTransit.av a1.Transits, int a1.Done]]⟩ : AObj)) (yl_store rfl sh32 rfl rfl rfl rfl rfl rfl rfl rfl rfl) rfl) (fun _ h => h) (fun _ _ => trivial)) (by rintro _ _ ⟨rfl, rfl⟩; exact ⟨rfl, trivial⟩) ?_; rintro _ _ ⟨rfl, rfl⟩
  refine de_eff0 rfl rfl rfl rfl (Yield.weak (yl_ob (ob' := (⟨46, 3, true, true, v9, [[int x18.2.1.Qty, int x18.2.1.Value, int x18.2.1.Profit]]⟩ : AObj)) (yl_store rfl sh46 rfl rfl rfl rfl rfl rfl rfl rfl rfl) rfl) (fun _ h => h) (fun _ _ => trivial)) (by rintro _ _ ⟨rfl, rfl⟩; exact trivial) ?_; rintro _ _ ⟨rfl, rfl⟩
  iterate 2 refine eA ?_
  refine de_nil (hK _ ?_)
  obtain rfl := nxt_e h0
  refine w_ret (hret _ _ _ (.cell rfl (.pt rfl rfl rfl) sh32 rfl (.cell rfl (.pt rfl rfl rfl) sh46 rfl (.tmp rfl (.tmp rfl .nil)))) (fun _ _ h => h) ?_)
  exact CvL.tup (.cons (CvL.agg (.cons (.refl _) (.cons (.refl _) (.cons (.refl _) (.cons (.refl _) (.cons (.refl _) (.cons (cv_ov rfl rfl rfl rfl rfl (Eq.symm rfl) e34 (cvl_to (.cons (.refl _) (.cons (.refl _) (.cons (cv_lst rfl rfl rfl rfl rfl (Eq.symm rfl)) (.cons (.refl _) (.cons (.refl _) (.cons (.refl _) (.cons (.refl _) (.cons (.refl _) .nil)))))))) (GEnt.av_eq _))) (.cons (.refl _) (.cons (.refl _) (.cons (.refl _) (.cons (.refl _) .nil))))))))))) (.cons (.refl _) (.cons (.refl _) (.cons (.refl _) .nil))))
  replace h0 := ct h0
  refine tc tbk 6 (.mk ?_)
  refine sS ⟨32, 10, true, true, v8, [(GState.av a1)]⟩ sh32 ?_
  refine sS ⟨46, 3, true, true, v9, [[int 0, int 0, int 0]]⟩ sh46 ?_
  refine tr tbk 3 (.mk ?_)
  obtain rfl := nxt_e h0
  refine w_ret (hret _ _ _ (.cell rfl (.pt rfl rfl rfl) sh32 rfl (.cell rfl (.pt rfl rfl rfl) sh46 rfl (.tmp rfl (.tmp rfl .nil)))) (fun _ _ h => h) ?_)
  exact .refl _
  replace h0 := ct h0
  refine tc tbk 5 (.mk ?_)
  refine sS ⟨32, 10, true, true, v8, [(GState.av a1)]⟩ sh32 ?_
  refine sS ⟨46, 3, true, true, v9, [[int 0, int 0, int 0]]⟩ sh46 ?_
  refine tr tbk 3 (.mk ?_)
  obtain rfl := nxt_e h0
  refine w_ret (hret _ _ _ (.cell rfl (.pt rfl rfl rfl) sh32 rfl (.cell rfl (.pt rfl rfl rfl) sh46 rfl (.tmp rfl (.tmp rfl .nil)))) (fun _ _ h => h) ?_)
  exact .refl _
def d_sell_sell (n : Nat) (a1 : GState) (a2 : GOp) : Option (GState × Int) :=
bnd (decide ((a1.Sales.length : Int) ≥ 40)) fun x6 =>
cond x6 (some ((a1 : GState), (6 : Int))) ((d_stock_Fetch n a1 a2.E a2.Item a2.Loc 0 a2.Qty).bind fun x7 =>
bnd (decide (x7.2.2.2 ≠ 0)) fun x10 =>
cond x10 (some ((a1 : GState), (x7.2.2.2 : Int))) ((d_sell_line 3 a2.Amount).bind fun x11 =>
bnd (w64 (0 - a2.Amount)) fun x12 =>
(d_sell_line 4 x12).bind fun x13 =>
(d_sell_line 5 x7.2.1.Value).bind fun x14 =>
bnd (w64 (0 - x7.2.1.Value)) fun x15 =>
(d_sell_line 0 x15).bind fun x16 =>
(d_stock_Post n x7.1 a2.E ([x11, x13, x14, x16] : List GLine)).bind fun x17 =>
bnd (decide (x17.2 ≠ 0)) fun x18 =>
cond x18 (some ((a1 : GState), (x17.2 : Int))) ((d_stock_Turn x17.1 a2.E a2.Item (⟨0, 0, 0, 0, 0, x7.2.1.Value, 0, 0, 0, 0, 0⟩ : GRoll)).bind fun x19 =>
bnd (decide (x19.2 ≠ 0)) fun x20 =>
cond x20 (some ((a1 : GState), (x19.2 : Int))) ((ix a1.Ents a2.E).bind fun x21 =>
bnd x7.2.2.1 fun x22 =>
asrt (x19.1.Sales.length ≤ 68719476736) <|
bnd (x19.1.Sales ++ ([(⟨a2.E, a2.Item, a2.Loc, a2.Qty, 0, x7.2.1.Value, x7.2.1.Profit, x21.Now, x22⟩ : GSale)] : List GSale)) fun x25 =>
asrt (x25.length ≤ 68719476736) <|
some (((⟨x19.1.Master, x19.1.Ents, x19.1.Receipts, x25, x19.1.Transits, x19.1.Done⟩ : GState) : GState), (0 : Int))))))
theorem d_sell_sell_c {n : Nat} {a1 : GState} {a2 : GOp} {r : GState × Int} (h0 : d_sell_sell n a1 a2 = some r) : PP Tryz.prog 61 [.agg (GState.av a1), .agg (GOp.av a2)] (fun y => y = .tup [.agg (GState.av r.1), int r.2]) := by
  unfold d_sell_sell at h0
  refine pp_of_pc (R0 := fun y H => Cv (frzH H) y (.tup [.agg (GState.av r.1), int r.2])) ?_ (fun y H hc => ⟨_, rfl, .tup (pvl2 ((fun (a : GState) => PV.agg (GState.pvc a)) (r.1)) (pvI (r.2))), hc⟩)
  refine pcw (c := _) Tryz.func61 rfl rfl ?_; intro Q hret hnorm
  refine tc tbk 2 (.mk ?_)
  refine rse rfl rfl rfl (yl_box 1 .any rfl rfl rfl) ?_; rintro _ _ ⟨v3, -, rfl, rfl⟩
  refine rse rfl rfl rfl (yl_box 2 .any rfl rfl rfl) ?_; rintro _ _ ⟨v4, -, rfl, rfl⟩
  refine rse rfl rfl rfl (yl_alloc 3 .any rfl z32 rfl) ?_; rintro _ _ ⟨v5, -, rfl, rfl⟩
  refine tr tbk 7 (.mk ?_)
  refine rst rfl rfl rfl (yv_len_sl rfl Tryz.underlying29 rfl (lst_len _)) ?_
  refine nb tbk h0 fun x6 h0 => ?_
  refine tr tbk 1 (.mk ?_)
  cases x6
  replace h0 := cf h0
  refine tc tbk 13 (.mk ?_)
  obtain ⟨x7, e7, h0⟩ := bind_e h0
  refine rst rfl rfl rfl (yv_callP rfl rfl (.cons rfl (.cons rfl (.cons rfl (.cons rfl (.cons rfl (.cons rfl .nil)))))) cal95 (CvL.refl _) (d_stock_Fetch_c e7)) ?_
  refine tr tbk 5 (.mk ?_)
  refine rse rfl rfl rfl (yl_alloc 4 .any rfl z32 rfl) ?_; rintro _ _ ⟨v8, -, rfl, rfl⟩
  refine rse rfl rfl rfl (yl_alloc 5 .any rfl z46 rfl) ?_; rintro _ _ ⟨v9, -, rfl, rfl⟩
  refine sS ⟨32, 10, true, true, v8, [(GState.av x7.1)]⟩ sh32 ?_
  refine sS ⟨46, 3, true, true, v9, [[int x7.2.1.Qty, int x7.2.1.Value, int x7.2.1.Profit]]⟩ sh46 ?_
  refine tr tbk 7 (.mk ?_)
  refine nb tbk h0 fun x10 h0 => ?_
  refine tr tbk 1 (.mk ?_)
  cases x10
  replace h0 := cf h0
  refine tc tbk 3 (.mk ?_)
  refine c_drawE [0, 0, 2, 0, 8, 24, 0, 64, 192, 504, 0, 1024, 4088, 0, 8192, 24576, 65528, 131064, 262143, 524287, 1048575, 1048575, 2097151, 8388607] (rl [(0, [4]), (1, [2]), (2, [2]), (3, [2]), (4, [2]), (6, [2]), (7, [2]), (10, [5]), (11, [5]), (13, [5]), (14, [5])] []) (rl [(22, [])] [2, 4, 5]) (rl [(22, false)] true) [0, 1, 2, 3, 4, 5, 6, 7, 8, 9, 10, 11, 12, 13, 14, 15, 16, 17, 18, 19, 20, 21, 22, 23] mixed (by kernel_rfl) ?_; intro K hK
  refine eL sh32 ?_
  refine eF fo38_1 ?_
  refine eL sh3 ?_
  refine eF fo38_6 ?_
  refine eL sh3 ?_
  obtain ⟨x11, e11, h0⟩ := bind_e h0
  refine eP (fun H hH => yv_callP rfl rfl (.cons rfl (.cons rfl .nil)) cal102 (CvL.refl _) (d_sell_line_c e11)) ?_
  refine eF fo38_6 ?_
  refine eL sh3 ?_
  obtain ⟨x12, e12, h0⟩ := bnd_e h0
  refine eP (fun H hH => yv_neg rfl rfl e12) ?_
  obtain ⟨x13, e13, h0⟩ := bind_e h0
  refine eP (fun H hH => yv_callP rfl rfl (.cons rfl (.cons rfl .nil)) cal102 (CvL.refl _) (d_sell_line_c e13)) ?_
  refine eF fo46_1 ?_
  refine eL sh3 ?_
  obtain ⟨x14, e14, h0⟩ := bind_e h0
  refine eP (fun H hH => yv_callP rfl rfl (.cons rfl (.cons rfl .nil)) cal102 (CvL.refl _) (d_sell_line_c e14)) ?_
  refine eF fo46_1 ?_
  refine eL sh3 ?_
  obtain ⟨x15, e15, h0⟩ := bnd_e h0
  refine eP (fun H hH => yv_neg rfl rfl e15) ?_
  obtain ⟨x16, e16, h0⟩ := bind_e h0
  refine eP (fun H hH => yv_callP rfl rfl (.cons rfl (.cons rfl .nil)) cal102 (CvL.refl _) (d_sell_line_c e16)) ?_
  refine eP (fun H hH => yv_to (y := lst 2 GLine.av ([x11, x13, x14, x16] : List GLine)) (yv_buildSlice (ps := [(0, _), (1, _), (2, _), (3, _)]) (rows := [[int x11.Account, int x11.Amount], [int x13.Account, int x13.Amount], [int x14.Account, int x14.Amount], [int x16.Account, int x16.Amount]]) rfl Tryz.underlying79 bz78 (.cons rfl (.cons rfl (.cons rfl (.cons rfl .nil)))) (by kernel_rfl) rfl rfl rfl) rfl) ?_
  obtain ⟨x17, e17, h0⟩ := bind_e h0
  refine eP (fun H hH => yv_callP rfl rfl (.cons rfl (.cons rfl (.cons rfl .nil))) cal42 (CvL.refl _) (d_stock_Post_c e17)) ?_
  refine eM ?_
  iterate 2 refine eX ?_
  refine de_eff0 rfl rfl rfl rfl (Yield.weak (yl_ob (ob' := (⟨32, 10, true, true, v8, [(GState.av x17.1)]⟩ : AObj)) (yl_store rfl sh32 rfl rfl rfl rfl rfl rfl rfl rfl rfl) rfl) (fun _ h => h) (fun _ _ => trivial)) (by rintro _ _ ⟨rfl, rfl⟩; exact trivial) ?_; rintro _ _ ⟨rfl, rfl⟩
  refine eA ?_
  refine de_nil (hK _ ?_)
  refine tc tbk 4 (.mk ?_)
  refine nb tbk h0 fun x18 h0 => ?_
  refine tr tbk 1 (.mk ?_)
  cases x18
  replace h0 := cf h0
  refine tc tbk 11 (.mk ?_)
  refine rst rfl rfl rfl (yv_build (cs := [int 0, int 0, int 0, int 0, int 0, int x7.2.1.Value, int 0, int 0, int 0, int 0, int 0]) (ps := [(5, _)]) rfl pl49 z49 rfl (.cons rfl .nil) (by kernel_rfl)) ?_
  obtain ⟨x19, e19, h0⟩ := bind_e h0
  refine rst rfl rfl rfl (yv_callP rfl rfl (.cons rfl (.cons rfl (.cons rfl (.cons rfl .nil)))) cal44 (CvL.refl _) (d_stock_Turn_c e19)) ?_
  refine tr tbk 3 (.mk ?_)
  refine sS ⟨32, 10, true, true, v8, [(GState.av x19.1)]⟩ sh32 ?_
  refine tr tbk 6 (.mk ?_)
  refine nb tbk h0 fun x20 h0 => ?_
  refine tr tbk 1 (.mk ?_)
  cases x20
  replace h0 := cf h0
  refine tc tbk 3 (.mk ?_)
  refine c_drawE [0, 1, 3, 0, 8, 0, 32, 0, 128, 0, 512, 0, 2048, 0, 8192, 0, 32768, 0, 131072, 491520, 1015808, 2064384, 0, 8388600, 16777208, 33554431, 67108863, 134217727] (rl [(0, [4]), (1, [4]), (3, [2]), (4, [2]), (5, [2]), (6, [2]), (7, [2]), (8, [2]), (9, [2]), (10, [2]), (11, [5]), (12, [5]), (13, [5]), (14, [5]), (15, [1]), (16, [1]), (17, [2]), (18, [2]), (26, [4])] []) (rl [(2, [1, 2, 5]), (25, []), (27, [])] [1, 2, 4, 5]) (rl [(2, false), (25, false), (27, false)] true) [0, 1, 3, 4, 5, 6, 7, 8, 9, 10, 11, 12, 13, 14, 15, 16, 17, 18, 19, 20, 21, 22, 23, 24, 2, 25, 26, 27] mixed (by kernel_rfl) ?_; intro K hK
  refine eF fo32_3 ?_
  refine eL sh29 ?_
  refine eF fo38_1 ?_
  refine eL sh3 ?_
  refine eF fo38_2 ?_
  refine eL sh3 ?_
  refine eF fo38_3 ?_
  refine eL sh3 ?_
  refine eF fo38_5 ?_
  refine eL sh3 ?_
  refine eF fo46_1 ?_
  refine eL sh3 ?_
  refine eF fo46_2 ?_
  refine eL sh3 ?_
  refine eF fo32_1 ?_
  refine eL sh27 ?_
  refine eF fo38_1 ?_
  refine eL sh3 ?_
  obtain ⟨x21, e21, h0⟩ := bind_e h0
  refine eP (fun H hH => yv_to (y := .pp [int x21.Now, boo x21.Closed, lst 4 GPool.av x21.Pools, lst 1 fI x21.Bal, lst 11 GRoll.av x21.Rolls, lst 1 fI x21.Prices, lst 1 fI x21.Down, lst 8 GEnt.av x21.Ahead]) (yv_ixT rfl Tryz.underlying27 sh42 rfl rfl e21) (congrArg AV.pp (GEnt.av_eq x21))) ?_
  refine eP (fun H hH => yv_fieldAddr rfl fo42_0 rfl (.pp _) (.pp _ _)) ?_
  refine eP (fun H hH => yv_load rfl sh3 rfl (.pp _) rfl) ?_
  obtain ⟨x22, e22, h0⟩ := bnd_e h0
  refine eP (fun H hH => yv_to (y := boo x22) (yv_move rfl rfl) (congrArg boo e22)) ?_
  refine eP (fun H hH => yv_build (cs := [int a2.E, int a2.Item, int a2.Loc, int a2.Qty, int 0, int x7.2.1.Value, int x7.2.1.Profit, int x21.Now, boo x22]) (ps := [(0, _), (1, _), (2, _), (3, _), (5, _), (6, _), (7, _), (8, _)]) rfl pl64 z64 rfl (.cons rfl (.cons rfl (.cons rfl (.cons rfl (.cons rfl (.cons rfl (.cons rfl (.cons rfl .nil)))))))) (by kernel_rfl)) ?_
  refine eP (fun H hH => yv_to (y := lst 9 GSale.av ([(⟨a2.E, a2.Item, a2.Loc, a2.Qty, 0, x7.2.1.Value, x7.2.1.Profit, x21.Now, x22⟩ : GSale)] : List GSale)) (yv_buildSlice (ps := [(0, _)]) (rows := [[int a2.E, int a2.Item, int a2.Loc, int a2.Qty, int 0, int x7.2.1.Value, int x7.2.1.Profit, int x21.Now, boo x22]]) rfl Tryz.underlying29 bz64 (.cons rfl .nil) (by kernel_rfl) rfl rfl rfl) rfl) ?_
  obtain ⟨p23, h0⟩ := asrt_e h0
  refine de_eff rfl rfl rfl rfl (yl_call rfl rfl (.cons rfl .nil) cal103 (pc_cv (clone103_c (id := 6) (l := x19.1.Sales) rfl p23) (.cons (.refl _) .nil))) (by rintro _ _ ⟨v24, rfl, rfl⟩; exact ⟨rfl, rfl, rfl, trivial⟩) ?_; rintro _ _ ⟨v24, rfl, rfl⟩
  obtain ⟨x25, e25, h0⟩ := bnd_e h0
  obtain ⟨p26, h0⟩ := asrt_e h0
  refine de_eff rfl rfl rfl rfl (yl_appT (g := GSale.av) (l := x19.1.Sales) (m := ([(⟨a2.E, a2.Item, a2.Loc, a2.Qty, 0, x7.2.1.Value, x7.2.1.Profit, x21.Now, x22⟩ : GSale)] : List GSale)) .any rfl Tryz.underlying29 bz64 by64 rfl rfl rfl rfl rfl rfl rfl rfl rfl rfl (Eq.symm rfl) (.refl _) (fun _ => rfl) e25 p26) (by rintro _ _ ⟨v27, -, rfl, rfl⟩; exact trivial) ?_; rintro _ _ ⟨v27, -, rfl, rfl⟩
  refine eF fo32_3 ?_
  refine de_eff0 rfl rfl rfl rfl (Yield.weak (yl_ob (ob' := (⟨32, 10, true, true, v8, [[int x19.1.Master.Entities, int x19.1.Master.Periods, lst 1 fI x19.1.Master.Weights, lst 1 (fL 1 fI) x19.1.Master.Methods, lst 1 (fL 1 fI) x19.1.Master.Costs, lst 8 GEnt.av x19.1.Ents, lst 8 GReceipt.av x19.1.Receipts, .sl 6 v27 0 x25.length, lst 6 GTransit.av x19.1.Transits, int x19.1.Done]]⟩ : AObj)) (yl_store rfl sh29 rfl rfl rfl rfl rfl rfl rfl rfl rfl) rfl) (fun _ h => h) (fun _ _ => trivial)) (by rintro _ _ ⟨rfl, rfl⟩; exact trivial) ?_; rintro _ _ ⟨rfl, rfl⟩
  refine de_nil (hK _ ?_)
  refine tc tbk 3 (.mk ?_)
  refine sS ⟨32, 10, true, true, v5, [[int x19.1.Master.Entities, int x19.1.Master.Periods, lst 1 fI x19.1.Master.Weights, lst 1 (fL 1 fI) x19.1.Master.Methods, lst 1 (fL 1 fI) x19.1.Master.Costs, lst 8 GEnt.av x19.1.Ents, lst 8 GReceipt.av x19.1.Receipts, .sl 6 v27 0 x25.length, lst 6 GTransit.av x19.1.Transits, int x19.1.Done]]⟩ sh32 ?_
  refine tr tbk 2 (.mk ?_)
  obtain rfl := nxt_e h0
  refine w_ret (hret _ _ _ (.cell rfl (.pt rfl rfl rfl) sh32 rfl (.tmp rfl .nil)) (fun _ _ h => h) ?_)
  exact CvL.tup (.cons (CvL.agg (.cons (.refl _) (.cons (.refl _) (.cons (.refl _) (.cons (.refl _) (.cons (.refl _) (.cons (.refl _) (.cons (.refl _) (.cons (cv_lst rfl rfl rfl rfl rfl (Eq.symm rfl)) (.cons (.refl _) (.cons (.refl _) .nil))))))))))) (.cons (.refl _) .nil))
  replace h0 := ct h0
  refine tc tbk 5 (.mk ?_)
  refine sS ⟨32, 10, true, true, v5, [(GState.av a1)]⟩ sh32 ?_
  refine tr tbk 2 (.mk ?_)
  obtain rfl := nxt_e h0
  refine w_ret (hret _ _ _ (.cell rfl (.pt rfl rfl rfl) sh32 rfl (.tmp rfl .nil)) (fun _ _ h => h) ?_)
  exact .refl _
  replace h0 := ct h0
  refine tc tbk 5 (.mk ?_)
  refine sS ⟨32, 10, true, true, v5, [(GState.av a1)]⟩ sh32 ?_
  refine tr tbk 2 (.mk ?_)
  obtain rfl := nxt_e h0
  refine w_ret (hret _ _ _ (.cell rfl (.pt rfl rfl rfl) sh32 rfl (.tmp rfl .nil)) (fun _ _ h => h) ?_)
  exact .refl _
  replace h0 := ct h0
  refine tc tbk 5 (.mk ?_)
  refine sS ⟨32, 10, true, true, v5, [(GState.av a1)]⟩ sh32 ?_
  refine tr tbk 2 (.mk ?_)
  obtain rfl := nxt_e h0
  refine w_ret (hret _ _ _ (.cell rfl (.pt rfl rfl rfl) sh32 rfl (.tmp rfl .nil)) (fun _ _ h => h) ?_)
  exact .refl _
  replace h0 := ct h0
  refine tc tbk 4 (.mk ?_)
  refine sS ⟨32, 10, true, true, v5, [(GState.av a1)]⟩ sh32 ?_
  refine tr tbk 2 (.mk ?_)
  obtain rfl := nxt_e h0
  refine w_ret (hret _ _ _ (.cell rfl (.pt rfl rfl rfl) sh32 rfl (.tmp rfl .nil)) (fun _ _ h => h) ?_)
  exact .refl _
end Go.Pv
