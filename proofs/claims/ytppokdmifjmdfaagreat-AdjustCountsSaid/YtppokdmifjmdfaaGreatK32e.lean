import Derived.Test.YtppokdmifjmdfaaGreatK32d
set_option linter.unusedVariables false
namespace Go.Pv
open Go.Proofs
set_option maxRecDepth 10000
set_option maxHeartbeats 1000000
def d_adjust_scrap (n : Nat) (a1 : GState) (a2 : GOp) : Option (GState × Int) :=
(d_stock_Fetch n a1 a2.E a2.Item a2.Loc 1 a2.Qty).bind fun x6 =>
bnd (decide (x6.2.2.2 ≠ 0)) fun x8 =>
cond x8 (some ((x6.1 : GState), (x6.2.2.2 : Int))) ((d_adjust_line 7 x6.2.1.Value).bind fun x9 =>
bnd (w64 (0 - x6.2.1.Value)) fun x10 =>
(d_adjust_line 0 x10).bind fun x11 =>
(d_adjust_write n x6.1 a2 (⟨0, 0, 0, 0, 0, 0, 0, 0, x6.2.1.Value, 0, 0⟩ : GRoll) ([x9, x11] : List GLine)).bind fun x12 =>
some ((x12.1 : GState), (x12.2 : Int)))
theorem d_adjust_scrap_c {n : Nat} {a1 : GState} {a2 : GOp} {r : GState × Int} (h0 : d_adjust_scrap n a1 a2 = some r) : PP Tryz.prog 64 [.agg (GState.av a1), .agg (GOp.av a2)] (fun y => y = .tup [.agg (GState.av r.1), int r.2]) := by
  unfold d_adjust_scrap at h0
  refine pp_of_pc (R0 := fun y H => Cv (frzH H) y (.tup [.agg (GState.av r.1), int r.2])) ?_ (fun y H hc => ⟨_, rfl, .tup (pvl2 ((fun (a : GState) => PV.agg (GState.pvc a)) (r.1)) (pvI (r.2))), hc⟩)
  refine pcw (c := _) Tryz.func64 rfl rfl ?_; intro Q hret hnorm
  refine tc tbk 2 (.mk ?_)
  refine sB 1 fun v3 => ?_
  refine sB 2 fun v4 => ?_
  refine sA 3 z32 fun v5 => ?_
  refine tr tbk 13 (.mk ?_)
  obtain ⟨x6, e6, h0⟩ := bind_e h0
  refine sC cal25 (d_stock_Fetch_c e6) ?_
  refine tr tbk 5 (.mk ?_)
  refine sA 4 z50 fun v7 => ?_
  refine sS ⟨32, 10, true, true, v3, [(GState.av x6.1)]⟩ sh32 ?_
  refine sS ⟨50, 3, true, true, v7, [[int x6.2.1.Qty, int x6.2.1.Value, int x6.2.1.Profit]]⟩ sh50 ?_
  refine tr tbk 7 (.mk ?_)
  refine nb tbk h0 fun x8 h0 => ?_
  refine tr tbk 1 (.mk ?_)
  cases x8
  replace h0 := cf h0
  refine tc tbk 3 (.mk ?_)
  refine c_drawE [0, 0, 0, 4, 12, 0, 32, 96, 0, 256, 768, 2016, 4064, 8191, 16383, 16383, 65535, 131071] (rl [(0, [1]), (1, [2]), (2, [4]), (3, [4]), (5, [4]), (6, [4]), (8, [4]), (9, [4])] []) (rl [(16, [])] [1, 2, 4]) (rl [(16, false)] true) [0, 1, 2, 3, 4, 5, 6, 7, 8, 9, 10, 11, 12, 13, 14, 15, 16, 17] mixed (by kernel_rfl) ?_; intro K hK
  refine eL sh32 ?_
  refine eL sh38 ?_
  refine eF fo50_1 ?_
  refine eL sh3 ?_
  refine eP (fun H hH => yv_build (cs := [int 0, int 0, int 0, int 0, int 0, int 0, int 0, int 0, int x6.2.1.Value, int 0, int 0]) (ps := [(8, _)]) rfl pl54 z54 rfl (.cons rfl .nil) (by kernel_rfl)) ?_
  refine eF fo50_1 ?_
  refine eL sh3 ?_
  obtain ⟨x9, e9, h0⟩ := bind_e h0
  refine eP (fun H hH => yv_callP rfl rfl (.cons rfl (.cons rfl .nil)) cal115 (CvL.refl _) (d_adjust_line_c e9)) ?_
  refine eF fo50_1 ?_
  refine eL sh3 ?_
  obtain ⟨x10, e10, h0⟩ := bnd_e h0
  refine eP (fun H hH => yv_neg rfl rfl e10) ?_
  obtain ⟨x11, e11, h0⟩ := bind_e h0
  refine eP (fun H hH => yv_callP rfl rfl (.cons rfl (.cons rfl .nil)) cal115 (CvL.refl _) (d_adjust_line_c e11)) ?_
  refine eP (fun H hH => yv_to (y := lst 2 GLine.av ([x9, x11] : List GLine)) (yv_buildSlice (ps := [(0, _), (1, _)]) (rows := [[int x9.Account, int x9.Amount], [int x11.Account, int x11.Amount]]) rfl Tryz.underlying82 bz81 (.cons rfl (.cons rfl .nil)) (by kernel_rfl) rfl rfl rfl) rfl) ?_
  obtain ⟨x12, e12, h0⟩ := bind_e h0
  refine eP (fun H hH => yv_callP rfl rfl (.cons rfl (.cons rfl (.cons rfl (.cons rfl .nil)))) cal114 (CvL.refl _) (d_adjust_write_c e12)) ?_
  iterate 2 refine eX ?_
  refine de_eff0 rfl rfl rfl rfl (Yield.weak (yl_ob (ob' := (⟨32, 10, true, true, v5, [(GState.av x12.1)]⟩ : AObj)) (yl_store rfl sh32 rfl rfl rfl rfl rfl rfl rfl rfl rfl) rfl) (fun _ h => h) (fun _ _ => trivial)) (by rintro _ _ ⟨rfl, rfl⟩; exact trivial) ?_; rintro _ _ ⟨rfl, rfl⟩
  refine eA ?_
  refine de_nil (hK _ ?_)
  obtain rfl := nxt_e h0
  refine wR hret (rC sh32 (rT .nil)) ?_
  exact .refl _
  replace h0 := ct h0
  refine tc tbk 5 (.mk ?_)
  refine sS ⟨32, 10, true, true, v5, [(GState.av x6.1)]⟩ sh32 ?_
  refine tr tbk 2 (.mk ?_)
  obtain rfl := nxt_e h0
  refine wR hret (rC sh32 (rT .nil)) ?_
  exact .refl _
def d_stdcost_Revalue (n : Nat) (a1 : List GLayer) (a2 : Int) : Option ((List GLayer) × Int × Int) :=
asrt (a1.length ≤ 68719476736) <|
(d_stdcost_rate_fits a2).bind fun x5 =>
bnd (!x5) fun x6 =>
cond x6 (some ((a1 : List GLayer), (0 : Int), (1 : Int))) (bnd (decide ((a1.length : Int) = 0)) fun x7 =>
cond x7 (some ((a1 : List GLayer), (0 : Int), (0 : Int))) ((ix a1 0).bind fun x8 =>
(d_stdcost_rate_of n a2 x8.Qty).bind fun x9 =>
bnd (decide (x9.2 ≠ 0)) fun x10 =>
cond x10 (some ((a1 : List GLayer), (0 : Int), (x9.2 : Int))) (bnd (w64 (x9.1 - x8.Value)) fun x11 =>
bnd (a1.set (Int.toNat 0) ((⟨x8.Qty, x9.1, x8.Profit⟩ : GLayer) : GLayer)) fun x12 =>
some ((x12 : List GLayer), (x11 : Int), (0 : Int)))))
theorem d_stdcost_Revalue_c {n : Nat} {a1 : List GLayer} {a2 : Int} {r : (List GLayer) × Int × Int} (h0 : d_stdcost_Revalue n a1 a2 = some r) : PP Tryz.prog 122 [lst 3 GLayer.av a1, int a2] (fun y => y = .tup [lst 3 GLayer.av r.1, int r.2.1, int r.2.2]) := by
  unfold d_stdcost_Revalue at h0
  refine pp_of_pc (R0 := fun y H => Cv (frzH H) y (.tup [lst 3 GLayer.av r.1, int r.2.1, int r.2.2])) ?_ (fun y H hc => ⟨_, rfl, .tup (pvl3 ((pvLs GLayer.pvc) (r.1)) (pvI (r.2.1)) (pvI (r.2.2))), hc⟩)
  refine pcw (c := _) Tryz.func122 rfl rfl ?_; intro Q hret hnorm
  refine tc tbk 9 (.mk ?_)
  obtain ⟨p3, h0⟩ := asrt_e h0
  refine rse rfl rfl rfl (yl_call rfl rfl (.cons rfl .nil) cal59 (pc_cv (clone59_c (id := 1) (l := a1) rfl p3) (.cons (.refl _) .nil))) ?_; rintro _ _ ⟨v4, rfl, rfl⟩
  refine tr tbk 6 (.mk ?_)
  obtain ⟨x5, e5, h0⟩ := bind_e h0
  refine sC cal175 (d_stdcost_rate_fits_c e5) ?_
  refine nb tbk h0 fun x6 h0 => ?_
  refine tr tbk 1 (.mk ?_)
  cases x6
  replace h0 := cf h0
  refine tc tbk 6 (.mk ?_)
  refine sY (yv_len_sl rfl Tryz.underlying39 rfl (.sl rfl rfl)) ?_
  refine nb tbk h0 fun x7 h0 => ?_
  refine tr tbk 1 (.mk ?_)
  cases x7
  replace h0 := cf h0
  refine tc tbk 6 (.mk ?_)
  obtain ⟨x8, e8, h0⟩ := bind_e h0
  refine sY (yv_ixO rfl Tryz.underlying39 sh50 rfl rfl rfl rfl rfl (Eq.symm rfl) (List.length_map _) e8) ?_
  refine sY (yv_fieldAddr rfl fo50_0 rfl (.pt rfl rfl (ix_get e8)) (.pt _ _ _ _ _)) ?_
  refine sY (yv_load rfl sh3 rfl (.pt rfl rfl (ix_get e8)) rfl) ?_
  obtain ⟨x9, e9, h0⟩ := bind_e h0
  refine sC cal176 (d_stdcost_rate_of_c e9) ?_
  refine tr tbk 10 (.mk ?_)
  refine nb tbk h0 fun x10 h0 => ?_
  refine tr tbk 1 (.mk ?_)
  cases x10
  replace h0 := cf h0
  refine tc tbk 6 (.mk ?_)
  refine sY (yv_ixO rfl Tryz.underlying39 sh50 rfl rfl rfl rfl rfl (Eq.symm rfl) (List.length_map _) e8) ?_
  refine sY (yv_fieldAddr rfl fo50_1 rfl (.pt rfl rfl (ix_get e8)) (.pt _ _ _ _ _)) ?_
  refine sY (yv_load rfl sh3 rfl (.pt rfl rfl (ix_get e8)) rfl) ?_
  refine ni tbk h0 fun x11 h0 => ?_
  refine tr tbk 6 (.mk ?_)
  refine sY (yv_ixO rfl Tryz.underlying39 sh50 rfl rfl rfl rfl rfl (Eq.symm rfl) (List.length_map _) e8) ?_
  refine sY (yv_fieldAddr rfl fo50_1 rfl (.pt rfl rfl (ix_get e8)) (.pt _ _ _ _ _)) ?_
  obtain ⟨x12, e12, h0⟩ := bnd_e h0
  have fx12 := ix_set e8 e12; have lx12 := len_setV e12 (rfl : a1.length = a1.length)
  refine rsstore rfl rfl (yl_ob (ob' := (⟨50, 3, true, true, v4, x12.map GLayer.av⟩ : AObj)) (yl_store rfl sh3 rfl rfl rfl rfl rfl (ix_get e8) rfl rfl rfl) (ob_eq (map_setV e12))) ?_
  refine tr tbk 9 (.mk ?_)
  obtain rfl := nxt_e h0
  refine wR hret (rT (rT (rT .nil))) ?_
  exact CvL.tup (.cons (cv_lst rfl rfl rfl rfl rfl (Eq.symm lx12)) (.cons (.refl _) (.cons (.refl _) .nil)))
  replace h0 := ct h0
  refine tc tbk 9 (.mk ?_)
  obtain rfl := nxt_e h0
  refine wR hret (rT (rT (rT .nil))) ?_
  exact CvL.tup (.cons (cv_lst rfl rfl rfl rfl rfl (Eq.symm rfl)) (.cons (.refl _) (.cons (.refl _) .nil)))
  replace h0 := ct h0
  refine tc tbk 8 (.mk ?_)
  obtain rfl := nxt_e h0
  refine wR hret (rT (rT (rT .nil))) ?_
  exact CvL.tup (.cons (cv_lst rfl rfl rfl rfl rfl (Eq.symm rfl)) (.cons (.refl _) (.cons (.refl _) .nil)))
  replace h0 := ct h0
  refine tc tbk 8 (.mk ?_)
  obtain rfl := nxt_e h0
  refine wR hret (rT (rT (rT .nil))) ?_
  exact CvL.tup (.cons (cv_lst rfl rfl rfl rfl rfl (Eq.symm rfl)) (.cons (.refl _) (.cons (.refl _) .nil)))
def d_adjust_revalue_L0 (a1 : GState) (a2 : GOp) (x15 : List Int) (x18 : GEnt) (x21 : Int) (x23 : Int) : Nat → Int → Int → (List GPool) → Option ((Int × (List GPool)) ⊕ (GState × Int))
  | 0, _, _, _ => none
  | n + 1, y0_1, y0_2, y0_3 =>
    bnd (decide (y0_2 < (((x23.toNat - x21.toNat) : Nat) : Int))) fun x26 =>
    cond x26 (asrt ((0 : Int) ≤ y0_2 ∧ y0_2 < (((x23.toNat - x21.toNat) : Nat) : Int)) <|
    (ix y0_3 ((((0 + x21.toNat) : Nat) : Int) + y0_2)).bind fun x28 =>
    (d_stdcost_Revalue n x28.Layers a2.Amount).bind fun x30 =>
    bnd (decide (x30.2.2 ≠ 0)) fun x31 =>
    cond x31 (esc (some (((⟨(⟨a1.Master.Entities, a1.Master.Periods, a1.Master.Weights, a1.Master.Methods, (a1.Master.Costs.set (Int.toNat a2.E) x15)⟩ : GMaster), (a1.Ents.set (Int.toNat a2.E) (⟨x18.Now, x18.Closed, y0_3, x18.Bal, x18.Rolls, x18.Prices, x18.Down, x18.Ahead⟩ : GEnt)), a1.Receipts, a1.Sales, a1.Transits, a1.Done⟩ : GState) : GState), (x30.2.2 : Int)))) (asrt ((0 : Int) ≤ y0_2 ∧ y0_2 < (((x23.toNat - x21.toNat) : Nat) : Int)) <|
    bnd (y0_3.set (Int.toNat ((((0 + x21.toNat) : Nat) : Int) + y0_2)) ((⟨x30.1, x28.Pend⟩ : GPool) : GPool)) fun x33 =>
    bnd (w64 (y0_1 + x30.2.1)) fun x34 =>
    bnd (w64 (y0_2 + 1)) fun x35 =>
    d_adjust_revalue_L0 a1 a2 x15 x18 x21 x23 n (x34 : Int) (x35 : Int) (x33 : List GPool))) (brk ((y0_1 : Int), (y0_3 : List GPool)))
def d_adjust_revalue (n : Nat) (a1 : GState) (a2 : GOp) : Option (GState × Int) :=
(ix a1.Master.Methods a2.E).bind fun x6 =>
(ix x6 a2.Item).bind fun x7 =>
bnd (decide (x7 ≠ 4)) fun x8 =>
cond x8 (some ((a1 : GState), (12 : Int))) (asrt (a1.Master.Costs.length ≤ 68719476736) <|
(ix a1.Master.Costs a2.E).bind fun x11 =>
asrt (x11.length ≤ 68719476736) <|
(ix x11 a2.Item).bind fun x14 =>
bnd (x11.set (Int.toNat a2.Item) (a2.Amount : Int)) fun x15 =>
asrt (a1.Ents.length ≤ 68719476736) <|
(ix a1.Ents a2.E).bind fun x18 =>
asrt (x18.Pools.length ≤ 68719476736) <|
bnd (w64 (a2.Item * 2)) fun x21 =>
bnd (w64 (a2.Item + 1)) fun x22 =>
bnd (w64 (x22 * 2)) fun x23 =>
asrt ((0 : Int) ≤ x21 ∧ x21 ≤ x23 ∧ x23 ≤ (x18.Pools.length : Int) ∧ x21 < (x18.Pools.length : Int)) <|
(show Option ((Int × (List GPool)) ⊕ (GState × Int)) from
d_adjust_revalue_L0 a1 a2 x15 x18 x21 x23 n (0 : Int) (0 : Int) (x18.Pools : List GPool)).bind <| sel <| p2 fun (y1_1 : Int) (y1_2 : List GPool) =>
(d_adjust_line 0 y1_1).bind fun x37 =>
bnd (w64 (0 - y1_1)) fun x38 =>
(d_adjust_line 6 x38).bind fun x39 =>
(d_adjust_write n (⟨(⟨a1.Master.Entities, a1.Master.Periods, a1.Master.Weights, a1.Master.Methods, (a1.Master.Costs.set (Int.toNat a2.E) x15)⟩ : GMaster), (a1.Ents.set (Int.toNat a2.E) (⟨x18.Now, x18.Closed, y1_2, x18.Bal, x18.Rolls, x18.Prices, x18.Down, x18.Ahead⟩ : GEnt)), a1.Receipts, a1.Sales, a1.Transits, a1.Done⟩ : GState) a2 (⟨0, 0, 0, 0, 0, 0, 0, 0, 0, 0, y1_1⟩ : GRoll) ([x37, x39] : List GLine)).bind fun x40 =>
some ((x40.1 : GState), (x40.2 : Int)))
theorem d_adjust_revalue_c {n : Nat} {a1 : GState} {a2 : GOp} {r : GState × Int} (h0 : d_adjust_revalue n a1 a2 = some r) : PP Tryz.prog 67 [.agg (GState.av a1), .agg (GOp.av a2)] (fun y => y = .tup [.agg (GState.av r.1), int r.2]) := by
  unfold d_adjust_revalue at h0
  refine pp_of_pc (R0 := fun y H => Cv (frzH H) y (.tup [.agg (GState.av r.1), int r.2])) ?_ (fun y H hc => ⟨_, rfl, .tup (pvl2 ((fun (a : GState) => PV.agg (GState.pvc a)) (r.1)) (pvI (r.2))), hc⟩)
  refine pcw (c := _) Tryz.func67 rfl rfl ?_; intro Q hret hnorm
  refine tc tbk 2 (.mk ?_)
  refine sB 1 fun v3 => ?_
  refine sB 2 fun v4 => ?_
  refine sA 3 z32 fun v5 => ?_
  refine tr tbk 4 (.mk ?_)
  refine c_drawE [0, 1, 3, 0, 8, 31, 63, 0, 128, 511, 1023, 2047] (rl [(0, [1]), (1, [1]), (2, [1]), (3, [2]), (4, [2]), (7, [2]), (8, [2])] []) (fun i => [1, 2]) (fun i => true) [0, 1, 2, 3, 4, 5, 6, 7, 8, 9, 10, 11] mixed (by kernel_rfl) ?_; intro K hK
  refine eF fo32_0 ?_
  refine eF fo26_3 ?_
  refine eL sh24 ?_
  refine eF fo38_1 ?_
  refine eL sh3 ?_
  obtain ⟨x6, e6, h0⟩ := bind_e h0
  refine eP (fun H hH => yv_ixT rfl Tryz.underlying24 sh23 rfl rfl e6) ?_
  refine eP (fun H hH => yv_load rfl sh23 rfl (.pp _) rfl) ?_
  refine eF fo38_2 ?_
  refine eL sh3 ?_
  obtain ⟨x7, e7, h0⟩ := bind_e h0
  refine eP (fun H hH => yv_ixT rfl Tryz.underlying23 sh3 rfl rfl e7) ?_
  refine eP (fun H hH => yv_load rfl sh3 rfl (.pp _) rfl) ?_
  obtain ⟨x8, e8, h0⟩ := bnd_e h0
  refine eP (fun H hH => yv_to (y := boo x8) (yv_neq rfl rfl rfl) (congrArg boo e8)) ?_
  refine de_nil (hK _ ?_)
  cases x8
  replace h0 := cf h0
  refine tc tbk 7 (.mk ?_)
  obtain ⟨p9, h0⟩ := asrt_e h0
  refine rse rfl rfl rfl (yl_call rfl rfl (.cons rfl .nil) cal119 (pc_cv (clone119_c (id := 4) (l := a1.Master.Costs) rfl p9) (.cons (.refl _) .nil))) ?_; rintro _ _ ⟨v10, rfl, rfl⟩
  refine tr tbk 2 (.mk ?_)
  refine sS ⟨32, 10, true, true, v3, [[int a1.Master.Entities, int a1.Master.Periods, lst 1 fI a1.Master.Weights, lst 1 (fL 1 fI) a1.Master.Methods, .sl 4 v10 0 a1.Master.Costs.length, lst 8 GEnt.av a1.Ents, lst 8 GReceipt.av a1.Receipts, lst 9 GSale.av a1.Sales, lst 6 GTransit.av a1.Transits, int a1.Done]]⟩ sh24 ?_
  refine tr tbk 2 (.mk ?_)
  refine c_drawE [0, 1, 3, 0, 8, 0, 32, 96, 0, 256, 992, 2016, 4064, 8191, 16383] (rl [(0, [1]), (1, [1]), (2, [1]), (3, [2]), (4, [2]), (5, [1]), (6, [1]), (7, [1]), (8, [2]), (9, [2]), (10, [4]), (11, [4]), (13, [4])] []) (rl [(12, [1, 2]), (14, [])] [1, 2, 4]) (rl [(12, false), (14, false)] true) [0, 1, 2, 3, 4, 5, 6, 7, 8, 9, 10, 11, 12, 13, 14] mixed (by kernel_rfl) ?_; intro K hK
  refine eF fo32_0 ?_
  refine eF fo26_4 ?_
  refine eL sh24 ?_
  refine eF fo38_1 ?_
  refine eL sh3 ?_
  refine eF fo32_0 ?_
  refine eF fo26_4 ?_
  refine eL sh24 ?_
  refine eF fo38_1 ?_
  refine eL sh3 ?_
  obtain ⟨x11, e11, h0⟩ := bind_e h0
  refine de_pure rfl rfl rfl rfl (fun H hH => yv_ixO rfl Tryz.underlying24 sh23 rfl rfl ((hH _ (by decide)).trans rfl) rfl rfl (Eq.symm rfl) (List.length_map _) e11) ?_
  refine eL sh23 (hr := ix_get e11) ?_
  obtain ⟨p12, h0⟩ := asrt_e h0
  refine de_eff rfl rfl rfl rfl (yl_call rfl rfl (.cons rfl .nil) cal120 (pc_cv (clone120_c (id := 5) (l := x11) rfl p12) (.cons (.refl _) .nil))) (by rintro _ _ ⟨v13, rfl, rfl⟩; exact ⟨rfl, rfl, trivial⟩) ?_; rintro _ _ ⟨v13, rfl, rfl⟩
  refine de_pure rfl rfl rfl rfl (fun H hH => yv_ixO rfl Tryz.underlying24 sh23 rfl rfl ((hH _ (by decide)).trans rfl) rfl rfl (Eq.symm rfl) (List.length_map _) e11) ?_
  refine de_eff0 rfl rfl rfl rfl (Yield.weak (yl_ob (ob' := (⟨23, 1, true, true, v10, (a1.Master.Costs.map (fL 1 fI)).set (Int.toNat a2.E) [.sl 5 v13 0 x11.length]⟩ : AObj)) (yl_store rfl sh23 rfl rfl rfl rfl rfl (ix_get e11) rfl rfl rfl) (ob_eq rfl)) (fun _ h => h) (fun _ _ => trivial)) (by rintro _ _ ⟨rfl, rfl⟩; exact trivial) ?_; rintro _ _ ⟨rfl, rfl⟩
  refine de_nil (hK _ ?_)
  refine tc tbk 1 (.mk ?_)
  refine c_drawE [0, 1, 3, 0, 8, 31, 63, 0, 128, 0, 512, 2047, 4095] (rl [(0, [1]), (1, [1]), (2, [1]), (3, [2]), (4, [2]), (5, [4]), (6, [4]), (7, [2]), (8, [2]), (9, [2]), (10, [2]), (11, [5])] []) (rl [(12, [])] [1, 2, 4, 5]) (rl [(12, false)] true) [0, 1, 2, 3, 4, 5, 6, 7, 8, 9, 10, 11, 12] mixed (by kernel_rfl) ?_; intro K hK
  refine eF fo32_0 ?_
  refine eF fo26_4 ?_
  refine eL sh24 ?_
  refine eF fo38_1 ?_
  refine eL sh3 ?_
  refine de_pure rfl rfl rfl rfl (fun H hH => yv_ixO rfl Tryz.underlying24 sh23 rfl rfl ((hH _ (by decide)).trans rfl) rfl rfl (Eq.symm rfl) len_ov e11) ?_
  refine eL sh23 (hr := set_get e11) ?_
  refine eF fo38_2 ?_
  refine eL sh3 ?_
  refine eF fo38_6 ?_
  refine eL sh3 ?_
  obtain ⟨x14, e14, h0⟩ := bind_e h0
  refine de_pure rfl rfl rfl rfl (fun H hH => yv_ixO rfl Tryz.underlying23 sh3 rfl rfl ((hH _ (by decide)).trans rfl) rfl rfl (Eq.symm rfl) (List.length_map _) e14) ?_
  obtain ⟨x15, e15, h0⟩ := bnd_e h0
  have fx15 := ix_set e14 e15; have lx15 := len_setV e15 (rfl : x11.length = x11.length)
  refine de_eff0 rfl rfl rfl rfl (Yield.weak (yl_ob (ob' := (⟨3, 1, true, true, v13, x15.map fI⟩ : AObj)) (yl_store rfl sh3 rfl rfl rfl rfl rfl (ix_get e14) rfl rfl rfl) (ob_eq (map_setV e15))) (fun _ h => h) (fun _ _ => trivial)) (by rintro _ _ ⟨rfl, rfl⟩; exact trivial) ?_; rintro _ _ ⟨rfl, rfl⟩
  refine de_nil (hK _ ?_)
  refine tc tbk 4 (.mk ?_)
  obtain ⟨p16, h0⟩ := asrt_e h0
  refine rse rfl rfl rfl (yl_call rfl rfl (.cons rfl .nil) cal121 (pc_cv (clone121_c (id := 6) (l := a1.Ents) rfl p16) (.cons (.refl _) .nil))) ?_; rintro _ _ ⟨v17, rfl, rfl⟩
  refine tr tbk 1 (.mk ?_)
  refine sS ⟨32, 10, true, true, v3, [[int a1.Master.Entities, int a1.Master.Periods, lst 1 fI a1.Master.Weights, lst 1 (fL 1 fI) a1.Master.Methods, .sl 4 v10 0 a1.Master.Costs.length, .sl 6 v17 0 a1.Ents.length, lst 8 GReceipt.av a1.Receipts, lst 9 GSale.av a1.Sales, lst 6 GTransit.av a1.Transits, int a1.Done]]⟩ sh27 ?_
  refine tr tbk 2 (.mk ?_)
  refine c_drawE [0, 1, 0, 4, 0, 16, 0, 64, 240, 496, 1008, 2032, 4095, 8191, 16383] (rl [(0, [1]), (1, [1]), (2, [2]), (3, [2]), (4, [1]), (5, [1]), (6, [2]), (7, [2]), (8, [6]), (9, [6]), (10, [6]), (12, [6]), (13, [6])] []) (rl [(11, [1, 2]), (14, [])] [1, 2, 6]) (rl [(11, false), (14, false)] true) [0, 1, 2, 3, 4, 5, 6, 7, 8, 9, 10, 11, 12, 13, 14] mixed (by kernel_rfl) ?_; intro K hK
  refine eF fo32_1 ?_
  refine eL sh27 ?_
  refine eF fo38_1 ?_
  refine eL sh3 ?_
  refine eF fo32_1 ?_
  refine eL sh27 ?_
  refine eF fo38_1 ?_
  refine eL sh3 ?_
  obtain ⟨x18, e18, h0⟩ := bind_e h0
  refine de_pure rfl rfl rfl rfl (fun H hH => yv_ixO rfl Tryz.underlying27 sh47 rfl rfl ((hH _ (by decide)).trans rfl) rfl rfl (Eq.symm rfl) (List.length_map _) e18) ?_
  refine eF fo47_2 (hr := ix_get' e18 (GEnt.av_eq _)) ?_
  refine eL sh44 (hr := ix_get' e18 (GEnt.av_eq _)) ?_
  obtain ⟨p19, h0⟩ := asrt_e h0
  refine de_eff rfl rfl rfl rfl (yl_call rfl rfl (.cons rfl .nil) cal98 (pc_cv (clone98_c (id := 7) (l := x18.Pools) rfl p19) (.cons (.refl _) .nil))) (by rintro _ _ ⟨v20, rfl, rfl⟩; exact ⟨rfl, rfl, trivial⟩) ?_; rintro _ _ ⟨v20, rfl, rfl⟩
  refine de_pure rfl rfl rfl rfl (fun H hH => yv_ixO rfl Tryz.underlying27 sh47 rfl rfl ((hH _ (by decide)).trans rfl) rfl rfl (Eq.symm rfl) (List.length_map _) e18) ?_
  refine eF fo47_2 (hr := ix_get' e18 (GEnt.av_eq _)) ?_
  refine de_eff0 rfl rfl rfl rfl (Yield.weak (yl_ob (ob' := (⟨47, 8, true, true, v17, (a1.Ents.map GEnt.av).set (Int.toNat a2.E) [int x18.Now, boo x18.Closed, .sl 7 v20 0 x18.Pools.length, lst 1 fI x18.Bal, lst 11 GRoll.av x18.Rolls, lst 1 fI x18.Prices, lst 1 fI x18.Down, lst 8 GEnt.av x18.Ahead]⟩ : AObj)) (yl_store rfl sh44 rfl rfl rfl rfl rfl (ix_get' e18 (GEnt.av_eq _)) rfl rfl rfl) (ob_eq rfl)) (fun _ h => h) (fun _ _ => trivial)) (by rintro _ _ ⟨rfl, rfl⟩; exact trivial) ?_; rintro _ _ ⟨rfl, rfl⟩
  refine de_nil (hK _ ?_)
  refine tc tbk 1 (.mk ?_)
  refine c_drawE [0, 1, 0, 4, 15, 31, 63, 0, 128, 384, 0, 1024, 3072, 7168, 16383, 32767] (rl [(0, [1]), (1, [1]), (2, [2]), (3, [2]), (4, [6]), (5, [6]), (6, [6]), (7, [2]), (8, [2]), (10, [2]), (11, [2]), (14, [7])] []) (fun i => [1, 2, 6, 7]) (fun i => true) [0, 1, 2, 3, 4, 5, 6, 7, 8, 9, 10, 11, 12, 13, 14, 15] mixed (by kernel_rfl) ?_; intro K hK
  refine eF fo32_1 ?_
  refine eL sh27 ?_
  refine eF fo38_1 ?_
  refine eL sh3 ?_
  refine de_pure rfl rfl rfl rfl (fun H hH => yv_ixO rfl Tryz.underlying27 sh47 rfl rfl ((hH _ (by decide)).trans rfl) rfl rfl (Eq.symm rfl) len_ov e18) ?_
  refine eF fo47_2 (hr := set_get e18) ?_
  refine eL sh44 (hr := set_get e18) ?_
  refine eF fo38_2 ?_
  refine eL sh3 ?_
  obtain ⟨x21, e21, h0⟩ := bnd_e h0
  refine eP (fun H hH => yv_mul rfl rfl rfl e21) ?_
  refine eF fo38_2 ?_
  refine eL sh3 ?_
  obtain ⟨x22, e22, h0⟩ := bnd_e h0
  refine eP (fun H hH => yv_add rfl rfl rfl e22) ?_
  obtain ⟨x23, e23, h0⟩ := bnd_e h0
  refine eP (fun H hH => yv_mul rfl rfl rfl e23) ?_
  obtain ⟨p24, h0⟩ := asrt_e h0
  refine de_pure rfl rfl rfl rfl (fun H hH => yv_slO (len := x18.Pools.length) (i := x21.toNat) (j := x23.toNat) rfl Tryz.underlying44 sh42 rfl ((hH _ (by decide)).trans rfl) rfl rfl (.yes rfl (by first | omega | (dsimp only; omega) | (dsimp only at *; omega))) (.yes rfl (by first | omega | (dsimp only; omega) | (dsimp only at *; omega))) (by first | omega | (dsimp only; omega) | (dsimp only at *; omega)) (by first | omega | (dsimp only; omega) | (dsimp only at *; omega)) (.inl (by first | omega | (dsimp only; omega) | (dsimp only at *; omega)))) ?_
  refine eA ?_
  refine de_nil (hK _ ?_)
  refine tc tbk 8 (.mk ?_)
  refine sY (yv_len_sl rfl Tryz.underlying44 rfl (.sl rfl rfl)) ?_
  refine tr tbk 2 (.mk ?_)
  refine jnE h0 [2, 3, 4, 5] [1, 2, 3, 4, 5] (fun (a : Int × (List GPool)) (k : Unit) => [(7, int a.1)]) (fun a k => [(6, ⟨47, 8, true, true, v17, (a1.Ents.map GEnt.av).set (Int.toNat a2.E) [int x18.Now, boo x18.Closed, .sl 7 v20 0 a.2.length, lst 1 fI x18.Bal, lst 11 GRoll.av x18.Rolls, lst 1 fI x18.Prices, lst 1 fI x18.Down, lst 8 GEnt.av x18.Ahead]⟩), (7, ⟨42, 4, true, true, v20, a.2.map GPool.av⟩)]) ⟨fun j25 h1 h0 => ?_, ?_⟩
  refine tc tbk 1 (.mk ?_)
  refine lp (fun n (a : Int × Int × (List GPool)) => d_adjust_revalue_L0 a1 a2 x15 x18 x21 x23 n a.1 a.2.1 a.2.2) ((0 : Int), (0 : Int), (x18.Pools : List GPool)) () h1 [2, 3, 4, 5, 6, 91, 92] [1, 2, 3, 4, 5] (fun (a : Int × Int × (List GPool)) (k : Unit) => [(7, int a.1), (93, int a.2.1)]) (fun a k => [(6, ⟨47, 8, true, true, v17, (a1.Ents.map GEnt.av).set (Int.toNat a2.E) [int x18.Now, boo x18.Closed, .sl 7 v20 0 a.2.2.length, lst 1 fI x18.Bal, lst 11 GRoll.av x18.Rolls, lst 1 fI x18.Prices, lst 1 fI x18.Down, lst 8 GEnt.av x18.Ahead]⟩), (7, ⟨42, 4, true, true, v20, a.2.2.map GPool.av⟩)]) (fun _ => rfl) ⟨leA, ?_⟩
  rintro n ⟨y0_1, y0_2, y0_3⟩ _ hm h1
  replace h1 : d_adjust_revalue_L0 a1 a2 x15 x18 x21 x23 (n + 1) y0_1 y0_2 y0_3 = some _ := h1
  rw [d_adjust_revalue_L0] at h1
  refine tc tbk 2 (.mk ?_)
  refine nb tbk h1 fun x26 h1 => ?_
  refine tr tbk 2 (.mk ?_)
  cases x26
  replace h1 := cf h1
  refine tc tbk 2 (.mk ?_)
  exact lfE h1 () leA
  replace h1 := ct h1
  refine tc tbk 7 (.mk ?_)
  obtain ⟨p27, h1⟩ := asrt_e h1
  obtain ⟨x28, e28, h1⟩ := bind_e h1
  refine sY (yv_ixW rfl Tryz.underlying44 sh42 rfl rfl rfl rfl rfl p27 (List.length_map _) e28) ?_
  refine sY (yv_load rfl sh42 rfl (.pt rfl rfl (ix_get e28)) rfl) ?_
  refine sA 8 z42 fun v29 => ?_
  refine tr tbk 1 (.mk ?_)
  refine sS ⟨42, 4, true, true, v29, [[lst 3 GLayer.av x28.Layers, int x28.Pend.a0, int x28.Pend.a1, int x28.Pend.a2]]⟩ sh42 ?_
  refine tr tbk 7 (.mk ?_)
  obtain ⟨x30, e30, h1⟩ := bind_e h1
  refine sC cal122 (d_stdcost_Revalue_c e30) ?_
  refine tr tbk 12 (.mk ?_)
  refine nb tbk h1 fun x31 h1 => ?_
  refine tr tbk 1 (.mk ?_)
  cases x31
  replace h1 := cf h1
  refine tc tbk 7 (.mk ?_)
  obtain ⟨p32, h1⟩ := asrt_e h1
  refine sY (yv_ixW rfl Tryz.underlying44 sh42 rfl rfl rfl rfl rfl p32 (List.length_map _) e28) ?_
  refine sY (yv_fieldAddr rfl fo42_0 rfl (.pt rfl rfl (ix_get e28)) (.pt _ _ _ _ _)) ?_
  obtain ⟨x33, e33, h1⟩ := bnd_e h1
  have fx33 := ix_set e28 e33; have lx33 := len_setV e33 (rfl : y0_3.length = y0_3.length)
  refine rsstore rfl rfl (yl_ob (ob' := (⟨42, 4, true, true, v20, x33.map GPool.av⟩ : AObj)) (yl_store rfl sh39 rfl rfl rfl rfl rfl (ix_get e28) rfl rfl rfl) (ob_eq (map_setV e33))) ?_
  refine tr tbk 4 (.mk ?_)
  refine ni tbk h1 fun x34 h1 => ?_
  refine tr tbk 4 (.mk ?_)
  refine ni tbk h1 fun x35 h1 => ?_
  refine tr tbk 2 (.mk ?_)
  exact bk (x34, x35, x33) () h1 (leH_kn ⟨⟨_, rfl, (.refl _)⟩, ⟨_, rfl, (.refl _)⟩, ⟨_, rfl, (.refl _)⟩, ⟨_, rfl, (.refl _)⟩, ⟨_, rfl, (.refl _)⟩, ⟨_, rfl, (.refl _)⟩, ⟨_, rfl, (.refl _)⟩, ⟨_, rfl, (.refl _)⟩, ⟨_, rfl, (.refl _)⟩, trivial⟩ ⟨⟨_, rfl, ⟨rfl, cvll_set (.cons (.refl _) (.cons (.refl _) (.cons (cv_slen (Eq.symm lx33)) (.cons (.refl _) (.cons (.refl _) (.cons (.refl _) (.cons (.refl _) (.cons (.refl _) .nil))))))))⟩⟩, ⟨_, rfl, (.refl _)⟩, ⟨_, rfl, (.refl _)⟩, ⟨_, rfl, (.refl _)⟩, ⟨_, rfl, (.refl _)⟩, ⟨_, rfl, (.refl _)⟩, ⟨_, rfl, (.refl _)⟩, trivial⟩)
  replace h1 := ct h1
  refine tc tbk 5 (.mk ?_)
  refine sS ⟨32, 10, true, true, v5, [[int a1.Master.Entities, int a1.Master.Periods, lst 1 fI a1.Master.Weights, lst 1 (fL 1 fI) a1.Master.Methods, .sl 4 v10 0 a1.Master.Costs.length, .sl 6 v17 0 a1.Ents.length, lst 8 GReceipt.av a1.Receipts, lst 9 GSale.av a1.Sales, lst 6 GTransit.av a1.Transits, int a1.Done]]⟩ sh32 ?_
  refine tr tbk 2 (.mk ?_)
  obtain ⟨c36, hX, hj⟩ := esc_e h1; subst hj; replace h0 := hX.trans (sel_r h0)
  obtain rfl := nxt_e h0
  refine wR hret (rC sh32 (rT .nil)) ?_
  exact CvL.tup (.cons (CvL.agg (.cons (.refl _) (.cons (.refl _) (.cons (.refl _) (.cons (.refl _) (.cons (cv_ov rfl rfl rfl rfl rfl (Eq.symm rfl) e11 (.cons (cv_lst rfl rfl rfl rfl rfl (Eq.symm lx15)) .nil)) (.cons (cv_ov rfl rfl rfl rfl rfl (Eq.symm rfl) e18 (cvl_to (.cons (.refl _) (.cons (.refl _) (.cons (cv_lst rfl rfl rfl rfl rfl (Eq.symm rfl)) (.cons (.refl _) (.cons (.refl _) (.cons (.refl _) (.cons (.refl _) (.cons (.refl _) .nil)))))))) (GEnt.av_eq _))) (.cons (.refl _) (.cons (.refl _) (.cons (.refl _) (.cons (.refl _) .nil))))))))))) (.cons (.refl _) .nil))
  rintro ⟨y1_1, y1_2⟩ _ h0
  replace h0 := p2_e h0
  refine tc tbk 1 (.mk ?_)
  refine c_drawE [0, 0, 0, 4, 0, 16, 0, 64, 240, 496, 1023, 2047, 2047, 8191, 16383] (rl [(0, [1]), (1, [2])] []) (rl [(10, []), (13, [])] [1, 2]) (rl [(10, false), (13, false)] true) [0, 1, 2, 3, 4, 5, 6, 7, 8, 9, 10, 11, 12, 13, 14] mixed (by kernel_rfl) ?_; intro K hK
  refine eL sh32 ?_
  refine eL sh38 ?_
  refine eM ?_
  refine eP (fun H hH => yv_build (cs := [int 0, int 0, int 0, int 0, int 0, int 0, int 0, int 0, int 0, int 0, int y1_1]) (ps := [(10, _)]) rfl pl54 z54 rfl (.cons rfl .nil) (by kernel_rfl)) ?_
  refine eM ?_
  obtain ⟨x37, e37, h0⟩ := bind_e h0
  refine eP (fun H hH => yv_callP rfl rfl (.cons rfl (.cons rfl .nil)) cal115 (CvL.refl _) (d_adjust_line_c e37)) ?_
  refine eM ?_
  obtain ⟨x38, e38, h0⟩ := bnd_e h0
  refine eP (fun H hH => yv_neg rfl rfl e38) ?_
  obtain ⟨x39, e39, h0⟩ := bind_e h0
  refine eP (fun H hH => yv_callP rfl rfl (.cons rfl (.cons rfl .nil)) cal115 (CvL.refl _) (d_adjust_line_c e39)) ?_
  refine eP (fun H hH => yv_to (y := lst 2 GLine.av ([x37, x39] : List GLine)) (yv_buildSlice (ps := [(0, _), (1, _)]) (rows := [[int x37.Account, int x37.Amount], [int x39.Account, int x39.Amount]]) rfl Tryz.underlying82 bz81 (.cons rfl (.cons rfl .nil)) (by kernel_rfl) rfl rfl rfl) rfl) ?_
  obtain ⟨x40, e40, h0⟩ := bind_e h0
  refine de_eff rfl rfl rfl rfl (Yield.frz 4 rfl (Yield.frz 5 rfl (Yield.frz 6 rfl (Yield.frz 7 rfl (Yield.weak (yv_callP rfl rfl (.cons rfl (.cons rfl (.cons rfl (.cons rfl .nil)))) cal114 (.cons (CvL.agg (.cons (.refl _) (.cons (.refl _) (.cons (.refl _) (.cons (.refl _) (.cons (cv_ov rfl rfl rfl rfl rfl (Eq.symm rfl) e11 (.cons (cv_lst rfl rfl rfl rfl rfl (Eq.symm lx15)) .nil)) (.cons (cv_ov rfl rfl rfl rfl rfl (Eq.symm rfl) e18 (cvl_to (.cons (.refl _) (.cons (.refl _) (.cons (cv_lst rfl rfl rfl rfl rfl (Eq.symm rfl)) (.cons (.refl _) (.cons (.refl _) (.cons (.refl _) (.cons (.refl _) (.cons (.refl _) .nil)))))))) (GEnt.av_eq _))) (.cons (.refl _) (.cons (.refl _) (.cons (.refl _) (.cons (.refl _) .nil))))))))))) (.cons (.refl _) (.cons (.refl _) (.cons (.refl _) .nil)))) (d_adjust_write_c e40)) (fun _ h => h) (fun _ h => h.elim)))))) (by rintro _ _ ⟨rfl, rfl⟩; exact trivial) ?_; rintro _ _ ⟨rfl, rfl⟩
  iterate 2 refine eX ?_
  refine de_eff0 rfl rfl rfl rfl (Yield.weak (yl_ob (ob' := (⟨32, 10, true, true, v5, [(GState.av x40.1)]⟩ : AObj)) (yl_store rfl sh32 rfl rfl rfl rfl rfl rfl rfl rfl rfl) rfl) (fun _ h => h) (fun _ _ => trivial)) (by rintro _ _ ⟨rfl, rfl⟩; exact trivial) ?_; rintro _ _ ⟨rfl, rfl⟩
  refine eA ?_
  refine de_nil (hK _ ?_)
  obtain rfl := nxt_e h0
  refine wR hret (rC sh32 (rT .nil)) ?_
  exact .refl _
  replace h0 := ct h0
  refine tc tbk 4 (.mk ?_)
  refine sS ⟨32, 10, true, true, v5, [(GState.av a1)]⟩ sh32 ?_
  refine tr tbk 2 (.mk ?_)
  obtain rfl := nxt_e h0
  refine wR hret (rC sh32 (rT .nil)) ?_
  exact .refl _
def d_ref04_SameInts_L0 (a1 : List Int) (a2 : List Int) : Nat → Int → Option ((Unit) ⊕ (Bool))
  | 0, _ => none
  | n + 1, y0_1 =>
    bnd (decide (y0_1 < (a1.length : Int))) fun x5 =>
    cond x5 ((ix a1 y0_1).bind fun x6 =>
    (ix a2 y0_1).bind fun x7 =>
    bnd (decide (x6 ≠ x7)) fun x8 =>
    cond x8 (esc (some ((false : Bool)))) (bnd (w64 (y0_1 + 1)) fun x9 =>
    d_ref04_SameInts_L0 a1 a2 n (x9 : Int))) (brk ())
def d_ref04_SameInts (n : Nat) (a1 : List Int) (a2 : List Int) : Option (Bool) :=
bnd (decide ((a1.length : Int) ≠ (a2.length : Int))) fun x3 =>
cond x3 (some ((false : Bool))) ((show Option ((Unit) ⊕ (Bool)) from
d_ref04_SameInts_L0 a1 a2 n (0 : Int)).bind <| sel <| fun _ =>
some ((true : Bool)))
theorem d_ref04_SameInts_c {n : Nat} {a1 : List Int} {a2 : List Int} {r : Bool} (h0 : d_ref04_SameInts n a1 a2 = some r) : PP Tryz.prog 123 [lst 1 fI a1, lst 1 fI a2] (fun y => y = boo r) := by
  unfold d_ref04_SameInts at h0
  refine pp_of_pc (R0 := fun y H => Cv (frzH H) y (boo r)) ?_ (fun y H hc => ⟨_, rfl, pvB r, hc⟩)
  refine pcw (c := _) Tryz.func123 rfl rfl ?_; intro Q hret hnorm
  refine tc tbk 8 (.mk ?_)
  refine sY (yv_len_sl rfl Tryz.underlying23 rfl (lst_len _)) ?_
  refine tr tbk 1 (.mk ?_)
  refine sY (yv_len_sl rfl Tryz.underlying23 rfl (lst_len _)) ?_
  refine nb tbk h0 fun x3 h0 => ?_
  refine tr tbk 1 (.mk ?_)
  cases x3
  replace h0 := cf h0
  refine tc tbk 7 (.mk ?_)
  refine jnE h0 [4] [] (fun (a : Unit) (k : Unit) => []) (fun a k => []) ⟨fun j4 h1 h0 => ?_, ?_⟩
  refine tc tbk 1 (.mk ?_)
  refine lp (fun n (a : Int) => d_ref04_SameInts_L0 a1 a2 n a) (0 : Int) () h1 [0, 1, 4] [] (fun (a : Int) (k : Unit) => [(5, int a)]) (fun a k => []) (fun _ => rfl) ⟨leA, ?_⟩
  rintro n y0_1 _ hm h1
  replace h1 : d_ref04_SameInts_L0 a1 a2 (n + 1) y0_1 = some _ := h1
  rw [d_ref04_SameInts_L0] at h1
  refine tc tbk 5 (.mk ?_)
  refine sY (yv_len_sl rfl Tryz.underlying23 rfl (lst_len _)) ?_
  refine nb tbk h1 fun x5 h1 => ?_
  refine tr tbk 1 (.mk ?_)
  cases x5
  replace h1 := cf h1
  refine tc tbk 2 (.mk ?_)
  exact lfE h1 () leA
  replace h1 := ct h1
  refine tc tbk 5 (.mk ?_)
  refine c_drawE [0, 0, 3, 7, 0, 0, 48, 112, 255] (fun i => []) (fun i => []) (fun i => true) [0, 1, 2, 3, 4, 5, 6, 7, 8] mixed (by kernel_rfl) ?_; intro K hK
  iterate 2 refine eM ?_
  obtain ⟨x6, e6, h1⟩ := bind_e h1
  refine eP (fun H hH => yv_ixT rfl Tryz.underlying23 sh3 rfl rfl e6) ?_
  refine eP (fun H hH => yv_load rfl sh3 rfl (.pp _) rfl) ?_
  iterate 2 refine eM ?_
  obtain ⟨x7, e7, h1⟩ := bind_e h1
  refine eP (fun H hH => yv_ixT rfl Tryz.underlying23 sh3 rfl rfl e7) ?_
  refine eP (fun H hH => yv_load rfl sh3 rfl (.pp _) rfl) ?_
  obtain ⟨x8, e8, h1⟩ := bnd_e h1
  refine eP (fun H hH => yv_to (y := boo x8) (yv_neq rfl rfl rfl) (congrArg boo e8)) ?_
  refine de_nil (hK _ ?_)
  cases x8
  replace h1 := cf h1
  refine tc tbk 5 (.mk ?_)
  refine ni tbk h1 fun x9 h1 => ?_
  refine tr tbk 2 (.mk ?_)
  exact bk x9 () h1 leA
  replace h1 := ct h1
  refine tc tbk 5 (.mk ?_)
  obtain ⟨c10, hX, hj⟩ := esc_e h1; subst hj; replace h0 := hX.trans (sel_r h0)
  obtain rfl := nxt_e h0
  refine wR hret (rT .nil) ?_
  exact .refl _
  rintro _ _ h0
  refine tc tbk 4 (.mk ?_)
  obtain rfl := nxt_e h0
  refine wR hret (rT .nil) ?_
  exact .refl _
  replace h0 := ct h0
  refine tc tbk 5 (.mk ?_)
  obtain rfl := nxt_e h0
  refine wR hret (rT .nil) ?_
  exact .refl _
def d_ref04_sameLists_L0 (a1 : List (List Int)) (a2 : List (List Int)) : Nat → Int → Option ((Unit) ⊕ (Bool))
  | 0, _ => none
  | n + 1, y0_1 =>
    bnd (decide (y0_1 < (a1.length : Int))) fun x5 =>
    cond x5 ((ix a1 y0_1).bind fun x6 =>
    (ix a2 y0_1).bind fun x7 =>
    (d_ref04_SameInts n x6 x7).bind fun x8 =>
    bnd (!x8) fun x9 =>
    cond x9 (esc (some ((false : Bool)))) (bnd (w64 (y0_1 + 1)) fun x10 =>
    d_ref04_sameLists_L0 a1 a2 n (x10 : Int))) (brk ())
def d_ref04_sameLists (n : Nat) (a1 : List (List Int)) (a2 : List (List Int)) : Option (Bool) :=
bnd (decide ((a1.length : Int) ≠ (a2.length : Int))) fun x3 =>
cond x3 (some ((false : Bool))) ((show Option ((Unit) ⊕ (Bool)) from
d_ref04_sameLists_L0 a1 a2 n (0 : Int)).bind <| sel <| fun _ =>
some ((true : Bool)))
theorem d_ref04_sameLists_c {n : Nat} {a1 : List (List Int)} {a2 : List (List Int)} {r : Bool} (h0 : d_ref04_sameLists n a1 a2 = some r) : PP Tryz.prog 124 [lst 1 (fL 1 fI) a1, lst 1 (fL 1 fI) a2] (fun y => y = boo r) := by
  unfold d_ref04_sameLists at h0
  refine pp_of_pc (R0 := fun y H => Cv (frzH H) y (boo r)) ?_ (fun y H hc => ⟨_, rfl, pvB r, hc⟩)
  refine pcw (c := _) Tryz.func124 rfl rfl ?_; intro Q hret hnorm
  refine tc tbk 8 (.mk ?_)
  refine sY (yv_len_sl rfl Tryz.underlying24 rfl (lst_len _)) ?_
  refine tr tbk 1 (.mk ?_)
  refine sY (yv_len_sl rfl Tryz.underlying24 rfl (lst_len _)) ?_
  refine nb tbk h0 fun x3 h0 => ?_
  refine tr tbk 1 (.mk ?_)
  cases x3
  replace h0 := cf h0
  refine tc tbk 7 (.mk ?_)
  refine jnE h0 [4] [] (fun (a : Unit) (k : Unit) => []) (fun a k => []) ⟨fun j4 h1 h0 => ?_, ?_⟩
  refine tc tbk 1 (.mk ?_)
  refine lp (fun n (a : Int) => d_ref04_sameLists_L0 a1 a2 n a) (0 : Int) () h1 [0, 1, 4] [] (fun (a : Int) (k : Unit) => [(5, int a)]) (fun a k => []) (fun _ => rfl) ⟨leA, ?_⟩
  rintro n y0_1 _ hm h1
  replace h1 : d_ref04_sameLists_L0 a1 a2 (n + 1) y0_1 = some _ := h1
  rw [d_ref04_sameLists_L0] at h1
  refine tc tbk 5 (.mk ?_)
  refine sY (yv_len_sl rfl Tryz.underlying24 rfl (lst_len _)) ?_
  refine nb tbk h1 fun x5 h1 => ?_
  refine tr tbk 1 (.mk ?_)
  cases x5
  replace h1 := cf h1
  refine tc tbk 2 (.mk ?_)
  exact lfE h1 () leA
  replace h1 := ct h1
  refine tc tbk 5 (.mk ?_)
  refine c_drawE [0, 0, 3, 7, 0, 0, 48, 112, 255, 511] (fun i => []) (fun i => []) (fun i => true) [0, 1, 2, 3, 4, 5, 6, 7, 8, 9] mixed (by kernel_rfl) ?_; intro K hK
  iterate 2 refine eM ?_
  obtain ⟨x6, e6, h1⟩ := bind_e h1
  refine eP (fun H hH => yv_ixT rfl Tryz.underlying24 sh23 rfl rfl e6) ?_
  refine eP (fun H hH => yv_load rfl sh23 rfl (.pp _) rfl) ?_
  iterate 2 refine eM ?_
  obtain ⟨x7, e7, h1⟩ := bind_e h1
  refine eP (fun H hH => yv_ixT rfl Tryz.underlying24 sh23 rfl rfl e7) ?_
  refine eP (fun H hH => yv_load rfl sh23 rfl (.pp _) rfl) ?_
  obtain ⟨x8, e8, h1⟩ := bind_e h1
  refine eP (fun H hH => yv_callP rfl rfl (.cons rfl (.cons rfl .nil)) cal123 (CvL.refl _) (d_ref04_SameInts_c e8)) ?_
  obtain ⟨x9, e9, h1⟩ := bnd_e h1
  refine eP (fun H hH => yv_not rfl rfl e9) ?_
  refine de_nil (hK _ ?_)
  cases x9
  replace h1 := cf h1
  refine tc tbk 5 (.mk ?_)
  refine ni tbk h1 fun x10 h1 => ?_
  refine tr tbk 2 (.mk ?_)
  exact bk x10 () h1 leA
  replace h1 := ct h1
  refine tc tbk 5 (.mk ?_)
  obtain ⟨c11, hX, hj⟩ := esc_e h1; subst hj; replace h0 := hX.trans (sel_r h0)
  obtain rfl := nxt_e h0
  refine wR hret (rT .nil) ?_
  exact .refl _
  rintro _ _ h0
  refine tc tbk 4 (.mk ?_)
  obtain rfl := nxt_e h0
  refine wR hret (rT .nil) ?_
  exact .refl _
  replace h0 := ct h0
  refine tc tbk 5 (.mk ?_)
  obtain rfl := nxt_e h0
  refine wR hret (rT .nil) ?_
  exact .refl _
def d_ref04_Same (n : Nat) (a1 : GMaster) (a2 : GMaster) : Option (Bool) :=
(show Option (Bool) from
bnd (decide (a1.Entities = a2.Entities)) fun x6 =>
cond x6 (bnd (decide (a1.Periods = a2.Periods)) fun x7 =>
cond x7 ((d_ref04_SameInts n a1.Weights a2.Weights).bind fun x8 =>
cond x8 ((d_ref04_sameLists n a1.Methods a2.Methods).bind fun x9 =>
cond x9 ((d_ref04_sameLists n a1.Costs a2.Costs).bind fun x10 =>
some (x10 : Bool)) (some (false : Bool))) (some (false : Bool))) (some (false : Bool))) (some (false : Bool))).bind <| fun y0_1 =>
some ((y0_1 : Bool))
theorem d_ref04_Same_c {n : Nat} {a1 : GMaster} {a2 : GMaster} {r : Bool} (h0 : d_ref04_Same n a1 a2 = some r) : PP Tryz.prog 68 [.agg (GMaster.av a1), .agg (GMaster.av a2)] (fun y => y = boo r) := by
  unfold d_ref04_Same at h0
  refine pp_of_pc (R0 := fun y H => Cv (frzH H) y (boo r)) ?_ (fun y H hc => ⟨_, rfl, pvB r, hc⟩)
  refine pcw (c := _) Tryz.func68 rfl rfl ?_; intro Q hret hnorm
  refine tc tbk 2 (.mk ?_)
  refine sB 1 fun v3 => ?_
  refine sB 2 fun v4 => ?_
  refine tr tbk 3 (.mk ?_)
  refine jn h0 [] [] (fun (a : Bool) (k : Unit) => [(4, boo a)]) (fun a k => []) ⟨fun j5 h1 => ?_, ?_⟩
  refine tc tbk 5 (.mk ?_)
  refine nb tbk h1 fun x6 h1 => ?_
  refine tr tbk 1 (.mk ?_)
  cases x6
  replace h1 := cf h1
  refine tr tbk 29 (.mk ?_)
  exact lf h1 () leA
  replace h1 := ct h1
  refine tr tbk 4 (.mk ?_)
  refine nb tbk h1 fun x7 h1 => ?_
  refine tr tbk 2 (.mk ?_)
  cases x7
  replace h1 := cf h1
  refine tr tbk 22 (.mk ?_)
  exact lf h1 () leA
  replace h1 := ct h1
  refine tr tbk 4 (.mk ?_)
  obtain ⟨x8, e8, h1⟩ := bind_e h1
  refine sC cal123 (d_ref04_SameInts_c e8) ?_
  refine tr tbk 2 (.mk ?_)
  cases x8
  replace h1 := cf h1
  refine tr tbk 15 (.mk ?_)
  exact lf h1 () leA
  replace h1 := ct h1
  refine tr tbk 4 (.mk ?_)
  obtain ⟨x9, e9, h1⟩ := bind_e h1
  refine sC cal124 (d_ref04_sameLists_c e9) ?_
  refine tr tbk 2 (.mk ?_)
  cases x9
  replace h1 := cf h1
  refine tr tbk 8 (.mk ?_)
  exact lf h1 () leA
  replace h1 := ct h1
  refine tr tbk 4 (.mk ?_)
  obtain ⟨x10, e10, h1⟩ := bind_e h1
  refine sC cal124 (d_ref04_sameLists_c e10) ?_
  refine tr tbk 3 (.mk ?_)
  exact lf h1 () leA
  rintro y0_1 _ h0
  obtain rfl := nxt_e h0
  refine wR hret (rT .nil) ?_
  exact .refl _
def d_ref14_samePapers_L0 (a1 : GState) (a2 : GState) : Nat → Int → Option ((Unit) ⊕ (Bool))
  | 0, _ => none
  | n + 1, y1_1 =>
    bnd (decide (y1_1 < (a1.Receipts.length : Int))) fun x10 =>
    cond x10 ((ix a1.Receipts y1_1).bind fun x11 =>
    (ix a2.Receipts y1_1).bind fun x12 =>
    bnd (!decide ((x11 : GReceipt) = (x12 : GReceipt))) fun x13 =>
    cond x13 (esc (some ((false : Bool)))) (bnd (w64 (y1_1 + 1)) fun x14 =>
    d_ref14_samePapers_L0 a1 a2 n (x14 : Int))) (brk ())
def d_ref14_samePapers_L1 (a1 : GState) (a2 : GState) : Nat → Int → Option ((Unit) ⊕ (Bool))
  | 0, _ => none
  | n + 1, y3_1 =>
    bnd (decide (y3_1 < (a1.Sales.length : Int))) fun x17 =>
    cond x17 ((ix a1.Sales y3_1).bind fun x18 =>
    (ix a2.Sales y3_1).bind fun x19 =>
    bnd (!decide ((x18 : GSale) = (x19 : GSale))) fun x20 =>
    cond x20 (esc (some ((false : Bool)))) (bnd (w64 (y3_1 + 1)) fun x21 =>
    d_ref14_samePapers_L1 a1 a2 n (x21 : Int))) (brk ())
def d_ref14_samePapers_L2 (a1 : GState) (a2 : GState) : Nat → Int → Option ((Unit) ⊕ (Bool))
  | 0, _ => none
  | n + 1, y5_1 =>
    bnd (decide (y5_1 < (a1.Transits.length : Int))) fun x24 =>
    cond x24 ((ix a1.Transits y5_1).bind fun x25 =>
    (ix a2.Transits y5_1).bind fun x26 =>
    bnd (!decide ((x25 : GTransit) = (x26 : GTransit))) fun x27 =>
    cond x27 (esc (some ((false : Bool)))) (bnd (w64 (y5_1 + 1)) fun x28 =>
    d_ref14_samePapers_L2 a1 a2 n (x28 : Int))) (brk ())
def d_ref14_samePapers (n : Nat) (a1 : GState) (a2 : GState) : Option (Bool) :=
(show Option (Bool) from
bnd (decide ((a1.Receipts.length : Int) ≠ (a2.Receipts.length : Int))) fun x6 =>
cond x6 (some (true : Bool)) (bnd (decide ((a1.Sales.length : Int) ≠ (a2.Sales.length : Int))) fun x7 =>
cond x7 (some (true : Bool)) (bnd (decide ((a1.Transits.length : Int) ≠ (a2.Transits.length : Int))) fun x8 =>
some (x8 : Bool)))).bind <| fun y0_1 =>
cond y0_1 (some ((false : Bool))) ((show Option ((Unit) ⊕ (Bool)) from
d_ref14_samePapers_L0 a1 a2 n (0 : Int)).bind <| sel <| fun _ =>
(show Option ((Unit) ⊕ (Bool)) from
d_ref14_samePapers_L1 a1 a2 n (0 : Int)).bind <| sel <| fun _ =>
(show Option ((Unit) ⊕ (Bool)) from
d_ref14_samePapers_L2 a1 a2 n (0 : Int)).bind <| sel <| fun _ =>
some ((true : Bool)))
theorem d_ref14_samePapers_c {n : Nat} {a1 : GState} {a2 : GState} {r : Bool} (h0 : d_ref14_samePapers n a1 a2 = some r) : PP Tryz.prog 69 [.agg (GState.av a1), .agg (GState.av a2)] (fun y => y = boo r) := by
  unfold d_ref14_samePapers at h0
  refine pp_of_pc (R0 := fun y H => Cv (frzH H) y (boo r)) ?_ (fun y H hc => ⟨_, rfl, pvB r, hc⟩)
  refine pcw (c := _) Tryz.func69 rfl rfl ?_; intro Q hret hnorm
  refine tc tbk 2 (.mk ?_)
  refine sB 1 fun v3 => ?_
  refine sB 2 fun v4 => ?_
  refine tr tbk 4 (.mk ?_)
  refine jn h0 [2, 3, 4] [1, 2] (fun (a : Bool) (k : Unit) => [(32, boo a)]) (fun a k => []) ⟨fun j5 h1 => ?_, ?_⟩
  refine tc tbk 3 (.mk ?_)
  refine sY (yv_len_sl rfl Tryz.underlying28 rfl (lst_len _)) ?_
  refine tr tbk 2 (.mk ?_)
  refine sY (yv_len_sl rfl Tryz.underlying28 rfl (lst_len _)) ?_
  refine nb tbk h1 fun x6 h1 => ?_
  refine tr tbk 1 (.mk ?_)
  cases x6
  replace h1 := cf h1
  refine tr tbk 2 (.mk ?_)
  refine sY (yv_len_sl rfl Tryz.underlying29 rfl (lst_len _)) ?_
  refine tr tbk 2 (.mk ?_)
  refine sY (yv_len_sl rfl Tryz.underlying29 rfl (lst_len _)) ?_
  refine nb tbk h1 fun x7 h1 => ?_
  refine tr tbk 2 (.mk ?_)
  cases x7
  replace h1 := cf h1
  refine tr tbk 2 (.mk ?_)
  refine sY (yv_len_sl rfl Tryz.underlying30 rfl (lst_len _)) ?_
  refine tr tbk 2 (.mk ?_)
  refine sY (yv_len_sl rfl Tryz.underlying30 rfl (lst_len _)) ?_
  refine nb tbk h1 fun x8 h1 => ?_
  refine tr tbk 2 (.mk ?_)
  exact lf h1 () leA
  replace h1 := ct h1
  refine tr tbk 9 (.mk ?_)
  exact lf h1 () leA
  replace h1 := ct h1
  refine tr tbk 18 (.mk ?_)
  exact lf h1 () leA
  rintro y0_1 _ h0
  cases y0_1
  replace h0 := cf h0
  refine tc tbk 7 (.mk ?_)
  refine jnE h0 [2, 3, 4] [1, 2] (fun (a : Unit) (k : Unit) => []) (fun a k => []) ⟨fun j9 h1 h0 => ?_, ?_⟩
  refine tc tbk 1 (.mk ?_)
  refine lp (fun n (a : Int) => d_ref14_samePapers_L0 a1 a2 n a) (0 : Int) () h1 [2, 3, 4] [1, 2] (fun (a : Int) (k : Unit) => [(5, int a)]) (fun a k => []) (fun _ => rfl) ⟨leA, ?_⟩
  rintro n y1_1 _ hm h1
  replace h1 : d_ref14_samePapers_L0 a1 a2 (n + 1) y1_1 = some _ := h1
  rw [d_ref14_samePapers_L0] at h1
  refine tc tbk 6 (.mk ?_)
  refine sY (yv_len_sl rfl Tryz.underlying28 rfl (lst_len _)) ?_
  refine nb tbk h1 fun x10 h1 => ?_
  refine tr tbk 1 (.mk ?_)
  cases x10
  replace h1 := cf h1
  refine tc tbk 2 (.mk ?_)
  exact lfE h1 () leA
  replace h1 := ct h1
  refine tc tbk 5 (.mk ?_)
  refine c_drawE [0, 1, 0, 7, 15, 0, 32, 0, 224, 480, 1023] (rl [(0, [1]), (1, [1]), (5, [2]), (6, [2])] []) (fun i => [1, 2]) (fun i => true) [0, 1, 2, 3, 4, 5, 6, 7, 8, 9, 10] mixed (by kernel_rfl) ?_; intro K hK
  refine eF fo32_2 ?_
  refine eL sh28 ?_
  refine eM ?_
  obtain ⟨x11, e11, h1⟩ := bind_e h1
  refine eP (fun H hH => yv_ixT rfl Tryz.underlying28 sh85 rfl rfl e11) ?_
  refine eP (fun H hH => yv_load rfl sh85 rfl (.pp _) rfl) ?_
  refine eF fo32_2 ?_
  refine eL sh28 ?_
  refine eM ?_
  obtain ⟨x12, e12, h1⟩ := bind_e h1
  refine eP (fun H hH => yv_ixT rfl Tryz.underlying28 sh85 rfl rfl e12) ?_
  refine eP (fun H hH => yv_load rfl sh85 rfl (.pp _) rfl) ?_
  obtain ⟨x13, e13, h1⟩ := bnd_e h1
  refine eP (fun H hH => yv_aneq (r' := x13) rfl fl85 rfl rfl (.cons (.int Tryz.underlying3) sh3 (.cons (.int Tryz.underlying3) sh3 (.cons (.int Tryz.underlying3) sh3 (.cons (.int Tryz.underlying3) sh3 (.cons (.int Tryz.underlying3) sh3 (.cons (.int Tryz.underlying3) sh3 (.cons (.int Tryz.underlying3) sh3 (.cons (.int Tryz.underlying3) sh3 (.nil _))))))))) ((congrArg Bool.not (GReceipt.eqv (x11 : GReceipt) (x12 : GReceipt))).trans e13)) ?_
  refine de_nil (hK _ ?_)
  cases x13
  replace h1 := cf h1
  refine tc tbk 5 (.mk ?_)
  refine ni tbk h1 fun x14 h1 => ?_
  refine tr tbk 2 (.mk ?_)
  exact bk x14 () h1 leA
  replace h1 := ct h1
  refine tc tbk 5 (.mk ?_)
  obtain ⟨c15, hX, hj⟩ := esc_e h1; subst hj; replace h0 := hX.trans (sel_r h0)
  obtain rfl := nxt_e h0
  refine wR hret (rT .nil) ?_
  exact .refl _
  rintro _ _ h0
  refine tc tbk 5 (.mk ?_)
  refine jnE h0 [2, 3, 4] [1, 2] (fun (a : Unit) (k : Unit) => []) (fun a k => []) ⟨fun j16 h1 h0 => ?_, ?_⟩
  refine tc tbk 1 (.mk ?_)
  refine lp (fun n (a : Int) => d_ref14_samePapers_L1 a1 a2 n a) (0 : Int) () h1 [2, 3, 4] [1, 2] (fun (a : Int) (k : Unit) => [(6, int a)]) (fun a k => []) (fun _ => rfl) ⟨leA, ?_⟩
  rintro n y3_1 _ hm h1
  replace h1 : d_ref14_samePapers_L1 a1 a2 (n + 1) y3_1 = some _ := h1
  rw [d_ref14_samePapers_L1] at h1
  refine tc tbk 6 (.mk ?_)
  refine sY (yv_len_sl rfl Tryz.underlying29 rfl (lst_len _)) ?_
  refine nb tbk h1 fun x17 h1 => ?_
  refine tr tbk 1 (.mk ?_)
  cases x17
  replace h1 := cf h1
  refine tc tbk 2 (.mk ?_)
  exact lfE h1 () leA
  replace h1 := ct h1
  refine tc tbk 5 (.mk ?_)
  refine c_drawE [0, 1, 0, 7, 15, 0, 32, 0, 224, 480, 1023] (rl [(0, [1]), (1, [1]), (5, [2]), (6, [2])] []) (fun i => [1, 2]) (fun i => true) [0, 1, 2, 3, 4, 5, 6, 7, 8, 9, 10] mixed (by kernel_rfl) ?_; intro K hK
  refine eF fo32_3 ?_
  refine eL sh29 ?_
  refine eM ?_
  obtain ⟨x18, e18, h1⟩ := bind_e h1
  refine eP (fun H hH => yv_ixT rfl Tryz.underlying29 sh105 rfl rfl e18) ?_
  refine eP (fun H hH => yv_load rfl sh105 rfl (.pp _) rfl) ?_
  refine eF fo32_3 ?_
  refine eL sh29 ?_
  refine eM ?_
  obtain ⟨x19, e19, h1⟩ := bind_e h1
  refine eP (fun H hH => yv_ixT rfl Tryz.underlying29 sh105 rfl rfl e19) ?_
  refine eP (fun H hH => yv_load rfl sh105 rfl (.pp _) rfl) ?_
  obtain ⟨x20, e20, h1⟩ := bnd_e h1
  refine eP (fun H hH => yv_aneq (r' := x20) rfl fl105 rfl rfl (.cons (.int Tryz.underlying3) sh3 (.cons (.int Tryz.underlying3) sh3 (.cons (.int Tryz.underlying3) sh3 (.cons (.int Tryz.underlying3) sh3 (.cons (.int Tryz.underlying3) sh3 (.cons (.int Tryz.underlying3) sh3 (.cons (.int Tryz.underlying3) sh3 (.cons (.int Tryz.underlying3) sh3 (.cons (.bool Tryz.underlying4) sh4 (.nil _)))))))))) ((congrArg Bool.not (GSale.eqv (x18 : GSale) (x19 : GSale))).trans e20)) ?_
  refine de_nil (hK _ ?_)
  cases x20
  replace h1 := cf h1
  refine tc tbk 5 (.mk ?_)
  refine ni tbk h1 fun x21 h1 => ?_
  refine tr tbk 2 (.mk ?_)
  exact bk x21 () h1 leA
  replace h1 := ct h1
  refine tc tbk 5 (.mk ?_)
  obtain ⟨c22, hX, hj⟩ := esc_e h1; subst hj; replace h0 := hX.trans (sel_r h0)
  obtain rfl := nxt_e h0
  refine wR hret (rT .nil) ?_
  exact .refl _
  rintro _ _ h0
  refine tc tbk 5 (.mk ?_)
  refine jnE h0 [4] [] (fun (a : Unit) (k : Unit) => []) (fun a k => []) ⟨fun j23 h1 h0 => ?_, ?_⟩
  refine tc tbk 1 (.mk ?_)
  refine lp (fun n (a : Int) => d_ref14_samePapers_L2 a1 a2 n a) (0 : Int) () h1 [2, 3, 4] [1, 2] (fun (a : Int) (k : Unit) => [(7, int a)]) (fun a k => []) (fun _ => rfl) ⟨leA, ?_⟩
  rintro n y5_1 _ hm h1
  replace h1 : d_ref14_samePapers_L2 a1 a2 (n + 1) y5_1 = some _ := h1
  rw [d_ref14_samePapers_L2] at h1
  refine tc tbk 6 (.mk ?_)
  refine sY (yv_len_sl rfl Tryz.underlying30 rfl (lst_len _)) ?_
  refine nb tbk h1 fun x24 h1 => ?_
  refine tr tbk 1 (.mk ?_)
  cases x24
  replace h1 := cf h1
  refine tc tbk 2 (.mk ?_)
  exact lfE h1 () leA
  replace h1 := ct h1
  refine tc tbk 5 (.mk ?_)
  refine c_drawE [0, 1, 0, 7, 15, 0, 32, 0, 224, 480, 1023] (rl [(0, [1]), (1, [1]), (5, [2]), (6, [2])] []) (fun i => [1, 2]) (fun i => true) [0, 1, 2, 3, 4, 5, 6, 7, 8, 9, 10] mixed (by kernel_rfl) ?_; intro K hK
  refine eF fo32_4 ?_
  refine eL sh30 ?_
  refine eM ?_
  obtain ⟨x25, e25, h1⟩ := bind_e h1
  refine eP (fun H hH => yv_ixT rfl Tryz.underlying30 sh56 rfl rfl e25) ?_
  refine eP (fun H hH => yv_load rfl sh56 rfl (.pp _) rfl) ?_
  refine eF fo32_4 ?_
  refine eL sh30 ?_
  refine eM ?_
  obtain ⟨x26, e26, h1⟩ := bind_e h1
  refine eP (fun H hH => yv_ixT rfl Tryz.underlying30 sh56 rfl rfl e26) ?_
  refine eP (fun H hH => yv_load rfl sh56 rfl (.pp _) rfl) ?_
  obtain ⟨x27, e27, h1⟩ := bnd_e h1
  refine eP (fun H hH => yv_aneq (r' := x27) rfl fl56 rfl rfl (.cons (.int Tryz.underlying3) sh3 (.cons (.int Tryz.underlying3) sh3 (.cons (.int Tryz.underlying3) sh3 (.cons (.int Tryz.underlying3) sh3 (.cons (.int Tryz.underlying3) sh3 (.cons (.int Tryz.underlying3) sh3 (.nil _))))))) ((congrArg Bool.not (GTransit.eqv (x25 : GTransit) (x26 : GTransit))).trans e27)) ?_
  refine de_nil (hK _ ?_)
  cases x27
  replace h1 := cf h1
  refine tc tbk 5 (.mk ?_)
  refine ni tbk h1 fun x28 h1 => ?_
  refine tr tbk 2 (.mk ?_)
  exact bk x28 () h1 leA
  replace h1 := ct h1
  refine tc tbk 5 (.mk ?_)
  obtain ⟨c29, hX, hj⟩ := esc_e h1; subst hj; replace h0 := hX.trans (sel_r h0)
  obtain rfl := nxt_e h0
  refine wR hret (rT .nil) ?_
  exact .refl _
  rintro _ _ h0
  refine tc tbk 4 (.mk ?_)
  obtain rfl := nxt_e h0
  refine wR hret (rT .nil) ?_
  exact .refl _
  replace h0 := ct h0
  refine tc tbk 5 (.mk ?_)
  obtain rfl := nxt_e h0
  refine wR hret (rT .nil) ?_
  exact .refl _
def d_ref09_SameLayer (a1 : GLayer) (a2 : GLayer) : Option (Bool) :=
(show Option (Bool) from
bnd (decide (a1.Qty = a2.Qty)) fun x6 =>
cond x6 (bnd (decide (a1.Value = a2.Value)) fun x7 =>
cond x7 (bnd (decide (a1.Profit = a2.Profit)) fun x8 =>
some (x8 : Bool)) (some (false : Bool))) (some (false : Bool))).bind <| fun y0_1 =>
some ((y0_1 : Bool))
theorem d_ref09_SameLayer_c {a1 : GLayer} {a2 : GLayer} {r : Bool} (h0 : d_ref09_SameLayer a1 a2 = some r) : PP Tryz.prog 203 [.agg (GLayer.av a1), .agg (GLayer.av a2)] (fun y => y = boo r) := by
  unfold d_ref09_SameLayer at h0
  refine pp_of_pc (R0 := fun y H => Cv (frzH H) y (boo r)) ?_ (fun y H hc => ⟨_, rfl, pvB r, hc⟩)
  refine pcw (c := _) Tryz.func203 rfl rfl ?_; intro Q hret hnorm
  refine tc tbk 2 (.mk ?_)
  refine sB 1 fun v3 => ?_
  refine sB 2 fun v4 => ?_
  refine tr tbk 3 (.mk ?_)
  refine jn h0 [] [] (fun (a : Bool) (k : Unit) => [(4, boo a)]) (fun a k => []) ⟨fun j5 h1 => ?_, ?_⟩
  refine tc tbk 5 (.mk ?_)
  refine nb tbk h1 fun x6 h1 => ?_
  refine tr tbk 1 (.mk ?_)
  cases x6
  replace h1 := cf h1
  refine tr tbk 15 (.mk ?_)
  exact lf h1 () leA
  replace h1 := ct h1
  refine tr tbk 4 (.mk ?_)
  refine nb tbk h1 fun x7 h1 => ?_
  refine tr tbk 2 (.mk ?_)
  cases x7
  replace h1 := cf h1
  refine tr tbk 8 (.mk ?_)
  exact lf h1 () leA
  replace h1 := ct h1
  refine tr tbk 4 (.mk ?_)
  refine nb tbk h1 fun x8 h1 => ?_
  refine tr tbk 3 (.mk ?_)
  exact lf h1 () leA
  rintro y0_1 _ h0
  obtain rfl := nxt_e h0
  refine wR hret (rT .nil) ?_
  exact .refl _
def d_ref09_Same_L0 (a1 : List GLayer) (a2 : List GLayer) : Nat → Int → Option ((Unit) ⊕ (Bool))
  | 0, _ => none
  | n + 1, y0_1 =>
    bnd (decide (y0_1 < (a1.length : Int))) fun x5 =>
    cond x5 ((ix a1 y0_1).bind fun x6 =>
    (ix a2 y0_1).bind fun x7 =>
    (d_ref09_SameLayer x6 x7).bind fun x8 =>
    bnd (!x8) fun x9 =>
    cond x9 (esc (some ((false : Bool)))) (bnd (w64 (y0_1 + 1)) fun x10 =>
    d_ref09_Same_L0 a1 a2 n (x10 : Int))) (brk ())
def d_ref09_Same (n : Nat) (a1 : List GLayer) (a2 : List GLayer) : Option (Bool) :=
bnd (decide ((a1.length : Int) ≠ (a2.length : Int))) fun x3 =>
cond x3 (some ((false : Bool))) ((show Option ((Unit) ⊕ (Bool)) from
d_ref09_Same_L0 a1 a2 n (0 : Int)).bind <| sel <| fun _ =>
some ((true : Bool)))
theorem d_ref09_Same_c {n : Nat} {a1 : List GLayer} {a2 : List GLayer} {r : Bool} (h0 : d_ref09_Same n a1 a2 = some r) : PP Tryz.prog 177 [lst 3 GLayer.av a1, lst 3 GLayer.av a2] (fun y => y = boo r) := by
  unfold d_ref09_Same at h0
  refine pp_of_pc (R0 := fun y H => Cv (frzH H) y (boo r)) ?_ (fun y H hc => ⟨_, rfl, pvB r, hc⟩)
  refine pcw (c := _) Tryz.func177 rfl rfl ?_; intro Q hret hnorm
  refine tc tbk 8 (.mk ?_)
  refine sY (yv_len_sl rfl Tryz.underlying39 rfl (lst_len _)) ?_
  refine tr tbk 1 (.mk ?_)
  refine sY (yv_len_sl rfl Tryz.underlying39 rfl (lst_len _)) ?_
  refine nb tbk h0 fun x3 h0 => ?_
  refine tr tbk 1 (.mk ?_)
  cases x3
  replace h0 := cf h0
  refine tc tbk 7 (.mk ?_)
  refine jnE h0 [4] [] (fun (a : Unit) (k : Unit) => []) (fun a k => []) ⟨fun j4 h1 h0 => ?_, ?_⟩
  refine tc tbk 1 (.mk ?_)
  refine lp (fun n (a : Int) => d_ref09_Same_L0 a1 a2 n a) (0 : Int) () h1 [0, 1, 4] [] (fun (a : Int) (k : Unit) => [(5, int a)]) (fun a k => []) (fun _ => rfl) ⟨leA, ?_⟩
  rintro n y0_1 _ hm h1
  replace h1 : d_ref09_Same_L0 a1 a2 (n + 1) y0_1 = some _ := h1
  rw [d_ref09_Same_L0] at h1
  refine tc tbk 5 (.mk ?_)
  refine sY (yv_len_sl rfl Tryz.underlying39 rfl (lst_len _)) ?_
  refine nb tbk h1 fun x5 h1 => ?_
  refine tr tbk 1 (.mk ?_)
  cases x5
  replace h1 := cf h1
  refine tc tbk 2 (.mk ?_)
  exact lfE h1 () leA
  replace h1 := ct h1
  refine tc tbk 5 (.mk ?_)
  refine c_drawE [0, 0, 3, 7, 0, 0, 48, 112, 255, 511] (fun i => []) (fun i => []) (fun i => true) [0, 1, 2, 3, 4, 5, 6, 7, 8, 9] mixed (by kernel_rfl) ?_; intro K hK
  iterate 2 refine eM ?_
  obtain ⟨x6, e6, h1⟩ := bind_e h1
  refine eP (fun H hH => yv_ixT rfl Tryz.underlying39 sh50 rfl rfl e6) ?_
  refine eP (fun H hH => yv_load rfl sh50 rfl (.pp _) rfl) ?_
  iterate 2 refine eM ?_
  obtain ⟨x7, e7, h1⟩ := bind_e h1
  refine eP (fun H hH => yv_ixT rfl Tryz.underlying39 sh50 rfl rfl e7) ?_
  refine eP (fun H hH => yv_load rfl sh50 rfl (.pp _) rfl) ?_
  obtain ⟨x8, e8, h1⟩ := bind_e h1
  refine eP (fun H hH => yv_callP rfl rfl (.cons rfl (.cons rfl .nil)) cal203 (CvL.refl _) (d_ref09_SameLayer_c e8)) ?_
  obtain ⟨x9, e9, h1⟩ := bnd_e h1
  refine eP (fun H hH => yv_not rfl rfl e9) ?_
  refine de_nil (hK _ ?_)
  cases x9
  replace h1 := cf h1
  refine tc tbk 5 (.mk ?_)
  refine ni tbk h1 fun x10 h1 => ?_
  refine tr tbk 2 (.mk ?_)
  exact bk x10 () h1 leA
  replace h1 := ct h1
  refine tc tbk 5 (.mk ?_)
  obtain ⟨c11, hX, hj⟩ := esc_e h1; subst hj; replace h0 := hX.trans (sel_r h0)
  obtain rfl := nxt_e h0
  refine wR hret (rT .nil) ?_
  exact .refl _
  rintro _ _ h0
  refine tc tbk 4 (.mk ?_)
  obtain rfl := nxt_e h0
  refine wR hret (rT .nil) ?_
  exact .refl _
  replace h0 := ct h0
  refine tc tbk 5 (.mk ?_)
  obtain rfl := nxt_e h0
  refine wR hret (rT .nil) ?_
  exact .refl _
def d_ref11_Same (n : Nat) (a1 : GPool) (a2 : GPool) : Option (Bool) :=
(show Option (Bool) from
(d_ref09_Same n a1.Layers a2.Layers).bind fun x6 =>
cond x6 (bnd (decide (a1.Pend.a0 = a2.Pend.a0)) fun x7 =>
cond x7 (bnd (decide (a1.Pend.a1 = a2.Pend.a1)) fun x8 =>
cond x8 (bnd (decide (a1.Pend.a2 = a2.Pend.a2)) fun x9 =>
some (x9 : Bool)) (some (false : Bool))) (some (false : Bool))) (some (false : Bool))).bind <| fun y0_1 =>
some ((y0_1 : Bool))
theorem d_ref11_Same_c {n : Nat} {a1 : GPool} {a2 : GPool} {r : Bool} (h0 : d_ref11_Same n a1 a2 = some r) : PP Tryz.prog 125 [.agg (GPool.av a1), .agg (GPool.av a2)] (fun y => y = boo r) := by
  unfold d_ref11_Same at h0
  refine pp_of_pc (R0 := fun y H => Cv (frzH H) y (boo r)) ?_ (fun y H hc => ⟨_, rfl, pvB r, hc⟩)
  refine pcw (c := _) Tryz.func125 rfl rfl ?_; intro Q hret hnorm
  refine tc tbk 2 (.mk ?_)
  refine sB 1 fun v3 => ?_
  refine sB 2 fun v4 => ?_
  refine tr tbk 3 (.mk ?_)
  refine jn h0 [] [] (fun (a : Bool) (k : Unit) => [(4, boo a)]) (fun a k => []) ⟨fun j5 h1 => ?_, ?_⟩
  refine tc tbk 5 (.mk ?_)
  obtain ⟨x6, e6, h1⟩ := bind_e h1
  refine sC cal177 (d_ref09_Same_c e6) ?_
  refine tr tbk 1 (.mk ?_)
  cases x6
  replace h1 := cf h1
  refine tr tbk 28 (.mk ?_)
  exact lf h1 () leA
  replace h1 := ct h1
  refine tr tbk 1 (.mk ?_)
  refine sY (yv_to (y := .pt 1 v3 0 1) (yv_indexAddrA rfl Tryz.underlying40 sh3 rfl rfl rfl rfl rfl (by decide)) rfl) ?_
  refine tr tbk 2 (.mk ?_)
  refine sY (yv_to (y := .pt 2 v4 0 1) (yv_indexAddrA rfl Tryz.underlying40 sh3 rfl rfl rfl rfl rfl (by decide)) rfl) ?_
  refine tr tbk 1 (.mk ?_)
  refine nb tbk h1 fun x7 h1 => ?_
  refine tr tbk 2 (.mk ?_)
  cases x7
  replace h1 := cf h1
  refine tr tbk 19 (.mk ?_)
  exact lf h1 () leA
  replace h1 := ct h1
  refine tr tbk 1 (.mk ?_)
  refine sY (yv_to (y := .pt 1 v3 0 2) (yv_indexAddrA rfl Tryz.underlying40 sh3 rfl rfl rfl rfl rfl (by decide)) rfl) ?_
  refine tr tbk 2 (.mk ?_)
  refine sY (yv_to (y := .pt 2 v4 0 2) (yv_indexAddrA rfl Tryz.underlying40 sh3 rfl rfl rfl rfl rfl (by decide)) rfl) ?_
  refine tr tbk 1 (.mk ?_)
  refine nb tbk h1 fun x8 h1 => ?_
  refine tr tbk 2 (.mk ?_)
  cases x8
  replace h1 := cf h1
  refine tr tbk 10 (.mk ?_)
  exact lf h1 () leA
  replace h1 := ct h1
  refine tr tbk 1 (.mk ?_)
  refine sY (yv_to (y := .pt 1 v3 0 3) (yv_indexAddrA rfl Tryz.underlying40 sh3 rfl rfl rfl rfl rfl (by decide)) rfl) ?_
  refine tr tbk 2 (.mk ?_)
  refine sY (yv_to (y := .pt 2 v4 0 3) (yv_indexAddrA rfl Tryz.underlying40 sh3 rfl rfl rfl rfl rfl (by decide)) rfl) ?_
  refine tr tbk 1 (.mk ?_)
  refine nb tbk h1 fun x9 h1 => ?_
  refine tr tbk 3 (.mk ?_)
  exact lf h1 () leA
  rintro y0_1 _ h0
  obtain rfl := nxt_e h0
  refine wR hret (rT .nil) ?_
  exact .refl _
mutual
def d_ref14_sameEnt_L0 (a1 : GEnt) (a2 : GEnt) : Nat → Int → Option ((Unit) ⊕ (Bool))
  | 0, _ => none
  | n + 1, y1_1 =>
    bnd (decide (y1_1 < (a1.Pools.length : Int))) fun x12 =>
    cond x12 ((ix a1.Pools y1_1).bind fun x13 =>
    (ix a2.Pools y1_1).bind fun x14 =>
    (d_ref11_Same n x13 x14).bind fun x15 =>
    bnd (!x15) fun x16 =>
    cond x16 (esc (some ((false : Bool)))) (bnd (w64 (y1_1 + 1)) fun x17 =>
    d_ref14_sameEnt_L0 a1 a2 n (x17 : Int))) (brk ())
def d_ref14_sameEnt_L1 (a1 : GEnt) (a2 : GEnt) : Nat → Int → Option ((Unit) ⊕ (Bool))
  | 0, _ => none
  | n + 1, y3_1 =>
    bnd (decide (y3_1 < (a1.Rolls.length : Int))) fun x20 =>
    cond x20 ((ix a1.Rolls y3_1).bind fun x21 =>
    (d_ref14_Numbers x21).bind fun x22 =>
    (ix a2.Rolls y3_1).bind fun x23 =>
    (d_ref14_Numbers x23).bind fun x24 =>
    bnd (!decide ((x22 : A11_Int) = (x24 : A11_Int))) fun x25 =>
    cond x25 (esc (some ((false : Bool)))) (bnd (w64 (y3_1 + 1)) fun x26 =>
    d_ref14_sameEnt_L1 a1 a2 n (x26 : Int))) (brk ())
def d_ref14_sameEnt_L2 (a1 : GEnt) (a2 : GEnt) : Nat → Int → Option ((Unit) ⊕ (Bool))
  | 0, _ => none
  | n + 1, y5_1 =>
    bnd (decide (y5_1 < (a1.Ahead.length : Int))) fun x29 =>
    cond x29 ((ix a1.Ahead y5_1).bind fun x30 =>
    (ix a2.Ahead y5_1).bind fun x31 =>
    (d_ref14_sameEnt n x30 x31).bind fun x32 =>
    bnd (!x32) fun x33 =>
    cond x33 (esc (some ((false : Bool)))) (bnd (w64 (y5_1 + 1)) fun x34 =>
    d_ref14_sameEnt_L2 a1 a2 n (x34 : Int))) (brk ())
def d_ref14_sameEnt : Nat → GEnt → GEnt → Option (Bool)
  | 0, _, _ => none
  | n + 1, a1, a2 =>
    (show Option (Bool) from
    bnd (decide (a1.Now ≠ a2.Now)) fun x6 =>
    cond x6 (some (true : Bool)) (bnd (decide (a1.Closed ≠ a2.Closed)) fun x7 =>
    cond x7 (some (true : Bool)) (bnd (decide ((a1.Pools.length : Int) ≠ (a2.Pools.length : Int))) fun x8 =>
    cond x8 (some (true : Bool)) (bnd (decide ((a1.Rolls.length : Int) ≠ (a2.Rolls.length : Int))) fun x9 =>
    cond x9 (some (true : Bool)) (bnd (decide ((a1.Ahead.length : Int) ≠ (a2.Ahead.length : Int))) fun x10 =>
    some (x10 : Bool)))))).bind <| fun y0_1 =>
    cond y0_1 (some ((false : Bool))) ((show Option ((Unit) ⊕ (Bool)) from
    d_ref14_sameEnt_L0 a1 a2 n (0 : Int)).bind <| sel <| fun _ =>
    (show Option ((Unit) ⊕ (Bool)) from
    d_ref14_sameEnt_L1 a1 a2 n (0 : Int)).bind <| sel <| fun _ =>
    (show Option ((Unit) ⊕ (Bool)) from
    d_ref14_sameEnt_L2 a1 a2 n (0 : Int)).bind <| sel <| fun _ =>
    (show Option (Bool) from
    (d_ref04_SameInts n a1.Bal a2.Bal).bind fun x37 =>
    cond x37 ((d_ref04_SameInts n a1.Prices a2.Prices).bind fun x38 =>
    cond x38 ((d_ref04_SameInts n a1.Down a2.Down).bind fun x39 =>
    some (x39 : Bool)) (some (false : Bool))) (some (false : Bool))).bind <| fun y7_1 =>
    some ((y7_1 : Bool)))
end
theorem d_ref14_sameEnt_c {n : Nat} {a1 : GEnt} {a2 : GEnt} {r : Bool} (h0 : d_ref14_sameEnt n a1 a2 = some r) : PP Tryz.prog 70 [.agg [int a1.Now, boo a1.Closed, lst 4 GPool.av a1.Pools, lst 1 fI a1.Bal, lst 11 GRoll.av a1.Rolls, lst 1 fI a1.Prices, lst 1 fI a1.Down, lst 8 GEnt.av a1.Ahead], .agg [int a2.Now, boo a2.Closed, lst 4 GPool.av a2.Pools, lst 1 fI a2.Bal, lst 11 GRoll.av a2.Rolls, lst 1 fI a2.Prices, lst 1 fI a2.Down, lst 8 GEnt.av a2.Ahead]] (fun y => y = boo r) := by
  induction n using Nat.strongRecOn generalizing a1 a2 r with
  | ind n ih =>
    cases n with
    | zero => rw [d_ref14_sameEnt] at h0; cases h0
    | succ n =>
    have hN : n < n + 1 := Nat.lt_succ_self n
    rw [d_ref14_sameEnt] at h0
    refine pp_of_pc (R0 := fun y H => Cv (frzH H) y (boo r)) ?_ (fun y H hc => ⟨_, rfl, pvB r, hc⟩)
    refine pcw (c := _) Tryz.func70 rfl rfl ?_; intro Q hret hnorm
    refine tc tbk 2 (.mk ?_)
    refine sB 1 fun v3 => ?_
    refine sB 2 fun v4 => ?_
    refine tr tbk 4 (.mk ?_)
    refine jn h0 [2, 3, 4] [1, 2] (fun (a : Bool) (k : Unit) => [(46, boo a)]) (fun a k => []) ⟨fun j5 h1 => ?_, ?_⟩
    refine tc tbk 5 (.mk ?_)
    refine nb tbk h1 fun x6 h1 => ?_
    refine tr tbk 1 (.mk ?_)
    cases x6
    replace h1 := cf h1
    refine tr tbk 4 (.mk ?_)
    obtain ⟨x7, e7, h1⟩ := bnd_e h1
    refine sY (yv_to (y := boo x7) (yv_bneq rfl Tryz.underlying4 rfl rfl) (congrArg boo e7)) ?_
    refine tr tbk 2 (.mk ?_)
    cases x7
    replace h1 := cf h1
    refine tr tbk 2 (.mk ?_)
    refine sY (yv_len_sl rfl Tryz.underlying44 rfl (lst_len _)) ?_
    refine tr tbk 2 (.mk ?_)
    refine sY (yv_len_sl rfl Tryz.underlying44 rfl (lst_len _)) ?_
    refine nb tbk h1 fun x8 h1 => ?_
    refine tr tbk 2 (.mk ?_)
    cases x8
    replace h1 := cf h1
    refine tr tbk 2 (.mk ?_)
    refine sY (yv_len_sl rfl Tryz.underlying45 rfl (lst_len _)) ?_
    refine tr tbk 2 (.mk ?_)
    refine sY (yv_len_sl rfl Tryz.underlying45 rfl (lst_len _)) ?_
    refine nb tbk h1 fun x9 h1 => ?_
    refine tr tbk 2 (.mk ?_)
    cases x9
    replace h1 := cf h1
    refine tr tbk 2 (.mk ?_)
    refine sY (yv_len_sl rfl Tryz.underlying27 rfl (lst_len _)) ?_
    refine tr tbk 2 (.mk ?_)
    refine sY (yv_len_sl rfl Tryz.underlying27 rfl (lst_len _)) ?_
    refine nb tbk h1 fun x10 h1 => ?_
    refine tr tbk 2 (.mk ?_)
    exact lf h1 () leA
    replace h1 := ct h1
    refine tr tbk 9 (.mk ?_)
    exact lf h1 () leA
    replace h1 := ct h1
    refine tr tbk 18 (.mk ?_)
    exact lf h1 () leA
    replace h1 := ct h1
    refine tr tbk 27 (.mk ?_)
    exact lf h1 () leA
    replace h1 := ct h1
    refine tr tbk 34 (.mk ?_)
    exact lf h1 () leA
    rintro y0_1 _ h0
    cases y0_1
    replace h0 := cf h0
    refine tc tbk 7 (.mk ?_)
    refine jnE h0 [2, 3, 4] [1, 2] (fun (a : Unit) (k : Unit) => []) (fun a k => []) ⟨fun j11 h1 h0 => ?_, ?_⟩
    refine tc tbk 1 (.mk ?_)
    refine lp (fun n (a : Int) => d_ref14_sameEnt_L0 a1 a2 n a) (0 : Int) () h1 [2, 3, 4] [1, 2] (fun (a : Int) (k : Unit) => [(5, int a)]) (fun a k => []) (fun _ => rfl) ⟨leA, ?_⟩
    rintro n y1_1 _ hm h1
    replace h1 : d_ref14_sameEnt_L0 a1 a2 (n + 1) y1_1 = some _ := h1
    replace hN := Nat.lt_trans (Nat.lt_of_succ_le hm) hN
    rw [d_ref14_sameEnt_L0] at h1
    refine tc tbk 6 (.mk ?_)
    refine sY (yv_len_sl rfl Tryz.underlying44 rfl (lst_len _)) ?_
    refine nb tbk h1 fun x12 h1 => ?_
    refine tr tbk 1 (.mk ?_)
    cases x12
    replace h1 := cf h1
    refine tc tbk 2 (.mk ?_)
    exact lfE h1 () leA
    replace h1 := ct h1
    refine tc tbk 5 (.mk ?_)
    refine c_drawE [0, 1, 0, 7, 15, 0, 32, 0, 224, 480, 1023, 2047] (fun i => bif Nat.beq i 0 then ([1]) else bif Nat.beq i 1 then ([1]) else bif Nat.beq i 5 then ([2]) else bif Nat.beq i 6 then ([2]) else []) (fun i => [1, 2]) (fun i => true) [0, 1, 2, 3, 4, 5, 6, 7, 8, 9, 10, 11] mixed (by kernel_rfl) ?_; intro K hK
    refine de_pure rfl rfl rfl rfl (fun H hH => yv_fieldAddr rfl fo47_2 rfl (.pt ((hH _ (by decide)).trans rfl) rfl rfl) (.pt _ _ _ _ _)) ?_
    refine de_pure rfl rfl rfl rfl (fun H hH => yv_load rfl sh44 rfl (.pt ((hH _ (by decide)).trans rfl) rfl rfl) rfl) ?_
    refine de_pure rfl rfl rfl rfl (fun H hH => yv_move rfl rfl) ?_
    obtain ⟨x13, e13, h1⟩ := bind_e h1
    refine de_pure rfl rfl rfl rfl (fun H hH => yv_ixT rfl Tryz.underlying44 sh42 rfl rfl e13) ?_
    refine de_pure rfl rfl rfl rfl (fun H hH => yv_load rfl sh42 rfl (.pp _) rfl) ?_
    refine de_pure rfl rfl rfl rfl (fun H hH => yv_fieldAddr rfl fo47_2 rfl (.pt ((hH _ (by decide)).trans rfl) rfl rfl) (.pt _ _ _ _ _)) ?_
    refine de_pure rfl rfl rfl rfl (fun H hH => yv_load rfl sh44 rfl (.pt ((hH _ (by decide)).trans rfl) rfl rfl) rfl) ?_
    refine de_pure rfl rfl rfl rfl (fun H hH => yv_move rfl rfl) ?_
    obtain ⟨x14, e14, h1⟩ := bind_e h1
    refine de_pure rfl rfl rfl rfl (fun H hH => yv_ixT rfl Tryz.underlying44 sh42 rfl rfl e14) ?_
    refine de_pure rfl rfl rfl rfl (fun H hH => yv_load rfl sh42 rfl (.pp _) rfl) ?_
    obtain ⟨x15, e15, h1⟩ := bind_e h1
    refine de_pure rfl rfl rfl rfl (fun H hH => yv_callP rfl rfl (.cons rfl (.cons rfl .nil)) cal125 (CvL.refl _) (d_ref11_Same_c e15)) ?_
    obtain ⟨x16, e16, h1⟩ := bnd_e h1
    refine de_pure rfl rfl rfl rfl (fun H hH => yv_not rfl rfl e16) ?_
    refine de_nil (hK _ ?_)
    cases x16
    replace h1 := cf h1
    refine tc tbk 5 (.mk ?_)
    refine ni tbk h1 fun x17 h1 => ?_
    refine tr tbk 2 (.mk ?_)
    exact bk x17 () h1 leA
    replace h1 := ct h1
    refine tc tbk 5 (.mk ?_)
    obtain ⟨c18, hX, hj⟩ := esc_e h1; subst hj; replace h0 := hX.trans (sel_r h0)
    obtain rfl := nxt_e h0
    refine wR hret (rT .nil) ?_
    exact .refl _
    rintro _ _ h0
    refine tc tbk 5 (.mk ?_)
    refine jnE h0 [2, 3, 4] [1, 2] (fun (a : Unit) (k : Unit) => []) (fun a k => []) ⟨fun j19 h1 h0 => ?_, ?_⟩
    refine tc tbk 1 (.mk ?_)
    refine lp (fun n (a : Int) => d_ref14_sameEnt_L1 a1 a2 n a) (0 : Int) () h1 [2, 3, 4] [1, 2] (fun (a : Int) (k : Unit) => [(6, int a)]) (fun a k => []) (fun _ => rfl) ⟨leA, ?_⟩
    rintro n y3_1 _ hm h1
    replace h1 : d_ref14_sameEnt_L1 a1 a2 (n + 1) y3_1 = some _ := h1
    replace hN := Nat.lt_trans (Nat.lt_of_succ_le hm) hN
    rw [d_ref14_sameEnt_L1] at h1
    refine tc tbk 6 (.mk ?_)
    refine sY (yv_len_sl rfl Tryz.underlying45 rfl (lst_len _)) ?_
    refine nb tbk h1 fun x20 h1 => ?_
    refine tr tbk 1 (.mk ?_)
    cases x20
    replace h1 := cf h1
    refine tc tbk 2 (.mk ?_)
    exact lfE h1 () leA
    replace h1 := ct h1
    refine tc tbk 5 (.mk ?_)
    refine c_drawE [0, 1, 0, 7, 15, 31, 0, 64, 0, 448, 960, 2047, 4095] (fun i => bif Nat.beq i 0 then ([1]) else bif Nat.beq i 1 then ([1]) else bif Nat.beq i 6 then ([2]) else bif Nat.beq i 7 then ([2]) else []) (fun i => [1, 2]) (fun i => true) [0, 1, 2, 3, 4, 5, 6, 7, 8, 9, 10, 11, 12] mixed (by kernel_rfl) ?_; intro K hK
    refine de_pure rfl rfl rfl rfl (fun H hH => yv_fieldAddr rfl fo47_4 rfl (.pt ((hH _ (by decide)).trans rfl) rfl rfl) (.pt _ _ _ _ _)) ?_
    refine de_pure rfl rfl rfl rfl (fun H hH => yv_load rfl sh45 rfl (.pt ((hH _ (by decide)).trans rfl) rfl rfl) rfl) ?_
    refine de_pure rfl rfl rfl rfl (fun H hH => yv_move rfl rfl) ?_
    obtain ⟨x21, e21, h1⟩ := bind_e h1
    refine de_pure rfl rfl rfl rfl (fun H hH => yv_ixT rfl Tryz.underlying45 sh54 rfl rfl e21) ?_
    refine de_pure rfl rfl rfl rfl (fun H hH => yv_load rfl sh54 rfl (.pp _) rfl) ?_
    obtain ⟨x22, e22, h1⟩ := bind_e h1
    refine de_pure rfl rfl rfl rfl (fun H hH => yv_callP rfl rfl (.cons rfl .nil) cal79 (CvL.refl _) (d_ref14_Numbers_c e22)) ?_
    refine de_pure rfl rfl rfl rfl (fun H hH => yv_fieldAddr rfl fo47_4 rfl (.pt ((hH _ (by decide)).trans rfl) rfl rfl) (.pt _ _ _ _ _)) ?_
    refine de_pure rfl rfl rfl rfl (fun H hH => yv_load rfl sh45 rfl (.pt ((hH _ (by decide)).trans rfl) rfl rfl) rfl) ?_
    refine de_pure rfl rfl rfl rfl (fun H hH => yv_move rfl rfl) ?_
    obtain ⟨x23, e23, h1⟩ := bind_e h1
    refine de_pure rfl rfl rfl rfl (fun H hH => yv_ixT rfl Tryz.underlying45 sh54 rfl rfl e23) ?_
    refine de_pure rfl rfl rfl rfl (fun H hH => yv_load rfl sh54 rfl (.pp _) rfl) ?_
    obtain ⟨x24, e24, h1⟩ := bind_e h1
    refine de_pure rfl rfl rfl rfl (fun H hH => yv_callP rfl rfl (.cons rfl .nil) cal79 (CvL.refl _) (d_ref14_Numbers_c e24)) ?_
    obtain ⟨x25, e25, h1⟩ := bnd_e h1
    refine de_pure rfl rfl rfl rfl (fun H hH => yv_arneq (r' := x25) rfl Tryz.underlying119 sz3 c3 (by decide) rfl rfl (.cons (.int Tryz.underlying3) sh3 (.cons (.int Tryz.underlying3) sh3 (.cons (.int Tryz.underlying3) sh3 (.cons (.int Tryz.underlying3) sh3 (.cons (.int Tryz.underlying3) sh3 (.cons (.int Tryz.underlying3) sh3 (.cons (.int Tryz.underlying3) sh3 (.cons (.int Tryz.underlying3) sh3 (.cons (.int Tryz.underlying3) sh3 (.cons (.int Tryz.underlying3) sh3 (.cons (.int Tryz.underlying3) sh3 (.nil _)))))))))))) ((congrArg Bool.not (A11_Int.eqv (x22 : A11_Int) (x24 : A11_Int))).trans e25)) ?_
    refine de_nil (hK _ ?_)
    cases x25
    replace h1 := cf h1
    refine tc tbk 5 (.mk ?_)
    refine ni tbk h1 fun x26 h1 => ?_
    refine tr tbk 2 (.mk ?_)
    exact bk x26 () h1 leA
    replace h1 := ct h1
    refine tc tbk 5 (.mk ?_)
    obtain ⟨c27, hX, hj⟩ := esc_e h1; subst hj; replace h0 := hX.trans (sel_r h0)
    obtain rfl := nxt_e h0
    refine wR hret (rT .nil) ?_
    exact .refl _
    rintro _ _ h0
    refine tc tbk 5 (.mk ?_)
    refine jnE h0 [2, 3, 4] [1, 2] (fun (a : Unit) (k : Unit) => []) (fun a k => []) ⟨fun j28 h1 h0 => ?_, ?_⟩
    refine tc tbk 1 (.mk ?_)
    refine lp (fun n (a : Int) => d_ref14_sameEnt_L2 a1 a2 n a) (0 : Int) () h1 [2, 3, 4] [1, 2] (fun (a : Int) (k : Unit) => [(7, int a)]) (fun a k => []) (fun _ => rfl) ⟨leA, ?_⟩
    rintro n y5_1 _ hm h1
    replace h1 : d_ref14_sameEnt_L2 a1 a2 (n + 1) y5_1 = some _ := h1
    replace hN := Nat.lt_trans (Nat.lt_of_succ_le hm) hN
    rw [d_ref14_sameEnt_L2] at h1
    refine tc tbk 6 (.mk ?_)
    refine sY (yv_len_sl rfl Tryz.underlying27 rfl (lst_len _)) ?_
    refine nb tbk h1 fun x29 h1 => ?_
    refine tr tbk 1 (.mk ?_)
    cases x29
    replace h1 := cf h1
    refine tc tbk 2 (.mk ?_)
    exact lfE h1 () leA
    replace h1 := ct h1
    refine tc tbk 5 (.mk ?_)
    refine c_drawE [0, 1, 0, 7, 15, 0, 32, 0, 224, 480, 1023, 2047] (fun i => bif Nat.beq i 0 then ([1]) else bif Nat.beq i 1 then ([1]) else bif Nat.beq i 5 then ([2]) else bif Nat.beq i 6 then ([2]) else []) (fun i => [1, 2]) (fun i => true) [0, 1, 2, 3, 4, 5, 6, 7, 8, 9, 10, 11] mixed (by kernel_rfl) ?_; intro K hK
    refine de_pure rfl rfl rfl rfl (fun H hH => yv_fieldAddr rfl fo47_7 rfl (.pt ((hH _ (by decide)).trans rfl) rfl rfl) (.pt _ _ _ _ _)) ?_
    refine de_pure rfl rfl rfl rfl (fun H hH => yv_load rfl sh27 rfl (.pt ((hH _ (by decide)).trans rfl) rfl rfl) rfl) ?_
    refine de_pure rfl rfl rfl rfl (fun H hH => yv_move rfl rfl) ?_
    obtain ⟨x30, e30, h1⟩ := bind_e h1
    refine de_pure rfl rfl rfl rfl (fun H hH => yv_to (y := .pp [int x30.Now, boo x30.Closed, lst 4 GPool.av x30.Pools, lst 1 fI x30.Bal, lst 11 GRoll.av x30.Rolls, lst 1 fI x30.Prices, lst 1 fI x30.Down, lst 8 GEnt.av x30.Ahead]) (yv_ixT rfl Tryz.underlying27 sh47 rfl rfl e30) (congrArg AV.pp (GEnt.av_eq x30))) ?_
    refine de_pure rfl rfl rfl rfl (fun H hH => yv_load rfl sh47 rfl (.pp _) rfl) ?_
    refine de_pure rfl rfl rfl rfl (fun H hH => yv_fieldAddr rfl fo47_7 rfl (.pt ((hH _ (by decide)).trans rfl) rfl rfl) (.pt _ _ _ _ _)) ?_
    refine de_pure rfl rfl rfl rfl (fun H hH => yv_load rfl sh27 rfl (.pt ((hH _ (by decide)).trans rfl) rfl rfl) rfl) ?_
    refine de_pure rfl rfl rfl rfl (fun H hH => yv_move rfl rfl) ?_
    obtain ⟨x31, e31, h1⟩ := bind_e h1
    refine de_pure rfl rfl rfl rfl (fun H hH => yv_to (y := .pp [int x31.Now, boo x31.Closed, lst 4 GPool.av x31.Pools, lst 1 fI x31.Bal, lst 11 GRoll.av x31.Rolls, lst 1 fI x31.Prices, lst 1 fI x31.Down, lst 8 GEnt.av x31.Ahead]) (yv_ixT rfl Tryz.underlying27 sh47 rfl rfl e31) (congrArg AV.pp (GEnt.av_eq x31))) ?_
    refine de_pure rfl rfl rfl rfl (fun H hH => yv_load rfl sh47 rfl (.pp _) rfl) ?_
    obtain ⟨x32, e32, h1⟩ := bind_e h1
    refine de_pure rfl rfl rfl rfl (fun H hH => yv_callP rfl rfl (.cons rfl (.cons rfl .nil)) cal70 (CvL.refl _) (ih _ hN e32)) ?_
    obtain ⟨x33, e33, h1⟩ := bnd_e h1
    refine de_pure rfl rfl rfl rfl (fun H hH => yv_not rfl rfl e33) ?_
    refine de_nil (hK _ ?_)
    cases x33
    replace h1 := cf h1
    refine tc tbk 5 (.mk ?_)
    refine ni tbk h1 fun x34 h1 => ?_
    refine tr tbk 2 (.mk ?_)
    exact bk x34 () h1 leA
    replace h1 := ct h1
    refine tc tbk 5 (.mk ?_)
    obtain ⟨c35, hX, hj⟩ := esc_e h1; subst hj; replace h0 := hX.trans (sel_r h0)
    obtain rfl := nxt_e h0
    refine wR hret (rT .nil) ?_
    exact .refl _
    rintro _ _ h0
    refine tc tbk 1 (.mk ?_)
    refine jn h0 [] [] (fun (a : Bool) (k : Unit) => [(4, boo a)]) (fun a k => []) ⟨fun j36 h1 => ?_, ?_⟩
    refine tc tbk 5 (.mk ?_)
    obtain ⟨x37, e37, h1⟩ := bind_e h1
    refine sC cal123 (d_ref04_SameInts_c e37) ?_
    refine tr tbk 1 (.mk ?_)
    cases x37
    replace h1 := cf h1
    refine tr tbk 15 (.mk ?_)
    exact lf h1 () leA
    replace h1 := ct h1
    refine tr tbk 4 (.mk ?_)
    obtain ⟨x38, e38, h1⟩ := bind_e h1
    refine sC cal123 (d_ref04_SameInts_c e38) ?_
    refine tr tbk 2 (.mk ?_)
    cases x38
    replace h1 := cf h1
    refine tr tbk 8 (.mk ?_)
    exact lf h1 () leA
    replace h1 := ct h1
    refine tr tbk 4 (.mk ?_)
    obtain ⟨x39, e39, h1⟩ := bind_e h1
    refine sC cal123 (d_ref04_SameInts_c e39) ?_
    refine tr tbk 3 (.mk ?_)
    exact lf h1 () leA
    rintro y7_1 _ h0
    obtain rfl := nxt_e h0
    refine wR hret (rT .nil) ?_
    exact .refl _
    replace h0 := ct h0
    refine tc tbk 5 (.mk ?_)
    obtain rfl := nxt_e h0
    refine wR hret (rT .nil) ?_
    exact .refl _
def d_ref14_Same_L0 (a1 : GState) (a2 : GState) : Nat → Int → Option ((Unit) ⊕ (Bool))
  | 0, _ => none
  | n + 1, y1_1 =>
    bnd (decide (y1_1 < (a1.Ents.length : Int))) fun x13 =>
    cond x13 ((ix a1.Ents y1_1).bind fun x14 =>
    (ix a2.Ents y1_1).bind fun x15 =>
    (d_ref14_sameEnt n x14 x15).bind fun x16 =>
    bnd (!x16) fun x17 =>
    cond x17 (esc (some ((false : Bool)))) (bnd (w64 (y1_1 + 1)) fun x18 =>
    d_ref14_Same_L0 a1 a2 n (x18 : Int))) (brk ())
def d_ref14_Same (n : Nat) (a1 : GState) (a2 : GState) : Option (Bool) :=
(show Option (Bool) from
(d_ref04_Same n a1.Master a2.Master).bind fun x6 =>
bnd (!x6) fun x7 =>
cond x7 (some (true : Bool)) (bnd (decide ((a1.Ents.length : Int) ≠ (a2.Ents.length : Int))) fun x8 =>
cond x8 (some (true : Bool)) (bnd (decide (a1.Done ≠ a2.Done)) fun x9 =>
cond x9 (some (true : Bool)) ((d_ref14_samePapers n a1 a2).bind fun x10 =>
bnd (!x10) fun x11 =>
some (x11 : Bool))))).bind <| fun y0_1 =>
cond y0_1 (some ((false : Bool))) ((show Option ((Unit) ⊕ (Bool)) from
d_ref14_Same_L0 a1 a2 n (0 : Int)).bind <| sel <| fun _ =>
some ((true : Bool)))
theorem d_ref14_Same_c {n : Nat} {a1 : GState} {a2 : GState} {r : Bool} (h0 : d_ref14_Same n a1 a2 = some r) : PP Tryz.prog 34 [.agg (GState.av a1), .agg (GState.av a2)] (fun y => y = boo r) := by
  unfold d_ref14_Same at h0
  refine pp_of_pc (R0 := fun y H => Cv (frzH H) y (boo r)) ?_ (fun y H hc => ⟨_, rfl, pvB r, hc⟩)
  refine pcw (c := _) Tryz.func34 rfl rfl ?_; intro Q hret hnorm
  refine tc tbk 2 (.mk ?_)
  refine sB 1 fun v3 => ?_
  refine sB 2 fun v4 => ?_
  refine tr tbk 4 (.mk ?_)
  refine jn h0 [2, 3, 4] [1, 2] (fun (a : Bool) (k : Unit) => [(33, boo a)]) (fun a k => []) ⟨fun j5 h1 => ?_, ?_⟩
  refine tc tbk 5 (.mk ?_)
  obtain ⟨x6, e6, h1⟩ := bind_e h1
  refine sC cal68 (d_ref04_Same_c e6) ?_
  refine nb tbk h1 fun x7 h1 => ?_
  refine tr tbk 1 (.mk ?_)
  cases x7
  replace h1 := cf h1
  refine tr tbk 2 (.mk ?_)
  refine sY (yv_len_sl rfl Tryz.underlying27 rfl (lst_len _)) ?_
  refine tr tbk 2 (.mk ?_)
  refine sY (yv_len_sl rfl Tryz.underlying27 rfl (lst_len _)) ?_
  refine nb tbk h1 fun x8 h1 => ?_
  refine tr tbk 2 (.mk ?_)
  cases x8
  replace h1 := cf h1
  refine tr tbk 4 (.mk ?_)
  refine nb tbk h1 fun x9 h1 => ?_
  refine tr tbk 2 (.mk ?_)
  cases x9
  replace h1 := cf h1
  refine tr tbk 2 (.mk ?_)
  obtain ⟨x10, e10, h1⟩ := bind_e h1
  refine sC cal69 (d_ref14_samePapers_c e10) ?_
  refine nb tbk h1 fun x11 h1 => ?_
  refine tr tbk 2 (.mk ?_)
  exact lf h1 () leA
  replace h1 := ct h1
  refine tr tbk 6 (.mk ?_)
  exact lf h1 () leA
  replace h1 := ct h1
  refine tr tbk 13 (.mk ?_)
  exact lf h1 () leA
  replace h1 := ct h1
  refine tr tbk 22 (.mk ?_)
  exact lf h1 () leA
  rintro y0_1 _ h0
  cases y0_1
  replace h0 := cf h0
  refine tc tbk 7 (.mk ?_)
  refine jnE h0 [4] [] (fun (a : Unit) (k : Unit) => []) (fun a k => []) ⟨fun j12 h1 h0 => ?_, ?_⟩
  refine tc tbk 1 (.mk ?_)
  refine lp (fun n (a : Int) => d_ref14_Same_L0 a1 a2 n a) (0 : Int) () h1 [2, 3, 4] [1, 2] (fun (a : Int) (k : Unit) => [(5, int a)]) (fun a k => []) (fun _ => rfl) ⟨leA, ?_⟩
  rintro n y1_1 _ hm h1
  replace h1 : d_ref14_Same_L0 a1 a2 (n + 1) y1_1 = some _ := h1
  rw [d_ref14_Same_L0] at h1
  refine tc tbk 6 (.mk ?_)
  refine sY (yv_len_sl rfl Tryz.underlying27 rfl (lst_len _)) ?_
  refine nb tbk h1 fun x13 h1 => ?_
  refine tr tbk 1 (.mk ?_)
  cases x13
  replace h1 := cf h1
  refine tc tbk 2 (.mk ?_)
  exact lfE h1 () leA
  replace h1 := ct h1
  refine tc tbk 5 (.mk ?_)
  refine c_drawE [0, 1, 0, 7, 15, 0, 32, 0, 224, 480, 1023, 2047] (rl [(0, [1]), (1, [1]), (5, [2]), (6, [2])] []) (fun i => [1, 2]) (fun i => true) [0, 1, 2, 3, 4, 5, 6, 7, 8, 9, 10, 11] mixed (by kernel_rfl) ?_; intro K hK
  refine eF fo32_1 ?_
  refine eL sh27 ?_
  refine eM ?_
  obtain ⟨x14, e14, h1⟩ := bind_e h1
  refine eP (fun H hH => yv_to (y := .pp [int x14.Now, boo x14.Closed, lst 4 GPool.av x14.Pools, lst 1 fI x14.Bal, lst 11 GRoll.av x14.Rolls, lst 1 fI x14.Prices, lst 1 fI x14.Down, lst 8 GEnt.av x14.Ahead]) (yv_ixT rfl Tryz.underlying27 sh47 rfl rfl e14) (congrArg AV.pp (GEnt.av_eq x14))) ?_
  refine eP (fun H hH => yv_load rfl sh47 rfl (.pp _) rfl) ?_
  refine eF fo32_1 ?_
  refine eL sh27 ?_
  refine eM ?_
  obtain ⟨x15, e15, h1⟩ := bind_e h1
  refine eP (fun H hH => yv_to (y := .pp [int x15.Now, boo x15.Closed, lst 4 GPool.av x15.Pools, lst 1 fI x15.Bal, lst 11 GRoll.av x15.Rolls, lst 1 fI x15.Prices, lst 1 fI x15.Down, lst 8 GEnt.av x15.Ahead]) (yv_ixT rfl Tryz.underlying27 sh47 rfl rfl e15) (congrArg AV.pp (GEnt.av_eq x15))) ?_
  refine eP (fun H hH => yv_load rfl sh47 rfl (.pp _) rfl) ?_
  obtain ⟨x16, e16, h1⟩ := bind_e h1
  refine eP (fun H hH => yv_callP rfl rfl (.cons rfl (.cons rfl .nil)) cal70 (CvL.refl _) (d_ref14_sameEnt_c e16)) ?_
  obtain ⟨x17, e17, h1⟩ := bnd_e h1
  refine eP (fun H hH => yv_not rfl rfl e17) ?_
  refine de_nil (hK _ ?_)
  cases x17
  replace h1 := cf h1
  refine tc tbk 5 (.mk ?_)
  refine ni tbk h1 fun x18 h1 => ?_
  refine tr tbk 2 (.mk ?_)
  exact bk x18 () h1 leA
  replace h1 := ct h1
  refine tc tbk 5 (.mk ?_)
  obtain ⟨c19, hX, hj⟩ := esc_e h1; subst hj; replace h0 := hX.trans (sel_r h0)
  obtain rfl := nxt_e h0
  refine wR hret (rT .nil) ?_
  exact .refl _
  rintro _ _ h0
  refine tc tbk 4 (.mk ?_)
  obtain rfl := nxt_e h0
  refine wR hret (rT .nil) ?_
  exact .refl _
  replace h0 := ct h0
  refine tc tbk 5 (.mk ?_)
  obtain rfl := nxt_e h0
  refine wR hret (rT .nil) ?_
  exact .refl _
def d_law17_awake (n : Nat)  : Option (Bool) :=
(d_law17_stocked n 1 10 100).bind fun x1 =>
(show Option ((GState × Int)) from
(d_stock_Ready x1 0 1).bind fun x7 =>
bnd (decide (x7 ≠ 0)) fun x8 =>
cond x8 (some ((x1 : GState), (x7 : Int))) ((d_adjust_scrap n x1 (⟨6, 0, 1, 0, 0, 4, 0, 0, []⟩ : GOp)).bind fun x9 =>
bnd (decide (x9.2 ≠ 0)) fun x11 =>
cond x11 (some ((x1 : GState), (x9.2 : Int))) (some ((x9.1 : GState), (0 : Int))))).bind <| p2 fun (y0_1 : GState) (y0_2 : Int) =>
(show Option ((GState × Int)) from
(d_stock_Ready y0_1 0 1).bind fun x18 =>
bnd (decide (x18 ≠ 0)) fun x19 =>
cond x19 (some ((y0_1 : GState), (x18 : Int))) ((d_adjust_count n y0_1 (⟨7, 0, 1, 0, 0, 6, 0, 0, []⟩ : GOp)).bind fun x20 =>
bnd (decide (x20.2 ≠ 0)) fun x22 =>
cond x22 (some ((y0_1 : GState), (x20.2 : Int))) (some ((x20.1 : GState), (0 : Int))))).bind <| p2 fun (y1_1 : GState) (y1_2 : Int) =>
(show Option ((GState × Int)) from
(d_stock_Ready y0_1 0 1).bind fun x29 =>
bnd (decide (x29 ≠ 0)) fun x30 =>
cond x30 (some ((y0_1 : GState), (x29 : Int))) ((d_adjust_revalue n y0_1 (⟨9, 0, 1, 0, 0, 0, 6, 0, []⟩ : GOp)).bind fun x31 =>
bnd (decide (x31.2 ≠ 0)) fun x33 =>
cond x33 (some ((y0_1 : GState), (x31.2 : Int))) (some ((x31.1 : GState), (0 : Int))))).bind <| p2 fun (y2_1 : GState) (y2_2 : Int) =>
(show Option (Bool) from
bnd (decide (y0_2 = 0)) fun x36 =>
cond x36 (bnd (decide ((y0_1.Ents.length : Int) = 2)) fun x37 =>
cond x37 ((ix y0_1.Ents 0).bind fun x38 =>
(ix x38.Bal 7).bind fun x39 =>
bnd (decide (x39 = 40)) fun x40 =>
cond x40 (bnd (decide (y1_2 = 0)) fun x41 =>
cond x41 ((d_ref14_Same n y0_1 y1_1).bind fun x42 =>
cond x42 (bnd (decide (y2_2 = 12)) fun x43 =>
some (x43 : Bool)) (some (false : Bool))) (some (false : Bool))) (some (false : Bool))) (some (false : Bool))) (some (false : Bool))).bind <| fun y3_1 =>
some ((y3_1 : Bool))
theorem d_law17_awake_c {n : Nat}  {r : Bool} (h0 : d_law17_awake n  = some r) : PP Tryz.prog 14 [] (fun y => y = boo r) := by
  unfold d_law17_awake at h0
  refine pp_of_pc (R0 := fun y H => Cv (frzH H) y (boo r)) ?_ (fun y H hc => ⟨_, rfl, pvB r, hc⟩)
  refine pcw (c := _) Tryz.func14 rfl rfl ?_; intro Q hret hnorm
  refine tc tbk 6 (.mk ?_)
  obtain ⟨x1, e1, h0⟩ := bind_e h0
  refine sC cal12 (d_law17_stocked_c e1) ?_
  refine sY (yv_build (cs := [int 6, int 0, int 1, int 0, int 0, int 4, int 0, int 0, .sc (.slice none 0 0)]) (ps := [(0, _), (2, _), (5, _)]) rfl pl38 z38 rfl (.cons rfl (.cons rfl (.cons rfl .nil))) (by kernel_rfl)) ?_
  obtain ⟨j2, h1, h0⟩ := bind_e h0
  refine rse (Out := fun y H' => (∃ (a : GState × Int) (k : Unit), a = j2 ∧ y = .tup [.agg (GState.av a.1), int a.2] ∧ H' = hk [])) rfl rfl rfl (yl_call rfl rfl (.cons rfl (.cons rfl .nil)) cal11 ?_) ?_
  refine pcw (c := _) Tryz.func11 rfl rfl ?_; intro Q hret hnorm
  refine tc tbk 2 (.mk ?_)
  refine sB 1 fun v3 => ?_
  refine sB 2 fun v4 => ?_
  refine sA 3 z32 fun v5 => ?_
  refine tr tbk 3 (.mk ?_)
  refine c_drawE [0, 0, 2, 7, 15, 31, 31, 0, 191, 511] (rl [(1, [2]), (2, [2])] []) (rl [(8, [])] [2]) (rl [(7, false), (8, false)] true) [0, 1, 2, 3, 4, 5, 6, 7, 8, 9] mixed (by kernel_rfl) ?_; intro K hK
  refine eP (fun H hH => yv_callP rfl rfl .nil cal30 (CvL.refl _) map30_c) ?_
  refine eF fo38_0 ?_
  refine eL sh3 ?_
  refine eP (fun H hH => yv_lookup (j := 0) rfl Tryz.underlying72 Tryz.underlying3 rfl rfl rfl rfl) ?_
  refine eM ?_
  iterate 2 refine eX ?_
  refine de_eff rfl rfl rfl rfl (yl_alloc 4 .any rfl z70 rfl) (by rintro _ _ ⟨v6, -, rfl, rfl⟩; exact ⟨rfl, trivial⟩) ?_; rintro _ _ ⟨v6, -, rfl, rfl⟩
  refine de_eff0 rfl rfl rfl rfl (Yield.weak (yl_ob (ob' := (⟨70, 1, true, true, v6, [[.fn (.func 64) [] []]]⟩ : AObj)) (yl_store rfl sh70 rfl rfl rfl rfl rfl rfl rfl rfl rfl) rfl) (fun _ h => h) (fun _ _ => trivial)) (by rintro _ _ ⟨rfl, rfl⟩; exact trivial) ?_; rintro _ _ ⟨rfl, rfl⟩
  refine eA ?_
  refine de_nil (hK _ ?_)
  refine tc tbk 16 (.mk ?_)
  obtain ⟨x7, e7, h1⟩ := bind_e h1
  refine sC cal26 (d_stock_Ready_c e7) ?_
  refine tr tbk 5 (.mk ?_)
  refine nb tbk h1 fun x8 h1 => ?_
  refine tr tbk 1 (.mk ?_)
  cases x8
  replace h1 := cf h1
  refine tc tbk 8 (.mk ?_)
  obtain ⟨x9, e9, h1⟩ := bind_e h1
  refine sY (yv_callP rfl rfl (.cons rfl (.cons rfl .nil)) cal64 (.cons (.refl _) (.cons (CvL.agg (.cons (.refl _) (.cons (.refl _) (.cons (.refl _) (.cons (.refl _) (.cons (.refl _) (.cons (.refl _) (.cons (.refl _) (.cons (.refl _) (.cons (.nil _) .nil)))))))))) .nil)) (d_adjust_scrap_c e9)) ?_
  refine tr tbk 3 (.mk ?_)
  refine sA 5 z32 fun v10 => ?_
  refine sS ⟨32, 10, true, true, v10, [(GState.av x9.1)]⟩ sh32 ?_
  refine tr tbk 6 (.mk ?_)
  refine nb tbk h1 fun x11 h1 => ?_
  refine tr tbk 1 (.mk ?_)
  cases x11
  replace h1 := cf h1
  refine tc tbk 5 (.mk ?_)
  refine sS ⟨32, 10, true, true, v5, [(GState.av x9.1)]⟩ sh32 ?_
  refine tr tbk 2 (.mk ?_)
  obtain rfl := nxt_e h1
  refine w_ret (hret _ _ (hk []) (.cell rfl (.pt rfl rfl rfl) sh32 rfl (.tmp rfl .nil)) (fun _ _ h => nomatch h) ?_)
  exact ⟨(x9.1, 0), (), rfl, rfl, rfl⟩
  replace h1 := ct h1
  refine tc tbk 5 (.mk ?_)
  refine sS ⟨32, 10, true, true, v5, [(GState.av x1)]⟩ sh32 ?_
  refine tr tbk 2 (.mk ?_)
  obtain rfl := nxt_e h1
  refine w_ret (hret _ _ (hk []) (.cell rfl (.pt rfl rfl rfl) sh32 rfl (.tmp rfl .nil)) (fun _ _ h => nomatch h) ?_)
  exact ⟨(x1, x9.2), (), rfl, rfl, rfl⟩
  replace h1 := ct h1
  refine tc tbk 5 (.mk ?_)
  refine sS ⟨32, 10, true, true, v5, [(GState.av x1)]⟩ sh32 ?_
  refine tr tbk 2 (.mk ?_)
  obtain rfl := nxt_e h1
  refine w_ret (hret _ _ (hk []) (.cell rfl (.pt rfl rfl rfl) sh32 rfl (.tmp rfl .nil)) (fun _ _ h => nomatch h) ?_)
  exact ⟨(x1, x7), (), rfl, rfl, rfl⟩
  rintro y _ ⟨⟨y0_1, y0_2⟩, _, rfl, hc, rfl⟩
  replace h0 := p2_e h0
  subst hc
  refine tr tbk 3 (.mk ?_)
  refine sA 6 z32 fun v12 => ?_
  refine sS ⟨32, 10, true, true, v12, [(GState.av y0_1)]⟩ sh32 ?_
  refine tr tbk 5 (.mk ?_)
  refine sY (yv_build (cs := [int 7, int 0, int 1, int 0, int 0, int 6, int 0, int 0, .sc (.slice none 0 0)]) (ps := [(0, _), (2, _), (5, _)]) rfl pl38 z38 rfl (.cons rfl (.cons rfl (.cons rfl .nil))) (by kernel_rfl)) ?_
  obtain ⟨j13, h1, h0⟩ := bind_e h0
  refine rse (Out := fun y H' => (∃ (a : GState × Int) (k : Unit), a = j13 ∧ y = .tup [.agg (GState.av a.1), int a.2] ∧ H' = hk [(6, ⟨32, 10, true, true, v12, [(GState.av y0_1)]⟩)])) rfl rfl rfl (yl_call rfl rfl (.cons rfl (.cons rfl .nil)) cal11 ?_) ?_
  refine pcw (c := _) Tryz.func11 rfl rfl ?_; intro Q hret hnorm
  refine tc tbk 2 (.mk ?_)
  refine sB 7 fun v14 => ?_
  refine sB 8 fun v15 => ?_
  refine sA 9 z32 fun v16 => ?_
  refine tr tbk 3 (.mk ?_)
  refine c_drawE [0, 0, 2, 7, 15, 31, 31, 0, 191, 511] (rl [(1, [8]), (2, [8])] []) (rl [(8, [])] [8]) (rl [(7, false), (8, false)] true) [0, 1, 2, 3, 4, 5, 6, 7, 8, 9] mixed (by kernel_rfl) ?_; intro K hK
  refine eP (fun H hH => yv_callP rfl rfl .nil cal30 (CvL.refl _) map30_c) ?_
  refine eF fo38_0 ?_
  refine eL sh3 ?_
  refine eP (fun H hH => yv_lookup (j := 1) rfl Tryz.underlying72 Tryz.underlying3 rfl rfl rfl rfl) ?_
  refine eM ?_
  iterate 2 refine eX ?_
  refine de_eff rfl rfl rfl rfl (yl_alloc 10 .any rfl z70 rfl) (by rintro _ _ ⟨v17, -, rfl, rfl⟩; exact ⟨rfl, trivial⟩) ?_; rintro _ _ ⟨v17, -, rfl, rfl⟩
  refine de_eff0 rfl rfl rfl rfl (Yield.weak (yl_ob (ob' := (⟨70, 1, true, true, v17, [[.fn (.func 65) [] []]]⟩ : AObj)) (yl_store rfl sh70 rfl rfl rfl rfl rfl rfl rfl rfl rfl) rfl) (fun _ h => h) (fun _ _ => trivial)) (by rintro _ _ ⟨rfl, rfl⟩; exact trivial) ?_; rintro _ _ ⟨rfl, rfl⟩
  refine eA ?_
  refine de_nil (hK _ ?_)
  refine tc tbk 16 (.mk ?_)
  obtain ⟨x18, e18, h1⟩ := bind_e h1
  refine sC cal26 (d_stock_Ready_c e18) ?_
  refine tr tbk 5 (.mk ?_)
  refine nb tbk h1 fun x19 h1 => ?_
  refine tr tbk 1 (.mk ?_)
  cases x19
  replace h1 := cf h1
  refine tc tbk 8 (.mk ?_)
  obtain ⟨x20, e20, h1⟩ := bind_e h1
  refine sY (yv_callP rfl rfl (.cons rfl (.cons rfl .nil)) cal65 (.cons (.refl _) (.cons (CvL.agg (.cons (.refl _) (.cons (.refl _) (.cons (.refl _) (.cons (.refl _) (.cons (.refl _) (.cons (.refl _) (.cons (.refl _) (.cons (.refl _) (.cons (.nil _) .nil)))))))))) .nil)) (d_adjust_count_c e20)) ?_
  refine tr tbk 3 (.mk ?_)
  refine sA 11 z32 fun v21 => ?_
  refine sS ⟨32, 10, true, true, v21, [(GState.av x20.1)]⟩ sh32 ?_
  refine tr tbk 6 (.mk ?_)
  refine nb tbk h1 fun x22 h1 => ?_
  refine tr tbk 1 (.mk ?_)
  cases x22
  replace h1 := cf h1
  refine tc tbk 5 (.mk ?_)
  refine sS ⟨32, 10, true, true, v16, [(GState.av x20.1)]⟩ sh32 ?_
  refine tr tbk 2 (.mk ?_)
  obtain rfl := nxt_e h1
  refine w_ret (hret _ _ (hk [(6, ⟨32, 10, true, true, v12, [(GState.av y0_1)]⟩)]) (.cell rfl (.pt rfl rfl rfl) sh32 rfl (.tmp rfl .nil)) (HK.le ⟨rfl, trivial⟩) ?_)
  exact ⟨(x20.1, 0), (), rfl, rfl, rfl⟩
  replace h1 := ct h1
  refine tc tbk 5 (.mk ?_)
  refine sS ⟨32, 10, true, true, v16, [(GState.av y0_1)]⟩ sh32 ?_
  refine tr tbk 2 (.mk ?_)
  obtain rfl := nxt_e h1
  refine w_ret (hret _ _ (hk [(6, ⟨32, 10, true, true, v12, [(GState.av y0_1)]⟩)]) (.cell rfl (.pt rfl rfl rfl) sh32 rfl (.tmp rfl .nil)) (HK.le ⟨rfl, trivial⟩) ?_)
  exact ⟨(y0_1, x20.2), (), rfl, rfl, rfl⟩
  replace h1 := ct h1
  refine tc tbk 5 (.mk ?_)
  refine sS ⟨32, 10, true, true, v16, [(GState.av y0_1)]⟩ sh32 ?_
  refine tr tbk 2 (.mk ?_)
  obtain rfl := nxt_e h1
  refine w_ret (hret _ _ (hk [(6, ⟨32, 10, true, true, v12, [(GState.av y0_1)]⟩)]) (.cell rfl (.pt rfl rfl rfl) sh32 rfl (.tmp rfl .nil)) (HK.le ⟨rfl, trivial⟩) ?_)
  exact ⟨(y0_1, x18), (), rfl, rfl, rfl⟩
  rintro y _ ⟨⟨y1_1, y1_2⟩, _, rfl, hc, rfl⟩
  replace h0 := p2_e h0
  subst hc
  refine tr tbk 3 (.mk ?_)
  refine sA 12 z32 fun v23 => ?_
  refine sS ⟨32, 10, true, true, v23, [(GState.av y1_1)]⟩ sh32 ?_
  refine tr tbk 5 (.mk ?_)
  refine sY (yv_build (cs := [int 9, int 0, int 1, int 0, int 0, int 0, int 6, int 0, .sc (.slice none 0 0)]) (ps := [(0, _), (2, _), (6, _)]) rfl pl38 z38 rfl (.cons rfl (.cons rfl (.cons rfl .nil))) (by kernel_rfl)) ?_
  obtain ⟨j24, h1, h0⟩ := bind_e h0
  refine rse (Out := fun y H' => (∃ (a : GState × Int) (k : Unit), a = j24 ∧ y = .tup [.agg (GState.av a.1), int a.2] ∧ H' = hk [(6, ⟨32, 10, true, true, v12, [(GState.av y0_1)]⟩), (12, ⟨32, 10, true, true, v23, [(GState.av y1_1)]⟩)])) rfl rfl rfl (yl_call rfl rfl (.cons rfl (.cons rfl .nil)) cal11 ?_) ?_
  refine pcw (c := _) Tryz.func11 rfl rfl ?_; intro Q hret hnorm
  refine tc tbk 2 (.mk ?_)
  refine sB 13 fun v25 => ?_
  refine sB 14 fun v26 => ?_
  refine sA 15 z32 fun v27 => ?_
  refine tr tbk 3 (.mk ?_)
  refine c_drawE [0, 0, 2, 7, 15, 31, 31, 0, 191, 511] (rl [(1, [14]), (2, [14])] []) (rl [(8, [])] [14]) (rl [(7, false), (8, false)] true) [0, 1, 2, 3, 4, 5, 6, 7, 8, 9] mixed (by kernel_rfl) ?_; intro K hK
  refine eP (fun H hH => yv_callP rfl rfl .nil cal30 (CvL.refl _) map30_c) ?_
  refine eF fo38_0 ?_
  refine eL sh3 ?_
  refine eP (fun H hH => yv_lookup (j := 3) rfl Tryz.underlying72 Tryz.underlying3 rfl rfl rfl rfl) ?_
  refine eM ?_
  iterate 2 refine eX ?_
  refine de_eff rfl rfl rfl rfl (yl_alloc 16 .any rfl z70 rfl) (by rintro _ _ ⟨v28, -, rfl, rfl⟩; exact ⟨rfl, trivial⟩) ?_; rintro _ _ ⟨v28, -, rfl, rfl⟩
  refine de_eff0 rfl rfl rfl rfl (Yield.weak (yl_ob (ob' := (⟨70, 1, true, true, v28, [[.fn (.func 67) [] []]]⟩ : AObj)) (yl_store rfl sh70 rfl rfl rfl rfl rfl rfl rfl rfl rfl) rfl) (fun _ h => h) (fun _ _ => trivial)) (by rintro _ _ ⟨rfl, rfl⟩; exact trivial) ?_; rintro _ _ ⟨rfl, rfl⟩
  refine eA ?_
  refine de_nil (hK _ ?_)
  refine tc tbk 16 (.mk ?_)
  obtain ⟨x29, e29, h1⟩ := bind_e h1
  refine sC cal26 (d_stock_Ready_c e29) ?_
  refine tr tbk 5 (.mk ?_)
  refine nb tbk h1 fun x30 h1 => ?_
  refine tr tbk 1 (.mk ?_)
  cases x30
  replace h1 := cf h1
  refine tc tbk 8 (.mk ?_)
  obtain ⟨x31, e31, h1⟩ := bind_e h1
  refine sY (yv_callP rfl rfl (.cons rfl (.cons rfl .nil)) cal67 (.cons (.refl _) (.cons (CvL.agg (.cons (.refl _) (.cons (.refl _) (.cons (.refl _) (.cons (.refl _) (.cons (.refl _) (.cons (.refl _) (.cons (.refl _) (.cons (.refl _) (.cons (.nil _) .nil)))))))))) .nil)) (d_adjust_revalue_c e31)) ?_
  refine tr tbk 3 (.mk ?_)
  refine sA 17 z32 fun v32 => ?_
  refine sS ⟨32, 10, true, true, v32, [(GState.av x31.1)]⟩ sh32 ?_
  refine tr tbk 6 (.mk ?_)
  refine nb tbk h1 fun x33 h1 => ?_
  refine tr tbk 1 (.mk ?_)
  cases x33
  replace h1 := cf h1
  refine tc tbk 5 (.mk ?_)
  refine sS ⟨32, 10, true, true, v27, [(GState.av x31.1)]⟩ sh32 ?_
  refine tr tbk 2 (.mk ?_)
  obtain rfl := nxt_e h1
  refine w_ret (hret _ _ (hk [(6, ⟨32, 10, true, true, v12, [(GState.av y0_1)]⟩), (12, ⟨32, 10, true, true, v23, [(GState.av y1_1)]⟩)]) (.cell rfl (.pt rfl rfl rfl) sh32 rfl (.tmp rfl .nil)) (HK.le ⟨rfl, rfl, trivial⟩) ?_)
  exact ⟨(x31.1, 0), (), rfl, rfl, rfl⟩
  replace h1 := ct h1
  refine tc tbk 5 (.mk ?_)
  refine sS ⟨32, 10, true, true, v27, [(GState.av y0_1)]⟩ sh32 ?_
  refine tr tbk 2 (.mk ?_)
  obtain rfl := nxt_e h1
  refine w_ret (hret _ _ (hk [(6, ⟨32, 10, true, true, v12, [(GState.av y0_1)]⟩), (12, ⟨32, 10, true, true, v23, [(GState.av y1_1)]⟩)]) (.cell rfl (.pt rfl rfl rfl) sh32 rfl (.tmp rfl .nil)) (HK.le ⟨rfl, rfl, trivial⟩) ?_)
  exact ⟨(y0_1, x31.2), (), rfl, rfl, rfl⟩
  replace h1 := ct h1
  refine tc tbk 5 (.mk ?_)
  refine sS ⟨32, 10, true, true, v27, [(GState.av y0_1)]⟩ sh32 ?_
  refine tr tbk 2 (.mk ?_)
  obtain rfl := nxt_e h1
  refine w_ret (hret _ _ (hk [(6, ⟨32, 10, true, true, v12, [(GState.av y0_1)]⟩), (12, ⟨32, 10, true, true, v23, [(GState.av y1_1)]⟩)]) (.cell rfl (.pt rfl rfl rfl) sh32 rfl (.tmp rfl .nil)) (HK.le ⟨rfl, rfl, trivial⟩) ?_)
  exact ⟨(y0_1, x29), (), rfl, rfl, rfl⟩
  rintro y _ ⟨⟨y2_1, y2_2⟩, _, rfl, hc, rfl⟩
  replace h0 := p2_e h0
  subst hc
  refine tr tbk 3 (.mk ?_)
  refine sA 18 z32 fun v34 => ?_
  refine sS ⟨32, 10, true, true, v34, [(GState.av y2_1)]⟩ sh32 ?_
  refine tr tbk 3 (.mk ?_)
  refine jn h0 [] [] (fun (a : Bool) (k : Unit) => [(0, boo a)]) (fun a k => []) ⟨fun j35 h1 => ?_, ?_⟩
  refine tc tbk 2 (.mk ?_)
  refine nb tbk h1 fun x36 h1 => ?_
  refine tr tbk 1 (.mk ?_)
  cases x36
  replace h1 := cf h1
  refine tr tbk 30 (.mk ?_)
  exact lf h1 () leA
  replace h1 := ct h1
  refine tr tbk 2 (.mk ?_)
  refine sY (yv_len_sl rfl Tryz.underlying27 rfl (lst_len _)) ?_
  refine nb tbk h1 fun x37 h1 => ?_
  refine tr tbk 2 (.mk ?_)
  cases x37
  replace h1 := cf h1
  refine tr tbk 24 (.mk ?_)
  exact lf h1 () leA
  replace h1 := ct h1
  refine tr tbk 2 (.mk ?_)
  obtain ⟨x38, e38, h1⟩ := bind_e h1
  refine sY (yv_to (y := .pp [int x38.Now, boo x38.Closed, lst 4 GPool.av x38.Pools, lst 1 fI x38.Bal, lst 11 GRoll.av x38.Rolls, lst 1 fI x38.Prices, lst 1 fI x38.Down, lst 8 GEnt.av x38.Ahead]) (yv_ixT rfl Tryz.underlying27 sh47 rfl rfl e38) (congrArg AV.pp (GEnt.av_eq x38))) ?_
  refine tr tbk 2 (.mk ?_)
  obtain ⟨x39, e39, h1⟩ := bind_e h1
  refine sY (yv_ixT rfl Tryz.underlying23 sh3 rfl rfl e39) ?_
  refine tr tbk 1 (.mk ?_)
  refine nb tbk h1 fun x40 h1 => ?_
  refine tr tbk 2 (.mk ?_)
  cases x40
  replace h1 := cf h1
  refine tr tbk 14 (.mk ?_)
  exact lf h1 () leA
  replace h1 := ct h1
  refine tr tbk 1 (.mk ?_)
  refine nb tbk h1 fun x41 h1 => ?_
  refine tr tbk 2 (.mk ?_)
  cases x41
  replace h1 := cf h1
  refine tr tbk 10 (.mk ?_)
  exact lf h1 () leA
  replace h1 := ct h1
  refine tr tbk 2 (.mk ?_)
  obtain ⟨x42, e42, h1⟩ := bind_e h1
  refine sC cal34 (d_ref14_Same_c e42) ?_
  refine tr tbk 2 (.mk ?_)
  cases x42
  replace h1 := cf h1
  refine tr tbk 5 (.mk ?_)
  exact lf h1 () leA
  replace h1 := ct h1
  refine tr tbk 1 (.mk ?_)
  refine nb tbk h1 fun x43 h1 => ?_
  refine tr tbk 3 (.mk ?_)
  exact lf h1 () leA
  rintro y3_1 _ h0
  obtain rfl := nxt_e h0
  refine wR hret (rT .nil) ?_
  exact .refl _
def d_ref14_Worth (n : Nat) (a1 : GState) (a2 : Int) (a3 : Int) : Option (GLayer) :=
(d_ref14_worth n a1 a2 a3).bind fun x6 =>
some ((x6.1 : GLayer))
theorem d_ref14_Worth_c {n : Nat} {a1 : GState} {a2 : Int} {a3 : Int} {r : GLayer} (h0 : d_ref14_Worth n a1 a2 a3 = some r) : PP Tryz.prog 15 [.agg (GState.av a1), int a2, int a3] (fun y => y = .agg (GLayer.av r)) := by
  unfold d_ref14_Worth at h0
  refine pp_of_pc (R0 := fun y H => Cv (frzH H) y (.agg (GLayer.av r))) ?_ (fun y H hc => ⟨_, rfl, (fun (a : GLayer) => PV.agg (GLayer.pvc a)) r, hc⟩)
  refine pcw (c := _) Tryz.func15 rfl rfl ?_; intro Q hret hnorm
  refine tc tbk 2 (.mk ?_)
  refine sB 1 fun v4 => ?_
  refine sA 2 z50 fun v5 => ?_
  refine tr tbk 6 (.mk ?_)
  obtain ⟨x6, e6, h0⟩ := bind_e h0
  refine sC cal35 (d_ref14_worth_c e6) ?_
  refine tr tbk 3 (.mk ?_)
  refine sA 3 z50 fun v7 => ?_
  refine sS ⟨50, 3, true, true, v7, [[int x6.1.Qty, int x6.1.Value, int x6.1.Profit]]⟩ sh50 ?_
  refine tr tbk 5 (.mk ?_)
  refine sS ⟨50, 3, true, true, v5, [[int x6.1.Qty, int x6.1.Value, int x6.1.Profit]]⟩ sh50 ?_
  refine tr tbk 1 (.mk ?_)
  obtain rfl := nxt_e h0
  refine wR hret (rC sh50 .nil) ?_
  exact .refl _
def d_law17_AdjustCounts (n : Nat) (a1 : Int) (a2 : Int) (a3 : Int) : Option (Bool) :=
(d_law00_Place a1 4).bind fun x4 =>
(d_law00_Place a2 100).bind fun x5 =>
bnd (w64 (1 + x5)) fun x6 =>
(d_law00_Place a3 150).bind fun x7 =>
bnd (w64 (10 * x6)) fun x8 =>
(d_law17_stocked n x4 x6 x8).bind fun x9 =>
(show Option ((GState × Int)) from
(d_stock_Ready x9 0 x4).bind fun x15 =>
bnd (decide (x15 ≠ 0)) fun x16 =>
cond x16 (some ((x9 : GState), (x15 : Int))) ((d_adjust_count n x9 (⟨7, 0, x4, 0, 0, x7, 0, 0, []⟩ : GOp)).bind fun x17 =>
bnd (decide (x17.2 ≠ 0)) fun x19 =>
cond x19 (some ((x9 : GState), (x17.2 : Int))) (some ((x17.1 : GState), (0 : Int))))).bind <| p2 fun (y0_1 : GState) (y0_2 : Int) =>
(show Option (Bool) from
bnd (decide (y0_2 ≠ 0)) fun x22 =>
cond x22 (some (true : Bool)) (bnd (decide ((y0_1.Ents.length : Int) ≠ 2)) fun x23 =>
some (x23 : Bool))).bind <| fun y1_1 =>
cond y1_1 (some ((false : Bool))) ((d_ref14_At y0_1 0 x4 0).bind fun x24 =>
(ix y0_1.Ents 0).bind fun x25 =>
(show Option (Bool) from
bnd (decide (x4 = 2)) fun x28 =>
cond x28 (bnd (decide (x7 < x6)) fun x29 =>
some (x29 : Bool)) (some (false : Bool))).bind <| fun y2_1 =>
cond y2_1 ((show Option (Bool) from
bnd (w64 (x6 - x7)) fun x42 =>
bnd (decide (x24.Pend.a2 = x42)) fun x43 =>
cond x43 ((ix x25.Bal 8).bind fun x44 =>
bnd (decide (x44 = 0)) fun x45 =>
cond x45 ((ix x25.Bal 0).bind fun x46 =>
bnd (w64 (10 * x6)) fun x47 =>
bnd (decide (x46 = x47)) fun x48 =>
cond x48 ((d_law17_awake n).bind fun x49 =>
some (x49 : Bool)) (some (false : Bool))) (some (false : Bool))) (some (false : Bool))).bind <| fun y3_1 =>
some ((y3_1 : Bool))) ((show Option (Bool) from
(d_ref14_Worth n y0_1 0 x4).bind fun x31 =>
bnd (decide (x31.Qty = x7)) fun x32 =>
cond x32 ((ix x25.Bal 0).bind fun x33 =>
bnd (w64 (10 * x7)) fun x34 =>
bnd (decide (x33 = x34)) fun x35 =>
cond x35 ((ix x25.Bal 8).bind fun x36 =>
bnd (w64 (x6 - x7)) fun x37 =>
bnd (w64 (10 * x37)) fun x38 =>
bnd (decide (x36 = x38)) fun x39 =>
cond x39 ((d_law17_awake n).bind fun x40 =>
some (x40 : Bool)) (some (false : Bool))) (some (false : Bool))) (some (false : Bool))).bind <| fun y4_1 =>
some ((y4_1 : Bool))))
theorem d_law17_AdjustCounts_c {n : Nat} {a1 : Int} {a2 : Int} {a3 : Int} {r : Bool} (h0 : d_law17_AdjustCounts n a1 a2 a3 = some r) : PP Tryz.prog 3 [int a1, int a2, int a3] (fun y => y = boo r) := by
  unfold d_law17_AdjustCounts at h0
  refine pp_of_pc (R0 := fun y H => Cv (frzH H) y (boo r)) ?_ (fun y H hc => ⟨_, rfl, pvB r, hc⟩)
  refine pcw (c := _) Tryz.func3 rfl rfl ?_; intro Q hret hnorm
  refine tc tbk 7 (.mk ?_)
  obtain ⟨x4, e4, h0⟩ := bind_e h0
  refine sC cal10 (d_law00_Place_c e4) ?_
  refine tr tbk 1 (.mk ?_)
  obtain ⟨x5, e5, h0⟩ := bind_e h0
  refine sC cal10 (d_law00_Place_c e5) ?_
  refine ni tbk h0 fun x6 h0 => ?_
  refine tr tbk 1 (.mk ?_)
  obtain ⟨x7, e7, h0⟩ := bind_e h0
  refine sC cal10 (d_law00_Place_c e7) ?_
  refine tr tbk 9 (.mk ?_)
  refine ni tbk h0 fun x8 h0 => ?_
  obtain ⟨x9, e9, h0⟩ := bind_e h0
  refine sC cal12 (d_law17_stocked_c e9) ?_
  refine tr tbk 2 (.mk ?_)
  refine sY (yv_build (cs := [int 7, int 0, int x4, int 0, int 0, int x7, int 0, int 0, .sc (.slice none 0 0)]) (ps := [(0, _), (2, _), (5, _)]) rfl pl38 z38 rfl (.cons rfl (.cons rfl (.cons rfl .nil))) (by kernel_rfl)) ?_
  obtain ⟨j10, h1, h0⟩ := bind_e h0
  refine rse (Out := fun y H' => (∃ (a : GState × Int) (k : Unit), a = j10 ∧ y = .tup [.agg (GState.av a.1), int a.2] ∧ H' = hk [])) rfl rfl rfl (yl_call rfl rfl (.cons rfl (.cons rfl .nil)) cal11 ?_) ?_
  refine pcw (c := _) Tryz.func11 rfl rfl ?_; intro Q hret hnorm
  refine tc tbk 2 (.mk ?_)
  refine sB 1 fun v11 => ?_
  refine sB 2 fun v12 => ?_
  refine sA 3 z32 fun v13 => ?_
  refine tr tbk 3 (.mk ?_)
  refine c_drawE [0, 0, 2, 7, 15, 31, 31, 0, 191, 511] (rl [(1, [2]), (2, [2])] []) (rl [(8, [])] [2]) (rl [(7, false), (8, false)] true) [0, 1, 2, 3, 4, 5, 6, 7, 8, 9] mixed (by kernel_rfl) ?_; intro K hK
  refine eP (fun H hH => yv_callP rfl rfl .nil cal30 (CvL.refl _) map30_c) ?_
  refine eF fo38_0 ?_
  refine eL sh3 ?_
  refine eP (fun H hH => yv_lookup (j := 1) rfl Tryz.underlying72 Tryz.underlying3 rfl rfl rfl rfl) ?_
  refine eM ?_
  iterate 2 refine eX ?_
  refine de_eff rfl rfl rfl rfl (yl_alloc 4 .any rfl z70 rfl) (by rintro _ _ ⟨v14, -, rfl, rfl⟩; exact ⟨rfl, trivial⟩) ?_; rintro _ _ ⟨v14, -, rfl, rfl⟩
  refine de_eff0 rfl rfl rfl rfl (Yield.weak (yl_ob (ob' := (⟨70, 1, true, true, v14, [[.fn (.func 65) [] []]]⟩ : AObj)) (yl_store rfl sh70 rfl rfl rfl rfl rfl rfl rfl rfl rfl) rfl) (fun _ h => h) (fun _ _ => trivial)) (by rintro _ _ ⟨rfl, rfl⟩; exact trivial) ?_; rintro _ _ ⟨rfl, rfl⟩
  refine eA ?_
  refine de_nil (hK _ ?_)
  refine tc tbk 16 (.mk ?_)
  obtain ⟨x15, e15, h1⟩ := bind_e h1
  refine sC cal26 (d_stock_Ready_c e15) ?_
  refine tr tbk 5 (.mk ?_)
  refine nb tbk h1 fun x16 h1 => ?_
  refine tr tbk 1 (.mk ?_)
  cases x16
  replace h1 := cf h1
  refine tc tbk 8 (.mk ?_)
  obtain ⟨x17, e17, h1⟩ := bind_e h1
  refine sY (yv_callP rfl rfl (.cons rfl (.cons rfl .nil)) cal65 (.cons (.refl _) (.cons (CvL.agg (.cons (.refl _) (.cons (.refl _) (.cons (.refl _) (.cons (.refl _) (.cons (.refl _) (.cons (.refl _) (.cons (.refl _) (.cons (.refl _) (.cons (.nil _) .nil)))))))))) .nil)) (d_adjust_count_c e17)) ?_
  refine tr tbk 3 (.mk ?_)
  refine sA 5 z32 fun v18 => ?_
  refine sS ⟨32, 10, true, true, v18, [(GState.av x17.1)]⟩ sh32 ?_
  refine tr tbk 6 (.mk ?_)
  refine nb tbk h1 fun x19 h1 => ?_
  refine tr tbk 1 (.mk ?_)
  cases x19
  replace h1 := cf h1
  refine tc tbk 5 (.mk ?_)
  refine sS ⟨32, 10, true, true, v13, [(GState.av x17.1)]⟩ sh32 ?_
  refine tr tbk 2 (.mk ?_)
  obtain rfl := nxt_e h1
  refine w_ret (hret _ _ (hk []) (.cell rfl (.pt rfl rfl rfl) sh32 rfl (.tmp rfl .nil)) (fun _ _ h => nomatch h) ?_)
  exact ⟨(x17.1, 0), (), rfl, rfl, rfl⟩
  replace h1 := ct h1
  refine tc tbk 5 (.mk ?_)
  refine sS ⟨32, 10, true, true, v13, [(GState.av x9)]⟩ sh32 ?_
  refine tr tbk 2 (.mk ?_)
  obtain rfl := nxt_e h1
  refine w_ret (hret _ _ (hk []) (.cell rfl (.pt rfl rfl rfl) sh32 rfl (.tmp rfl .nil)) (fun _ _ h => nomatch h) ?_)
  exact ⟨(x9, x17.2), (), rfl, rfl, rfl⟩
  replace h1 := ct h1
  refine tc tbk 5 (.mk ?_)
  refine sS ⟨32, 10, true, true, v13, [(GState.av x9)]⟩ sh32 ?_
  refine tr tbk 2 (.mk ?_)
  obtain rfl := nxt_e h1
  refine w_ret (hret _ _ (hk []) (.cell rfl (.pt rfl rfl rfl) sh32 rfl (.tmp rfl .nil)) (fun _ _ h => nomatch h) ?_)
  exact ⟨(x9, x15), (), rfl, rfl, rfl⟩
  rintro y _ ⟨⟨y0_1, y0_2⟩, _, rfl, hc, rfl⟩
  replace h0 := p2_e h0
  subst hc
  refine tr tbk 3 (.mk ?_)
  refine sA 6 z32 fun v20 => ?_
  refine sS ⟨32, 10, true, true, v20, [(GState.av y0_1)]⟩ sh32 ?_
  refine tr tbk 4 (.mk ?_)
  refine jn h0 [6, 7, 8, 9, 10] [6] (fun (a : Bool) (k : Unit) => [(40, boo a)]) (fun a k => []) ⟨fun j21 h1 => ?_, ?_⟩
  refine tc tbk 2 (.mk ?_)
  refine nb tbk h1 fun x22 h1 => ?_
  refine tr tbk 1 (.mk ?_)
  cases x22
  replace h1 := cf h1
  refine tr tbk 2 (.mk ?_)
  refine sY (yv_len_sl rfl Tryz.underlying27 rfl (lst_len _)) ?_
  refine nb tbk h1 fun x23 h1 => ?_
  refine tr tbk 2 (.mk ?_)
  exact lf h1 () leA
  replace h1 := ct h1
  refine tr tbk 6 (.mk ?_)
  exact lf h1 () leA
  rintro y1_1 _ h0
  cases y1_1
  replace h0 := cf h0
  refine tc tbk 3 (.mk ?_)
  refine c_drawE [0, 0, 3, 0, 8, 24, 56, 120, 0, 263, 1023] (rl [(0, [6]), (3, [6]), (4, [6])] []) (fun i => [6]) (rl [(8, false), (9, false)] true) [0, 1, 2, 3, 4, 5, 6, 7, 8, 9, 10] mixed (by kernel_rfl) ?_; intro K hK
  refine eL sh32 ?_
  refine eM ?_
  obtain ⟨x24, e24, h0⟩ := bind_e h0
  refine eP (fun H hH => yv_callP rfl rfl (.cons rfl (.cons rfl (.cons rfl (.cons rfl .nil)))) cal13 (CvL.refl _) (d_ref14_At_c e24)) ?_
  refine eF fo32_1 ?_
  refine eL sh27 ?_
  obtain ⟨x25, e25, h0⟩ := bind_e h0
  refine eP (fun H hH => yv_to (y := .pp [int x25.Now, boo x25.Closed, lst 4 GPool.av x25.Pools, lst 1 fI x25.Bal, lst 11 GRoll.av x25.Rolls, lst 1 fI x25.Prices, lst 1 fI x25.Down, lst 8 GEnt.av x25.Ahead]) (yv_ixT rfl Tryz.underlying27 sh47 rfl rfl e25) (congrArg AV.pp (GEnt.av_eq x25))) ?_
  refine eP (fun H hH => yv_fieldAddr rfl fo47_3 rfl (.pp _) (.pp _ _)) ?_
  refine eP (fun H hH => yv_load rfl sh23 rfl (.pp _) rfl) ?_
  refine de_eff rfl rfl rfl rfl (yl_alloc 7 .any rfl z42 rfl) (by rintro _ _ ⟨v26, -, rfl, rfl⟩; exact ⟨rfl, trivial⟩) ?_; rintro _ _ ⟨v26, -, rfl, rfl⟩
  refine de_eff0 rfl rfl rfl rfl (Yield.weak (yl_ob (ob' := (⟨42, 4, true, true, v26, [[lst 3 GLayer.av x24.Layers, int x24.Pend.a0, int x24.Pend.a1, int x24.Pend.a2]]⟩ : AObj)) (yl_store rfl sh42 rfl rfl rfl rfl rfl rfl rfl rfl rfl) rfl) (fun _ h => h) (fun _ _ => trivial)) (by rintro _ _ ⟨rfl, rfl⟩; exact ⟨rfl, trivial⟩) ?_; rintro _ _ ⟨rfl, rfl⟩
  refine eA ?_
  refine de_nil (hK _ ?_)
  refine tc tbk 2 (.mk ?_)
  refine jn h0 [6, 7, 8, 9, 10, 12, 13] [6, 7] (fun (a : Bool) (k : Unit) => [(55, boo a)]) (fun a k => []) ⟨fun j27 h1 => ?_, ?_⟩
  refine tc tbk 2 (.mk ?_)
  refine nb tbk h1 fun x28 h1 => ?_
  refine tr tbk 1 (.mk ?_)
  cases x28
  replace h1 := cf h1
  refine tr tbk 5 (.mk ?_)
  exact lf h1 () leA
  replace h1 := ct h1
  refine tr tbk 2 (.mk ?_)
  refine nb tbk h1 fun x29 h1 => ?_
  refine tr tbk 2 (.mk ?_)
  exact lf h1 () leA
  rintro y2_1 _ h0
  cases y2_1
  replace h0 := cf h0
  refine tc tbk 3 (.mk ?_)
  refine jn h0 [] [] (fun (a : Bool) (k : Unit) => [(6, boo a)]) (fun a k => []) ⟨fun j30 h1 => ?_, ?_⟩
  refine tc tbk 3 (.mk ?_)
  obtain ⟨x31, e31, h1⟩ := bind_e h1
  refine sC cal15 (d_ref14_Worth_c e31) ?_
  refine tr tbk 2 (.mk ?_)
  refine nb tbk h1 fun x32 h1 => ?_
  refine tr tbk 1 (.mk ?_)
  cases x32
  replace h1 := cf h1
  refine tr tbk 22 (.mk ?_)
  exact lf h1 () leA
  replace h1 := ct h1
  refine tr tbk 1 (.mk ?_)
  obtain ⟨x33, e33, h1⟩ := bind_e h1
  refine sY (yv_ixT rfl Tryz.underlying23 sh3 rfl rfl e33) ?_
  refine tr tbk 2 (.mk ?_)
  refine ni tbk h1 fun x34 h1 => ?_
  refine nb tbk h1 fun x35 h1 => ?_
  refine tr tbk 2 (.mk ?_)
  cases x35
  replace h1 := cf h1
  refine tr tbk 14 (.mk ?_)
  exact lf h1 () leA
  replace h1 := ct h1
  refine tr tbk 1 (.mk ?_)
  obtain ⟨x36, e36, h1⟩ := bind_e h1
  refine sY (yv_ixT rfl Tryz.underlying23 sh3 rfl rfl e36) ?_
  refine tr tbk 3 (.mk ?_)
  refine ni tbk h1 fun x37 h1 => ?_
  refine ni tbk h1 fun x38 h1 => ?_
  refine nb tbk h1 fun x39 h1 => ?_
  refine tr tbk 2 (.mk ?_)
  cases x39
  replace h1 := cf h1
  refine tr tbk 4 (.mk ?_)
  exact lf h1 () leA
  replace h1 := ct h1
  obtain ⟨x40, e40, h1⟩ := bind_e h1
  refine sC cal14 (d_law17_awake_c e40) ?_
  refine tr tbk 3 (.mk ?_)
  exact lf h1 () leA
  rintro y4_1 _ h0
  obtain rfl := nxt_e h0
  refine wR hret (rT .nil) ?_
  exact .refl _
  replace h0 := ct h0
  refine tc tbk 2 (.mk ?_)
  refine jn h0 [7, 8, 9, 10, 13] [6] (fun (a : Bool) (k : Unit) => [(6, boo a)]) (fun a k => []) ⟨fun j41 h1 => ?_, ?_⟩
  refine tc tbk 2 (.mk ?_)
  refine sY (yv_to (y := .pt 7 v26 0 3) (yv_indexAddrA rfl Tryz.underlying40 sh3 rfl rfl rfl rfl rfl (by decide)) rfl) ?_
  refine tr tbk 3 (.mk ?_)
  refine ni tbk h1 fun x42 h1 => ?_
  refine nb tbk h1 fun x43 h1 => ?_
  refine tr tbk 1 (.mk ?_)
  cases x43
  replace h1 := cf h1
  refine tr tbk 18 (.mk ?_)
  exact lf h1 () leA
  replace h1 := ct h1
  refine tr tbk 1 (.mk ?_)
  obtain ⟨x44, e44, h1⟩ := bind_e h1
  refine sY (yv_ixT rfl Tryz.underlying23 sh3 rfl rfl e44) ?_
  refine tr tbk 1 (.mk ?_)
  refine nb tbk h1 fun x45 h1 => ?_
  refine tr tbk 2 (.mk ?_)
  cases x45
  replace h1 := cf h1
  refine tr tbk 12 (.mk ?_)
  exact lf h1 () leA
  replace h1 := ct h1
  refine tr tbk 1 (.mk ?_)
  obtain ⟨x46, e46, h1⟩ := bind_e h1
  refine sY (yv_ixT rfl Tryz.underlying23 sh3 rfl rfl e46) ?_
  refine tr tbk 2 (.mk ?_)
  refine ni tbk h1 fun x47 h1 => ?_
  refine nb tbk h1 fun x48 h1 => ?_
  refine tr tbk 2 (.mk ?_)
  cases x48
  replace h1 := cf h1
  refine tr tbk 4 (.mk ?_)
  exact lf h1 () leA
  replace h1 := ct h1
  obtain ⟨x49, e49, h1⟩ := bind_e h1
  refine sC cal14 (d_law17_awake_c e49) ?_
  refine tr tbk 3 (.mk ?_)
  exact lf h1 () leA
  rintro y3_1 _ h0
  obtain rfl := nxt_e h0
  refine wR hret (rT .nil) ?_
  exact .refl _
  replace h0 := ct h0
  refine tc tbk 5 (.mk ?_)
  obtain rfl := nxt_e h0
  refine wR hret (rT .nil) ?_
  exact .refl _
end Go.Pv
