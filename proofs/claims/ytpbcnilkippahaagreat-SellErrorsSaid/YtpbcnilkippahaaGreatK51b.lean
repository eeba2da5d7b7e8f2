import Derived.Test.YtpbcnilkippahaaGreatK51
set_option linter.unusedVariables false
namespace Go.Pv
open Go.Proofs
set_option maxRecDepth 10000
set_option maxHeartbeats 1000000
def d_ref15_Do (n : Nat) (a1 : GState) (a2 : GOp) : Option (GState × Int) :=
bnd (decide (a2.Kind ≠ 1)) fun x6 =>
asrt (x6 = false) <|
(d_ref14_Ready (⟨a1.Master, a1.Ents, a1.Receipts, [], a1.Transits, a1.Done⟩ : GState) a2.E a2.Item).bind fun x7 =>
bnd (decide (x7 ≠ 0)) fun x8 =>
asrt (x8 = false) <|
bnd (decide ((a1.Receipts.length : Int) ≥ 40)) fun x9 =>
asrt (x9 = false) <|
(d_ref14_Bring n a1 a2.E a2.Item a2.Loc (⟨a2.Qty, a2.Amount, 0⟩ : GLayer)).bind fun x10 =>
bnd (decide (x10.2.2.2 ≠ 0)) fun x12 =>
asrt (x12 = false) <|
bnd (w64 (0 - a2.Amount)) fun x13 =>
(d_ref14_Post n (⟨x10.1.Master, x10.1.Ents, x10.1.Receipts, [], x10.1.Transits, x10.1.Done⟩ : GState) a2.E ([(⟨0, x10.2.1⟩ : GLine), (⟨6, x10.2.2.1⟩ : GLine), (⟨1, x13⟩ : GLine)] : List GLine)).bind fun x14 =>
bnd (decide (x14.2 ≠ 0)) fun x15 =>
asrt (x15 = false) <|
(d_ref14_Turn n (⟨x14.1.Master, x14.1.Ents, x14.1.Receipts, [], x14.1.Transits, x14.1.Done⟩ : GState) a2.E a2.Item (⟨0, x10.2.1, 0, 0, 0, 0, 0, 0, 0, 0, 0⟩ : GRoll)).bind fun x16 =>
bnd (decide (x16.2 ≠ 0)) fun x17 =>
asrt (x17 = false) <|
asrt (x16.1.Receipts.length ≤ 68719476736) <|
bnd (x16.1.Receipts ++ ([(⟨a2.E, a2.Item, a2.Loc, a2.Qty, a2.Amount, a2.Qty, a2.Amount, 0⟩ : GReceipt)] : List GReceipt)) fun x20 =>
asrt (x20.length ≤ 68719476736) <|
some (((⟨x16.1.Master, x16.1.Ents, x20, [], x16.1.Transits, x16.1.Done⟩ : GState) : GState), (0 : Int))
theorem d_ref15_Do_c {n : Nat} {a1 : GState} {a2 : GOp} {r : GState × Int} (h0 : d_ref15_Do n a1 a2 = some r) : PP Tryz.prog 31 [.agg (GState.avN a1), .agg (GOp.av a2)] (fun y => y = .tup [.agg (GState.avN r.1), int r.2]) := by
  unfold d_ref15_Do at h0
  refine pp_of_pc (R0 := fun y H => Cv (frzH H) y (.tup [.agg (GState.avN r.1), int r.2])) ?_ (fun y H hc => ⟨_, rfl, .tup (pvl2 ((fun (a : GState) => PV.agg (GState.pvcN a)) (r.1)) (pvI (r.2))), hc⟩)
  refine pcw (c := _) Tryz.func31 rfl rfl ?_; intro Q hret hnorm
  refine tc tbk 2 (.mk ?_)
  refine sB 1 fun v3 => ?_
  refine sB 2 fun v4 => ?_
  refine sA 3 z32 fun v5 => ?_
  refine tr tbk 7 (.mk ?_)
  refine nb tbk h0 fun x6 h0 => ?_
  refine tr tbk 1 (.mk ?_)
  replace h0 := asrt_e h0
  obtain ⟨rfl, h0⟩ := h0
  refine tc tbk 10 (.mk ?_)
  obtain ⟨x7, e7, h0⟩ := bind_e h0
  refine sY (yv_callP rfl rfl (.cons rfl (.cons rfl (.cons rfl .nil))) cal56 (.cons (CvL.agg (.cons (.refl _) (.cons (.refl _) (.cons (.refl _) (.cons (.refl _) (.cons (.refl _) (.cons (.refl _) (.cons (.refl _) (.cons (.nil _) (.cons (.refl _) (.cons (.refl _) .nil))))))))))) (.cons (.refl _) (.cons (.refl _) .nil))) (d_ref14_Ready_c e7)) ?_
  refine tr tbk 5 (.mk ?_)
  refine nb tbk h0 fun x8 h0 => ?_
  refine tr tbk 1 (.mk ?_)
  replace h0 := asrt_e h0
  obtain ⟨rfl, h0⟩ := h0
  refine tc tbk 7 (.mk ?_)
  refine sY (yv_len_sl rfl Tryz.underlying28 rfl (lst_len _)) ?_
  refine nb tbk h0 fun x9 h0 => ?_
  refine tr tbk 1 (.mk ?_)
  replace h0 := asrt_e h0
  obtain ⟨rfl, h0⟩ := h0
  refine tc tbk 16 (.mk ?_)
  obtain ⟨x10, e10, h0⟩ := bind_e h0
  refine sC cal57 (d_ref14_Bring_c e10) ?_
  refine tr tbk 5 (.mk ?_)
  refine sA 4 z32 fun v11 => ?_
  refine sS ⟨32, 10, true, true, v11, [[int x10.1.Master.Entities, int x10.1.Master.Periods, lst 1 fI x10.1.Master.Weights, lst 1 (fL 1 fI) x10.1.Master.Methods, lst 1 (fL 1 fI) x10.1.Master.Costs, lst 8 GEnt.av x10.1.Ents, lst 8 GReceipt.av x10.1.Receipts, .sc (.slice none 0 0), lst 6 GTransit.av x10.1.Transits, int x10.1.Done]]⟩ sh32 ?_
  refine tr tbk 8 (.mk ?_)
  refine nb tbk h0 fun x12 h0 => ?_
  refine tr tbk 1 (.mk ?_)
  replace h0 := asrt_e h0
  obtain ⟨rfl, h0⟩ := h0
  refine tc tbk 13 (.mk ?_)
  refine ni tbk h0 fun x13 h0 => ?_
  refine tr tbk 1 (.mk ?_)
  refine sY (yv_to (y := lst 2 GLine.av ([(⟨0, x10.2.1⟩ : GLine), (⟨6, x10.2.2.1⟩ : GLine), (⟨1, x13⟩ : GLine)] : List GLine)) (yv_buildSlice (ps := [(0, _), (1, _), (2, _)]) (rows := [[int 0, int x10.2.1], [int 6, int x10.2.2.1], [int 1, int x13]]) rfl Tryz.underlying64 bz63 (.cons rfl (.cons rfl (.cons rfl .nil))) (by kernel_rfl) rfl rfl rfl) rfl) ?_
  obtain ⟨x14, e14, h0⟩ := bind_e h0
  refine sC cal58 (d_ref14_Post_c e14) ?_
  refine tr tbk 3 (.mk ?_)
  refine sS ⟨32, 10, true, true, v11, [[int x14.1.Master.Entities, int x14.1.Master.Periods, lst 1 fI x14.1.Master.Weights, lst 1 (fL 1 fI) x14.1.Master.Methods, lst 1 (fL 1 fI) x14.1.Master.Costs, lst 8 GEnt.av x14.1.Ents, lst 8 GReceipt.av x14.1.Receipts, .sc (.slice none 0 0), lst 6 GTransit.av x14.1.Transits, int x14.1.Done]]⟩ sh32 ?_
  refine tr tbk 6 (.mk ?_)
  refine nb tbk h0 fun x15 h0 => ?_
  refine tr tbk 1 (.mk ?_)
  replace h0 := asrt_e h0
  obtain ⟨rfl, h0⟩ := h0
  refine tc tbk 10 (.mk ?_)
  refine sY (yv_build (cs := [int 0, int x10.2.1, int 0, int 0, int 0, int 0, int 0, int 0, int 0, int 0, int 0]) (ps := [(1, _)]) rfl pl67 z67 rfl (.cons rfl .nil) (by kernel_rfl)) ?_
  obtain ⟨x16, e16, h0⟩ := bind_e h0
  refine sC cal59 (d_ref14_Turn_c e16) ?_
  refine tr tbk 3 (.mk ?_)
  refine sS ⟨32, 10, true, true, v11, [[int x16.1.Master.Entities, int x16.1.Master.Periods, lst 1 fI x16.1.Master.Weights, lst 1 (fL 1 fI) x16.1.Master.Methods, lst 1 (fL 1 fI) x16.1.Master.Costs, lst 8 GEnt.av x16.1.Ents, lst 8 GReceipt.av x16.1.Receipts, .sc (.slice none 0 0), lst 6 GTransit.av x16.1.Transits, int x16.1.Done]]⟩ sh32 ?_
  refine tr tbk 6 (.mk ?_)
  refine nb tbk h0 fun x17 h0 => ?_
  refine tr tbk 1 (.mk ?_)
  replace h0 := asrt_e h0
  obtain ⟨rfl, h0⟩ := h0
  refine tc tbk 3 (.mk ?_)
  refine c_drawE [0, 1, 3, 0, 8, 0, 32, 0, 128, 0, 512, 0, 2048, 0, 8192, 0, 32768, 131064, 262136, 524287, 1048575, 2097151] (rl [(0, [4]), (1, [4]), (3, [2]), (4, [2]), (5, [2]), (6, [2]), (7, [2]), (8, [2]), (9, [2]), (10, [2]), (11, [2]), (12, [2]), (13, [2]), (14, [2]), (15, [2]), (16, [2]), (20, [4])] []) (rl [(2, [2]), (19, []), (21, [])] [2, 4]) (rl [(2, false), (19, false), (21, false)] true) [0, 1, 3, 4, 5, 6, 7, 8, 9, 10, 11, 12, 13, 14, 15, 16, 17, 18, 2, 19, 20, 21] mixed (by kernel_rfl) ?_; intro K hK
  refine eF fo32_2 ?_
  refine eL sh28 ?_
  refine eF fo35_1 ?_
  refine eL sh3 ?_
  refine eF fo35_2 ?_
  refine eL sh3 ?_
  refine eF fo35_3 ?_
  refine eL sh3 ?_
  refine eF fo35_5 ?_
  refine eL sh3 ?_
  refine eF fo35_6 ?_
  refine eL sh3 ?_
  refine eF fo35_5 ?_
  refine eL sh3 ?_
  refine eF fo35_6 ?_
  refine eL sh3 ?_
  refine eP (fun H hH => yv_build (cs := [int a2.E, int a2.Item, int a2.Loc, int a2.Qty, int a2.Amount, int a2.Qty, int a2.Amount, int 0]) (ps := [(0, _), (1, _), (2, _), (3, _), (4, _), (5, _), (6, _)]) rfl pl49 z49 rfl (.cons rfl (.cons rfl (.cons rfl (.cons rfl (.cons rfl (.cons rfl (.cons rfl .nil))))))) (by kernel_rfl)) ?_
  refine eP (fun H hH => yv_to (y := lst 8 GReceipt.av ([(⟨a2.E, a2.Item, a2.Loc, a2.Qty, a2.Amount, a2.Qty, a2.Amount, 0⟩ : GReceipt)] : List GReceipt)) (yv_buildSlice (ps := [(0, _)]) (rows := [[int a2.E, int a2.Item, int a2.Loc, int a2.Qty, int a2.Amount, int a2.Qty, int a2.Amount, int 0]]) rfl Tryz.underlying28 bz49 (.cons rfl .nil) (by kernel_rfl) rfl rfl rfl) rfl) ?_
  obtain ⟨p18, h0⟩ := asrt_e h0
  refine de_eff rfl rfl rfl rfl (yl_app0T (g := GReceipt.av) (m := x16.1.Receipts) 5 rfl Tryz.underlying28 bz49 by49 rfl rfl rfl rfl (.refl _) (fun _ => rfl) p18) (by rintro _ _ ⟨v19, rfl, rfl⟩; exact ⟨rfl, trivial⟩) ?_; rintro _ _ ⟨v19, rfl, rfl⟩
  obtain ⟨x20, e20, h0⟩ := bnd_e h0
  obtain ⟨p21, h0⟩ := asrt_e h0
  refine de_eff rfl rfl rfl rfl (yl_appT (g := GReceipt.av) (l := x16.1.Receipts) (m := ([(⟨a2.E, a2.Item, a2.Loc, a2.Qty, a2.Amount, a2.Qty, a2.Amount, 0⟩ : GReceipt)] : List GReceipt)) .any rfl Tryz.underlying28 bz49 by49 rfl rfl rfl rfl rfl rfl rfl rfl rfl rfl (Eq.symm rfl) (.refl _) (fun _ => rfl) e20 p21) (by rintro _ _ ⟨v22, -, rfl, rfl⟩; exact trivial) ?_; rintro _ _ ⟨v22, -, rfl, rfl⟩
  refine eF fo32_2 ?_
  refine de_eff0 rfl rfl rfl rfl (Yield.weak (yl_ob (ob' := (⟨32, 10, true, true, v11, [[int x16.1.Master.Entities, int x16.1.Master.Periods, lst 1 fI x16.1.Master.Weights, lst 1 (fL 1 fI) x16.1.Master.Methods, lst 1 (fL 1 fI) x16.1.Master.Costs, lst 8 GEnt.av x16.1.Ents, .sl 5 v22 0 x20.length, .sc (.slice none 0 0), lst 6 GTransit.av x16.1.Transits, int x16.1.Done]]⟩ : AObj)) (yl_store rfl sh28 rfl rfl rfl rfl rfl rfl rfl rfl rfl) rfl) (fun _ h => h) (fun _ _ => trivial)) (by rintro _ _ ⟨rfl, rfl⟩; exact trivial) ?_; rintro _ _ ⟨rfl, rfl⟩
  refine de_nil (hK _ ?_)
  refine tc tbk 3 (.mk ?_)
  refine sS ⟨32, 10, true, true, v5, [[int x16.1.Master.Entities, int x16.1.Master.Periods, lst 1 fI x16.1.Master.Weights, lst 1 (fL 1 fI) x16.1.Master.Methods, lst 1 (fL 1 fI) x16.1.Master.Costs, lst 8 GEnt.av x16.1.Ents, .sl 5 v22 0 x20.length, .sc (.slice none 0 0), lst 6 GTransit.av x16.1.Transits, int x16.1.Done]]⟩ sh32 ?_
  refine tr tbk 2 (.mk ?_)
  obtain rfl := nxt_e h0
  refine wR hret (rC sh32 (rT .nil)) ?_
  exact CvL.tup (.cons (CvL.agg (.cons (.refl _) (.cons (.refl _) (.cons (.refl _) (.cons (.refl _) (.cons (.refl _) (.cons (.refl _) (.cons (cv_lst rfl rfl rfl rfl rfl (Eq.symm rfl)) (.cons (.refl _) (.cons (.refl _) (.cons (.refl _) .nil))))))))))) (.cons (.refl _) .nil))
def d_law16_stocked (n : Nat) (a1 : Int) (a2 : Int) (a3 : Int) : Option (GState) :=
(d_law16_start n).bind fun x5 =>
(d_ref15_Do n x5 (⟨1, 0, a1, 0, 0, a2, a3, 0, []⟩ : GOp)).bind fun x6 =>
some (((⟨x6.1.Master, x6.1.Ents, x6.1.Receipts, [], x6.1.Transits, x6.1.Done⟩ : GState) : GState))
theorem d_law16_stocked_c {n : Nat} {a1 : Int} {a2 : Int} {a3 : Int} {r : GState} (h0 : d_law16_stocked n a1 a2 a3 = some r) : PP Tryz.prog 12 [int a1, int a2, int a3] (fun y => y = .agg (GState.avN r)) := by
  unfold d_law16_stocked at h0
  refine pp_of_pc (R0 := fun y H => Cv (frzH H) y (.agg (GState.avN r))) ?_ (fun y H hc => ⟨_, rfl, (fun (a : GState) => PV.agg (GState.pvcN a)) r, hc⟩)
  refine pcw (c := _) Tryz.func12 rfl rfl ?_; intro Q hret hnorm
  refine tc tbk 2 (.mk ?_)
  refine sA 1 z32 fun v4 => ?_
  refine tr tbk 3 (.mk ?_)
  obtain ⟨x5, e5, h0⟩ := bind_e h0
  refine sC cal32 (d_law16_start_c e5) ?_
  refine tr tbk 3 (.mk ?_)
  refine sY (yv_build (cs := [int 1, int 0, int a1, int 0, int 0, int a2, int a3, int 0, .sc (.slice none 0 0)]) (ps := [(0, _), (2, _), (5, _), (6, _)]) rfl pl35 z35 rfl (.cons rfl (.cons rfl (.cons rfl (.cons rfl .nil)))) (by kernel_rfl)) ?_
  obtain ⟨x6, e6, h0⟩ := bind_e h0
  refine sY (yv_callP rfl rfl (.cons rfl (.cons rfl .nil)) cal31 (.cons (.refl _) (.cons (CvL.agg (.cons (.refl _) (.cons (.refl _) (.cons (.refl _) (.cons (.refl _) (.cons (.refl _) (.cons (.refl _) (.cons (.refl _) (.cons (.refl _) (.cons (.nil _) .nil)))))))))) .nil)) (d_ref15_Do_c e6)) ?_
  refine tr tbk 3 (.mk ?_)
  refine sA 2 z32 fun v7 => ?_
  refine sS ⟨32, 10, true, true, v7, [[int x6.1.Master.Entities, int x6.1.Master.Periods, lst 1 fI x6.1.Master.Weights, lst 1 (fL 1 fI) x6.1.Master.Methods, lst 1 (fL 1 fI) x6.1.Master.Costs, lst 8 GEnt.av x6.1.Ents, lst 8 GReceipt.av x6.1.Receipts, .sc (.slice none 0 0), lst 6 GTransit.av x6.1.Transits, int x6.1.Done]]⟩ sh32 ?_
  refine tr tbk 5 (.mk ?_)
  refine sS ⟨32, 10, true, true, v4, [[int x6.1.Master.Entities, int x6.1.Master.Periods, lst 1 fI x6.1.Master.Weights, lst 1 (fL 1 fI) x6.1.Master.Methods, lst 1 (fL 1 fI) x6.1.Master.Costs, lst 8 GEnt.av x6.1.Ents, lst 8 GReceipt.av x6.1.Receipts, .sc (.slice none 0 0), lst 6 GTransit.av x6.1.Transits, int x6.1.Done]]⟩ sh32 ?_
  refine tr tbk 1 (.mk ?_)
  obtain rfl := nxt_e h0
  refine wR hret (rC sh32 .nil) ?_
  exact .refl _
def d_stock_is (a1 : GState) (a2 : Int) (a3 : Int) : Option (Bool) :=
(show Option (Bool) from
bnd (decide (a2 < 0)) fun x6 =>
cond x6 (some (true : Bool)) (bnd (decide (a2 ≥ (a1.Ents.length : Int))) fun x7 =>
cond x7 (some (true : Bool)) (bnd (decide (a3 < 0)) fun x8 =>
cond x8 (some (true : Bool)) (bnd (decide (a3 ≥ (a1.Master.Weights.length : Int))) fun x9 =>
some (x9 : Bool))))).bind <| fun y0_1 =>
cond y0_1 (some ((false : Bool))) ((ix a1.Ents a2).bind fun x10 =>
(show Option (Bool) from
bnd (w64 ((a1.Master.Weights.length : Int) * 2)) fun x13 =>
bnd (decide ((x10.Pools.length : Int) ≥ x13)) fun x14 =>
cond x14 (bnd (decide ((x10.Rolls.length : Int) ≥ (a1.Master.Weights.length : Int))) fun x15 =>
cond x15 (bnd (decide (a2 < (a1.Master.Methods.length : Int))) fun x16 =>
cond x16 (bnd (decide (a2 < (a1.Master.Costs.length : Int))) fun x17 =>
cond x17 ((ix a1.Master.Methods a2).bind fun x18 =>
bnd (decide ((x18.length : Int) ≥ (a1.Master.Weights.length : Int))) fun x19 =>
cond x19 ((ix a1.Master.Costs a2).bind fun x20 =>
bnd (decide ((x20.length : Int) ≥ (a1.Master.Weights.length : Int))) fun x21 =>
some (x21 : Bool)) (some (false : Bool))) (some (false : Bool))) (some (false : Bool))) (some (false : Bool))) (some (false : Bool))).bind <| fun y1_1 =>
some ((y1_1 : Bool)))
theorem d_stock_is_c {a1 : GState} {a2 : Int} {a3 : Int} {r : Bool} (h0 : d_stock_is a1 a2 a3 = some r) : PP Tryz.prog 37 [.agg (GState.av a1), int a2, int a3] (fun y => y = boo r) := by
  unfold d_stock_is at h0
  refine pp_of_pc (R0 := fun y H => Cv (frzH H) y (boo r)) ?_ (fun y H hc => ⟨_, rfl, pvB r, hc⟩)
  refine pcw (c := _) Tryz.func37 rfl rfl ?_; intro Q hret hnorm
  refine tc tbk 2 (.mk ?_)
  refine sB 1 fun v4 => ?_
  refine tr tbk 4 (.mk ?_)
  refine jn h0 [1, 3, 6] [1] (fun (a : Bool) (k : Unit) => [(29, boo a)]) (fun a k => []) ⟨fun j5 h1 => ?_, ?_⟩
  refine tc tbk 2 (.mk ?_)
  refine nb tbk h1 fun x6 h1 => ?_
  refine tr tbk 1 (.mk ?_)
  cases x6
  replace h1 := cf h1
  refine tr tbk 3 (.mk ?_)
  refine sY (yv_len_sl rfl Tryz.underlying27 rfl (lst_len _)) ?_
  refine nb tbk h1 fun x7 h1 => ?_
  refine tr tbk 2 (.mk ?_)
  cases x7
  replace h1 := cf h1
  refine tr tbk 1 (.mk ?_)
  refine nb tbk h1 fun x8 h1 => ?_
  refine tr tbk 2 (.mk ?_)
  cases x8
  replace h1 := cf h1
  refine tr tbk 4 (.mk ?_)
  refine sY (yv_len_sl rfl Tryz.underlying23 rfl (lst_len _)) ?_
  refine nb tbk h1 fun x9 h1 => ?_
  refine tr tbk 2 (.mk ?_)
  exact lf h1 () leA
  replace h1 := ct h1
  refine tr tbk 8 (.mk ?_)
  exact lf h1 () leA
  replace h1 := ct h1
  refine tr tbk 12 (.mk ?_)
  exact lf h1 () leA
  replace h1 := ct h1
  refine tr tbk 19 (.mk ?_)
  exact lf h1 () leA
  rintro y0_1 _ h0
  cases y0_1
  replace h0 := cf h0
  refine tc tbk 3 (.mk ?_)
  refine c_drawE [0, 1, 0, 7, 15, 0, 32, 96, 224, 0, 543, 2047] (rl [(0, [1]), (1, [1]), (5, [1]), (6, [1]), (7, [1])] []) (fun i => [1]) (rl [(9, false), (10, false)] true) [0, 1, 2, 3, 4, 5, 6, 7, 8, 9, 10, 11] mixed (by kernel_rfl) ?_; intro K hK
  refine eF fo32_1 ?_
  refine eL sh27 ?_
  refine eM ?_
  obtain ⟨x10, e10, h0⟩ := bind_e h0
  refine eP (fun H hH => yv_to (y := .pp [int x10.Now, boo x10.Closed, lst 4 GPool.av x10.Pools, lst 1 fI x10.Bal, lst 11 GRoll.av x10.Rolls, lst 1 fI x10.Prices, lst 1 fI x10.Down, lst 8 GEnt.av x10.Ahead]) (yv_ixT rfl Tryz.underlying27 sh40 rfl rfl e10) (congrArg AV.pp (GEnt.av_eq x10))) ?_
  refine eP (fun H hH => yv_load rfl sh40 rfl (.pp _) rfl) ?_
  refine eF fo32_0 ?_
  refine eF fo26_2 ?_
  refine eL sh23 ?_
  refine eP (fun H hH => yv_len_sl rfl Tryz.underlying23 rfl (lst_len _)) ?_
  refine de_eff rfl rfl rfl rfl (yl_alloc 2 .any rfl z40 rfl) (by rintro _ _ ⟨v11, -, rfl, rfl⟩; exact ⟨rfl, trivial⟩) ?_; rintro _ _ ⟨v11, -, rfl, rfl⟩
  refine de_eff0 rfl rfl rfl rfl (Yield.weak (yl_ob (ob' := (⟨40, 8, true, true, v11, [[int x10.Now, boo x10.Closed, lst 4 GPool.av x10.Pools, lst 1 fI x10.Bal, lst 11 GRoll.av x10.Rolls, lst 1 fI x10.Prices, lst 1 fI x10.Down, lst 8 GEnt.av x10.Ahead]]⟩ : AObj)) (yl_store rfl sh40 rfl rfl rfl rfl rfl rfl rfl rfl rfl) rfl) (fun _ h => h) (fun _ _ => trivial)) (by rintro _ _ ⟨rfl, rfl⟩; exact ⟨rfl, trivial⟩) ?_; rintro _ _ ⟨rfl, rfl⟩
  refine eA ?_
  refine de_nil (hK _ ?_)
  refine tc tbk 1 (.mk ?_)
  refine jn h0 [] [] (fun (a : Bool) (k : Unit) => [(6, boo a)]) (fun a k => []) ⟨fun j12 h1 => ?_, ?_⟩
  refine tc tbk 3 (.mk ?_)
  refine sY (yv_len_sl rfl Tryz.underlying37 rfl (lst_len _)) ?_
  refine tr tbk 1 (.mk ?_)
  refine ni tbk h1 fun x13 h1 => ?_
  refine nb tbk h1 fun x14 h1 => ?_
  refine tr tbk 1 (.mk ?_)
  cases x14
  replace h1 := cf h1
  refine tr tbk 46 (.mk ?_)
  exact lf h1 () leA
  replace h1 := ct h1
  refine tr tbk 2 (.mk ?_)
  refine sY (yv_len_sl rfl Tryz.underlying38 rfl (lst_len _)) ?_
  refine tr tbk 1 (.mk ?_)
  refine nb tbk h1 fun x15 h1 => ?_
  refine tr tbk 2 (.mk ?_)
  cases x15
  replace h1 := cf h1
  refine tr tbk 39 (.mk ?_)
  exact lf h1 () leA
  replace h1 := ct h1
  refine tr tbk 4 (.mk ?_)
  refine sY (yv_len_sl rfl Tryz.underlying24 rfl (lst_len _)) ?_
  refine nb tbk h1 fun x16 h1 => ?_
  refine tr tbk 2 (.mk ?_)
  cases x16
  replace h1 := cf h1
  refine tr tbk 31 (.mk ?_)
  exact lf h1 () leA
  replace h1 := ct h1
  refine tr tbk 4 (.mk ?_)
  refine sY (yv_len_sl rfl Tryz.underlying24 rfl (lst_len _)) ?_
  refine nb tbk h1 fun x17 h1 => ?_
  refine tr tbk 2 (.mk ?_)
  cases x17
  replace h1 := cf h1
  refine tr tbk 23 (.mk ?_)
  exact lf h1 () leA
  replace h1 := ct h1
  refine tr tbk 4 (.mk ?_)
  obtain ⟨x18, e18, h1⟩ := bind_e h1
  refine sY (yv_ixT rfl Tryz.underlying24 sh23 rfl rfl e18) ?_
  refine tr tbk 1 (.mk ?_)
  refine sY (yv_len_sl rfl Tryz.underlying23 rfl (lst_len _)) ?_
  refine tr tbk 1 (.mk ?_)
  refine nb tbk h1 fun x19 h1 => ?_
  refine tr tbk 2 (.mk ?_)
  cases x19
  replace h1 := cf h1
  refine tr tbk 12 (.mk ?_)
  exact lf h1 () leA
  replace h1 := ct h1
  refine tr tbk 4 (.mk ?_)
  obtain ⟨x20, e20, h1⟩ := bind_e h1
  refine sY (yv_ixT rfl Tryz.underlying24 sh23 rfl rfl e20) ?_
  refine tr tbk 1 (.mk ?_)
  refine sY (yv_len_sl rfl Tryz.underlying23 rfl (lst_len _)) ?_
  refine tr tbk 1 (.mk ?_)
  refine nb tbk h1 fun x21 h1 => ?_
  refine tr tbk 3 (.mk ?_)
  exact lf h1 () leA
  rintro y1_1 _ h0
  obtain rfl := nxt_e h0
  refine wR hret (rT .nil) ?_
  exact .refl _
  replace h0 := ct h0
  refine tc tbk 5 (.mk ?_)
  obtain rfl := nxt_e h0
  refine wR hret (rT .nil) ?_
  exact .refl _
def d_stock_Ready (a1 : GState) (a2 : Int) (a3 : Int) : Option (Int) :=
(d_stock_is a1 a2 a3).bind fun x5 =>
bnd (!x5) fun x6 =>
cond x6 (some ((4 : Int))) ((ix a1.Ents a2).bind fun x7 =>
bnd x7.Closed fun x8 =>
asrt (x8 = false) <|
some ((0 : Int)))
theorem d_stock_Ready_c {a1 : GState} {a2 : Int} {a3 : Int} {r : Int} (h0 : d_stock_Ready a1 a2 a3 = some r) : PP Tryz.prog 17 [.agg (GState.av a1), int a2, int a3] (fun y => y = int r) := by
  unfold d_stock_Ready at h0
  refine pp_of_pc (R0 := fun y H => Cv (frzH H) y (int r)) ?_ (fun y H hc => ⟨_, rfl, pvI r, hc⟩)
  refine pcw (c := _) Tryz.func17 rfl rfl ?_; intro Q hret hnorm
  refine tc tbk 2 (.mk ?_)
  refine sB 1 fun v4 => ?_
  refine tr tbk 9 (.mk ?_)
  obtain ⟨x5, e5, h0⟩ := bind_e h0
  refine sC cal37 (d_stock_is_c e5) ?_
  refine nb tbk h0 fun x6 h0 => ?_
  refine tr tbk 2 (.mk ?_)
  cases x6
  replace h0 := cf h0
  refine tc tbk 6 (.mk ?_)
  obtain ⟨x7, e7, h0⟩ := bind_e h0
  refine sY (yv_to (y := .pp [int x7.Now, boo x7.Closed, lst 4 GPool.av x7.Pools, lst 1 fI x7.Bal, lst 11 GRoll.av x7.Rolls, lst 1 fI x7.Prices, lst 1 fI x7.Down, lst 8 GEnt.av x7.Ahead]) (yv_ixT rfl Tryz.underlying27 sh40 rfl rfl e7) (congrArg AV.pp (GEnt.av_eq x7))) ?_
  refine tr tbk 4 (.mk ?_)
  obtain ⟨x8, e8, h0⟩ := bnd_e h0
  refine c_as (t := 13) (boo x8) rfl (congrArg boo e8) ?_
  refine c_as (t := 19) (boo x8) rfl (congrArg boo e8) ?_
  replace h0 := asrt_e h0
  obtain ⟨rfl, h0⟩ := h0
  refine tc tbk 7 (.mk ?_)
  obtain rfl := nxt_e h0
  refine wR hret (rT .nil) ?_
  exact .refl _
  replace h0 := ct h0
  refine tc tbk 5 (.mk ?_)
  obtain rfl := nxt_e h0
  refine wR hret (rT .nil) ?_
  exact .refl _
def d_money_in (a1 : Int) : Option (Bool) :=
(show Option (Bool) from
bnd (decide (a1 ≥ (-288230376151711744))) fun x3 =>
cond x3 (bnd (decide (a1 ≤ 288230376151711744)) fun x4 =>
some (x4 : Bool)) (some (false : Bool))).bind <| fun y0_1 =>
some ((y0_1 : Bool))
theorem d_money_in_c {a1 : Int} {r : Bool} (h0 : d_money_in a1 = some r) : PP Tryz.prog 87 [int a1] (fun y => y = boo r) := by
  unfold d_money_in at h0
  refine pp_of_pc (R0 := fun y H => Cv (frzH H) y (boo r)) ?_ (fun y H hc => ⟨_, rfl, pvB r, hc⟩)
  refine pcw (c := _) Tryz.func87 rfl rfl ?_; intro Q hret hnorm
  refine tc tbk 5 (.mk ?_)
  refine jn h0 [] [] (fun (a : Bool) (k : Unit) => [(2, boo a)]) (fun a k => []) ⟨fun j2 h1 => ?_, ?_⟩
  refine tc tbk 2 (.mk ?_)
  refine nb tbk h1 fun x3 h1 => ?_
  refine tr tbk 1 (.mk ?_)
  cases x3
  replace h1 := cf h1
  refine tr tbk 5 (.mk ?_)
  exact lf h1 () leA
  replace h1 := ct h1
  refine tr tbk 1 (.mk ?_)
  refine nb tbk h1 fun x4 h1 => ?_
  refine tr tbk 3 (.mk ?_)
  exact lf h1 () leA
  rintro y0_1 _ h0
  obtain rfl := nxt_e h0
  refine wR hret (rT .nil) ?_
  exact .refl _
def d_money_Wide (a1 : Int) (a2 : Int) : Option (Int × Int) :=
bnd (wu64 a1) fun x3 =>
bnd (wu64 a2) fun x4 =>
bnd (x3.tmod 4294967296) fun x5 =>
bnd (x4.tmod 4294967296) fun x6 =>
bnd (wu64 (x5 * x6)) fun x7 =>
bnd (wu64 (x3.tdiv 4294967296)) fun x8 =>
bnd (x4.tmod 4294967296) fun x9 =>
bnd (wu64 (x8 * x9)) fun x10 =>
bnd (x3.tmod 4294967296) fun x11 =>
bnd (wu64 (x4.tdiv 4294967296)) fun x12 =>
bnd (wu64 (x11 * x12)) fun x13 =>
bnd (wu64 (x3.tdiv 4294967296)) fun x14 =>
bnd (wu64 (x4.tdiv 4294967296)) fun x15 =>
bnd (wu64 (x14 * x15)) fun x16 =>
bnd (wu64 (x7.tdiv 4294967296)) fun x18 =>
bnd (x10.tmod 4294967296) fun x19 =>
bnd (wu64 (x18 + x19)) fun x20 =>
bnd (x13.tmod 4294967296) fun x21 =>
bnd (wu64 (x20 + x21)) fun x22 =>
bnd (wu64 (x10.tdiv 4294967296)) fun x23 =>
bnd (wu64 (x16 + x23)) fun x24 =>
bnd (wu64 (x13.tdiv 4294967296)) fun x25 =>
bnd (wu64 (x24 + x25)) fun x26 =>
bnd (wu64 (x22.tdiv 4294967296)) fun x27 =>
bnd (wu64 (x26 + x27)) fun x28 =>
bnd (wu64 (x3 * x4)) fun x29 =>
some ((x28 : Int), (x29 : Int))
theorem d_money_Wide_c {a1 : Int} {a2 : Int} {r : Int × Int} (h0 : d_money_Wide a1 a2 = some r) : PP Tryz.prog 124 [int a1, int a2] (fun y => y = .tup [.sc (.int .u64 r.1), .sc (.int .u64 r.2)]) := by
  unfold d_money_Wide at h0
  refine pp_of_pc (R0 := fun y H => Cv (frzH H) y (.tup [.sc (.int .u64 r.1), .sc (.int .u64 r.2)])) ?_ (fun y H hc => ⟨_, rfl, .tup (pvl2 ((pvK .u64) (r.1)) ((pvK .u64) (r.2))), hc⟩)
  refine pcw (c := _) Tryz.func124 rfl rfl ?_; intro Q hret hnorm
  refine tc tbk 8 (.mk ?_)
  refine ni tbk h0 fun x3 h0 => ?_
  refine tr tbk 1 (.mk ?_)
  refine ni tbk h0 fun x4 h0 => ?_
  refine tr tbk 6 (.mk ?_)
  refine ni tbk h0 fun x5 h0 => ?_
  refine tr tbk 1 (.mk ?_)
  refine ni tbk h0 fun x6 h0 => ?_
  refine ni tbk h0 fun x7 h0 => ?_
  refine tr tbk 1 (.mk ?_)
  refine ni tbk h0 fun x8 h0 => ?_
  refine tr tbk 1 (.mk ?_)
  refine ni tbk h0 fun x9 h0 => ?_
  refine ni tbk h0 fun x10 h0 => ?_
  refine tr tbk 1 (.mk ?_)
  refine ni tbk h0 fun x11 h0 => ?_
  refine tr tbk 1 (.mk ?_)
  refine ni tbk h0 fun x12 h0 => ?_
  refine ni tbk h0 fun x13 h0 => ?_
  refine tr tbk 1 (.mk ?_)
  refine ni tbk h0 fun x14 h0 => ?_
  refine tr tbk 1 (.mk ?_)
  refine ni tbk h0 fun x15 h0 => ?_
  refine ni tbk h0 fun x16 h0 => ?_
  refine sY (yv_buildA (cs := [.sc (.int .u64 x7), .sc (.int .u64 x10), .sc (.int .u64 x13), .sc (.int .u64 x16)]) (ps := [(0, _), (1, _), (2, _), (3, _)]) rfl Tryz.underlying189 sh179 z189 rfl (.cons rfl (.cons rfl (.cons rfl (.cons rfl .nil)))) (by kernel_rfl)) ?_
  refine sA 1 z189 fun v17 => ?_
  refine sS ⟨189, 4, true, true, v17, [[.sc (.int .u64 x7), .sc (.int .u64 x10), .sc (.int .u64 x13), .sc (.int .u64 x16)]]⟩ sh189 ?_
  refine tr tbk 3 (.mk ?_)
  refine sY (yv_to (y := .pt 1 v17 0 0) (yv_indexAddrA rfl Tryz.underlying189 sh179 rfl rfl rfl rfl rfl (by decide)) rfl) ?_
  refine tr tbk 1 (.mk ?_)
  refine ni tbk h0 fun x18 h0 => ?_
  refine sY (yv_to (y := .pt 1 v17 0 1) (yv_indexAddrA rfl Tryz.underlying189 sh179 rfl rfl rfl rfl rfl (by decide)) rfl) ?_
  refine tr tbk 1 (.mk ?_)
  refine ni tbk h0 fun x19 h0 => ?_
  refine ni tbk h0 fun x20 h0 => ?_
  refine sY (yv_to (y := .pt 1 v17 0 2) (yv_indexAddrA rfl Tryz.underlying189 sh179 rfl rfl rfl rfl rfl (by decide)) rfl) ?_
  refine tr tbk 1 (.mk ?_)
  refine ni tbk h0 fun x21 h0 => ?_
  refine ni tbk h0 fun x22 h0 => ?_
  refine tr tbk 4 (.mk ?_)
  refine sY (yv_to (y := .pt 1 v17 0 3) (yv_indexAddrA rfl Tryz.underlying189 sh179 rfl rfl rfl rfl rfl (by decide)) rfl) ?_
  refine tr tbk 1 (.mk ?_)
  refine sY (yv_to (y := .pt 1 v17 0 1) (yv_indexAddrA rfl Tryz.underlying189 sh179 rfl rfl rfl rfl rfl (by decide)) rfl) ?_
  refine tr tbk 1 (.mk ?_)
  refine ni tbk h0 fun x23 h0 => ?_
  refine ni tbk h0 fun x24 h0 => ?_
  refine sY (yv_to (y := .pt 1 v17 0 2) (yv_indexAddrA rfl Tryz.underlying189 sh179 rfl rfl rfl rfl rfl (by decide)) rfl) ?_
  refine tr tbk 1 (.mk ?_)
  refine ni tbk h0 fun x25 h0 => ?_
  refine ni tbk h0 fun x26 h0 => ?_
  refine tr tbk 1 (.mk ?_)
  refine ni tbk h0 fun x27 h0 => ?_
  refine ni tbk h0 fun x28 h0 => ?_
  refine tr tbk 2 (.mk ?_)
  refine ni tbk h0 fun x29 h0 => ?_
  refine tr tbk 3 (.mk ?_)
  obtain rfl := nxt_e h0
  refine wR hret (rT (rT .nil)) ?_
  exact .refl _
def d_math_bits_Len64 (a1 : Int) : Option (Int) :=
bnd (decide (a1 ≥ 4294967296)) fun x2 =>
(show Option (Int × Int) from
cond x2 (bnd (a1.fdiv (2 ^ (min (32 : Int).toNat IntKind.u64.bits))) fun x4 =>
some ((x4 : Int), (32 : Int))) (some ((a1 : Int), (0 : Int)))).bind <| p2 fun (y0_1 : Int) (y0_2 : Int) =>
bnd (decide (y0_1 ≥ 65536)) fun x5 =>
(show Option (Int × Int) from
cond x5 (bnd (y0_1.fdiv (2 ^ (min (16 : Int).toNat IntKind.u64.bits))) fun x7 =>
bnd (w64 (y0_2 + 16)) fun x8 =>
some ((x7 : Int), (x8 : Int))) (some ((y0_1 : Int), (y0_2 : Int)))).bind <| p2 fun (y1_1 : Int) (y1_2 : Int) =>
bnd (decide (y1_1 ≥ 256)) fun x9 =>
(show Option (Int × Int) from
cond x9 (bnd (y1_1.fdiv (2 ^ (min (8 : Int).toNat IntKind.u64.bits))) fun x11 =>
bnd (w64 (y1_2 + 8)) fun x12 =>
some ((x11 : Int), (x12 : Int))) (some ((y1_1 : Int), (y1_2 : Int)))).bind <| p2 fun (y2_1 : Int) (y2_2 : Int) =>
bnd (wu8 y2_1) fun x13 =>
(ix ([0, 1, 2, 2, 3, 3, 3, 3, 4, 4, 4, 4, 4, 4, 4, 4, 5, 5, 5, 5, 5, 5, 5, 5, 5, 5, 5, 5, 5, 5, 5, 5, 6, 6, 6, 6, 6, 6, 6, 6, 6, 6, 6, 6, 6, 6, 6, 6, 6, 6, 6, 6, 6, 6, 6, 6, 6, 6, 6, 6, 6, 6, 6, 6, 7, 7, 7, 7, 7, 7, 7, 7, 7, 7, 7, 7, 7, 7, 7, 7, 7, 7, 7, 7, 7, 7, 7, 7, 7, 7, 7, 7, 7, 7, 7, 7, 7, 7, 7, 7, 7, 7, 7, 7, 7, 7, 7, 7, 7, 7, 7, 7, 7, 7, 7, 7, 7, 7, 7, 7, 7, 7, 7, 7, 7, 7, 7, 7, 8, 8, 8, 8, 8, 8, 8, 8, 8, 8, 8, 8, 8, 8, 8, 8, 8, 8, 8, 8, 8, 8, 8, 8, 8, 8, 8, 8, 8, 8, 8, 8, 8, 8, 8, 8, 8, 8, 8, 8, 8, 8, 8, 8, 8, 8, 8, 8, 8, 8, 8, 8, 8, 8, 8, 8, 8, 8, 8, 8, 8, 8, 8, 8, 8, 8, 8, 8, 8, 8, 8, 8, 8, 8, 8, 8, 8, 8, 8, 8, 8, 8, 8, 8, 8, 8, 8, 8, 8, 8, 8, 8, 8, 8, 8, 8, 8, 8, 8, 8, 8, 8, 8, 8, 8, 8, 8, 8, 8, 8, 8, 8, 8, 8, 8, 8, 8, 8, 8, 8, 8, 8, 8, 8, 8, 8, 8, 8] : List UInt8) x13).bind fun x14 =>
bnd (w64 (x14.toNat : Int)) fun x15 =>
bnd (w64 (y2_2 + x15)) fun x16 =>
some ((x16 : Int))
theorem d_math_bits_Len64_c {a1 : Int} {r : Int} (h0 : d_math_bits_Len64 a1 = some r) : PP Tryz.prog 135 [.sc (.int .u64 a1)] (fun y => y = int r) := by
  unfold d_math_bits_Len64 at h0
  refine pp_of_pc (R0 := fun y H => Cv (frzH H) y (int r)) ?_ (fun y H hc => ⟨_, rfl, pvI r, hc⟩)
  refine pcw (c := _) Tryz.func135 rfl rfl ?_; intro Q hret hnorm
  refine tc tbk 8 (.mk ?_)
  refine nb tbk h0 fun x2 h0 => ?_
  refine tr tbk 1 (.mk ?_)
  refine jn h0 [] [] (fun (a : Int × Int) (k : Unit) => [(0, .sc (.int .u64 a.1)), (2, int a.2)]) (fun a k => []) ⟨fun j3 h1 => ?_, ?_⟩
  cases x2
  replace h1 := cf h1
  refine tc tbk 2 (.mk ?_)
  exact lf h1 () leA
  replace h1 := ct h1
  refine tc tbk 4 (.mk ?_)
  refine ni tbk h1 fun x4 h1 => ?_
  refine tr tbk 5 (.mk ?_)
  exact lf h1 () leA
  rintro ⟨y0_1, y0_2⟩ _ h0
  replace h0 := p2_e h0
  refine tc tbk 4 (.mk ?_)
  refine nb tbk h0 fun x5 h0 => ?_
  refine tr tbk 1 (.mk ?_)
  refine jn h0 [] [] (fun (a : Int × Int) (k : Unit) => [(0, .sc (.int .u64 a.1)), (2, int a.2)]) (fun a k => []) ⟨fun j6 h1 => ?_, ?_⟩
  cases x5
  replace h1 := cf h1
  refine tc tbk 2 (.mk ?_)
  exact lf h1 () leA
  replace h1 := ct h1
  refine tc tbk 4 (.mk ?_)
  refine ni tbk h1 fun x7 h1 => ?_
  refine tr tbk 4 (.mk ?_)
  refine ni tbk h1 fun x8 h1 => ?_
  refine tr tbk 2 (.mk ?_)
  exact lf h1 () leA
  rintro ⟨y1_1, y1_2⟩ _ h0
  replace h0 := p2_e h0
  refine tc tbk 4 (.mk ?_)
  refine nb tbk h0 fun x9 h0 => ?_
  refine tr tbk 1 (.mk ?_)
  refine jn h0 [] [] (fun (a : Int × Int) (k : Unit) => [(0, .sc (.int .u64 a.1)), (2, int a.2)]) (fun a k => []) ⟨fun j10 h1 => ?_, ?_⟩
  cases x9
  replace h1 := cf h1
  refine tc tbk 2 (.mk ?_)
  exact lf h1 () leA
  replace h1 := ct h1
  refine tc tbk 4 (.mk ?_)
  refine ni tbk h1 fun x11 h1 => ?_
  refine tr tbk 4 (.mk ?_)
  refine ni tbk h1 fun x12 h1 => ?_
  refine tr tbk 2 (.mk ?_)
  exact lf h1 () leA
  rintro ⟨y2_1, y2_2⟩ _ h0
  replace h0 := p2_e h0
  refine tc tbk 4 (.mk ?_)
  refine ni tbk h0 fun x13 h0 => ?_
  obtain ⟨x14, e14, h0⟩ := bind_e h0
  refine sY (yv_index_str rfl Tryz.underlying9 rfl rfl (ix_e e14).1 (ix_e e14).2) ?_
  refine ni tbk h0 fun x15 h0 => ?_
  refine ni tbk h0 fun x16 h0 => ?_
  refine tr tbk 2 (.mk ?_)
  obtain rfl := nxt_e h0
  refine wR hret (rT .nil) ?_
  exact .refl _
def d_math_bits_LeadingZeros64 (a1 : Int) : Option (Int) :=
(d_math_bits_Len64 a1).bind fun x2 =>
bnd (w64 (64 - x2)) fun x3 =>
some ((x3 : Int))
theorem d_math_bits_LeadingZeros64_c {a1 : Int} {r : Int} (h0 : d_math_bits_LeadingZeros64 a1 = some r) : PP Tryz.prog 131 [.sc (.int .u64 a1)] (fun y => y = int r) := by
  unfold d_math_bits_LeadingZeros64 at h0
  refine pp_of_pc (R0 := fun y H => Cv (frzH H) y (int r)) ?_ (fun y H hc => ⟨_, rfl, pvI r, hc⟩)
  refine pcw (c := _) Tryz.func131 rfl rfl ?_; intro Q hret hnorm
  refine tc tbk 7 (.mk ?_)
  obtain ⟨x2, e2, h0⟩ := bind_e h0
  refine sC cal135 (d_math_bits_Len64_c e2) ?_
  refine ni tbk h0 fun x3 h0 => ?_
  refine tr tbk 2 (.mk ?_)
  obtain rfl := nxt_e h0
  refine wR hret (rT .nil) ?_
  exact .refl _
def d_math_bits_Div64_L0 (x11 : Int) (x12 : Int) (x21 : Int) : Nat → Int → Int → Option (Int)
  | 0, _, _ => none
  | n + 1, y0_1, y0_2 =>
    (show Option (Bool) from
    bnd (decide (y0_1 ≥ 4294967296)) fun x29 =>
    cond x29 (some (true : Bool)) (bnd (wu64 (y0_1 * x12)) fun x30 =>
    bnd (wu64 (4294967296 * y0_2)) fun x31 =>
    bnd (wu64 (x31 + x21)) fun x32 =>
    bnd (decide (x30 > x32)) fun x33 =>
    some (x33 : Bool))).bind <| fun y1_1 =>
    cond y1_1 (bnd (wu64 (y0_1 - 1)) fun x34 =>
    bnd (wu64 (y0_2 + x11)) fun x35 =>
    bnd (decide (x35 ≥ 4294967296)) fun x36 =>
    cond x36 (some (x34 : Int)) (d_math_bits_Div64_L0 x11 x12 x21 n (x34 : Int) (x35 : Int))) (some (y0_1 : Int))
def d_math_bits_Div64_L1 (x11 : Int) (x12 : Int) (x22 : Int) : Nat → Int → Int → Option (Int)
  | 0, _, _ => none
  | n + 1, y3_1, y3_2 =>
    (show Option (Bool) from
    bnd (decide (y3_2 ≥ 4294967296)) fun x47 =>
    cond x47 (some (true : Bool)) (bnd (wu64 (y3_2 * x12)) fun x48 =>
    bnd (wu64 (4294967296 * y3_1)) fun x49 =>
    bnd (wu64 (x49 + x22)) fun x50 =>
    bnd (decide (x48 > x50)) fun x51 =>
    some (x51 : Bool))).bind <| fun y4_1 =>
    cond y4_1 (bnd (wu64 (y3_2 - 1)) fun x52 =>
    bnd (wu64 (y3_1 + x11)) fun x53 =>
    bnd (decide (x53 ≥ 4294967296)) fun x54 =>
    cond x54 (some (x52 : Int)) (d_math_bits_Div64_L1 x11 x12 x22 n (x53 : Int) (x52 : Int))) (some (y3_2 : Int))
def d_math_bits_Div64 (n : Nat) (a1 : Int) (a2 : Int) (a3 : Int) : Option (Int × Int) :=
bnd (decide (a3 = 0)) fun x4 =>
cond x4 (none) (bnd (decide (a3 ≤ a1)) fun x5 =>
cond x5 (none) (bnd (decide (a1 = 0)) fun x6 =>
cond x6 (asrt (a3 ≠ 0) <|
bnd (wu64 (a2.tdiv a3)) fun x64 =>
asrt (a3 ≠ 0) <|
bnd (a2.tmod a3) fun x66 =>
some ((x64 : Int), (x66 : Int))) ((d_math_bits_LeadingZeros64 a3).bind fun x7 =>
bnd (wu64 x7) fun x8 =>
asrt ((0 : Int) ≤ x8) <|
bnd (wu64 (a3 * (2 ^ (min x8.toNat IntKind.u64.bits)))) fun x10 =>
bnd (x10.fdiv (2 ^ (min (32 : Int).toNat IntKind.u64.bits))) fun x11 =>
bnd (wu64 ((BitVec.ofInt IntKind.u64.bits x10 &&& BitVec.ofInt IntKind.u64.bits 4294967295).toNat : Int)) fun x12 =>
asrt ((0 : Int) ≤ x8) <|
bnd (wu64 (a1 * (2 ^ (min x8.toNat IntKind.u64.bits)))) fun x14 =>
bnd (wu64 (64 - x8)) fun x15 =>
asrt ((0 : Int) ≤ x15) <|
bnd (a2.fdiv (2 ^ (min x15.toNat IntKind.u64.bits))) fun x17 =>
bnd (wu64 ((BitVec.ofInt IntKind.u64.bits x14 ||| BitVec.ofInt IntKind.u64.bits x17).toNat : Int)) fun x18 =>
asrt ((0 : Int) ≤ x8) <|
bnd (wu64 (a2 * (2 ^ (min x8.toNat IntKind.u64.bits)))) fun x20 =>
bnd (x20.fdiv (2 ^ (min (32 : Int).toNat IntKind.u64.bits))) fun x21 =>
bnd (wu64 ((BitVec.ofInt IntKind.u64.bits x20 &&& BitVec.ofInt IntKind.u64.bits 4294967295).toNat : Int)) fun x22 =>
asrt (x11 ≠ 0) <|
bnd (wu64 (x18.tdiv x11)) fun x24 =>
bnd (wu64 (x24 * x11)) fun x25 =>
bnd (wu64 (x18 - x25)) fun x26 =>
(show Option (Int) from
d_math_bits_Div64_L0 x11 x12 x21 n (x24 : Int) (x26 : Int)).bind <| fun y2_1 =>
bnd (wu64 (x18 * 4294967296)) fun x37 =>
bnd (wu64 (x37 + x21)) fun x38 =>
bnd (wu64 (y2_1 * x10)) fun x39 =>
bnd (wu64 (x38 - x39)) fun x40 =>
asrt (x11 ≠ 0) <|
bnd (wu64 (x40.tdiv x11)) fun x42 =>
bnd (wu64 (x42 * x11)) fun x43 =>
bnd (wu64 (x40 - x43)) fun x44 =>
(show Option (Int) from
d_math_bits_Div64_L1 x11 x12 x22 n (x44 : Int) (x42 : Int)).bind <| fun y5_1 =>
bnd (wu64 (y2_1 * 4294967296)) fun x55 =>
bnd (wu64 (x55 + y5_1)) fun x56 =>
bnd (wu64 (x40 * 4294967296)) fun x57 =>
bnd (wu64 (x57 + x22)) fun x58 =>
bnd (wu64 (y5_1 * x10)) fun x59 =>
bnd (wu64 (x58 - x59)) fun x60 =>
asrt ((0 : Int) ≤ x8) <|
bnd (x60.fdiv (2 ^ (min x8.toNat IntKind.u64.bits))) fun x62 =>
some ((x56 : Int), (x62 : Int)))))
theorem d_math_bits_Div64_c {n : Nat} {a1 : Int} {a2 : Int} {a3 : Int} {r : Int × Int} (h0 : d_math_bits_Div64 n a1 a2 a3 = some r) : PP Tryz.prog 125 [.sc (.int .u64 a1), .sc (.int .u64 a2), .sc (.int .u64 a3)] (fun y => y = .tup [.sc (.int .u64 r.1), .sc (.int .u64 r.2)]) := by
  unfold d_math_bits_Div64 at h0
  refine pp_of_pc (R0 := fun y H => Cv (frzH H) y (.tup [.sc (.int .u64 r.1), .sc (.int .u64 r.2)])) ?_ (fun y H hc => ⟨_, rfl, .tup (pvl2 ((pvK .u64) (r.1)) ((pvK .u64) (r.2))), hc⟩)
  refine pcw (c := _) Tryz.func125 rfl rfl ?_; intro Q hret hnorm
  refine tc tbk 9 (.mk ?_)
  refine nb tbk h0 fun x4 h0 => ?_
  refine tr tbk 1 (.mk ?_)
  cases x4
  replace h0 := cf h0
  refine tc tbk 7 (.mk ?_)
  refine nb tbk h0 fun x5 h0 => ?_
  refine tr tbk 1 (.mk ?_)
  cases x5
  replace h0 := cf h0
  refine tc tbk 6 (.mk ?_)
  refine nb tbk h0 fun x6 h0 => ?_
  refine tr tbk 1 (.mk ?_)
  cases x6
  replace h0 := cf h0
  refine tc tbk 5 (.mk ?_)
  obtain ⟨x7, e7, h0⟩ := bind_e h0
  refine sC cal131 (d_math_bits_LeadingZeros64_c e7) ?_
  refine ni tbk h0 fun x8 h0 => ?_
  refine tr tbk 6 (.mk ?_)
  obtain ⟨p9, h0⟩ := asrt_e h0
  obtain ⟨x10, e10, h0⟩ := bnd_e h0
  refine sY (yv_shl rfl rfl rfl p9 e10) ?_
  refine tr tbk 5 (.mk ?_)
  refine ni tbk h0 fun x11 h0 => ?_
  refine tr tbk 5 (.mk ?_)
  obtain ⟨x12, e12, h0⟩ := bnd_e h0
  refine sY (yv_and rfl rfl rfl e12) ?_
  refine tr tbk 6 (.mk ?_)
  obtain ⟨p13, h0⟩ := asrt_e h0
  obtain ⟨x14, e14, h0⟩ := bnd_e h0
  refine sY (yv_shl rfl rfl rfl p13 e14) ?_
  refine tr tbk 2 (.mk ?_)
  refine ni tbk h0 fun x15 h0 => ?_
  obtain ⟨p16, h0⟩ := asrt_e h0
  obtain ⟨x17, e17, h0⟩ := bnd_e h0
  refine sY (yv_shr rfl rfl rfl p16 e17) ?_
  obtain ⟨x18, e18, h0⟩ := bnd_e h0
  refine sY (yv_or rfl rfl rfl e18) ?_
  refine tr tbk 6 (.mk ?_)
  obtain ⟨p19, h0⟩ := asrt_e h0
  obtain ⟨x20, e20, h0⟩ := bnd_e h0
  refine sY (yv_shl rfl rfl rfl p19 e20) ?_
  refine tr tbk 5 (.mk ?_)
  refine ni tbk h0 fun x21 h0 => ?_
  refine tr tbk 5 (.mk ?_)
  obtain ⟨x22, e22, h0⟩ := bnd_e h0
  refine sY (yv_and rfl rfl rfl e22) ?_
  refine tr tbk 6 (.mk ?_)
  obtain ⟨p23, h0⟩ := asrt_e h0
  obtain ⟨x24, e24, h0⟩ := bnd_e h0
  refine sY (yv_quo rfl rfl rfl p23 e24) ?_
  refine tr tbk 7 (.mk ?_)
  refine ni tbk h0 fun x25 h0 => ?_
  refine ni tbk h0 fun x26 h0 => ?_
  refine tr tbk 3 (.mk ?_)
  refine jn h0 [2, 6, 7, 8, 9, 10, 11, 13, 14] [] (fun (a : Int) (k : Unit) => [(15, .sc (.int .u64 a))]) (fun a k => []) ⟨fun j27 h1 => ?_, ?_⟩
  refine tc tbk 1 (.mk ?_)
  refine lp (fun n (a : Int × Int) => d_math_bits_Div64_L0 x11 x12 x21 n a.1 a.2) ((x24 : Int), (x26 : Int)) () h1 [2, 6, 7, 8, 9, 10, 11, 13, 14] [] (fun (a : Int × Int) (k : Unit) => [(15, .sc (.int .u64 a.1)), (16, .sc (.int .u64 a.2))]) (fun a k => []) (fun _ => rfl) ⟨leA, ?_⟩
  rintro n ⟨y0_1, y0_2⟩ _ hm h1
  replace h1 : d_math_bits_Div64_L0 x11 x12 x21 (n + 1) y0_1 y0_2 = some _ := h1
  rw [d_math_bits_Div64_L0] at h1
  refine tc tbk 2 (.mk ?_)
  refine jn h1 [2, 6, 7, 8, 9, 10, 11, 13, 14, 15, 16] [] (fun (a : Bool) (k : Unit) => [(78, boo a)]) (fun a k => []) ⟨fun j28 h2 => ?_, ?_⟩
  refine tc tbk 2 (.mk ?_)
  refine nb tbk h2 fun x29 h2 => ?_
  refine tr tbk 1 (.mk ?_)
  cases x29
  replace h2 := cf h2
  refine tr tbk 2 (.mk ?_)
  refine ni tbk h2 fun x30 h2 => ?_
  refine tr tbk 1 (.mk ?_)
  refine ni tbk h2 fun x31 h2 => ?_
  refine tr tbk 1 (.mk ?_)
  refine ni tbk h2 fun x32 h2 => ?_
  refine nb tbk h2 fun x33 h2 => ?_
  refine tr tbk 2 (.mk ?_)
  exact lf h2 () leA
  replace h2 := ct h2
  refine tr tbk 10 (.mk ?_)
  exact lf h2 () leA
  rintro y1_1 _ h1
  cases y1_1
  replace h1 := cf h1
  refine tc tbk 2 (.mk ?_)
  exact lf h1 () leA
  replace h1 := ct h1
  refine tc tbk 6 (.mk ?_)
  refine ni tbk h1 fun x34 h1 => ?_
  refine tr tbk 6 (.mk ?_)
  refine ni tbk h1 fun x35 h1 => ?_
  refine tr tbk 5 (.mk ?_)
  refine nb tbk h1 fun x36 h1 => ?_
  refine tr tbk 1 (.mk ?_)
  cases x36
  replace h1 := cf h1
  refine tc tbk 3 (.mk ?_)
  exact bk (x34, x35) () h1 leA
  replace h1 := ct h1
  refine tc tbk 2 (.mk ?_)
  exact lf h1 () leA
  rintro y2_1 _ h0
  refine tc tbk 3 (.mk ?_)
  refine ni tbk h0 fun x37 h0 => ?_
  refine tr tbk 1 (.mk ?_)
  refine ni tbk h0 fun x38 h0 => ?_
  refine tr tbk 2 (.mk ?_)
  refine ni tbk h0 fun x39 h0 => ?_
  refine ni tbk h0 fun x40 h0 => ?_
  refine tr tbk 6 (.mk ?_)
  obtain ⟨p41, h0⟩ := asrt_e h0
  obtain ⟨x42, e42, h0⟩ := bnd_e h0
  refine sY (yv_quo rfl rfl rfl p41 e42) ?_
  refine tr tbk 7 (.mk ?_)
  refine ni tbk h0 fun x43 h0 => ?_
  refine ni tbk h0 fun x44 h0 => ?_
  refine tr tbk 3 (.mk ?_)
  refine jn h0 [2, 6, 7, 8, 14, 15, 17] [] (fun (a : Int) (k : Unit) => [(18, .sc (.int .u64 a))]) (fun a k => []) ⟨fun j45 h1 => ?_, ?_⟩
  refine tc tbk 1 (.mk ?_)
  refine lp (fun n (a : Int × Int) => d_math_bits_Div64_L1 x11 x12 x22 n a.1 a.2) ((x44 : Int), (x42 : Int)) () h1 [2, 6, 7, 8, 9, 10, 14, 15, 17] [] (fun (a : Int × Int) (k : Unit) => [(16, .sc (.int .u64 a.1)), (18, .sc (.int .u64 a.2))]) (fun a k => []) (fun _ => rfl) ⟨leA, ?_⟩
  rintro n ⟨y3_1, y3_2⟩ _ hm h1
  replace h1 : d_math_bits_Div64_L1 x11 x12 x22 (n + 1) y3_1 y3_2 = some _ := h1
  rw [d_math_bits_Div64_L1] at h1
  refine tc tbk 2 (.mk ?_)
  refine jn h1 [2, 6, 7, 8, 9, 10, 14, 15, 16, 17, 18] [] (fun (a : Bool) (k : Unit) => [(113, boo a)]) (fun a k => []) ⟨fun j46 h2 => ?_, ?_⟩
  refine tc tbk 2 (.mk ?_)
  refine nb tbk h2 fun x47 h2 => ?_
  refine tr tbk 1 (.mk ?_)
  cases x47
  replace h2 := cf h2
  refine tr tbk 2 (.mk ?_)
  refine ni tbk h2 fun x48 h2 => ?_
  refine tr tbk 1 (.mk ?_)
  refine ni tbk h2 fun x49 h2 => ?_
  refine tr tbk 1 (.mk ?_)
  refine ni tbk h2 fun x50 h2 => ?_
  refine nb tbk h2 fun x51 h2 => ?_
  refine tr tbk 2 (.mk ?_)
  exact lf h2 () leA
  replace h2 := ct h2
  refine tr tbk 10 (.mk ?_)
  exact lf h2 () leA
  rintro y4_1 _ h1
  cases y4_1
  replace h1 := cf h1
  refine tc tbk 2 (.mk ?_)
  exact lf h1 () leA
  replace h1 := ct h1
  refine tc tbk 6 (.mk ?_)
  refine ni tbk h1 fun x52 h1 => ?_
  refine tr tbk 6 (.mk ?_)
  refine ni tbk h1 fun x53 h1 => ?_
  refine tr tbk 5 (.mk ?_)
  refine nb tbk h1 fun x54 h1 => ?_
  refine tr tbk 1 (.mk ?_)
  cases x54
  replace h1 := cf h1
  refine tc tbk 3 (.mk ?_)
  exact bk (x53, x52) () h1 leA
  replace h1 := ct h1
  refine tc tbk 2 (.mk ?_)
  exact lf h1 () leA
  rintro y5_1 _ h0
  refine tc tbk 3 (.mk ?_)
  refine ni tbk h0 fun x55 h0 => ?_
  refine tr tbk 1 (.mk ?_)
  refine ni tbk h0 fun x56 h0 => ?_
  refine tr tbk 1 (.mk ?_)
  refine ni tbk h0 fun x57 h0 => ?_
  refine tr tbk 1 (.mk ?_)
  refine ni tbk h0 fun x58 h0 => ?_
  refine tr tbk 2 (.mk ?_)
  refine ni tbk h0 fun x59 h0 => ?_
  refine ni tbk h0 fun x60 h0 => ?_
  refine tr tbk 1 (.mk ?_)
  obtain ⟨p61, h0⟩ := asrt_e h0
  obtain ⟨x62, e62, h0⟩ := bnd_e h0
  refine sY (yv_shr rfl rfl rfl p61 e62) ?_
  refine tr tbk 3 (.mk ?_)
  obtain rfl := nxt_e h0
  refine wR hret (rT (rT .nil)) ?_
  exact .refl _
  replace h0 := ct h0
  refine tc tbk 2 (.mk ?_)
  refine c_drawE [0, 0, 3, 0, 0, 24, 7, 127] (fun i => []) (fun i => []) (fun i => true) [0, 1, 2, 3, 4, 5, 6, 7] mixed (by kernel_rfl) ?_; intro K hK
  iterate 2 refine eM ?_
  obtain ⟨p63, h0⟩ := asrt_e h0
  obtain ⟨x64, e64, h0⟩ := bnd_e h0
  refine eP (fun H hH => yv_quo rfl rfl rfl p63 e64) ?_
  iterate 2 refine eM ?_
  obtain ⟨p65, h0⟩ := asrt_e h0
  obtain ⟨x66, e66, h0⟩ := bnd_e h0
  refine eP (fun H hH => yv_rem rfl rfl rfl p65 e66) ?_
  iterate 2 refine eA ?_
  refine de_nil (hK _ ?_)
  obtain rfl := nxt_e h0
  refine wR hret (rT (rT .nil)) ?_
  exact .refl _
  replace h0 := ct h0
  refine tc tbk 1 (.mk ?_)
  cases h0
  replace h0 := ct h0
  refine tc tbk 1 (.mk ?_)
  cases h0
def d_money_MulDiv (n : Nat) (a1 : Int) (a2 : Int) (a3 : Int) : Option (Int × Int × Int) :=
(show Option (Bool) from
bnd (decide (a1 < 0)) fun x5 =>
cond x5 (some (true : Bool)) (bnd (decide (a2 < 0)) fun x6 =>
cond x6 (some (true : Bool)) (bnd (decide (a3 < 1)) fun x7 =>
some (x7 : Bool)))).bind <| fun y0_1 =>
asrt (y0_1 = false) <|
(d_money_Wide a1 a2).bind fun x8 =>
bnd (wu64 a3) fun x9 =>
bnd (decide (x8.1 ≥ x9)) fun x10 =>
asrt (x10 = false) <|
bnd (wu64 a3) fun x11 =>
(d_math_bits_Div64 n x8.1 x8.2 x11).bind fun x12 =>
bnd (decide (x12.1 > 288230376151711744)) fun x13 =>
asrt (x13 = false) <|
bnd (w64 x12.1) fun x14 =>
bnd (w64 x12.2) fun x15 =>
some ((x14 : Int), (x15 : Int), (0 : Int))
theorem d_money_MulDiv_c {n : Nat} {a1 : Int} {a2 : Int} {a3 : Int} {r : Int × Int × Int} (h0 : d_money_MulDiv n a1 a2 a3 = some r) : PP Tryz.prog 105 [int a1, int a2, int a3] (fun y => y = .tup [int r.1, int r.2.1, int r.2.2]) := by
  unfold d_money_MulDiv at h0
  refine pp_of_pc (R0 := fun y H => Cv (frzH H) y (.tup [int r.1, int r.2.1, int r.2.2])) ?_ (fun y H hc => ⟨_, rfl, .tup (pvl3 (pvI (r.1)) (pvI (r.2.1)) (pvI (r.2.2))), hc⟩)
  refine pcw (c := _) Tryz.func105 rfl rfl ?_; intro Q hret hnorm
  refine tc tbk 8 (.mk ?_)
  refine jn h0 [0, 1, 2, 6, 7, 8] [] (fun (a : Bool) (k : Unit) => [(22, boo a)]) (fun a k => []) ⟨fun j4 h1 => ?_, ?_⟩
  refine tc tbk 2 (.mk ?_)
  refine nb tbk h1 fun x5 h1 => ?_
  refine tr tbk 1 (.mk ?_)
  cases x5
  replace h1 := cf h1
  refine tr tbk 1 (.mk ?_)
  refine nb tbk h1 fun x6 h1 => ?_
  refine tr tbk 2 (.mk ?_)
  cases x6
  replace h1 := cf h1
  refine tr tbk 1 (.mk ?_)
  refine nb tbk h1 fun x7 h1 => ?_
  refine tr tbk 2 (.mk ?_)
  exact lf h1 () leA
  replace h1 := ct h1
  refine tr tbk 4 (.mk ?_)
  exact lf h1 () leA
  replace h1 := ct h1
  refine tr tbk 8 (.mk ?_)
  exact lf h1 () leA
  rintro y0_1 _ h0
  replace h0 := asrt_e h0
  obtain ⟨rfl, h0⟩ := h0
  refine tc tbk 6 (.mk ?_)
  obtain ⟨x8, e8, h0⟩ := bind_e h0
  refine sC cal124 (d_money_Wide_c e8) ?_
  refine tr tbk 11 (.mk ?_)
  refine ni tbk h0 fun x9 h0 => ?_
  refine nb tbk h0 fun x10 h0 => ?_
  refine tr tbk 1 (.mk ?_)
  replace h0 := asrt_e h0
  obtain ⟨rfl, h0⟩ := h0
  refine tc tbk 7 (.mk ?_)
  refine ni tbk h0 fun x11 h0 => ?_
  obtain ⟨x12, e12, h0⟩ := bind_e h0
  refine sC cal125 (d_math_bits_Div64_c e12) ?_
  refine tr tbk 10 (.mk ?_)
  refine nb tbk h0 fun x13 h0 => ?_
  refine tr tbk 1 (.mk ?_)
  replace h0 := asrt_e h0
  obtain ⟨rfl, h0⟩ := h0
  refine tc tbk 5 (.mk ?_)
  refine ni tbk h0 fun x14 h0 => ?_
  refine tr tbk 1 (.mk ?_)
  refine ni tbk h0 fun x15 h0 => ?_
  refine tr tbk 4 (.mk ?_)
  obtain rfl := nxt_e h0
  refine wR hret (rT (rT (rT .nil))) ?_
  exact .refl _
def d_money_Part (n : Nat) (a1 : Int) (a2 : Int) (a3 : Int) : Option (Int) :=
(show Option (Bool) from
bnd (decide (a3 < 1)) fun x5 =>
cond x5 (some (true : Bool)) (bnd (decide (a2 < 0)) fun x6 =>
cond x6 (some (true : Bool)) (bnd (decide (a2 > a3)) fun x7 =>
cond x7 (some (true : Bool)) ((d_money_in a1).bind fun x8 =>
bnd (!x8) fun x9 =>
some (x9 : Bool))))).bind <| fun y0_1 =>
asrt (y0_1 = false) <|
bnd (decide (a2 = a3)) fun x10 =>
cond x10 (some ((a1 : Int))) (bnd (decide (a1 < 0)) fun x11 =>
asrt (x11 = false) <|
(d_money_MulDiv n a1 a2 a3).bind fun x12 =>
some ((x12.1 : Int)))
theorem d_money_Part_c {n : Nat} {a1 : Int} {a2 : Int} {a3 : Int} {r : Int} (h0 : d_money_Part n a1 a2 a3 = some r) : PP Tryz.prog 68 [int a1, int a2, int a3] (fun y => y = int r) := by
  unfold d_money_Part at h0
  refine pp_of_pc (R0 := fun y H => Cv (frzH H) y (int r)) ?_ (fun y H hc => ⟨_, rfl, pvI r, hc⟩)
  refine pcw (c := _) Tryz.func68 rfl rfl ?_; intro Q hret hnorm
  refine tc tbk 7 (.mk ?_)
  refine jn h0 [0, 1, 2, 6] [] (fun (a : Bool) (k : Unit) => [(13, boo a)]) (fun a k => []) ⟨fun j4 h1 => ?_, ?_⟩
  refine tc tbk 2 (.mk ?_)
  refine nb tbk h1 fun x5 h1 => ?_
  refine tr tbk 1 (.mk ?_)
  cases x5
  replace h1 := cf h1
  refine tr tbk 1 (.mk ?_)
  refine nb tbk h1 fun x6 h1 => ?_
  refine tr tbk 2 (.mk ?_)
  cases x6
  replace h1 := cf h1
  refine tr tbk 2 (.mk ?_)
  refine nb tbk h1 fun x7 h1 => ?_
  refine tr tbk 2 (.mk ?_)
  cases x7
  replace h1 := cf h1
  refine tr tbk 1 (.mk ?_)
  obtain ⟨x8, e8, h1⟩ := bind_e h1
  refine sC cal87 (d_money_in_c e8) ?_
  refine nb tbk h1 fun x9 h1 => ?_
  refine tr tbk 3 (.mk ?_)
  exact lf h1 () leA
  replace h1 := ct h1
  refine tr tbk 6 (.mk ?_)
  exact lf h1 () leA
  replace h1 := ct h1
  refine tr tbk 11 (.mk ?_)
  exact lf h1 () leA
  replace h1 := ct h1
  refine tr tbk 15 (.mk ?_)
  exact lf h1 () leA
  rintro y0_1 _ h0
  replace h0 := asrt_e h0
  obtain ⟨rfl, h0⟩ := h0
  refine tc tbk 5 (.mk ?_)
  refine nb tbk h0 fun x10 h0 => ?_
  refine tr tbk 2 (.mk ?_)
  cases x10
  replace h0 := cf h0
  refine tc tbk 4 (.mk ?_)
  refine nb tbk h0 fun x11 h0 => ?_
  refine tr tbk 2 (.mk ?_)
  replace h0 := asrt_e h0
  obtain ⟨rfl, h0⟩ := h0
  refine tc tbk 8 (.mk ?_)
  obtain ⟨x12, e12, h0⟩ := bind_e h0
  refine sC cal105 (d_money_MulDiv_c e12) ?_
  refine tr tbk 13 (.mk ?_)
  obtain rfl := nxt_e h0
  refine wR hret (rT .nil) ?_
  exact .refl _
  replace h0 := ct h0
  refine tc tbk 6 (.mk ?_)
  obtain rfl := nxt_e h0
  refine wR hret (rT .nil) ?_
  exact .refl _
def d_stock_in (a1 : Int) (a2 : Int) (a3 : Int) : Option (Bool) :=
(show Option (Bool) from
bnd (decide (a1 ≥ a2)) fun x5 =>
cond x5 (bnd (decide (a1 ≤ a3)) fun x6 =>
some (x6 : Bool)) (some (false : Bool))).bind <| fun y0_1 =>
some ((y0_1 : Bool))
theorem d_stock_in_c {a1 : Int} {a2 : Int} {a3 : Int} {r : Bool} (h0 : d_stock_in a1 a2 a3 = some r) : PP Tryz.prog 70 [int a1, int a2, int a3] (fun y => y = boo r) := by
  unfold d_stock_in at h0
  refine pp_of_pc (R0 := fun y H => Cv (frzH H) y (boo r)) ?_ (fun y H hc => ⟨_, rfl, pvB r, hc⟩)
  refine pcw (c := _) Tryz.func70 rfl rfl ?_; intro Q hret hnorm
  refine tc tbk 5 (.mk ?_)
  refine jn h0 [] [] (fun (a : Bool) (k : Unit) => [(6, boo a)]) (fun a k => []) ⟨fun j4 h1 => ?_, ?_⟩
  refine tc tbk 3 (.mk ?_)
  refine nb tbk h1 fun x5 h1 => ?_
  refine tr tbk 1 (.mk ?_)
  cases x5
  replace h1 := cf h1
  refine tr tbk 6 (.mk ?_)
  exact lf h1 () leA
  replace h1 := ct h1
  refine tr tbk 2 (.mk ?_)
  refine nb tbk h1 fun x6 h1 => ?_
  refine tr tbk 3 (.mk ?_)
  exact lf h1 () leA
  rintro y0_1 _ h0
  obtain rfl := nxt_e h0
  refine wR hret (rT .nil) ?_
  exact .refl _
def d_stock_place (a1 : GState) (a2 : Int) (a3 : Int) (a4 : Int) : Option (Int) :=
(show Option (Bool) from
(d_stock_is a1 a2 a3).bind fun x7 =>
bnd (!x7) fun x8 =>
cond x8 (some (true : Bool)) ((d_stock_in a4 0 1).bind fun x9 =>
bnd (!x9) fun x10 =>
some (x10 : Bool))).bind <| fun y0_1 =>
asrt (y0_1 = false) <|
bnd (w64 (a3 * 2)) fun x11 =>
bnd (w64 (x11 + a4)) fun x12 =>
some ((x12 : Int))
theorem d_stock_place_c {a1 : GState} {a2 : Int} {a3 : Int} {a4 : Int} {r : Int} (h0 : d_stock_place a1 a2 a3 a4 = some r) : PP Tryz.prog 38 [.agg (GState.av a1), int a2, int a3, int a4] (fun y => y = int r) := by
  unfold d_stock_place at h0
  refine pp_of_pc (R0 := fun y H => Cv (frzH H) y (int r)) ?_ (fun y H hc => ⟨_, rfl, pvI r, hc⟩)
  refine pcw (c := _) Tryz.func38 rfl rfl ?_; intro Q hret hnorm
  refine tc tbk 2 (.mk ?_)
  refine sB 1 fun v5 => ?_
  refine tr tbk 4 (.mk ?_)
  refine jn h0 [2, 3, 8] [] (fun (a : Bool) (k : Unit) => [(18, boo a)]) (fun a k => []) ⟨fun j6 h1 => ?_, ?_⟩
  refine tc tbk 4 (.mk ?_)
  obtain ⟨x7, e7, h1⟩ := bind_e h1
  refine sC cal37 (d_stock_is_c e7) ?_
  refine nb tbk h1 fun x8 h1 => ?_
  refine tr tbk 1 (.mk ?_)
  cases x8
  replace h1 := cf h1
  refine tr tbk 1 (.mk ?_)
  obtain ⟨x9, e9, h1⟩ := bind_e h1
  refine sC cal70 (d_stock_in_c e9) ?_
  refine nb tbk h1 fun x10 h1 => ?_
  refine tr tbk 2 (.mk ?_)
  exact lf h1 () leA
  replace h1 := ct h1
  refine tr tbk 5 (.mk ?_)
  exact lf h1 () leA
  rintro y0_1 _ h0
  replace h0 := asrt_e h0
  obtain ⟨rfl, h0⟩ := h0
  refine tc tbk 5 (.mk ?_)
  refine ni tbk h0 fun x11 h0 => ?_
  refine tr tbk 1 (.mk ?_)
  refine ni tbk h0 fun x12 h0 => ?_
  refine tr tbk 2 (.mk ?_)
  obtain rfl := nxt_e h0
  refine wR hret (rT .nil) ?_
  exact .refl _
def d_pool_with (a1 : GPool) (a2 : List GLayer) : Option (GPool) :=
some (((⟨a2, a1.Pend⟩ : GPool) : GPool))
theorem d_pool_with_c {a1 : GPool} {a2 : List GLayer} {r : GPool} (h0 : d_pool_with a1 a2 = some r) : PP Tryz.prog 106 [.agg (GPool.av a1), lst 3 GLayer.av a2] (fun y => y = .agg (GPool.av r)) := by
  unfold d_pool_with at h0
  refine pp_of_pc (R0 := fun y H => Cv (frzH H) y (.agg (GPool.av r))) ?_ (fun y H hc => ⟨_, rfl, (fun (a : GPool) => PV.agg (GPool.pvc a)) r, hc⟩)
  refine pcw (c := _) Tryz.func106 rfl rfl ?_; intro Q hret hnorm
  refine tc tbk 2 (.mk ?_)
  refine sB 1 fun v3 => ?_
  refine sA 2 z82 fun v4 => ?_
  refine tr tbk 5 (.mk ?_)
  refine sS ⟨82, 4, true, true, v3, [[lst 3 GLayer.av a2, int a1.Pend.a0, int a1.Pend.a1, int a1.Pend.a2]]⟩ sh79 ?_
  refine tr tbk 4 (.mk ?_)
  refine sS ⟨82, 4, true, true, v4, [[lst 3 GLayer.av a2, int a1.Pend.a0, int a1.Pend.a1, int a1.Pend.a2]]⟩ sh82 ?_
  refine tr tbk 1 (.mk ?_)
  obtain rfl := nxt_e h0
  refine wR hret (rC sh82 .nil) ?_
  exact .refl _
def d_pool_own (a1 : GPool) : Option (GPool) :=
asrt (a1.Layers.length ≤ 68719476736) <|
(show Option ((Unit)) from
some ()).bind <| fun _ =>
some ((a1 : GPool))
theorem d_pool_own_c {a1 : GPool} {r : GPool} (h0 : d_pool_own a1 = some r) : PP Tryz.prog 72 [.agg (GPool.av a1)] (fun y => y = .agg (GPool.av r)) := by
  unfold d_pool_own at h0
  refine pp_of_pc (R0 := fun y H => Cv (frzH H) y (.agg (GPool.av r))) ?_ (fun y H hc => ⟨_, rfl, (fun (a : GPool) => PV.agg (GPool.pvc a)) r, hc⟩)
  refine pcw (c := _) Tryz.func72 rfl rfl ?_; intro Q hret hnorm
  refine tc tbk 2 (.mk ?_)
  refine sB 1 fun v2 => ?_
  refine sA 2 z82 fun v3 => ?_
  refine tr tbk 2 (.mk ?_)
  refine c_drawE [0, 0, 2, 6, 15, 31] (rl [(0, [1]), (1, [1]), (2, [1])] []) (rl [(4, []), (5, [])] [1]) (rl [(3, false), (4, false), (5, false)] true) [0, 1, 2, 3, 4, 5] mixed (by kernel_rfl) ?_; intro K hK
  refine eL sh82 ?_
  refine eF fo82_0 ?_
  refine eL sh79 ?_
  obtain ⟨p4, h0⟩ := asrt_e h0
  refine de_eff rfl rfl rfl rfl (yl_call rfl rfl (.cons rfl .nil) cal104 (pc_cv (clone104_c (id := 3) (l := a1.Layers) rfl p4) (.cons (.refl _) .nil))) (by rintro _ _ ⟨v5, rfl, rfl⟩; exact ⟨rfl, trivial⟩) ?_; rintro _ _ ⟨v5, rfl, rfl⟩
  obtain ⟨j6, h1, h0⟩ := bind_e h0
  refine de_eff (Out := fun y H' => (∃ (a : Unit) (k : Unit), a = j6 ∧ y = .agg [.sl 3 v5 0 a1.Layers.length, int a1.Pend.a0, int a1.Pend.a1, int a1.Pend.a2] ∧ H' = hk [(1, ⟨82, 4, true, true, v2, [[lst 3 GLayer.av a1.Layers, int a1.Pend.a0, int a1.Pend.a1, int a1.Pend.a2]]⟩), (2, ⟨82, 4, true, true, v3, [[.sc (.slice none 0 0), int 0, int 0, int 0]]⟩), (3, ⟨60, 3, true, true, v5, a1.Layers.map GLayer.av⟩)])) rfl rfl rfl rfl (yl_call rfl rfl (.cons rfl (.cons rfl .nil)) cal106 ?_) (by rintro y _ ⟨_, _, rfl, hc, rfl⟩ <;> exact trivial) ?_
  refine pcw (c := _) Tryz.func106 rfl rfl ?_; intro Q hret hnorm
  refine tc tbk 2 (.mk ?_)
  refine sB 4 fun v7 => ?_
  refine sA 5 z82 fun v8 => ?_
  refine tr tbk 5 (.mk ?_)
  refine sS ⟨82, 4, true, true, v7, [[.sl 3 v5 0 a1.Layers.length, int a1.Pend.a0, int a1.Pend.a1, int a1.Pend.a2]]⟩ sh79 ?_
  refine tr tbk 4 (.mk ?_)
  refine sS ⟨82, 4, true, true, v8, [[.sl 3 v5 0 a1.Layers.length, int a1.Pend.a0, int a1.Pend.a1, int a1.Pend.a2]]⟩ sh82 ?_
  refine tr tbk 1 (.mk ?_)
  obtain rfl := nxt_e h1
  refine w_ret (hret _ _ (hk [(1, ⟨82, 4, true, true, v2, [[lst 3 GLayer.av a1.Layers, int a1.Pend.a0, int a1.Pend.a1, int a1.Pend.a2]]⟩), (2, ⟨82, 4, true, true, v3, [[.sc (.slice none 0 0), int 0, int 0, int 0]]⟩), (3, ⟨60, 3, true, true, v5, a1.Layers.map GLayer.av⟩)]) (.cell rfl (.pt rfl rfl rfl) sh82 rfl .nil) (HK.le ⟨rfl, rfl, rfl, trivial⟩) ?_)
  exact ⟨(), (), rfl, rfl, rfl⟩
  rintro y _ ⟨_, _, rfl, hc, rfl⟩
  subst hc
  refine de_eff0 rfl rfl rfl rfl (Yield.weak (yl_ob (ob' := (⟨82, 4, true, true, v3, [[.sl 3 v5 0 a1.Layers.length, int a1.Pend.a0, int a1.Pend.a1, int a1.Pend.a2]]⟩ : AObj)) (yl_store rfl sh82 rfl rfl rfl rfl rfl rfl rfl rfl rfl) rfl) (fun _ h => h) (fun _ _ => trivial)) (by rintro _ _ ⟨rfl, rfl⟩; exact trivial) ?_; rintro _ _ ⟨rfl, rfl⟩
  refine de_nil (hK _ ?_)
  obtain rfl := nxt_e h0
  refine wR hret (rC sh82 .nil) ?_
  exact (CvL.agg (.cons (cv_lst rfl rfl rfl rfl rfl (Eq.symm rfl)) (.cons (.refl _) (.cons (.refl _) (.cons (.refl _) .nil)))))
def d_fifo_wrong (a1 : GLayer) : Option (Bool) :=
(show Option (Bool) from
bnd (decide (a1.Qty < 1)) fun x4 =>
cond x4 (some (true : Bool)) (bnd (decide (a1.Qty > 288230376151711744)) fun x5 =>
cond x5 (some (true : Bool)) (bnd (decide (a1.Value < 0)) fun x6 =>
cond x6 (some (true : Bool)) (bnd (decide (a1.Value > 288230376151711744)) fun x7 =>
cond x7 (some (true : Bool)) (bnd (decide (a1.Profit < (-288230376151711744))) fun x8 =>
cond x8 (some (true : Bool)) (bnd (decide (a1.Profit > 288230376151711744)) fun x9 =>
some (x9 : Bool))))))).bind <| fun y0_1 =>
some ((y0_1 : Bool))
theorem d_fifo_wrong_c {a1 : GLayer} {r : Bool} (h0 : d_fifo_wrong a1 = some r) : PP Tryz.prog 161 [.agg (GLayer.av a1)] (fun y => y = boo r) := by
  unfold d_fifo_wrong at h0
  refine pp_of_pc (R0 := fun y H => Cv (frzH H) y (boo r)) ?_ (fun y H hc => ⟨_, rfl, pvB r, hc⟩)
  refine pcw (c := _) Tryz.func161 rfl rfl ?_; intro Q hret hnorm
  refine tc tbk 2 (.mk ?_)
  refine sB 1 fun v2 => ?_
  refine tr tbk 3 (.mk ?_)
  refine jn h0 [] [] (fun (a : Bool) (k : Unit) => [(2, boo a)]) (fun a k => []) ⟨fun j3 h1 => ?_, ?_⟩
  refine tc tbk 3 (.mk ?_)
  refine nb tbk h1 fun x4 h1 => ?_
  refine tr tbk 1 (.mk ?_)
  cases x4
  replace h1 := cf h1
  refine tr tbk 2 (.mk ?_)
  refine nb tbk h1 fun x5 h1 => ?_
  refine tr tbk 2 (.mk ?_)
  cases x5
  replace h1 := cf h1
  refine tr tbk 2 (.mk ?_)
  refine nb tbk h1 fun x6 h1 => ?_
  refine tr tbk 2 (.mk ?_)
  cases x6
  replace h1 := cf h1
  refine tr tbk 2 (.mk ?_)
  refine nb tbk h1 fun x7 h1 => ?_
  refine tr tbk 2 (.mk ?_)
  cases x7
  replace h1 := cf h1
  refine tr tbk 2 (.mk ?_)
  refine nb tbk h1 fun x8 h1 => ?_
  refine tr tbk 2 (.mk ?_)
  cases x8
  replace h1 := cf h1
  refine tr tbk 2 (.mk ?_)
  refine nb tbk h1 fun x9 h1 => ?_
  refine tr tbk 3 (.mk ?_)
  exact lf h1 () leA
  replace h1 := ct h1
  refine tr tbk 6 (.mk ?_)
  exact lf h1 () leA
  replace h1 := ct h1
  refine tr tbk 11 (.mk ?_)
  exact lf h1 () leA
  replace h1 := ct h1
  refine tr tbk 16 (.mk ?_)
  exact lf h1 () leA
  replace h1 := ct h1
  refine tr tbk 21 (.mk ?_)
  exact lf h1 () leA
  replace h1 := ct h1
  refine tr tbk 26 (.mk ?_)
  exact lf h1 () leA
  rintro y0_1 _ h0
  obtain rfl := nxt_e h0
  refine wR hret (rT .nil) ?_
  exact .refl _
def d_money_Add (a1 : Int) (a2 : Int) : Option (Int × Int) :=
(show Option (Bool) from
(d_money_in a1).bind fun x4 =>
bnd (!x4) fun x5 =>
cond x5 (some (true : Bool)) ((d_money_in a2).bind fun x6 =>
bnd (!x6) fun x7 =>
cond x7 (some (true : Bool)) (bnd (w64 (a1 + a2)) fun x8 =>
(d_money_in x8).bind fun x9 =>
bnd (!x9) fun x10 =>
some (x10 : Bool)))).bind <| fun y0_1 =>
asrt (y0_1 = false) <|
bnd (w64 (a1 + a2)) fun x11 =>
some ((x11 : Int), (0 : Int))
theorem d_money_Add_c {a1 : Int} {a2 : Int} {r : Int × Int} (h0 : d_money_Add a1 a2 = some r) : PP Tryz.prog 48 [int a1, int a2] (fun y => y = .tup [int r.1, int r.2]) := by
  unfold d_money_Add at h0
  refine pp_of_pc (R0 := fun y H => Cv (frzH H) y (.tup [int r.1, int r.2])) ?_ (fun y H hc => ⟨_, rfl, .tup (pvl2 (pvI (r.1)) (pvI (r.2))), hc⟩)
  refine pcw (c := _) Tryz.func48 rfl rfl ?_; intro Q hret hnorm
  refine tc tbk 7 (.mk ?_)
  refine jn h0 [0, 1, 4, 5] [] (fun (a : Bool) (k : Unit) => [(20, boo a)]) (fun a k => []) ⟨fun j3 h1 => ?_, ?_⟩
  refine tc tbk 2 (.mk ?_)
  obtain ⟨x4, e4, h1⟩ := bind_e h1
  refine sC cal87 (d_money_in_c e4) ?_
  refine nb tbk h1 fun x5 h1 => ?_
  refine tr tbk 1 (.mk ?_)
  cases x5
  replace h1 := cf h1
  refine tr tbk 1 (.mk ?_)
  obtain ⟨x6, e6, h1⟩ := bind_e h1
  refine sC cal87 (d_money_in_c e6) ?_
  refine nb tbk h1 fun x7 h1 => ?_
  refine tr tbk 2 (.mk ?_)
  cases x7
  replace h1 := cf h1
  refine tr tbk 2 (.mk ?_)
  refine ni tbk h1 fun x8 h1 => ?_
  obtain ⟨x9, e9, h1⟩ := bind_e h1
  refine sC cal87 (d_money_in_c e9) ?_
  refine nb tbk h1 fun x10 h1 => ?_
  refine tr tbk 2 (.mk ?_)
  exact lf h1 () leA
  replace h1 := ct h1
  refine tr tbk 7 (.mk ?_)
  exact lf h1 () leA
  replace h1 := ct h1
  refine tr tbk 12 (.mk ?_)
  exact lf h1 () leA
  rintro y0_1 _ h0
  replace h0 := asrt_e h0
  obtain ⟨rfl, h0⟩ := h0
  refine tc tbk 6 (.mk ?_)
  refine ni tbk h0 fun x11 h0 => ?_
  refine tr tbk 3 (.mk ?_)
  obtain rfl := nxt_e h0
  refine wR hret (rT (rT .nil)) ?_
  exact .refl _
def d_money_Sum_L0 (a1 : List Int) : Nat → Int → Int → Option (Int)
  | 0, _, _ => none
  | n + 1, y0_1, y0_2 =>
    bnd (decide (y0_2 < (a1.length : Int))) fun x3 =>
    cond x3 ((ix a1 y0_2).bind fun x4 =>
    (d_money_Add y0_1 x4).bind fun x5 =>
    bnd (decide (x5.2 ≠ 0)) fun x6 =>
    asrt (x6 = false) <|
    bnd (w64 (y0_2 + 1)) fun x7 =>
    d_money_Sum_L0 a1 n (x5.1 : Int) (x7 : Int)) (some (y0_1 : Int))
def d_money_Sum (n : Nat) (a1 : List Int) : Option (Int × Int) :=
(show Option (Int) from
d_money_Sum_L0 a1 n (0 : Int) (0 : Int)).bind <| fun y1_1 =>
some ((y1_1 : Int), (0 : Int))
theorem d_money_Sum_c {n : Nat} {a1 : List Int} {r : Int × Int} (h0 : d_money_Sum n a1 = some r) : PP Tryz.prog 74 [lst 1 fI a1] (fun y => y = .tup [int r.1, int r.2]) := by
  unfold d_money_Sum at h0
  refine pp_of_pc (R0 := fun y H => Cv (frzH H) y (.tup [int r.1, int r.2])) ?_ (fun y H hc => ⟨_, rfl, .tup (pvl2 (pvI (r.1)) (pvI (r.2))), hc⟩)
  refine pcw (c := _) Tryz.func74 rfl rfl ?_; intro Q hret hnorm
  refine tc tbk 13 (.mk ?_)
  refine sY (yv_len_sl rfl Tryz.underlying23 rfl (lst_len _)) ?_
  refine tr tbk 2 (.mk ?_)
  refine jn h0 [2, 3] [] (fun (a : Int) (k : Unit) => [(4, int a)]) (fun a k => []) ⟨fun j2 h1 => ?_, ?_⟩
  refine tc tbk 1 (.mk ?_)
  refine lp (fun n (a : Int × Int) => d_money_Sum_L0 a1 n a.1 a.2) ((0 : Int), (0 : Int)) () h1 [2, 3, 8, 9] [] (fun (a : Int × Int) (k : Unit) => [(4, int a.1), (10, int a.2)]) (fun a k => []) (fun _ => rfl) ⟨leA, ?_⟩
  rintro n ⟨y0_1, y0_2⟩ _ hm h1
  replace h1 : d_money_Sum_L0 a1 (n + 1) y0_1 y0_2 = some _ := h1
  rw [d_money_Sum_L0] at h1
  refine tc tbk 2 (.mk ?_)
  refine nb tbk h1 fun x3 h1 => ?_
  refine tr tbk 2 (.mk ?_)
  cases x3
  replace h1 := cf h1
  refine tc tbk 2 (.mk ?_)
  exact lf h1 () leA
  replace h1 := ct h1
  refine tc tbk 6 (.mk ?_)
  obtain ⟨x4, e4, h1⟩ := bind_e h1
  refine sY (yv_ixT rfl Tryz.underlying23 sh3 rfl rfl e4) ?_
  refine tr tbk 11 (.mk ?_)
  obtain ⟨x5, e5, h1⟩ := bind_e h1
  refine sC cal48 (d_money_Add_c e5) ?_
  refine tr tbk 9 (.mk ?_)
  refine nb tbk h1 fun x6 h1 => ?_
  refine tr tbk 1 (.mk ?_)
  replace h1 := asrt_e h1
  obtain ⟨rfl, h1⟩ := h1
  refine tc tbk 4 (.mk ?_)
  refine ni tbk h1 fun x7 h1 => ?_
  refine tr tbk 2 (.mk ?_)
  exact bk (x5.1, x7) () h1 leA
  rintro y1_1 _ h0
  refine tc tbk 6 (.mk ?_)
  obtain rfl := nxt_e h0
  refine wR hret (rT (rT .nil)) ?_
  exact .refl _
def d_fifo_Total_L0 (a1 : List GLayer) : Nat → Int → (List Int) → (List Int) → (List Int) → Option ((List Int) × (List Int) × (List Int))
  | 0, _, _, _, _ => none
  | n + 1, y0_4, y0_5, y0_6, y0_7 =>
    bnd (decide (y0_4 < (a1.length : Int))) fun x7 =>
    cond x7 ((ix a1 y0_4).bind fun x8 =>
    bnd (y0_5 ++ ([x8.Qty] : List Int)) fun x10 =>
    asrt (x10.length ≤ 68719476736) <|
    bnd (y0_6 ++ ([x8.Value] : List Int)) fun x13 =>
    asrt (x13.length ≤ 68719476736) <|
    bnd (y0_7 ++ ([x8.Profit] : List Int)) fun x16 =>
    asrt (x16.length ≤ 68719476736) <|
    bnd (w64 (y0_4 + 1)) fun x19 =>
    d_fifo_Total_L0 a1 n (x19 : Int) (x10 : List Int) (x13 : List Int) (x16 : List Int)) (some ((y0_5 : List Int), (y0_6 : List Int), (y0_7 : List Int)))
def d_fifo_Total (n : Nat) (a1 : List GLayer) : Option (GLayer × Int) :=
(show Option ((List Int) × (List Int) × (List Int)) from
d_fifo_Total_L0 a1 n (0 : Int) (([] : List Int) : List Int) (([] : List Int) : List Int) (([] : List Int) : List Int)).bind <| p2 fun (y1_4 : List Int) (q0 : (List Int) × (List Int)) => (p2 fun (y1_5 : List Int) (y1_6 : List Int) =>
(show Option (GLayer) from
(d_money_Sum n y1_4).bind fun x23 =>
bnd (decide (x23.2 ≠ 0)) fun x24 =>
asrt (x24 = false) <|
(d_money_Sum n y1_5).bind fun x26 =>
bnd (decide (x26.2 ≠ 0)) fun x27 =>
asrt (x27 = false) <|
(d_money_Sum n y1_6).bind fun x29 =>
bnd (decide (x29.2 ≠ 0)) fun x30 =>
asrt (x30 = false) <|
some ((⟨x23.1, x26.1, x29.1⟩ : GLayer) : GLayer)).bind <| fun y2_1 =>
some ((y2_1 : GLayer), (0 : Int))) q0
theorem d_fifo_Total_c {n : Nat} {a1 : List GLayer} {r : GLayer × Int} (h0 : d_fifo_Total n a1 = some r) : PP Tryz.prog 73 [lst 3 GLayer.av a1] (fun y => y = .tup [.agg (GLayer.av r.1), int r.2]) := by
  unfold d_fifo_Total at h0
  refine pp_of_pc (R0 := fun y H => Cv (frzH H) y (.tup [.agg (GLayer.av r.1), int r.2])) ?_ (fun y H hc => ⟨_, rfl, .tup (pvl2 ((fun (a : GLayer) => PV.agg (GLayer.pvc a)) (r.1)) (pvI (r.2))), hc⟩)
  refine pcw (c := _) Tryz.func73 rfl rfl ?_; intro Q hret hnorm
  refine tc tbk 2 (.mk ?_)
  refine sA 1 z60 fun v2 => ?_
  refine tr tbk 12 (.mk ?_)
  refine sY (yv_len_sl rfl Tryz.underlying79 rfl (lst_len _)) ?_
  refine tr tbk 2 (.mk ?_)
  refine jn h0 [2, 3] [1] (fun (a : (List Int) × (List Int) × (List Int)) (k : Nat × Nat × Nat) => [(4, .sl 6 k.1 0 a.1.length), (5, .sl 7 k.2.1 0 a.2.1.length), (6, .sl 8 k.2.2 0 a.2.2.length)]) (fun a k => [(6, ⟨3, 1, true, true, k.1, a.1.map fI⟩), (7, ⟨3, 1, true, true, k.2.1, a.2.1.map fI⟩), (8, ⟨3, 1, true, true, k.2.2, a.2.2.map fI⟩)]) ⟨fun j3 h1 => ?_, ?_⟩
  refine tc tbk 1 (.mk ?_)
  refine c_nilobj 4 6 3 1 rfl rfl ?_; intro v4
  refine c_nilobj 5 7 3 1 rfl rfl ?_; intro v5
  refine c_nilobj 6 8 3 1 rfl rfl ?_; intro v6
  refine lp (fun n (a : Int × (List Int) × (List Int) × (List Int)) => d_fifo_Total_L0 a1 n a.1 a.2.1 a.2.2.1 a.2.2.2) ((0 : Int), (([] : List Int) : List Int), (([] : List Int) : List Int), (([] : List Int) : List Int)) (v4, v5, v6) h1 [2, 3, 14, 15] [1] (fun (a : Int × (List Int) × (List Int) × (List Int)) (k : Nat × Nat × Nat) => [(4, .sl 6 k.1 0 a.2.1.length), (5, .sl 7 k.2.1 0 a.2.2.1.length), (6, .sl 8 k.2.2 0 a.2.2.2.length), (16, int a.1)]) (fun a k => [(6, ⟨3, 1, true, true, k.1, a.2.1.map fI⟩), (7, ⟨3, 1, true, true, k.2.1, a.2.2.1.map fI⟩), (8, ⟨3, 1, true, true, k.2.2, a.2.2.2.map fI⟩)]) (fun _ => rfl) ⟨leA, ?_⟩
  rintro n ⟨y0_4, y0_5, y0_6, y0_7⟩ ⟨w0_1, w0_2, w0_3⟩ hm h1
  replace h1 : d_fifo_Total_L0 a1 (n + 1) y0_4 y0_5 y0_6 y0_7 = some _ := h1
  rw [d_fifo_Total_L0] at h1
  refine tc tbk 2 (.mk ?_)
  refine nb tbk h1 fun x7 h1 => ?_
  refine tr tbk 2 (.mk ?_)
  cases x7
  replace h1 := cf h1
  refine tc tbk 2 (.mk ?_)
  exact lf h1 (w0_1, w0_2, w0_3) leA
  replace h1 := ct h1
  refine tc tbk 6 (.mk ?_)
  obtain ⟨x8, e8, h1⟩ := bind_e h1
  refine sY (yv_ixT rfl Tryz.underlying79 sh60 rfl rfl e8) ?_
  refine tr tbk 1 (.mk ?_)
  refine sA 2 z60 fun v9 => ?_
  refine sS ⟨60, 3, true, true, v9, [[int x8.Qty, int x8.Value, int x8.Profit]]⟩ sh60 ?_
  refine tr tbk 1 (.mk ?_)
  refine c_drawE [0, 0, 2, 6, 15, 0, 0, 64, 192, 511, 0, 0, 2048, 6144, 16383, 32767, 65535, 131071] (rl [(1, [2]), (2, [2]), (6, [2]), (7, [2]), (11, [2]), (12, [2])] []) (rl [(14, [])] [2]) (rl [(4, false), (9, false), (14, false)] true) [0, 1, 2, 3, 5, 6, 7, 8, 10, 11, 12, 13, 4, 9, 14, 15, 16, 17] mixed (by kernel_rfl) ?_; intro K hK
  refine eM ?_
  refine eF fo60_0 ?_
  refine eL sh3 ?_
  refine eP (fun H hH => yv_to (y := lst 1 fI ([x8.Qty] : List Int)) (yv_buildSlice (ps := [(0, _)]) (rows := [[int x8.Qty]]) rfl Tryz.underlying23 bz3 (.cons rfl .nil) (by kernel_rfl) rfl rfl rfl) rfl) ?_
  refine eM ?_
  refine eF fo60_1 ?_
  refine eL sh3 ?_
  refine eP (fun H hH => yv_to (y := lst 1 fI ([x8.Value] : List Int)) (yv_buildSlice (ps := [(0, _)]) (rows := [[int x8.Value]]) rfl Tryz.underlying23 bz3 (.cons rfl .nil) (by kernel_rfl) rfl rfl rfl) rfl) ?_
  refine eM ?_
  refine eF fo60_2 ?_
  refine eL sh3 ?_
  refine eP (fun H hH => yv_to (y := lst 1 fI ([x8.Profit] : List Int)) (yv_buildSlice (ps := [(0, _)]) (rows := [[int x8.Profit]]) rfl Tryz.underlying23 bz3 (.cons rfl .nil) (by kernel_rfl) rfl rfl rfl) rfl) ?_
  obtain ⟨x10, e10, h1⟩ := bnd_e h1
  obtain ⟨p11, h1⟩ := asrt_e h1
  refine de_eff rfl rfl rfl rfl (yl_appT (g := fI) (l := y0_5) (m := ([x8.Qty] : List Int)) .any rfl Tryz.underlying23 bz3 by3 rfl rfl rfl rfl rfl rfl rfl rfl rfl rfl (Eq.symm rfl) (.refl _) (fun _ => rfl) e10 p11) (by rintro _ _ ⟨v12, -, rfl, rfl⟩; exact ⟨rfl, trivial⟩) ?_; rintro _ _ ⟨v12, -, rfl, rfl⟩
  obtain ⟨x13, e13, h1⟩ := bnd_e h1
  obtain ⟨p14, h1⟩ := asrt_e h1
  refine de_eff rfl rfl rfl rfl (yl_appT (g := fI) (l := y0_6) (m := ([x8.Value] : List Int)) .any rfl Tryz.underlying23 bz3 by3 rfl rfl rfl rfl rfl rfl rfl rfl rfl rfl (Eq.symm rfl) (.refl _) (fun _ => rfl) e13 p14) (by rintro _ _ ⟨v15, -, rfl, rfl⟩; exact ⟨rfl, trivial⟩) ?_; rintro _ _ ⟨v15, -, rfl, rfl⟩
  obtain ⟨x16, e16, h1⟩ := bnd_e h1
  obtain ⟨p17, h1⟩ := asrt_e h1
  refine de_eff rfl rfl rfl rfl (yl_appT (g := fI) (l := y0_7) (m := ([x8.Profit] : List Int)) .any rfl Tryz.underlying23 bz3 by3 rfl rfl rfl rfl rfl rfl rfl rfl rfl rfl (Eq.symm rfl) (.refl _) (fun _ => rfl) e16 p17) (by rintro _ _ ⟨v18, -, rfl, rfl⟩; exact trivial) ?_; rintro _ _ ⟨v18, -, rfl, rfl⟩
  iterate 3 refine eA ?_
  refine de_nil (hK _ ?_)
  refine tc tbk 2 (.mk ?_)
  refine ni tbk h1 fun x19 h1 => ?_
  refine tr tbk 2 (.mk ?_)
  exact bk (x19, x10, x13, x16) (v12, v15, v18) h1 leA
  rintro ⟨y1_4, y1_5, y1_6⟩ ⟨w1_1, w1_2, w1_3⟩ h0
  replace h0 := p2_e h0
  replace h0 := p2_e h0
  refine tc tbk 2 (.mk ?_)
  refine sA 9 z60 fun v20 => ?_
  refine tr tbk 13 (.mk ?_)
  refine sY (yv_buildSlice (ps := [(0, _), (1, _), (2, _)]) (rows := [[.pt 9 v20 0 0, .sl 6 w1_1 0 y1_4.length], [.pt 9 v20 0 1, .sl 7 w1_2 0 y1_5.length], [.pt 9 v20 0 2, .sl 8 w1_3 0 y1_6.length]]) rfl Tryz.underlying163 bz162 (.cons rfl (.cons rfl (.cons rfl .nil))) (by kernel_rfl) rfl rfl rfl) ?_
  refine sY (yv_to (y := int 3) (yv_len_sl rfl Tryz.underlying163 rfl (.list _ _)) rfl) ?_
  refine tr tbk 2 (.mk ?_)
  refine jn h0 [2, 3, 9] [1] (fun (a : GLayer) (k : Unit) => []) (fun a k => [(9, ⟨60, 3, true, true, v20, [[int a.Qty, int a.Value, int a.Profit]]⟩)]) ⟨fun j21 h1 => ?_, ?_⟩
  refine tc tbk 4 (.mk ?_)
  refine sY (yv_to (y := boo true) (yv_lss rfl rfl rfl) (congrArg boo (by decide))) ?_
  refine tr tbk 8 (.mk ?_)
  refine sY (yv_indexAddr (j := 0) rfl Tryz.underlying163 sh162 rfl rfl rfl (.list rfl)) ?_
  refine tr tbk 1 (.mk ?_)
  refine sA 10 z162 fun v22 => ?_
  refine sS ⟨162, 2, true, true, v22, [[.pt 9 v20 0 0, .sl 6 w1_1 0 y1_4.length]]⟩ sh162 ?_
  refine tr tbk 5 (.mk ?_)
  obtain ⟨x23, e23, h1⟩ := bind_e h1
  refine sY (yv_callT (v := .tup [int x23.1, int x23.2]) rfl rfl (.cons rfl .nil) cal74 (.cons (cv_lst rfl rfl rfl rfl rfl (Eq.symm rfl)) .nil) (d_money_Sum_c e23) rfl) ?_
  refine tr tbk 10 (.mk ?_)
  refine nb tbk h1 fun x24 h1 => ?_
  refine tr tbk 1 (.mk ?_)
  replace h1 := asrt_e h1
  obtain ⟨rfl, h1⟩ := h1
  refine tc tbk 7 (.mk ?_)
  refine sS ⟨60, 3, true, true, v20, [[int x23.1, int 0, int 0]]⟩ sh3 ?_
  refine tr tbk 3 (.mk ?_)
  refine sY (yv_add (r := 1) rfl rfl rfl (by decide)) ?_
  refine tr tbk 5 (.mk ?_)
  refine sY (yv_to (y := boo true) (yv_lss rfl rfl rfl) (congrArg boo (by decide))) ?_
  refine tr tbk 8 (.mk ?_)
  refine sY (yv_indexAddr (j := 1) rfl Tryz.underlying163 sh162 rfl rfl rfl (.list rfl)) ?_
  refine tr tbk 1 (.mk ?_)
  refine sA 11 z162 fun v25 => ?_
  refine sS ⟨162, 2, true, true, v25, [[.pt 9 v20 0 1, .sl 7 w1_2 0 y1_5.length]]⟩ sh162 ?_
  refine tr tbk 5 (.mk ?_)
  obtain ⟨x26, e26, h1⟩ := bind_e h1
  refine sY (yv_callT (v := .tup [int x26.1, int x26.2]) rfl rfl (.cons rfl .nil) cal74 (.cons (cv_lst rfl rfl rfl rfl rfl (Eq.symm rfl)) .nil) (d_money_Sum_c e26) rfl) ?_
  refine tr tbk 10 (.mk ?_)
  refine nb tbk h1 fun x27 h1 => ?_
  refine tr tbk 1 (.mk ?_)
  replace h1 := asrt_e h1
  obtain ⟨rfl, h1⟩ := h1
  refine tc tbk 7 (.mk ?_)
  refine sS ⟨60, 3, true, true, v20, [[int x23.1, int x26.1, int 0]]⟩ sh3 ?_
  refine tr tbk 3 (.mk ?_)
  refine sY (yv_add (r := 2) rfl rfl rfl (by decide)) ?_
  refine tr tbk 5 (.mk ?_)
  refine sY (yv_to (y := boo true) (yv_lss rfl rfl rfl) (congrArg boo (by decide))) ?_
  refine tr tbk 8 (.mk ?_)
  refine sY (yv_indexAddr (j := 2) rfl Tryz.underlying163 sh162 rfl rfl rfl (.list rfl)) ?_
  refine tr tbk 1 (.mk ?_)
  refine sA 12 z162 fun v28 => ?_
  refine sS ⟨162, 2, true, true, v28, [[.pt 9 v20 0 2, .sl 8 w1_3 0 y1_6.length]]⟩ sh162 ?_
  refine tr tbk 5 (.mk ?_)
  obtain ⟨x29, e29, h1⟩ := bind_e h1
  refine sY (yv_callT (v := .tup [int x29.1, int x29.2]) rfl rfl (.cons rfl .nil) cal74 (.cons (cv_lst rfl rfl rfl rfl rfl (Eq.symm rfl)) .nil) (d_money_Sum_c e29) rfl) ?_
  refine tr tbk 10 (.mk ?_)
  refine nb tbk h1 fun x30 h1 => ?_
  refine tr tbk 1 (.mk ?_)
  replace h1 := asrt_e h1
  obtain ⟨rfl, h1⟩ := h1
  refine tc tbk 7 (.mk ?_)
  refine sS ⟨60, 3, true, true, v20, [[int x23.1, int x26.1, int x29.1]]⟩ sh3 ?_
  refine tr tbk 3 (.mk ?_)
  refine sY (yv_add (r := 3) rfl rfl rfl (by decide)) ?_
  refine tr tbk 5 (.mk ?_)
  refine sY (yv_to (y := boo false) (yv_lss rfl rfl rfl) (congrArg boo (by decide))) ?_
  refine tr tbk 4 (.mk ?_)
  exact lf h1 () leA
  rintro y2_1 _ h0
  refine tc tbk 3 (.mk ?_)
  refine sS ⟨60, 3, true, true, v2, [[int y2_1.Qty, int y2_1.Value, int y2_1.Profit]]⟩ sh60 ?_
  refine tr tbk 2 (.mk ?_)
  obtain rfl := nxt_e h0
  refine wR hret (rC sh60 (rT .nil)) ?_
  exact .refl _
def d_fifo_steady_L0 (a1 : List GLayer) : Nat → Int → (List Int) → Option ((List Int))
  | 0, _, _ => none
  | n + 1, y0_2, y0_3 =>
    bnd (decide (y0_2 < (a1.length : Int))) fun x4 =>
    cond x4 ((ix a1 y0_2).bind fun x5 =>
    bnd (w64 (0 - x5.Profit)) fun x7 =>
    bnd (if x7 > x5.Profit then x7 else x5.Profit) fun x8 =>
    bnd (y0_3 ++ ([x8] : List Int)) fun x9 =>
    asrt (x9.length ≤ 68719476736) <|
    bnd (w64 (y0_2 + 1)) fun x12 =>
    d_fifo_steady_L0 a1 n (x12 : Int) (x9 : List Int)) (some (y0_3 : List Int))
def d_fifo_steady (n : Nat) (a1 : List GLayer) : Option (Bool) :=
(show Option ((List Int)) from
d_fifo_steady_L0 a1 n (0 : Int) (([] : List Int) : List Int)).bind <| fun y1_2 =>
(d_money_Sum n y1_2).bind fun x13 =>
bnd (decide (x13.2 = 0)) fun x14 =>
some ((x14 : Bool))
theorem d_fifo_steady_c {n : Nat} {a1 : List GLayer} {r : Bool} (h0 : d_fifo_steady n a1 = some r) : PP Tryz.prog 162 [lst 3 GLayer.av a1] (fun y => y = boo r) := by
  unfold d_fifo_steady at h0
  refine pp_of_pc (R0 := fun y H => Cv (frzH H) y (boo r)) ?_ (fun y H hc => ⟨_, rfl, pvB r, hc⟩)
  refine pcw (c := _) Tryz.func162 rfl rfl ?_; intro Q hret hnorm
  refine tc tbk 12 (.mk ?_)
  refine sY (yv_len_sl rfl Tryz.underlying79 rfl (lst_len _)) ?_
  refine tr tbk 2 (.mk ?_)
  refine jn h0 [2] [] (fun (a : (List Int)) (k : Nat) => [(3, .sl 3 k 0 a.length)]) (fun a k => [(3, ⟨3, 1, true, true, k, a.map fI⟩)]) ⟨fun j2 h1 => ?_, ?_⟩
  refine tc tbk 1 (.mk ?_)
  refine c_nilobj 3 3 3 1 rfl rfl ?_; intro v3
  refine lp (fun n (a : Int × (List Int)) => d_fifo_steady_L0 a1 n a.1 a.2) ((0 : Int), (([] : List Int) : List Int)) v3 h1 [2, 8, 9] [] (fun (a : Int × (List Int)) (k : Nat) => [(3, .sl 3 k 0 a.2.length), (10, int a.1)]) (fun a k => [(3, ⟨3, 1, true, true, k, a.2.map fI⟩)]) (fun _ => rfl) ⟨leA, ?_⟩
  rintro n ⟨y0_2, y0_3⟩ w0_1 hm h1
  replace h1 : d_fifo_steady_L0 a1 (n + 1) y0_2 y0_3 = some _ := h1
  rw [d_fifo_steady_L0] at h1
  refine tc tbk 2 (.mk ?_)
  refine nb tbk h1 fun x4 h1 => ?_
  refine tr tbk 2 (.mk ?_)
  cases x4
  replace h1 := cf h1
  refine tc tbk 2 (.mk ?_)
  exact lf h1 w0_1 leA
  replace h1 := ct h1
  refine tc tbk 6 (.mk ?_)
  obtain ⟨x5, e5, h1⟩ := bind_e h1
  refine sY (yv_ixT rfl Tryz.underlying79 sh60 rfl rfl e5) ?_
  refine tr tbk 1 (.mk ?_)
  refine sA 1 z60 fun v6 => ?_
  refine sS ⟨60, 3, true, true, v6, [[int x5.Qty, int x5.Value, int x5.Profit]]⟩ sh60 ?_
  refine tr tbk 7 (.mk ?_)
  refine ni tbk h1 fun x7 h1 => ?_
  obtain ⟨x8, e8, h1⟩ := bnd_e h1
  refine sY (yv_max rfl rfl rfl e8) ?_
  refine sY (yv_to (y := lst 1 fI ([x8] : List Int)) (yv_buildSlice (ps := [(0, _)]) (rows := [[int x8]]) rfl Tryz.underlying23 bz3 (.cons rfl .nil) (by kernel_rfl) rfl rfl rfl) rfl) ?_
  obtain ⟨x9, e9, h1⟩ := bnd_e h1
  obtain ⟨p10, h1⟩ := asrt_e h1
  refine rse rfl rfl rfl (yl_appT (g := fI) (l := y0_3) (m := ([x8] : List Int)) .any rfl Tryz.underlying23 bz3 by3 rfl rfl rfl rfl rfl rfl rfl rfl rfl rfl (Eq.symm rfl) (.refl _) (fun _ => rfl) e9 p10) ?_; rintro _ _ ⟨v11, -, rfl, rfl⟩
  refine tr tbk 4 (.mk ?_)
  refine ni tbk h1 fun x12 h1 => ?_
  refine tr tbk 2 (.mk ?_)
  exact bk (x12, x9) v11 h1 leA
  rintro y1_2 w1_1 h0
  refine tc tbk 3 (.mk ?_)
  obtain ⟨x13, e13, h0⟩ := bind_e h0
  refine sY (yv_callT (v := .tup [int x13.1, int x13.2]) rfl rfl (.cons rfl .nil) cal74 (.cons (cv_lst rfl rfl rfl rfl rfl (Eq.symm rfl)) .nil) (d_money_Sum_c e13) rfl) ?_
  refine tr tbk 9 (.mk ?_)
  refine nb tbk h0 fun x14 h0 => ?_
  refine tr tbk 2 (.mk ?_)
  obtain rfl := nxt_e h0
  refine wR hret (rT .nil) ?_
  exact .refl _
def d_fifo_Right_L0 (a1 : List GLayer) : Nat → Int → Option ((Unit) ⊕ ((Int)))
  | 0, _ => none
  | n + 1, y0_1 =>
    bnd (decide (y0_1 < (a1.length : Int))) fun x7 =>
    cond x7 ((ix a1 y0_1).bind fun x8 =>
    (d_fifo_wrong x8).bind fun x9 =>
    cond x9 (esc (some (y0_1 : Int))) (bnd (w64 (y0_1 + 1)) fun x10 =>
    d_fifo_Right_L0 a1 n (x10 : Int))) (brk ())
def d_fifo_Right (n : Nat) (a1 : List GLayer) : Option (Bool) :=
(show Option (Bool) from
bnd (decide ((a1.length : Int) > 30)) fun x3 =>
cond x3 (some (true : Bool)) ((show Option ((Bool)) from
(show Option ((Int)) from
(show Option ((Unit) ⊕ ((Int))) from
d_fifo_Right_L0 a1 n (0 : Int)).bind <| sel <| fun _ =>
some ((-1) : Int)).bind <| fun y2_1 =>
bnd (decide (y2_1 ≥ 0)) fun x12 =>
some (x12 : Bool)).bind <| fun y3_1 =>
some (y3_1 : Bool))).bind <| fun y4_1 =>
asrt (y4_1 = false) <|
(d_fifo_Total n a1).bind fun x13 =>
(show Option (Bool) from
bnd (decide (x13.2 = 0)) fun x16 =>
cond x16 ((d_fifo_steady n a1).bind fun x17 =>
some (x17 : Bool)) (some (false : Bool))).bind <| fun y5_1 =>
some ((y5_1 : Bool))
theorem d_fifo_Right_c {n : Nat} {a1 : List GLayer} {r : Bool} (h0 : d_fifo_Right n a1 = some r) : PP Tryz.prog 158 [lst 3 GLayer.av a1] (fun y => y = boo r) := by
  unfold d_fifo_Right at h0
  refine pp_of_pc (R0 := fun y H => Cv (frzH H) y (boo r)) ?_ (fun y H hc => ⟨_, rfl, pvB r, hc⟩)
  refine pcw (c := _) Tryz.func158 rfl rfl ?_; intro Q hret hnorm
  refine tc tbk 6 (.mk ?_)
  refine jn h0 [0, 2] [] (fun (a : Bool) (k : Unit) => [(11, boo a)]) (fun a k => []) ⟨fun j2 h1 => ?_, ?_⟩
  refine tc tbk 2 (.mk ?_)
  refine sY (yv_len_sl rfl Tryz.underlying79 rfl (lst_len _)) ?_
  refine nb tbk h1 fun x3 h1 => ?_
  refine tr tbk 1 (.mk ?_)
  cases x3
  replace h1 := cf h1
  refine tr tbk 1 (.mk ?_)
  obtain ⟨j4, h2, h1⟩ := bind_e h1
  refine rse (Out := fun y H' => (∃ (a : Bool) (k : Unit), a = j4 ∧ y = boo a ∧ H' = hk [])) rfl rfl rfl (yl_call rfl rfl (.cons rfl (.cons rfl .nil)) cal160 ?_) ?_
  refine pcw (c := _) Tryz.func160 rfl rfl ?_; intro Q hret hnorm
  refine tc tbk 8 (.mk ?_)
  obtain ⟨j5, h3, h2⟩ := bind_e h2
  refine rse (Out := fun y H' => (∃ (a : Int) (k : Unit), a = j5 ∧ y = int a ∧ H' = hk [])) rfl rfl rfl (yl_call rfl rfl (.cons rfl (.cons rfl .nil)) cal163 ?_) ?_
  refine pcw (c := _) Tryz.func163 rfl rfl ?_; intro Q hret hnorm
  refine tc tbk 8 (.mk ?_)
  refine sY (yv_len_sl rfl Tryz.underlying79 rfl (lst_len _)) ?_
  refine tr tbk 2 (.mk ?_)
  refine jnE h3 [4] [] (fun (a : Unit) (k : Unit) => []) (fun a k => []) ⟨fun j6 h4 h3 => ?_, ?_⟩
  refine tc tbk 1 (.mk ?_)
  refine lp (fun n (a : Int) => d_fifo_Right_L0 a1 n a) (0 : Int) () h4 [0, 1, 4, 7] [] (fun (a : Int) (k : Unit) => [(8, int a)]) (fun a k => []) (fun _ => rfl) ⟨leA, ?_⟩
  rintro n y0_1 _ hm h4
  replace h4 : d_fifo_Right_L0 a1 (n + 1) y0_1 = some _ := h4
  rw [d_fifo_Right_L0] at h4
  refine tc tbk 2 (.mk ?_)
  refine nb tbk h4 fun x7 h4 => ?_
  refine tr tbk 2 (.mk ?_)
  cases x7
  replace h4 := cf h4
  refine tc tbk 2 (.mk ?_)
  exact lfE h4 () leA
  replace h4 := ct h4
  refine tc tbk 14 (.mk ?_)
  obtain ⟨x8, e8, h4⟩ := bind_e h4
  refine sY (yv_ixT rfl Tryz.underlying79 sh60 rfl rfl e8) ?_
  refine tr tbk 1 (.mk ?_)
  obtain ⟨x9, e9, h4⟩ := bind_e h4
  refine sC cal161 (d_fifo_wrong_c e9) ?_
  refine tr tbk 1 (.mk ?_)
  cases x9
  replace h4 := cf h4
  refine tc tbk 4 (.mk ?_)
  refine ni tbk h4 fun x10 h4 => ?_
  refine tr tbk 2 (.mk ?_)
  exact bk x10 () h4 leA
  replace h4 := ct h4
  refine tc tbk 6 (.mk ?_)
  obtain ⟨c11, hX, hj⟩ := esc_e h4; subst hj; replace h3 := hX.trans (sel_r h3)
  obtain rfl := nxt_e h3
  refine w_ret (hret _ _ (hk []) (.tmp rfl .nil) (fun _ _ h => nomatch h) ?_)
  exact ⟨y0_1, (), rfl, rfl, rfl⟩
  rintro _ _ h3
  refine tc tbk 4 (.mk ?_)
  obtain rfl := nxt_e h3
  refine w_ret (hret _ _ (hk []) (.tmp rfl .nil) (fun _ _ h => nomatch h) ?_)
  exact ⟨(-1), (), rfl, rfl, rfl⟩
  rintro y _ ⟨y2_1, _, rfl, hc, rfl⟩
  subst hc
  refine nb tbk h2 fun x12 h2 => ?_
  refine tr tbk 2 (.mk ?_)
  obtain rfl := nxt_e h2
  refine w_ret (hret _ _ (hk []) (.tmp rfl .nil) (fun _ _ h => nomatch h) ?_)
  exact ⟨x12, (), rfl, rfl, rfl⟩
  rintro y _ ⟨y3_1, _, rfl, hc, rfl⟩
  subst hc
  refine tr tbk 2 (.mk ?_)
  exact lf h1 () leA
  replace h1 := ct h1
  refine tr tbk 4 (.mk ?_)
  exact lf h1 () leA
  rintro y4_1 _ h0
  replace h0 := asrt_e h0
  obtain ⟨rfl, h0⟩ := h0
  refine tc tbk 5 (.mk ?_)
  obtain ⟨x13, e13, h0⟩ := bind_e h0
  refine sC cal73 (d_fifo_Total_c e13) ?_
  refine tr tbk 3 (.mk ?_)
  refine sA 1 z60 fun v14 => ?_
  refine sS ⟨60, 3, true, true, v14, [[int x13.1.Qty, int x13.1.Value, int x13.1.Profit]]⟩ sh60 ?_
  refine tr tbk 3 (.mk ?_)
  refine jn h0 [] [] (fun (a : Bool) (k : Unit) => [(2, boo a)]) (fun a k => []) ⟨fun j15 h1 => ?_, ?_⟩
  refine tc tbk 2 (.mk ?_)
  refine nb tbk h1 fun x16 h1 => ?_
  refine tr tbk 1 (.mk ?_)
  cases x16
  replace h1 := cf h1
  refine tr tbk 5 (.mk ?_)
  exact lf h1 () leA
  replace h1 := ct h1
  refine tr tbk 1 (.mk ?_)
  obtain ⟨x17, e17, h1⟩ := bind_e h1
  refine sC cal162 (d_fifo_steady_c e17) ?_
  refine tr tbk 3 (.mk ?_)
  exact lf h1 () leA
  rintro y5_1 _ h0
  obtain rfl := nxt_e h0
  refine wR hret (rT .nil) ?_
  exact .refl _
def d_fifo_In (n : Nat) (a1 : List GLayer) (a2 : GLayer) : Option ((List GLayer) × Int) :=
asrt (a1.length ≤ 68719476736) <|
(show Option (Bool) from
bnd (decide (a2.Qty < 1)) fun x7 =>
cond x7 (some (true : Bool)) (bnd (decide (a2.Value < 0)) fun x8 =>
some (x8 : Bool))).bind <| fun y0_1 =>
asrt (y0_1 = false) <|
bnd (decide ((a1.length : Int) ≥ 30)) fun x9 =>
asrt (x9 = false) <|
asrt (a1.length ≤ 68719476736) <|
bnd (a1 ++ ([a2] : List GLayer)) fun x12 =>
asrt (x12.length ≤ 68719476736) <|
(d_fifo_Right n x12).bind fun x15 =>
bnd (!x15) fun x16 =>
asrt (x16 = false) <|
some ((x12 : List GLayer), (0 : Int))
theorem d_fifo_In_c {n : Nat} {a1 : List GLayer} {a2 : GLayer} {r : (List GLayer) × Int} (h0 : d_fifo_In n a1 a2 = some r) : PP Tryz.prog 156 [lst 3 GLayer.av a1, .agg (GLayer.av a2)] (fun y => y = .tup [lst 3 GLayer.av r.1, int r.2]) := by
  unfold d_fifo_In at h0
  refine pp_of_pc (R0 := fun y H => Cv (frzH H) y (.tup [lst 3 GLayer.av r.1, int r.2])) ?_ (fun y H hc => ⟨_, rfl, .tup (pvl2 ((pvLs GLayer.pvc) (r.1)) (pvI (r.2))), hc⟩)
  refine pcw (c := _) Tryz.func156 rfl rfl ?_; intro Q hret hnorm
  refine tc tbk 2 (.mk ?_)
  refine sB 1 fun v3 => ?_
  refine tr tbk 6 (.mk ?_)
  obtain ⟨p4, h0⟩ := asrt_e h0
  refine rse rfl rfl rfl (yl_call rfl rfl (.cons rfl .nil) cal104 (pc_cv (clone104_c (id := 2) (l := a1) rfl p4) (.cons (.refl _) .nil))) ?_; rintro _ _ ⟨v5, rfl, rfl⟩
  refine tr tbk 5 (.mk ?_)
  refine jn h0 [0, 3, 4, 5] [1, 2] (fun (a : Bool) (k : Unit) => [(9, boo a)]) (fun a k => []) ⟨fun j6 h1 => ?_, ?_⟩
  refine tc tbk 3 (.mk ?_)
  refine nb tbk h1 fun x7 h1 => ?_
  refine tr tbk 1 (.mk ?_)
  cases x7
  replace h1 := cf h1
  refine tr tbk 2 (.mk ?_)
  refine nb tbk h1 fun x8 h1 => ?_
  refine tr tbk 3 (.mk ?_)
  exact lf h1 () leA
  replace h1 := ct h1
  refine tr tbk 6 (.mk ?_)
  exact lf h1 () leA
  rintro y0_1 _ h0
  replace h0 := asrt_e h0
  obtain ⟨rfl, h0⟩ := h0
  refine tc tbk 4 (.mk ?_)
  refine sY (yv_len_sl rfl Tryz.underlying79 rfl (.sl rfl rfl)) ?_
  refine nb tbk h0 fun x9 h0 => ?_
  refine tr tbk 2 (.mk ?_)
  replace h0 := asrt_e h0
  obtain ⟨rfl, h0⟩ := h0
  refine tc tbk 4 (.mk ?_)
  refine c_drawE [0, 1, 0, 4, 15, 31] (rl [(2, [1])] []) (rl [(4, [])] [1]) (rl [(1, false), (4, false)] true) [0, 2, 3, 1, 4, 5] mixed (by kernel_rfl) ?_; intro K hK
  refine eM ?_
  refine eL sh60 ?_
  refine eP (fun H hH => yv_to (y := lst 3 GLayer.av ([a2] : List GLayer)) (yv_buildSlice (ps := [(0, _)]) (rows := [[int a2.Qty, int a2.Value, int a2.Profit]]) rfl Tryz.underlying79 bz60 (.cons rfl .nil) (by kernel_rfl) rfl rfl rfl) rfl) ?_
  obtain ⟨p10, h0⟩ := asrt_e h0
  refine de_eff rfl rfl rfl rfl (Yield.frz 2 rfl (yl_call rfl rfl (.cons rfl .nil) cal104 (pc_cv (clone104_c (id := 3) (l := a1) rfl p10) (.cons (cv_lst rfl rfl rfl rfl rfl (Eq.symm rfl)) .nil)))) (by rintro _ _ ⟨v11, rfl, rfl⟩; exact ⟨rfl, trivial⟩) ?_; rintro _ _ ⟨v11, rfl, rfl⟩
  obtain ⟨x12, e12, h0⟩ := bnd_e h0
  obtain ⟨p13, h0⟩ := asrt_e h0
  refine de_eff rfl rfl rfl rfl (yl_appT (g := GLayer.av) (l := a1) (m := ([a2] : List GLayer)) .any rfl Tryz.underlying79 bz60 by60 rfl rfl rfl rfl rfl rfl rfl rfl rfl rfl (Eq.symm rfl) (.refl _) (fun _ => rfl) e12 p13) (by rintro _ _ ⟨v14, -, rfl, rfl⟩; exact trivial) ?_; rintro _ _ ⟨v14, -, rfl, rfl⟩
  refine eA ?_
  refine de_nil (hK _ ?_)
  refine tc tbk 4 (.mk ?_)
  obtain ⟨x15, e15, h0⟩ := bind_e h0
  refine sY (yv_callT (v := boo x15) rfl rfl (.cons rfl .nil) cal158 (.cons (cv_lst rfl rfl rfl rfl rfl (Eq.symm rfl)) .nil) (d_fifo_Right_c e15) rfl) ?_
  refine nb tbk h0 fun x16 h0 => ?_
  refine tr tbk 1 (.mk ?_)
  replace h0 := asrt_e h0
  obtain ⟨rfl, h0⟩ := h0
  refine tc tbk 8 (.mk ?_)
  obtain rfl := nxt_e h0
  refine wR hret (rT (rT .nil)) ?_
  exact CvL.tup (.cons (cv_lst rfl rfl rfl rfl rfl (Eq.symm rfl)) (.cons (.refl _) .nil))
def d_mavg_In (n : Nat) (a1 : List GLayer) (a2 : GLayer) : Option ((List GLayer) × Int) :=
(show Option ((Unit)) from
some ()).bind <| fun _ =>
(d_fifo_In n a1 a2).bind fun x6 =>
bnd (decide (x6.2 ≠ 0)) fun x7 =>
cond x7 (some ((x6.1 : List GLayer), (x6.2 : Int))) ((show Option ((Unit)) from
some ()).bind <| fun _ =>
(d_fifo_Total n x6.1).bind fun x10 =>
bnd (decide (x10.2 ≠ 0)) fun x12 =>
cond x12 (asrt (a1.length ≤ 68719476736) <|
some ((a1 : List GLayer), (x10.2 : Int))) (some ((([x10.1] : List GLayer) : List GLayer), (0 : Int))))
theorem d_mavg_In_c {n : Nat} {a1 : List GLayer} {a2 : GLayer} {r : (List GLayer) × Int} (h0 : d_mavg_In n a1 a2 = some r) : PP Tryz.prog 166 [lst 3 GLayer.av a1, .agg (GLayer.av a2)] (fun y => y = .tup [lst 3 GLayer.av r.1, int r.2]) := by
  unfold d_mavg_In at h0
  refine pp_of_pc (R0 := fun y H => Cv (frzH H) y (.tup [lst 3 GLayer.av r.1, int r.2])) ?_ (fun y H hc => ⟨_, rfl, .tup (pvl2 ((pvLs GLayer.pvc) (r.1)) (pvI (r.2))), hc⟩)
  refine pcw (c := _) Tryz.func166 rfl rfl ?_; intro Q hret hnorm
  refine tc tbk 2 (.mk ?_)
  refine sB 1 fun v3 => ?_
  refine tr tbk 4 (.mk ?_)
  refine c_drawE [0, 1, 0, 0, 15, 31, 63, 63, 127, 511] (rl [(3, [1])] []) (fun i => [1]) (rl [(0, false)] true) [2, 3, 0, 1, 4, 5, 6, 7, 8, 9] mixed (by kernel_rfl) ?_; intro K hK
  refine eM ?_
  refine eL sh60 ?_
  obtain ⟨j4, h1, h0⟩ := bind_e h0
  refine de_eff (Out := fun y H' => (∃ (a : Unit) (k : Unit), a = j4 ∧ y = .agg [.fn (.func 156) [] [], .fn (.func 157) [] [], .fn (.func 73) [] []] ∧ H' = hk [(1, ⟨60, 3, true, true, v3, [[int a2.Qty, int a2.Value, int a2.Profit]]⟩)])) rfl rfl rfl rfl (yl_call rfl rfl .nil cal168 ?_) (by rintro y _ ⟨_, _, rfl, hc, rfl⟩ <;> exact ⟨rfl, trivial⟩) ?_
  refine pcw (c := _) Tryz.func168 rfl rfl ?_; intro Q hret hnorm
  refine tc tbk 2 (.mk ?_)
  refine sA 2 z220 fun v5 => ?_
  refine tr tbk 4 (.mk ?_)
  refine sS ⟨220, 3, true, true, v5, [[.fn (.func 156) [] [], .fn (.func 157) [] [], .fn (.func 73) [] []]]⟩ sh220 ?_
  refine tr tbk 1 (.mk ?_)
  obtain rfl := nxt_e h1
  refine w_ret (hret _ _ (hk [(1, ⟨60, 3, true, true, v3, [[int a2.Qty, int a2.Value, int a2.Profit]]⟩)]) (.cell rfl (.pt rfl rfl rfl) sh220 rfl .nil) (HK.le ⟨rfl, trivial⟩) ?_)
  exact ⟨(), (), rfl, rfl, rfl⟩
  rintro y _ ⟨_, _, rfl, hc, rfl⟩
  subst hc
  refine eP (fun H hH => yv_field rfl fp220_0 sh171 rfl rfl) ?_
  obtain ⟨x6, e6, h0⟩ := bind_e h0
  refine eP (fun H hH => yv_callP rfl rfl (.cons rfl (.cons rfl .nil)) cal156 (CvL.refl _) (d_fifo_In_c e6)) ?_
  refine eM ?_
  iterate 2 refine eX ?_
  iterate 2 refine eA ?_
  refine de_nil (hK _ ?_)
  refine tc tbk 4 (.mk ?_)
  refine nb tbk h0 fun x7 h0 => ?_
  refine tr tbk 1 (.mk ?_)
  cases x7
  replace h0 := cf h0
  refine tc tbk 4 (.mk ?_)
  obtain ⟨j8, h1, h0⟩ := bind_e h0
  refine rse (Out := fun y H' => (∃ (a : Unit) (k : Unit), a = j8 ∧ y = .agg [.fn (.func 156) [] [], .fn (.func 157) [] [], .fn (.func 73) [] []] ∧ H' = hk [(1, ⟨60, 3, true, true, v3, [[int a2.Qty, int a2.Value, int a2.Profit]]⟩)])) rfl rfl rfl (yl_call rfl rfl .nil cal168 ?_) ?_
  refine pcw (c := _) Tryz.func168 rfl rfl ?_; intro Q hret hnorm
  refine tc tbk 2 (.mk ?_)
  refine sA 3 z220 fun v9 => ?_
  refine tr tbk 4 (.mk ?_)
  refine sS ⟨220, 3, true, true, v9, [[.fn (.func 156) [] [], .fn (.func 157) [] [], .fn (.func 73) [] []]]⟩ sh220 ?_
  refine tr tbk 1 (.mk ?_)
  obtain rfl := nxt_e h1
  refine w_ret (hret _ _ (hk [(1, ⟨60, 3, true, true, v3, [[int a2.Qty, int a2.Value, int a2.Profit]]⟩)]) (.cell rfl (.pt rfl rfl rfl) sh220 rfl .nil) (HK.le ⟨rfl, trivial⟩) ?_)
  exact ⟨(), (), rfl, rfl, rfl⟩
  rintro y _ ⟨_, _, rfl, hc, rfl⟩
  subst hc
  refine tr tbk 2 (.mk ?_)
  obtain ⟨x10, e10, h0⟩ := bind_e h0
  refine sC cal73 (d_fifo_Total_c e10) ?_
  refine tr tbk 3 (.mk ?_)
  refine sA 4 z60 fun v11 => ?_
  refine sS ⟨60, 3, true, true, v11, [[int x10.1.Qty, int x10.1.Value, int x10.1.Profit]]⟩ sh60 ?_
  refine tr tbk 6 (.mk ?_)
  refine nb tbk h0 fun x12 h0 => ?_
  refine tr tbk 1 (.mk ?_)
  cases x12
  replace h0 := cf h0
  refine tc tbk 5 (.mk ?_)
  refine sY (yv_to (y := lst 3 GLayer.av ([x10.1] : List GLayer)) (yv_buildSlice (ps := [(0, _)]) (rows := [[int x10.1.Qty, int x10.1.Value, int x10.1.Profit]]) rfl Tryz.underlying79 bz60 (.cons rfl .nil) (by kernel_rfl) rfl rfl rfl) rfl) ?_
  refine tr tbk 3 (.mk ?_)
  obtain rfl := nxt_e h0
  refine wR hret (rT (rT .nil)) ?_
  exact .refl _
  replace h0 := ct h0
  refine tc tbk 4 (.mk ?_)
  obtain ⟨p13, h0⟩ := asrt_e h0
  refine rse rfl rfl rfl (yl_app0T (g := GLayer.av) (m := a1) 5 rfl Tryz.underlying79 bz60 by60 rfl rfl rfl rfl (.refl _) (fun _ => rfl) p13) ?_; rintro _ _ ⟨v14, rfl, rfl⟩
  refine tr tbk 4 (.mk ?_)
  obtain rfl := nxt_e h0
  refine wR hret (rT (rT .nil)) ?_
  exact CvL.tup (.cons (cv_lst rfl rfl rfl rfl rfl (Eq.symm rfl)) (.cons (.refl _) .nil))
  replace h0 := ct h0
  refine tc tbk 8 (.mk ?_)
  obtain rfl := nxt_e h0
  refine wR hret (rT (rT .nil)) ?_
  exact .refl _
def d_pool_In (n : Nat) (a1 : Int) (a2 : Int) (a3 : GPool) (a4 : GLayer) : Option (GPool × Int × Int) :=
(show Option ((Unit) ⊕ (Unit) ⊕ (Unit)) from
bnd (decide (a1 = 1)) fun x9 =>
cond x9 (some (.inr (.inr ()))) (bnd (decide (a1 = 2)) fun x10 =>
cond x10 (some (.inr (.inl ()))) (bnd (decide (a1 = 3)) fun x11 =>
asrt (x11 = false) <|
bnd (decide (a1 = 4)) fun x12 =>
asrt (x12 = false) <|
some (.inl ())))).bind <| selr (fun _ =>
(d_pool_own a3).bind fun x13 =>
some ((x13 : GPool), (0 : Int), (12 : Int))) <| selr (fun _ =>
(show Option ((GPool × Int)) from
(d_mavg_In n a3.Layers a4).bind fun x19 =>
(d_pool_with a3 x19.1).bind fun x20 =>
some ((x20 : GPool), (x19.2 : Int))).bind <| p2 fun (y3_1 : GPool) (y3_2 : Int) =>
bnd (decide (y3_2 ≠ 0)) fun x22 =>
asrt (x22 = false) <|
some ((y3_1 : GPool), (0 : Int), (0 : Int))) <| fun _ =>
(show Option ((GPool × Int)) from
(d_fifo_In n a3.Layers a4).bind fun x28 =>
(d_pool_with a3 x28.1).bind fun x29 =>
some ((x29 : GPool), (x28.2 : Int))).bind <| p2 fun (y4_1 : GPool) (y4_2 : Int) =>
bnd (decide (y4_2 ≠ 0)) fun x31 =>
asrt (x31 = false) <|
some ((y4_1 : GPool), (0 : Int), (0 : Int))
theorem d_pool_In_c {n : Nat} {a1 : Int} {a2 : Int} {a3 : GPool} {a4 : GLayer} {r : GPool × Int × Int} (h0 : d_pool_In n a1 a2 a3 a4 = some r) : PP Tryz.prog 39 [int a1, int a2, .agg (GPool.av a3), .agg (GLayer.av a4)] (fun y => y = .tup [.agg (GPool.av r.1), int r.2.1, int r.2.2]) := by
  unfold d_pool_In at h0
  refine pp_of_pc (R0 := fun y H => Cv (frzH H) y (.tup [.agg (GPool.av r.1), int r.2.1, int r.2.2])) ?_ (fun y H hc => ⟨_, rfl, .tup (pvl3 ((fun (a : GPool) => PV.agg (GPool.pvc a)) (r.1)) (pvI (r.2.1)) (pvI (r.2.2))), hc⟩)
  refine pcw (c := _) Tryz.func39 rfl rfl ?_; intro Q hret hnorm
  refine tc tbk 2 (.mk ?_)
  refine sB 1 fun v5 => ?_
  refine sB 2 fun v6 => ?_
  refine sA 3 z82 fun v7 => ?_
  refine tr tbk 7 (.mk ?_)
  obtain ⟨j8, h1, h0⟩ := bind_e h0
  refine rse (Out := fun y H' => (∃ (a : Unit) (k : Unit), (.inl a) = j8 ∧ y = .sc .nilIface ∧ H' = hk [(1, ⟨82, 4, true, true, v5, [[lst 3 GLayer.av a3.Layers, int a3.Pend.a0, int a3.Pend.a1, int a3.Pend.a2]]⟩), (2, ⟨60, 3, true, true, v6, [[int a4.Qty, int a4.Value, int a4.Profit]]⟩), (3, ⟨82, 4, true, true, v7, [[.sc (.slice none 0 0), int 0, int 0, int 0]]⟩)]) ∨ (∃ (a : Unit) (k : Unit), (.inr (.inl a)) = j8 ∧ y = .ifc 158 (.agg []) ∧ H' = hk [(1, ⟨82, 4, true, true, v5, [[lst 3 GLayer.av a3.Layers, int a3.Pend.a0, int a3.Pend.a1, int a3.Pend.a2]]⟩), (2, ⟨60, 3, true, true, v6, [[int a4.Qty, int a4.Value, int a4.Profit]]⟩), (3, ⟨82, 4, true, true, v7, [[.sc (.slice none 0 0), int 0, int 0, int 0]]⟩)]) ∨ (∃ (a : Unit) (k : Unit), (.inr (.inr a)) = j8 ∧ y = .ifc 157 (.agg []) ∧ H' = hk [(1, ⟨82, 4, true, true, v5, [[lst 3 GLayer.av a3.Layers, int a3.Pend.a0, int a3.Pend.a1, int a3.Pend.a2]]⟩), (2, ⟨60, 3, true, true, v6, [[int a4.Qty, int a4.Value, int a4.Profit]]⟩), (3, ⟨82, 4, true, true, v7, [[.sc (.slice none 0 0), int 0, int 0, int 0]]⟩)])) rfl rfl rfl (yl_call rfl rfl (.cons rfl (.cons rfl .nil)) cal71 ?_) ?_
  refine pcw (c := _) Tryz.func71 rfl rfl ?_; intro Q hret hnorm
  refine tc tbk 12 (.mk ?_)
  refine nb tbk h1 fun x9 h1 => ?_
  refine tr tbk 2 (.mk ?_)
  cases x9
  replace h1 := cf h1
  refine tc tbk 3 (.mk ?_)
  refine nb tbk h1 fun x10 h1 => ?_
  refine tr tbk 2 (.mk ?_)
  cases x10
  replace h1 := cf h1
  refine tc tbk 3 (.mk ?_)
  refine nb tbk h1 fun x11 h1 => ?_
  refine tr tbk 2 (.mk ?_)
  replace h1 := asrt_e h1
  obtain ⟨rfl, h1⟩ := h1
  refine tc tbk 3 (.mk ?_)
  refine nb tbk h1 fun x12 h1 => ?_
  refine tr tbk 2 (.mk ?_)
  replace h1 := asrt_e h1
  obtain ⟨rfl, h1⟩ := h1
  refine tc tbk 7 (.mk ?_)
  obtain rfl := nxt_e h1
  refine w_ret (hret _ _ (hk [(1, ⟨82, 4, true, true, v5, [[lst 3 GLayer.av a3.Layers, int a3.Pend.a0, int a3.Pend.a1, int a3.Pend.a2]]⟩), (2, ⟨60, 3, true, true, v6, [[int a4.Qty, int a4.Value, int a4.Profit]]⟩), (3, ⟨82, 4, true, true, v7, [[.sc (.slice none 0 0), int 0, int 0, int 0]]⟩)]) (.tmp rfl .nil) (HK.le ⟨rfl, rfl, rfl, trivial⟩) ?_)
  exact (.inl ⟨(), (), rfl, rfl, rfl⟩)
  replace h1 := ct h1
  refine tc tbk 4 (.mk ?_)
  refine sY (yv_makeIface rfl Tryz.underlying158 (by intro _ h; cases h) rfl) ?_
  refine tr tbk 2 (.mk ?_)
  obtain rfl := nxt_e h1
  refine w_ret (hret _ _ (hk [(1, ⟨82, 4, true, true, v5, [[lst 3 GLayer.av a3.Layers, int a3.Pend.a0, int a3.Pend.a1, int a3.Pend.a2]]⟩), (2, ⟨60, 3, true, true, v6, [[int a4.Qty, int a4.Value, int a4.Profit]]⟩), (3, ⟨82, 4, true, true, v7, [[.sc (.slice none 0 0), int 0, int 0, int 0]]⟩)]) (.tmp rfl .nil) (HK.le ⟨rfl, rfl, rfl, trivial⟩) ?_)
  exact (.inr (.inl ⟨(), (), rfl, rfl, rfl⟩))
  replace h1 := ct h1
  refine tc tbk 4 (.mk ?_)
  refine sY (yv_makeIface rfl Tryz.underlying157 (by intro _ h; cases h) rfl) ?_
  refine tr tbk 2 (.mk ?_)
  obtain rfl := nxt_e h1
  refine w_ret (hret _ _ (hk [(1, ⟨82, 4, true, true, v5, [[lst 3 GLayer.av a3.Layers, int a3.Pend.a0, int a3.Pend.a1, int a3.Pend.a2]]⟩), (2, ⟨60, 3, true, true, v6, [[int a4.Qty, int a4.Value, int a4.Profit]]⟩), (3, ⟨82, 4, true, true, v7, [[.sc (.slice none 0 0), int 0, int 0, int 0]]⟩)]) (.tmp rfl .nil) (HK.le ⟨rfl, rfl, rfl, trivial⟩) ?_)
  exact (.inr (.inr ⟨(), (), rfl, rfl, rfl⟩))
  rintro y _ (⟨_, _, rfl, hc, rfl⟩ | ⟨_, _, rfl, hc, rfl⟩ | ⟨_, _, rfl, hc, rfl⟩)
  replace h0 := selr_l h0
  subst hc
  refine tr tbk 6 (.mk ?_)
  refine sY (yv_ifeqN rfl Tryz.underlying128 rfl rfl) ?_
  refine tr tbk 5 (.mk ?_)
  obtain ⟨x13, e13, h0⟩ := bind_e h0
  refine sC cal72 (d_pool_own_c e13) ?_
  refine sS ⟨82, 4, true, true, v7, [[lst 3 GLayer.av x13.Layers, int x13.Pend.a0, int x13.Pend.a1, int x13.Pend.a2]]⟩ sh82 ?_
  refine tr tbk 3 (.mk ?_)
  obtain rfl := nxt_e h0
  refine wR hret (rC sh82 (rT (rT .nil))) ?_
  exact .refl _
  replace h0 := selr_r h0
  replace h0 := selr_l h0
  subst hc
  refine tr tbk 6 (.mk ?_)
  refine sY (yv_ifeq rfl Tryz.underlying128 rfl rfl) ?_
  refine tr tbk 8 (.mk ?_)
  obtain ⟨j14, h1, h0⟩ := bind_e h0
  refine rse (Out := fun y H' => (∃ (a : GPool × Int) (k : Unit), a = j14 ∧ y = .tup [.agg [lst 3 GLayer.av a.1.Layers, int a.1.Pend.a0, int a.1.Pend.a1, int a.1.Pend.a2], int 0, int a.2] ∧ H' = hk [(1, ⟨82, 4, true, true, v5, [[lst 3 GLayer.av a3.Layers, int a3.Pend.a0, int a3.Pend.a1, int a3.Pend.a2]]⟩), (2, ⟨60, 3, true, true, v6, [[int a4.Qty, int a4.Value, int a4.Profit]]⟩), (3, ⟨82, 4, true, true, v7, [[.sc (.slice none 0 0), int 0, int 0, int 0]]⟩)])) rfl rfl rfl (yl_callI rfl rfl mth158_164 (.cons rfl (.cons rfl .nil)) cal164 ?_) ?_
  refine pcw (c := _) Tryz.func164 rfl rfl ?_; intro Q hret hnorm
  refine tc tbk 2 (.mk ?_)
  refine sB 4 fun v15 => ?_
  refine sB 5 fun v16 => ?_
  refine sB 6 fun v17 => ?_
  refine sA 7 z82 fun v18 => ?_
  refine tr tbk 8 (.mk ?_)
  obtain ⟨x19, e19, h1⟩ := bind_e h1
  refine sC cal166 (d_mavg_In_c e19) ?_
  refine tr tbk 10 (.mk ?_)
  obtain ⟨x20, e20, h1⟩ := bind_e h1
  refine sC cal106 (d_pool_with_c e20) ?_
  refine tr tbk 1 (.mk ?_)
  refine sS ⟨82, 4, true, true, v18, [[lst 3 GLayer.av x20.Layers, int x20.Pend.a0, int x20.Pend.a1, int x20.Pend.a2]]⟩ sh82 ?_
  refine tr tbk 3 (.mk ?_)
  obtain rfl := nxt_e h1
  refine w_ret (hret _ _ (hk [(1, ⟨82, 4, true, true, v5, [[lst 3 GLayer.av a3.Layers, int a3.Pend.a0, int a3.Pend.a1, int a3.Pend.a2]]⟩), (2, ⟨60, 3, true, true, v6, [[int a4.Qty, int a4.Value, int a4.Profit]]⟩), (3, ⟨82, 4, true, true, v7, [[.sc (.slice none 0 0), int 0, int 0, int 0]]⟩)]) (.cell rfl (.pt rfl rfl rfl) sh82 rfl (.tmp rfl (.tmp rfl .nil))) (HK.le ⟨rfl, rfl, rfl, trivial⟩) ?_)
  exact ⟨(x20, x19.2), (), rfl, rfl, rfl⟩
  rintro y _ ⟨⟨y3_1, y3_2⟩, _, rfl, hc, rfl⟩
  replace h0 := p2_e h0
  subst hc
  refine tr tbk 4 (.mk ?_)
  refine sA 8 z82 fun v21 => ?_
  refine sS ⟨82, 4, true, true, v21, [[lst 3 GLayer.av y3_1.Layers, int y3_1.Pend.a0, int y3_1.Pend.a1, int y3_1.Pend.a2]]⟩ sh82 ?_
  refine tr tbk 7 (.mk ?_)
  refine nb tbk h0 fun x22 h0 => ?_
  refine tr tbk 1 (.mk ?_)
  replace h0 := asrt_e h0
  obtain ⟨rfl, h0⟩ := h0
  refine tc tbk 6 (.mk ?_)
  refine sS ⟨82, 4, true, true, v7, [[lst 3 GLayer.av y3_1.Layers, int y3_1.Pend.a0, int y3_1.Pend.a1, int y3_1.Pend.a2]]⟩ sh82 ?_
  refine tr tbk 3 (.mk ?_)
  obtain rfl := nxt_e h0
  refine wR hret (rC sh82 (rT (rT .nil))) ?_
  exact .refl _
  replace h0 := selr_r h0
  replace h0 := selr_r h0
  subst hc
  refine tr tbk 6 (.mk ?_)
  refine sY (yv_ifeq rfl Tryz.underlying128 rfl rfl) ?_
  refine tr tbk 8 (.mk ?_)
  obtain ⟨j23, h1, h0⟩ := bind_e h0
  refine rse (Out := fun y H' => (∃ (a : GPool × Int) (k : Unit), a = j23 ∧ y = .tup [.agg [lst 3 GLayer.av a.1.Layers, int a.1.Pend.a0, int a.1.Pend.a1, int a.1.Pend.a2], int 0, int a.2] ∧ H' = hk [(1, ⟨82, 4, true, true, v5, [[lst 3 GLayer.av a3.Layers, int a3.Pend.a0, int a3.Pend.a1, int a3.Pend.a2]]⟩), (2, ⟨60, 3, true, true, v6, [[int a4.Qty, int a4.Value, int a4.Profit]]⟩), (3, ⟨82, 4, true, true, v7, [[.sc (.slice none 0 0), int 0, int 0, int 0]]⟩)])) rfl rfl rfl (yl_callI rfl rfl mth157_154 (.cons rfl (.cons rfl .nil)) cal154 ?_) ?_
  refine pcw (c := _) Tryz.func154 rfl rfl ?_; intro Q hret hnorm
  refine tc tbk 2 (.mk ?_)
  refine sB 9 fun v24 => ?_
  refine sB 10 fun v25 => ?_
  refine sB 11 fun v26 => ?_
  refine sA 12 z82 fun v27 => ?_
  refine tr tbk 8 (.mk ?_)
  obtain ⟨x28, e28, h1⟩ := bind_e h1
  refine sC cal156 (d_fifo_In_c e28) ?_
  refine tr tbk 10 (.mk ?_)
  obtain ⟨x29, e29, h1⟩ := bind_e h1
  refine sC cal106 (d_pool_with_c e29) ?_
  refine tr tbk 1 (.mk ?_)
  refine sS ⟨82, 4, true, true, v27, [[lst 3 GLayer.av x29.Layers, int x29.Pend.a0, int x29.Pend.a1, int x29.Pend.a2]]⟩ sh82 ?_
  refine tr tbk 3 (.mk ?_)
  obtain rfl := nxt_e h1
  refine w_ret (hret _ _ (hk [(1, ⟨82, 4, true, true, v5, [[lst 3 GLayer.av a3.Layers, int a3.Pend.a0, int a3.Pend.a1, int a3.Pend.a2]]⟩), (2, ⟨60, 3, true, true, v6, [[int a4.Qty, int a4.Value, int a4.Profit]]⟩), (3, ⟨82, 4, true, true, v7, [[.sc (.slice none 0 0), int 0, int 0, int 0]]⟩)]) (.cell rfl (.pt rfl rfl rfl) sh82 rfl (.tmp rfl (.tmp rfl .nil))) (HK.le ⟨rfl, rfl, rfl, trivial⟩) ?_)
  exact ⟨(x29, x28.2), (), rfl, rfl, rfl⟩
  rintro y _ ⟨⟨y4_1, y4_2⟩, _, rfl, hc, rfl⟩
  replace h0 := p2_e h0
  subst hc
  refine tr tbk 4 (.mk ?_)
  refine sA 8 z82 fun v30 => ?_
  refine sS ⟨82, 4, true, true, v30, [[lst 3 GLayer.av y4_1.Layers, int y4_1.Pend.a0, int y4_1.Pend.a1, int y4_1.Pend.a2]]⟩ sh82 ?_
  refine tr tbk 7 (.mk ?_)
  refine nb tbk h0 fun x31 h0 => ?_
  refine tr tbk 1 (.mk ?_)
  replace h0 := asrt_e h0
  obtain ⟨rfl, h0⟩ := h0
  refine tc tbk 6 (.mk ?_)
  refine sS ⟨82, 4, true, true, v7, [[lst 3 GLayer.av y4_1.Layers, int y4_1.Pend.a0, int y4_1.Pend.a1, int y4_1.Pend.a2]]⟩ sh82 ?_
  refine tr tbk 3 (.mk ?_)
  obtain rfl := nxt_e h0
  refine wR hret (rC sh82 (rT (rT .nil))) ?_
  exact .refl _
def d_stock_At (a1 : GState) (a2 : Int) (a3 : Int) (a4 : Int) : Option (GPool) :=
(d_stock_place a1 a2 a3 a4).bind fun x7 =>
bnd (decide (x7 < 0)) fun x8 =>
asrt (x8 = false) <|
(ix a1.Ents a2).bind fun x9 =>
(ix x9.Pools x7).bind fun x10 =>
asrt (x10.Layers.length ≤ 68719476736) <|
some ((x10 : GPool))
theorem d_stock_At_c {a1 : GState} {a2 : Int} {a3 : Int} {a4 : Int} {r : GPool} (h0 : d_stock_At a1 a2 a3 a4 = some r) : PP Tryz.prog 64 [.agg (GState.av a1), int a2, int a3, int a4] (fun y => y = .agg (GPool.av r)) := by
  unfold d_stock_At at h0
  refine pp_of_pc (R0 := fun y H => Cv (frzH H) y (.agg (GPool.av r))) ?_ (fun y H hc => ⟨_, rfl, (fun (a : GPool) => PV.agg (GPool.pvc a)) r, hc⟩)
  refine pcw (c := _) Tryz.func64 rfl rfl ?_; intro Q hret hnorm
  refine tc tbk 2 (.mk ?_)
  refine sB 1 fun v5 => ?_
  refine sA 2 z82 fun v6 => ?_
  refine tr tbk 7 (.mk ?_)
  obtain ⟨x7, e7, h0⟩ := bind_e h0
  refine sC cal38 (d_stock_place_c e7) ?_
  refine tr tbk 6 (.mk ?_)
  refine nb tbk h0 fun x8 h0 => ?_
  refine tr tbk 1 (.mk ?_)
  replace h0 := asrt_e h0
  obtain ⟨rfl, h0⟩ := h0
  refine tc tbk 7 (.mk ?_)
  obtain ⟨x9, e9, h0⟩ := bind_e h0
  refine sY (yv_to (y := .pp [int x9.Now, boo x9.Closed, lst 4 GPool.av x9.Pools, lst 1 fI x9.Bal, lst 11 GRoll.av x9.Rolls, lst 1 fI x9.Prices, lst 1 fI x9.Down, lst 8 GEnt.av x9.Ahead]) (yv_ixT rfl Tryz.underlying27 sh40 rfl rfl e9) (congrArg AV.pp (GEnt.av_eq x9))) ?_
  refine tr tbk 3 (.mk ?_)
  obtain ⟨x10, e10, h0⟩ := bind_e h0
  refine sY (yv_ixT rfl Tryz.underlying37 sh82 rfl rfl e10) ?_
  refine tr tbk 1 (.mk ?_)
  refine sA 3 z82 fun v11 => ?_
  refine sS ⟨82, 4, true, true, v11, [[lst 3 GLayer.av x10.Layers, int x10.Pend.a0, int x10.Pend.a1, int x10.Pend.a2]]⟩ sh82 ?_
  refine tr tbk 5 (.mk ?_)
  obtain ⟨p12, h0⟩ := asrt_e h0
  refine rse rfl rfl rfl (yl_call rfl rfl (.cons rfl .nil) cal104 (pc_cv (clone104_c (id := 4) (l := x10.Layers) rfl p12) (.cons (.refl _) .nil))) ?_; rintro _ _ ⟨v13, rfl, rfl⟩
  refine tr tbk 1 (.mk ?_)
  refine sS ⟨82, 4, true, true, v11, [[.sl 4 v13 0 x10.Layers.length, int x10.Pend.a0, int x10.Pend.a1, int x10.Pend.a2]]⟩ sh79 ?_
  refine tr tbk 4 (.mk ?_)
  refine sS ⟨82, 4, true, true, v6, [[.sl 4 v13 0 x10.Layers.length, int x10.Pend.a0, int x10.Pend.a1, int x10.Pend.a2]]⟩ sh82 ?_
  refine tr tbk 1 (.mk ?_)
  obtain rfl := nxt_e h0
  refine wR hret (rC sh82 .nil) ?_
  exact (CvL.agg (.cons (cv_lst rfl rfl rfl rfl rfl (Eq.symm rfl)) (.cons (.refl _) (.cons (.refl _) (.cons (.refl _) .nil)))))
def d_stock_worth_L0 (a1 : GState) (a2 : Int) (a3 : Int) : Nat → Int → (List Int) → (List Int) → (List Int) → Option ((List Int) × (List Int) × (List Int))
  | 0, _, _, _, _ => none
  | n + 1, y0_4, y0_5, y0_6, y0_7 =>
    bnd (decide (y0_4 < 2)) fun x10 =>
    cond x10 ((d_stock_At a1 a2 a3 y0_4).bind fun x11 =>
    (d_fifo_Total n x11.Layers).bind fun x12 =>
    bnd (y0_5 ++ ([x12.1.Qty] : List Int)) fun x14 =>
    asrt (x14.length ≤ 68719476736) <|
    bnd (y0_6 ++ ([x12.1.Value] : List Int)) fun x17 =>
    asrt (x17.length ≤ 68719476736) <|
    bnd (y0_7 ++ ([x12.1.Profit] : List Int)) fun x20 =>
    asrt (x20.length ≤ 68719476736) <|
    bnd (w64 (y0_4 + 1)) fun x23 =>
    d_stock_worth_L0 a1 a2 a3 n (x23 : Int) (x14 : List Int) (x17 : List Int) (x20 : List Int)) (some ((y0_5 : List Int), (y0_6 : List Int), (y0_7 : List Int)))
def d_stock_worth (n : Nat) (a1 : GState) (a2 : Int) (a3 : Int) : Option (GLayer × Bool) :=
(show Option ((List Int) × (List Int) × (List Int)) from
d_stock_worth_L0 a1 a2 a3 n (0 : Int) (([] : List Int) : List Int) (([] : List Int) : List Int) (([] : List Int) : List Int)).bind <| p2 fun (y1_4 : List Int) (q0 : (List Int) × (List Int)) => (p2 fun (y1_5 : List Int) (y1_6 : List Int) =>
(d_money_Sum n y1_4).bind fun x24 =>
(d_money_Sum n y1_5).bind fun x25 =>
(d_money_Sum n y1_6).bind fun x26 =>
bnd (if x26.2 > (if x25.2 > x24.2 then x25.2 else x24.2) then x26.2 else (if x25.2 > x24.2 then x25.2 else x24.2)) fun x27 =>
bnd (decide (x27 = 0)) fun x28 =>
some (((⟨x24.1, x25.1, x26.1⟩ : GLayer) : GLayer), (x28 : Bool))) q0
theorem d_stock_worth_c {n : Nat} {a1 : GState} {a2 : Int} {a3 : Int} {r : GLayer × Bool} (h0 : d_stock_worth n a1 a2 a3 = some r) : PP Tryz.prog 41 [.agg (GState.av a1), int a2, int a3] (fun y => y = .tup [.agg (GLayer.av r.1), boo r.2]) := by
  unfold d_stock_worth at h0
  refine pp_of_pc (R0 := fun y H => Cv (frzH H) y (.tup [.agg (GLayer.av r.1), boo r.2])) ?_ (fun y H hc => ⟨_, rfl, .tup (pvl2 ((fun (a : GLayer) => PV.agg (GLayer.pvc a)) (r.1)) (pvB (r.2))), hc⟩)
  refine pcw (c := _) Tryz.func41 rfl rfl ?_; intro Q hret hnorm
  refine tc tbk 2 (.mk ?_)
  refine sB 1 fun v4 => ?_
  refine sA 2 z60 fun v5 => ?_
  refine tr tbk 13 (.mk ?_)
  refine jn h0 [6, 7] [2] (fun (a : (List Int) × (List Int) × (List Int)) (k : Nat × Nat × Nat) => [(8, .sl 7 k.1 0 a.1.length), (9, .sl 8 k.2.1 0 a.2.1.length), (10, .sl 9 k.2.2 0 a.2.2.length)]) (fun a k => [(7, ⟨3, 1, true, true, k.1, a.1.map fI⟩), (8, ⟨3, 1, true, true, k.2.1, a.2.1.map fI⟩), (9, ⟨3, 1, true, true, k.2.2, a.2.2.map fI⟩)]) ⟨fun j6 h1 => ?_, ?_⟩
  refine tc tbk 1 (.mk ?_)
  refine c_nilobj 8 7 3 1 rfl rfl ?_; intro v7
  refine c_nilobj 9 8 3 1 rfl rfl ?_; intro v8
  refine c_nilobj 10 9 3 1 rfl rfl ?_; intro v9
  refine lp (fun n (a : Int × (List Int) × (List Int) × (List Int)) => d_stock_worth_L0 a1 a2 a3 n a.1 a.2.1 a.2.2.1 a.2.2.2) ((0 : Int), (([] : List Int) : List Int), (([] : List Int) : List Int), (([] : List Int) : List Int)) (v7, v8, v9) h1 [1, 2, 3, 6, 7] [1, 2] (fun (a : Int × (List Int) × (List Int) × (List Int)) (k : Nat × Nat × Nat) => [(8, .sl 7 k.1 0 a.2.1.length), (9, .sl 8 k.2.1 0 a.2.2.1.length), (10, .sl 9 k.2.2 0 a.2.2.2.length), (20, int a.1)]) (fun a k => [(7, ⟨3, 1, true, true, k.1, a.2.1.map fI⟩), (8, ⟨3, 1, true, true, k.2.1, a.2.2.1.map fI⟩), (9, ⟨3, 1, true, true, k.2.2, a.2.2.2.map fI⟩)]) (fun _ => rfl) ⟨leA, ?_⟩
  rintro n ⟨y0_4, y0_5, y0_6, y0_7⟩ ⟨w0_1, w0_2, w0_3⟩ hm h1
  replace h1 : d_stock_worth_L0 a1 a2 a3 (n + 1) y0_4 y0_5 y0_6 y0_7 = some _ := h1
  rw [d_stock_worth_L0] at h1
  refine tc tbk 2 (.mk ?_)
  refine nb tbk h1 fun x10 h1 => ?_
  refine tr tbk 2 (.mk ?_)
  cases x10
  replace h1 := cf h1
  refine tc tbk 2 (.mk ?_)
  exact lf h1 (w0_1, w0_2, w0_3) leA
  replace h1 := ct h1
  refine tc tbk 15 (.mk ?_)
  obtain ⟨x11, e11, h1⟩ := bind_e h1
  refine sC cal64 (d_stock_At_c e11) ?_
  refine tr tbk 1 (.mk ?_)
  obtain ⟨x12, e12, h1⟩ := bind_e h1
  refine sC cal73 (d_fifo_Total_c e12) ?_
  refine tr tbk 3 (.mk ?_)
  refine sA 3 z60 fun v13 => ?_
  refine sS ⟨60, 3, true, true, v13, [[int x12.1.Qty, int x12.1.Value, int x12.1.Profit]]⟩ sh60 ?_
  refine tr tbk 2 (.mk ?_)
  refine c_drawE [0, 0, 2, 6, 15, 0, 0, 64, 192, 511, 0, 0, 2048, 6144, 16383, 32767, 65535, 131071] (rl [(1, [3]), (2, [3]), (6, [3]), (7, [3]), (11, [3]), (12, [3])] []) (rl [(14, [])] [3]) (rl [(4, false), (9, false), (14, false)] true) [0, 1, 2, 3, 5, 6, 7, 8, 10, 11, 12, 13, 4, 9, 14, 15, 16, 17] mixed (by kernel_rfl) ?_; intro K hK
  refine eM ?_
  refine eF fo60_0 ?_
  refine eL sh3 ?_
  refine eP (fun H hH => yv_to (y := lst 1 fI ([x12.1.Qty] : List Int)) (yv_buildSlice (ps := [(0, _)]) (rows := [[int x12.1.Qty]]) rfl Tryz.underlying23 bz3 (.cons rfl .nil) (by kernel_rfl) rfl rfl rfl) rfl) ?_
  refine eM ?_
  refine eF fo60_1 ?_
  refine eL sh3 ?_
  refine eP (fun H hH => yv_to (y := lst 1 fI ([x12.1.Value] : List Int)) (yv_buildSlice (ps := [(0, _)]) (rows := [[int x12.1.Value]]) rfl Tryz.underlying23 bz3 (.cons rfl .nil) (by kernel_rfl) rfl rfl rfl) rfl) ?_
  refine eM ?_
  refine eF fo60_2 ?_
  refine eL sh3 ?_
  refine eP (fun H hH => yv_to (y := lst 1 fI ([x12.1.Profit] : List Int)) (yv_buildSlice (ps := [(0, _)]) (rows := [[int x12.1.Profit]]) rfl Tryz.underlying23 bz3 (.cons rfl .nil) (by kernel_rfl) rfl rfl rfl) rfl) ?_
  obtain ⟨x14, e14, h1⟩ := bnd_e h1
  obtain ⟨p15, h1⟩ := asrt_e h1
  refine de_eff rfl rfl rfl rfl (yl_appT (g := fI) (l := y0_5) (m := ([x12.1.Qty] : List Int)) .any rfl Tryz.underlying23 bz3 by3 rfl rfl rfl rfl rfl rfl rfl rfl rfl rfl (Eq.symm rfl) (.refl _) (fun _ => rfl) e14 p15) (by rintro _ _ ⟨v16, -, rfl, rfl⟩; exact ⟨rfl, trivial⟩) ?_; rintro _ _ ⟨v16, -, rfl, rfl⟩
  obtain ⟨x17, e17, h1⟩ := bnd_e h1
  obtain ⟨p18, h1⟩ := asrt_e h1
  refine de_eff rfl rfl rfl rfl (yl_appT (g := fI) (l := y0_6) (m := ([x12.1.Value] : List Int)) .any rfl Tryz.underlying23 bz3 by3 rfl rfl rfl rfl rfl rfl rfl rfl rfl rfl (Eq.symm rfl) (.refl _) (fun _ => rfl) e17 p18) (by rintro _ _ ⟨v19, -, rfl, rfl⟩; exact ⟨rfl, trivial⟩) ?_; rintro _ _ ⟨v19, -, rfl, rfl⟩
  obtain ⟨x20, e20, h1⟩ := bnd_e h1
  obtain ⟨p21, h1⟩ := asrt_e h1
  refine de_eff rfl rfl rfl rfl (yl_appT (g := fI) (l := y0_7) (m := ([x12.1.Profit] : List Int)) .any rfl Tryz.underlying23 bz3 by3 rfl rfl rfl rfl rfl rfl rfl rfl rfl rfl (Eq.symm rfl) (.refl _) (fun _ => rfl) e20 p21) (by rintro _ _ ⟨v22, -, rfl, rfl⟩; exact trivial) ?_; rintro _ _ ⟨v22, -, rfl, rfl⟩
  iterate 3 refine eA ?_
  refine de_nil (hK _ ?_)
  refine tc tbk 2 (.mk ?_)
  refine ni tbk h1 fun x23 h1 => ?_
  refine tr tbk 2 (.mk ?_)
  exact bk (x23, x14, x17, x20) (v16, v19, v22) h1 leA
  rintro ⟨y1_4, y1_5, y1_6⟩ ⟨w1_1, w1_2, w1_3⟩ h0
  replace h0 := p2_e h0
  replace h0 := p2_e h0
  refine tc tbk 3 (.mk ?_)
  obtain ⟨x24, e24, h0⟩ := bind_e h0
  refine sY (yv_callT (v := .tup [int x24.1, int x24.2]) rfl rfl (.cons rfl .nil) cal74 (.cons (cv_lst rfl rfl rfl rfl rfl (Eq.symm rfl)) .nil) (d_money_Sum_c e24) rfl) ?_
  refine tr tbk 9 (.mk ?_)
  obtain ⟨x25, e25, h0⟩ := bind_e h0
  refine sY (yv_callT (v := .tup [int x25.1, int x25.2]) rfl rfl (.cons rfl .nil) cal74 (.cons (cv_lst rfl rfl rfl rfl rfl (Eq.symm rfl)) .nil) (d_money_Sum_c e25) rfl) ?_
  refine tr tbk 9 (.mk ?_)
  obtain ⟨x26, e26, h0⟩ := bind_e h0
  refine sY (yv_callT (v := .tup [int x26.1, int x26.2]) rfl rfl (.cons rfl .nil) cal74 (.cons (cv_lst rfl rfl rfl rfl rfl (Eq.symm rfl)) .nil) (d_money_Sum_c e26) rfl) ?_
  refine tr tbk 15 (.mk ?_)
  obtain ⟨x27, e27, h0⟩ := bnd_e h0
  refine sY (yv_max3 rfl rfl rfl rfl e27) ?_
  refine nb tbk h0 fun x28 h0 => ?_
  refine sS ⟨60, 3, true, true, v5, [[int x24.1, int x25.1, int x26.1]]⟩ sh60 ?_
  refine tr tbk 2 (.mk ?_)
  obtain rfl := nxt_e h0
  refine wR hret (rC sh60 (rT .nil)) ?_
  exact .refl _
def d_stock_steady_L1 (x9 : GPool) : Nat → Int → (List Int) → Option ((List Int))
  | 0, _, _ => none
  | n + 1, y1_2, y1_3 =>
    bnd (decide (y1_2 < (x9.Layers.length : Int))) fun x11 =>
    cond x11 ((ix x9.Layers y1_2).bind fun x12 =>
    bnd (w64 (0 - x12.Profit)) fun x14 =>
    bnd (if x14 > x12.Profit then x14 else x12.Profit) fun x15 =>
    bnd (y1_3 ++ ([x15] : List Int)) fun x16 =>
    asrt (x16.length ≤ 68719476736) <|
    bnd (w64 (y1_2 + 1)) fun x19 =>
    d_stock_steady_L1 x9 n (x19 : Int) (x16 : List Int)) (some (y1_3 : List Int))
def d_stock_steady_L0 (a1 : GState) (a2 : Int) (a3 : Int) : Nat → Int → (List Int) → Option ((List Int))
  | 0, _, _ => none
  | n + 1, y0_2, y0_3 =>
    bnd (decide (y0_2 < 2)) fun x7 =>
    cond x7 ((show Option ((List Int)) from
    (d_stock_At a1 a2 a3 y0_2).bind fun x9 =>
    (show Option ((List Int)) from
    d_stock_steady_L1 x9 n (0 : Int) (y0_3 : List Int)).bind <| fun y2_2 =>
    some (y2_2 : List Int)).bind <| fun y3_2 =>
    bnd (w64 (y0_2 + 1)) fun x20 =>
    d_stock_steady_L0 a1 a2 a3 n (x20 : Int) (y3_2 : List Int)) (some (y0_3 : List Int))
def d_stock_steady (n : Nat) (a1 : GState) (a2 : Int) (a3 : Int) : Option (Bool) :=
(show Option ((List Int)) from
d_stock_steady_L0 a1 a2 a3 n (0 : Int) (([] : List Int) : List Int)).bind <| fun y4_2 =>
(d_money_Sum n y4_2).bind fun x21 =>
bnd (decide (x21.2 = 0)) fun x22 =>
some ((x22 : Bool))
theorem d_stock_steady_c {n : Nat} {a1 : GState} {a2 : Int} {a3 : Int} {r : Bool} (h0 : d_stock_steady n a1 a2 a3 = some r) : PP Tryz.prog 42 [.agg (GState.av a1), int a2, int a3] (fun y => y = boo r) := by
  unfold d_stock_steady at h0
  refine pp_of_pc (R0 := fun y H => Cv (frzH H) y (boo r)) ?_ (fun y H hc => ⟨_, rfl, pvB r, hc⟩)
  refine pcw (c := _) Tryz.func42 rfl rfl ?_; intro Q hret hnorm
  refine tc tbk 2 (.mk ?_)
  refine sB 1 fun v4 => ?_
  refine tr tbk 11 (.mk ?_)
  refine jn h0 [6] [] (fun (a : (List Int)) (k : Nat) => [(7, .sl 4 k 0 a.length)]) (fun a k => [(4, ⟨3, 1, true, true, k, a.map fI⟩)]) ⟨fun j5 h1 => ?_, ?_⟩
  refine tc tbk 1 (.mk ?_)
  refine c_nilobj 7 4 3 1 rfl rfl ?_; intro v6
  refine lp (fun n (a : Int × (List Int)) => d_stock_steady_L0 a1 a2 a3 n a.1 a.2) ((0 : Int), (([] : List Int) : List Int)) v6 h1 [1, 2, 3, 6] [1] (fun (a : Int × (List Int)) (k : Nat) => [(7, .sl 4 k 0 a.2.length), (13, int a.1)]) (fun a k => [(4, ⟨3, 1, true, true, k, a.2.map fI⟩)]) (fun _ => rfl) ⟨leA, ?_⟩
  rintro n ⟨y0_2, y0_3⟩ w0_1 hm h1
  replace h1 : d_stock_steady_L0 a1 a2 a3 (n + 1) y0_2 y0_3 = some _ := h1
  rw [d_stock_steady_L0] at h1
  refine tc tbk 2 (.mk ?_)
  refine nb tbk h1 fun x7 h1 => ?_
  refine tr tbk 2 (.mk ?_)
  cases x7
  replace h1 := cf h1
  refine tc tbk 2 (.mk ?_)
  exact lf h1 w0_1 leA
  replace h1 := ct h1
  refine tc tbk 3 (.mk ?_)
  refine jn h1 [1, 2, 3, 6, 13] [1] (fun (a : (List Int)) (k : Nat) => [(7, .sl 4 k 0 a.length)]) (fun a k => [(4, ⟨3, 1, true, true, k, a.map fI⟩)]) ⟨fun j8 h2 => ?_, ?_⟩
  refine tc tbk 12 (.mk ?_)
  obtain ⟨x9, e9, h2⟩ := bind_e h2
  refine sC cal64 (d_stock_At_c e9) ?_
  refine tr tbk 1 (.mk ?_)
  refine sY (yv_len_sl rfl Tryz.underlying79 rfl (lst_len _)) ?_
  refine tr tbk 2 (.mk ?_)
  refine jn h2 [1, 2, 3, 6, 13] [1] (fun (a : (List Int)) (k : Nat) => [(7, .sl 4 k 0 a.length)]) (fun a k => [(4, ⟨3, 1, true, true, k, a.map fI⟩)]) ⟨fun j10 h3 => ?_, ?_⟩
  refine tc tbk 1 (.mk ?_)
  refine lp (fun n (a : Int × (List Int)) => d_stock_steady_L1 x9 n a.1 a.2) ((0 : Int), (y0_3 : List Int)) w0_1 h3 [1, 2, 3, 6, 13, 21, 22] [1] (fun (a : Int × (List Int)) (k : Nat) => [(7, .sl 4 k 0 a.2.length), (23, int a.1)]) (fun a k => [(4, ⟨3, 1, true, true, k, a.2.map fI⟩)]) (fun _ => rfl) ⟨leA, ?_⟩
  rintro n ⟨y1_2, y1_3⟩ w1_1 hm h3
  replace h3 : d_stock_steady_L1 x9 (n + 1) y1_2 y1_3 = some _ := h3
  rw [d_stock_steady_L1] at h3
  refine tc tbk 2 (.mk ?_)
  refine nb tbk h3 fun x11 h3 => ?_
  refine tr tbk 2 (.mk ?_)
  cases x11
  replace h3 := cf h3
  refine tc tbk 2 (.mk ?_)
  exact lf h3 w1_1 leA
  replace h3 := ct h3
  refine tc tbk 6 (.mk ?_)
  obtain ⟨x12, e12, h3⟩ := bind_e h3
  refine sY (yv_ixT rfl Tryz.underlying79 sh60 rfl rfl e12) ?_
  refine tr tbk 1 (.mk ?_)
  refine sA 2 z60 fun v13 => ?_
  refine sS ⟨60, 3, true, true, v13, [[int x12.Qty, int x12.Value, int x12.Profit]]⟩ sh60 ?_
  refine tr tbk 7 (.mk ?_)
  refine ni tbk h3 fun x14 h3 => ?_
  obtain ⟨x15, e15, h3⟩ := bnd_e h3
  refine sY (yv_max rfl rfl rfl e15) ?_
  refine sY (yv_to (y := lst 1 fI ([x15] : List Int)) (yv_buildSlice (ps := [(0, _)]) (rows := [[int x15]]) rfl Tryz.underlying23 bz3 (.cons rfl .nil) (by kernel_rfl) rfl rfl rfl) rfl) ?_
  obtain ⟨x16, e16, h3⟩ := bnd_e h3
  obtain ⟨p17, h3⟩ := asrt_e h3
  refine rse rfl rfl rfl (yl_appT (g := fI) (l := y1_3) (m := ([x15] : List Int)) .any rfl Tryz.underlying23 bz3 by3 rfl rfl rfl rfl rfl rfl rfl rfl rfl rfl (Eq.symm rfl) (.refl _) (fun _ => rfl) e16 p17) ?_; rintro _ _ ⟨v18, -, rfl, rfl⟩
  refine tr tbk 4 (.mk ?_)
  refine ni tbk h3 fun x19 h3 => ?_
  refine tr tbk 2 (.mk ?_)
  exact bk (x19, x16) v18 h3 leA
  rintro y2_2 w2_1 h2
  refine tc tbk 1 (.mk ?_)
  exact lf h2 w2_1 leA
  rintro y3_2 w3_1 h1
  refine tc tbk 1 (.mk ?_)
  refine ni tbk h1 fun x20 h1 => ?_
  refine tr tbk 2 (.mk ?_)
  exact bk (x20, y3_2) w3_1 h1 leA
  rintro y4_2 w4_1 h0
  refine tc tbk 3 (.mk ?_)
  obtain ⟨x21, e21, h0⟩ := bind_e h0
  refine sY (yv_callT (v := .tup [int x21.1, int x21.2]) rfl rfl (.cons rfl .nil) cal74 (.cons (cv_lst rfl rfl rfl rfl rfl (Eq.symm rfl)) .nil) (d_money_Sum_c e21) rfl) ?_
  refine tr tbk 9 (.mk ?_)
  refine nb tbk h0 fun x22 h0 => ?_
  refine tr tbk 2 (.mk ?_)
  obtain rfl := nxt_e h0
  refine wR hret (rT .nil) ?_
  exact .refl _
def d_stock_Bring (n : Nat) (a1 : GState) (a2 : Int) (a3 : Int) (a4 : Int) (a5 : GLayer) : Option (GState × Int × Int × Int) :=
(d_stock_place a1 a2 a3 a4).bind fun x9 =>
bnd (decide (x9 < 0)) fun x10 =>
asrt (x10 = false) <|
(ix a1.Master.Methods a2).bind fun x11 =>
(ix x11 a3).bind fun x12 =>
(ix a1.Master.Costs a2).bind fun x13 =>
(ix x13 a3).bind fun x14 =>
(ix a1.Ents a2).bind fun x15 =>
(ix x15.Pools x9).bind fun x16 =>
(d_pool_In n x12 x14 x16 a5).bind fun x17 =>
bnd (decide (x17.2.2 ≠ 0)) fun x19 =>
asrt (x19 = false) <|
(show Option ((Int × Bool × (List Int) × (List GRoll) × (List Int) × (List Int) × (List GEnt) × (List GPool))) from
(show Option ((Unit)) from
asrt (a1.Ents.length ≤ 68719476736) <|
(ix a1.Ents a2).bind fun x26 =>
some ()).bind <| fun _ =>
(ix a1.Ents a2).bind fun x27 =>
asrt (x27.Pools.length ≤ 68719476736) <|
(ix x27.Pools x9).bind fun x30 =>
bnd (x27.Pools.set (Int.toNat x9) (x17.1 : GPool)) fun x31 =>
some ((x27.Now : Int), (x27.Closed : Bool), (x27.Bal : List Int), (x27.Rolls : List GRoll), (x27.Prices : List Int), (x27.Down : List Int), (x27.Ahead : List GEnt), (x31 : List GPool))).bind <| p2 fun (y1_2 : Int) (q0 : Bool × (List Int) × (List GRoll) × (List Int) × (List Int) × (List GEnt) × (List GPool)) => (p2 fun (y1_3 : Bool) (q1 : (List Int) × (List GRoll) × (List Int) × (List Int) × (List GEnt) × (List GPool)) => (p2 fun (y1_5 : List Int) (q2 : (List GRoll) × (List Int) × (List Int) × (List GEnt) × (List GPool)) => (p2 fun (y1_6 : List GRoll) (q3 : (List Int) × (List Int) × (List GEnt) × (List GPool)) => (p2 fun (y1_7 : List Int) (q4 : (List Int) × (List GEnt) × (List GPool)) => (p2 fun (y1_8 : List Int) (q5 : (List GEnt) × (List GPool)) => (p2 fun (y1_9 : List GEnt) (y1_10 : List GPool) =>
(ix a1.Ents a2).bind fun x32 =>
(d_stock_worth n (⟨a1.Master, (a1.Ents.set (Int.toNat a2) (⟨y1_2, y1_3, y1_10, y1_5, y1_6, y1_7, y1_8, y1_9⟩ : GEnt)), a1.Receipts, a1.Sales, a1.Transits, a1.Done⟩ : GState) a2 a3).bind fun x33 =>
(show Option (Bool) from
bnd (!x33.2) fun x36 =>
cond x36 (some (true : Bool)) ((d_stock_steady n (⟨a1.Master, (a1.Ents.set (Int.toNat a2) (⟨y1_2, y1_3, y1_10, y1_5, y1_6, y1_7, y1_8, y1_9⟩ : GEnt)), a1.Receipts, a1.Sales, a1.Transits, a1.Done⟩ : GState) a2 a3).bind fun x37 =>
bnd (!x37) fun x38 =>
some (x38 : Bool))).bind <| fun y2_1 =>
asrt (y2_1 = false) <|
bnd (w64 (a5.Value - x17.2.1)) fun x39 =>
some (((⟨a1.Master, (a1.Ents.set (Int.toNat a2) (⟨y1_2, y1_3, y1_10, y1_5, y1_6, y1_7, y1_8, y1_9⟩ : GEnt)), a1.Receipts, a1.Sales, a1.Transits, a1.Done⟩ : GState) : GState), (x39 : Int), (x17.2.1 : Int), (0 : Int))) q5) q4) q3) q2) q1) q0
theorem d_stock_Bring_c {n : Nat} {a1 : GState} {a2 : Int} {a3 : Int} {a4 : Int} {a5 : GLayer} {r : GState × Int × Int × Int} (h0 : d_stock_Bring n a1 a2 a3 a4 a5 = some r) : PP Tryz.prog 20 [.agg (GState.av a1), int a2, int a3, int a4, .agg (GLayer.av a5)] (fun y => y = .tup [.agg (GState.av r.1), int r.2.1, int r.2.2.1, int r.2.2.2]) := by
  unfold d_stock_Bring at h0
  refine pp_of_pc (R0 := fun y H => Cv (frzH H) y (.tup [.agg (GState.av r.1), int r.2.1, int r.2.2.1, int r.2.2.2])) ?_ (fun y H hc => ⟨_, rfl, .tup (pvl4 ((fun (a : GState) => PV.agg (GState.pvc a)) (r.1)) (pvI (r.2.1)) (pvI (r.2.2.1)) (pvI (r.2.2.2))), hc⟩)
  refine pcw (c := _) Tryz.func20 rfl rfl ?_; intro Q hret hnorm
  refine tc tbk 2 (.mk ?_)
  refine sB 1 fun v6 => ?_
  refine sB 2 fun v7 => ?_
  refine sA 3 z32 fun v8 => ?_
  refine tr tbk 10 (.mk ?_)
  obtain ⟨x9, e9, h0⟩ := bind_e h0
  refine sC cal38 (d_stock_place_c e9) ?_
  refine tr tbk 6 (.mk ?_)
  refine nb tbk h0 fun x10 h0 => ?_
  refine tr tbk 1 (.mk ?_)
  replace h0 := asrt_e h0
  obtain ⟨rfl, h0⟩ := h0
  refine tc tbk 3 (.mk ?_)
  refine c_drawE [0, 1, 3, 0, 15, 31, 0, 127, 255, 0, 512, 1536, 0, 7680, 15872, 0, 65024, 130560, 0, 262144, 0, 1835008, 3932160, 8126464, 0, 33292288, 66846720, 0, 268435455, 536870911, 1073741823, 1073741823, 1073741823, 0, 10737418239, 30064771071, 68719476735] (rl [(0, [1]), (1, [1]), (2, [1]), (9, [1]), (10, [1]), (11, [1]), (18, [1]), (19, [1]), (27, [2])] []) (rl [(34, [])] [1, 2]) (rl [(33, false), (34, false)] true) [0, 1, 2, 3, 4, 5, 6, 7, 8, 9, 10, 11, 12, 13, 14, 15, 16, 17, 18, 19, 20, 21, 22, 23, 24, 25, 26, 27, 28, 29, 30, 31, 32, 33, 34, 35, 36] mixed (by kernel_rfl) ?_; intro K hK
  refine eF fo32_0 ?_
  refine eF fo26_3 ?_
  refine eL sh24 ?_
  refine eM ?_
  obtain ⟨x11, e11, h0⟩ := bind_e h0
  refine eP (fun H hH => yv_ixT rfl Tryz.underlying24 sh23 rfl rfl e11) ?_
  refine eP (fun H hH => yv_load rfl sh23 rfl (.pp _) rfl) ?_
  refine eM ?_
  obtain ⟨x12, e12, h0⟩ := bind_e h0
  refine eP (fun H hH => yv_ixT rfl Tryz.underlying23 sh3 rfl rfl e12) ?_
  refine eP (fun H hH => yv_load rfl sh3 rfl (.pp _) rfl) ?_
  refine eF fo32_0 ?_
  refine eF fo26_4 ?_
  refine eL sh24 ?_
  refine eM ?_
  obtain ⟨x13, e13, h0⟩ := bind_e h0
  refine eP (fun H hH => yv_ixT rfl Tryz.underlying24 sh23 rfl rfl e13) ?_
  refine eP (fun H hH => yv_load rfl sh23 rfl (.pp _) rfl) ?_
  refine eM ?_
  obtain ⟨x14, e14, h0⟩ := bind_e h0
  refine eP (fun H hH => yv_ixT rfl Tryz.underlying23 sh3 rfl rfl e14) ?_
  refine eP (fun H hH => yv_load rfl sh3 rfl (.pp _) rfl) ?_
  refine eF fo32_1 ?_
  refine eL sh27 ?_
  refine eM ?_
  obtain ⟨x15, e15, h0⟩ := bind_e h0
  refine eP (fun H hH => yv_to (y := .pp [int x15.Now, boo x15.Closed, lst 4 GPool.av x15.Pools, lst 1 fI x15.Bal, lst 11 GRoll.av x15.Rolls, lst 1 fI x15.Prices, lst 1 fI x15.Down, lst 8 GEnt.av x15.Ahead]) (yv_ixT rfl Tryz.underlying27 sh40 rfl rfl e15) (congrArg AV.pp (GEnt.av_eq x15))) ?_
  refine eP (fun H hH => yv_fieldAddr rfl fo40_2 rfl (.pp _) (.pp _ _)) ?_
  refine eP (fun H hH => yv_load rfl sh37 rfl (.pp _) rfl) ?_
  refine eM ?_
  obtain ⟨x16, e16, h0⟩ := bind_e h0
  refine eP (fun H hH => yv_ixT rfl Tryz.underlying37 sh82 rfl rfl e16) ?_
  refine eP (fun H hH => yv_load rfl sh82 rfl (.pp _) rfl) ?_
  refine eL sh60 ?_
  obtain ⟨x17, e17, h0⟩ := bind_e h0
  refine eP (fun H hH => yv_callP rfl rfl (.cons rfl (.cons rfl (.cons rfl (.cons rfl .nil)))) cal39 (CvL.refl _) (d_pool_In_c e17)) ?_
  refine eM ?_
  iterate 3 refine eX ?_
  refine de_eff rfl rfl rfl rfl (yl_alloc 4 .any rfl z82 rfl) (by rintro _ _ ⟨v18, -, rfl, rfl⟩; exact ⟨rfl, rfl, trivial⟩) ?_; rintro _ _ ⟨v18, -, rfl, rfl⟩
  refine de_eff0 rfl rfl rfl rfl (Yield.weak (yl_ob (ob' := (⟨82, 4, true, true, v18, [[lst 3 GLayer.av x17.1.Layers, int x17.1.Pend.a0, int x17.1.Pend.a1, int x17.1.Pend.a2]]⟩ : AObj)) (yl_store rfl sh82 rfl rfl rfl rfl rfl rfl rfl rfl rfl) rfl) (fun _ h => h) (fun _ _ => trivial)) (by rintro _ _ ⟨rfl, rfl⟩; exact trivial) ?_; rintro _ _ ⟨rfl, rfl⟩
  iterate 2 refine eA ?_
  refine de_nil (hK _ ?_)
  refine tc tbk 4 (.mk ?_)
  refine nb tbk h0 fun x19 h0 => ?_
  refine tr tbk 1 (.mk ?_)
  replace h0 := asrt_e h0
  obtain ⟨rfl, h0⟩ := h0
  refine tc tbk 5 (.mk ?_)
  refine sY (yv_build (cs := (GState.av a1)) (ps := [(0, _)]) rfl pl86 z86 rfl (.cons rfl .nil) (by kernel_rfl)) ?_
  refine sA 5 z86 fun v20 => ?_
  refine sS ⟨86, 10, true, true, v20, [(GState.av a1)]⟩ sh86 ?_
  refine tr tbk 6 (.mk ?_)
  obtain ⟨j21, h1, h0⟩ := bind_e h0
  refine rse (Out := fun y H' => (∃ (a : Int × Bool × (List Int) × (List GRoll) × (List Int) × (List Int) × (List GEnt) × (List GPool)) (k : Nat × Nat), a = j21 ∧ y = .tup [] ∧ H' = hk [(1, ⟨32, 10, true, true, v6, [(GState.av a1)]⟩), (2, ⟨60, 3, true, true, v7, [[int a5.Qty, int a5.Value, int a5.Profit]]⟩), (3, ⟨32, 10, true, true, v8, [[int 0, int 0, .sc (.slice none 0 0), .sc (.slice none 0 0), .sc (.slice none 0 0), .sc (.slice none 0 0), .sc (.slice none 0 0), .sc (.slice none 0 0), .sc (.slice none 0 0), int 0]]⟩), (4, ⟨82, 4, true, true, v18, [[lst 3 GLayer.av x17.1.Layers, int x17.1.Pend.a0, int x17.1.Pend.a1, int x17.1.Pend.a2]]⟩), (5, ⟨86, 10, true, true, v20, [[int a1.Master.Entities, int a1.Master.Periods, lst 1 fI a1.Master.Weights, lst 1 (fL 1 fI) a1.Master.Methods, lst 1 (fL 1 fI) a1.Master.Costs, .sl 7 k.1 0 a1.Ents.length, lst 8 GReceipt.av a1.Receipts, lst 9 GSale.av a1.Sales, lst 6 GTransit.av a1.Transits, int a1.Done]]⟩), (7, ⟨40, 8, true, true, k.1, (a1.Ents.map GEnt.av).set (Int.toNat a2) [int a.1, boo a.2.1, .sl 8 k.2 0 a.2.2.2.2.2.2.2.length, lst 1 fI a.2.2.1, lst 11 GRoll.av a.2.2.2.1, lst 1 fI a.2.2.2.2.1, lst 1 fI a.2.2.2.2.2.1, lst 8 GEnt.av a.2.2.2.2.2.2.1]⟩), (8, ⟨82, 4, true, true, k.2, a.2.2.2.2.2.2.2.map GPool.av⟩)])) rfl rfl rfl (yl_call rfl rfl (.cons rfl (.cons rfl (.cons rfl (.cons rfl .nil)))) cal40 ?_) ?_
  refine pcw (c := _) Tryz.func40 rfl rfl ?_; intro Q hret hnorm
  refine tc tbk 2 (.mk ?_)
  refine sB 6 fun v22 => ?_
  refine tr tbk 5 (.mk ?_)
  obtain ⟨j23, h2, h1⟩ := bind_e h1
  refine rse (Out := fun y H' => (∃ (a : Unit) (k : Nat), a = j23 ∧ y = .pt 7 k (Int.toNat a2) 0 ∧ H' = hk [(1, ⟨32, 10, true, true, v6, [(GState.av a1)]⟩), (2, ⟨60, 3, true, true, v7, [[int a5.Qty, int a5.Value, int a5.Profit]]⟩), (3, ⟨32, 10, true, true, v8, [[int 0, int 0, .sc (.slice none 0 0), .sc (.slice none 0 0), .sc (.slice none 0 0), .sc (.slice none 0 0), .sc (.slice none 0 0), .sc (.slice none 0 0), .sc (.slice none 0 0), int 0]]⟩), (4, ⟨82, 4, true, true, v18, [[lst 3 GLayer.av x17.1.Layers, int x17.1.Pend.a0, int x17.1.Pend.a1, int x17.1.Pend.a2]]⟩), (5, ⟨86, 10, true, true, v20, [[int a1.Master.Entities, int a1.Master.Periods, lst 1 fI a1.Master.Weights, lst 1 (fL 1 fI) a1.Master.Methods, lst 1 (fL 1 fI) a1.Master.Costs, .sl 7 k 0 a1.Ents.length, lst 8 GReceipt.av a1.Receipts, lst 9 GSale.av a1.Sales, lst 6 GTransit.av a1.Transits, int a1.Done]]⟩), (6, ⟨82, 4, true, true, v22, [[lst 3 GLayer.av x17.1.Layers, int x17.1.Pend.a0, int x17.1.Pend.a1, int x17.1.Pend.a2]]⟩), (7, ⟨40, 8, true, true, k, a1.Ents.map GEnt.av⟩)])) rfl rfl rfl (yl_call rfl rfl (.cons rfl (.cons rfl .nil)) cal45 ?_) ?_
  refine pcw (c := _) Tryz.func45 rfl rfl ?_; intro Q hret hnorm
  refine tc tbk 12 (.mk ?_)
  obtain ⟨p24, h2⟩ := asrt_e h2
  refine rse rfl rfl rfl (yl_call rfl rfl (.cons rfl .nil) cal65 (pc_cv (clone65_c (id := 7) (l := a1.Ents) rfl p24) (.cons (.refl _) .nil))) ?_; rintro _ _ ⟨v25, rfl, rfl⟩
  refine tr tbk 3 (.mk ?_)
  refine sS ⟨86, 10, true, true, v20, [[int a1.Master.Entities, int a1.Master.Periods, lst 1 fI a1.Master.Weights, lst 1 (fL 1 fI) a1.Master.Methods, lst 1 (fL 1 fI) a1.Master.Costs, .sl 7 v25 0 a1.Ents.length, lst 8 GReceipt.av a1.Receipts, lst 9 GSale.av a1.Sales, lst 6 GTransit.av a1.Transits, int a1.Done]]⟩ sh27 ?_
  refine tr tbk 9 (.mk ?_)
  obtain ⟨x26, e26, h2⟩ := bind_e h2
  refine sY (yv_ixO rfl Tryz.underlying27 sh40 rfl rfl rfl rfl rfl (Eq.symm rfl) (List.length_map _) e26) ?_
  refine tr tbk 2 (.mk ?_)
  obtain rfl := nxt_e h2
  refine w_ret (hret _ _ (hk [(1, ⟨32, 10, true, true, v6, [(GState.av a1)]⟩), (2, ⟨60, 3, true, true, v7, [[int a5.Qty, int a5.Value, int a5.Profit]]⟩), (3, ⟨32, 10, true, true, v8, [[int 0, int 0, .sc (.slice none 0 0), .sc (.slice none 0 0), .sc (.slice none 0 0), .sc (.slice none 0 0), .sc (.slice none 0 0), .sc (.slice none 0 0), .sc (.slice none 0 0), int 0]]⟩), (4, ⟨82, 4, true, true, v18, [[lst 3 GLayer.av x17.1.Layers, int x17.1.Pend.a0, int x17.1.Pend.a1, int x17.1.Pend.a2]]⟩), (5, ⟨86, 10, true, true, v20, [[int a1.Master.Entities, int a1.Master.Periods, lst 1 fI a1.Master.Weights, lst 1 (fL 1 fI) a1.Master.Methods, lst 1 (fL 1 fI) a1.Master.Costs, .sl 7 v25 0 a1.Ents.length, lst 8 GReceipt.av a1.Receipts, lst 9 GSale.av a1.Sales, lst 6 GTransit.av a1.Transits, int a1.Done]]⟩), (6, ⟨82, 4, true, true, v22, [[lst 3 GLayer.av x17.1.Layers, int x17.1.Pend.a0, int x17.1.Pend.a1, int x17.1.Pend.a2]]⟩), (7, ⟨40, 8, true, true, v25, a1.Ents.map GEnt.av⟩)]) (.tmp rfl .nil) (HK.le ⟨rfl, rfl, rfl, rfl, rfl, rfl, rfl, trivial⟩) ?_)
  exact ⟨(), v25, rfl, rfl, rfl⟩
  rintro y _ ⟨_, w0_1, rfl, hc, rfl⟩
  subst hc
  refine tr tbk 6 (.mk ?_)
  obtain ⟨x27, e27, h1⟩ := bind_e h1
  refine sY (yv_nilCheck rfl rfl (.pt rfl rfl (ix_get' e27 (GEnt.av_eq _)))) ?_
  refine sY (yv_fieldAddr rfl fo40_2 rfl (.pt rfl rfl (ix_get' e27 (GEnt.av_eq _))) (.pt _ _ _ _ _)) ?_
  refine sY (yv_load rfl sh37 rfl (.pt rfl rfl (ix_get' e27 (GEnt.av_eq _))) rfl) ?_
  obtain ⟨p28, h1⟩ := asrt_e h1
  refine rse rfl rfl rfl (yl_call rfl rfl (.cons rfl .nil) cal66 (pc_cv (clone66_c (id := 8) (l := x27.Pools) rfl p28) (.cons (.refl _) .nil))) ?_; rintro _ _ ⟨v29, rfl, rfl⟩
  refine sY (yv_nilCheck rfl rfl (.pt rfl rfl (ix_get' e27 (GEnt.av_eq _)))) ?_
  refine sY (yv_fieldAddr rfl fo40_2 rfl (.pt rfl rfl (ix_get' e27 (GEnt.av_eq _))) (.pt _ _ _ _ _)) ?_
  refine rsstore rfl rfl (yl_ob (ob' := (⟨40, 8, true, true, w0_1, (a1.Ents.map GEnt.av).set (Int.toNat a2) [int x27.Now, boo x27.Closed, .sl 8 v29 0 x27.Pools.length, lst 1 fI x27.Bal, lst 11 GRoll.av x27.Rolls, lst 1 fI x27.Prices, lst 1 fI x27.Down, lst 8 GEnt.av x27.Ahead]⟩ : AObj)) (yl_store rfl sh37 rfl rfl rfl rfl rfl (ix_get' e27 (GEnt.av_eq _)) rfl rfl rfl) (ob_eq rfl)) ?_
  refine tr tbk 1 (.mk ?_)
  refine c_drawE [0, 1, 3, 7, 0, 0, 63, 127] (rl [(1, [7]), (2, [7]), (3, [7]), (5, [6]), (6, [8])] []) (rl [(7, [])] [6, 7, 8]) (rl [(7, false)] true) [0, 1, 2, 3, 4, 5, 6, 7] mixed (by kernel_rfl) ?_; intro K hK
  refine eM ?_
  refine eN (hr := set_get e27) ?_
  refine eF fo40_2 (hr := set_get e27) ?_
  refine eL sh37 (hr := set_get e27) ?_
  refine eM ?_
  refine eL sh82 ?_
  obtain ⟨x30, e30, h1⟩ := bind_e h1
  refine de_pure rfl rfl rfl rfl (fun H hH => yv_ixO rfl Tryz.underlying37 sh82 rfl rfl ((hH _ (by decide)).trans rfl) rfl rfl (Eq.symm rfl) (List.length_map _) e30) ?_
  obtain ⟨x31, e31, h1⟩ := bnd_e h1
  have fx31 := ix_set e30 e31; have lx31 := len_setV e31 (rfl : x27.Pools.length = x27.Pools.length)
  refine de_eff0 rfl rfl rfl rfl (Yield.weak (yl_ob (ob' := (⟨82, 4, true, true, v29, x31.map GPool.av⟩ : AObj)) (yl_store rfl sh82 rfl rfl rfl rfl rfl (ix_get e30) rfl rfl rfl) (ob_eq (map_setV e31))) (fun _ h => h) (fun _ _ => trivial)) (by rintro _ _ ⟨rfl, rfl⟩; exact trivial) ?_; rintro _ _ ⟨rfl, rfl⟩
  refine de_nil (hK _ ?_)
  obtain rfl := nxt_e h1
  refine c_nil (hnorm _ _ (hk [(1, ⟨32, 10, true, true, v6, [(GState.av a1)]⟩), (2, ⟨60, 3, true, true, v7, [[int a5.Qty, int a5.Value, int a5.Profit]]⟩), (3, ⟨32, 10, true, true, v8, [[int 0, int 0, .sc (.slice none 0 0), .sc (.slice none 0 0), .sc (.slice none 0 0), .sc (.slice none 0 0), .sc (.slice none 0 0), .sc (.slice none 0 0), .sc (.slice none 0 0), int 0]]⟩), (4, ⟨82, 4, true, true, v18, [[lst 3 GLayer.av x17.1.Layers, int x17.1.Pend.a0, int x17.1.Pend.a1, int x17.1.Pend.a2]]⟩), (5, ⟨86, 10, true, true, v20, [[int a1.Master.Entities, int a1.Master.Periods, lst 1 fI a1.Master.Weights, lst 1 (fL 1 fI) a1.Master.Methods, lst 1 (fL 1 fI) a1.Master.Costs, .sl 7 w0_1 0 a1.Ents.length, lst 8 GReceipt.av a1.Receipts, lst 9 GSale.av a1.Sales, lst 6 GTransit.av a1.Transits, int a1.Done]]⟩), (7, ⟨40, 8, true, true, w0_1, (a1.Ents.map GEnt.av).set (Int.toNat a2) [int x27.Now, boo x27.Closed, .sl 8 v29 0 x31.length, lst 1 fI x27.Bal, lst 11 GRoll.av x27.Rolls, lst 1 fI x27.Prices, lst 1 fI x27.Down, lst 8 GEnt.av x27.Ahead]⟩), (8, ⟨82, 4, true, true, v29, x31.map GPool.av⟩)]) .nil (HK.le ⟨rfl, rfl, rfl, rfl, rfl, (by first | rfl | exact lx31 ▸ rfl), rfl, trivial⟩) ?_)
  exact ⟨(x27.Now, x27.Closed, x27.Bal, x27.Rolls, x27.Prices, x27.Down, x27.Ahead, x31), (w0_1, v29), rfl, rfl, rfl⟩
  rintro y _ ⟨⟨y1_2, y1_3, y1_5, y1_6, y1_7, y1_8, y1_9, y1_10⟩, ⟨w1_1, w1_4⟩, rfl, hc, rfl⟩
  replace h0 := p2_e h0
  replace h0 := p2_e h0
  replace h0 := p2_e h0
  replace h0 := p2_e h0
  replace h0 := p2_e h0
  replace h0 := p2_e h0
  replace h0 := p2_e h0
  subst hc
  obtain ⟨x32, e32, h0⟩ := bind_e h0
  refine tr tbk 8 (.mk ?_)
  obtain ⟨x33, e33, h0⟩ := bind_e h0
  refine sY (yv_callT (v := .tup [.agg [int x33.1.Qty, int x33.1.Value, int x33.1.Profit], boo x33.2]) rfl rfl (.cons rfl (.cons rfl (.cons rfl .nil))) cal41 (.cons (CvL.agg (.cons (.refl _) (.cons (.refl _) (.cons (.refl _) (.cons (.refl _) (.cons (.refl _) (.cons (cv_ov rfl rfl rfl rfl rfl (Eq.symm rfl) e32 (cvl_to (.cons (.refl _) (.cons (.refl _) (.cons (cv_lst rfl rfl rfl rfl rfl (Eq.symm rfl)) (.cons (.refl _) (.cons (.refl _) (.cons (.refl _) (.cons (.refl _) (.cons (.refl _) .nil)))))))) (GEnt.av_eq _))) (.cons (.refl _) (.cons (.refl _) (.cons (.refl _) (.cons (.refl _) .nil))))))))))) (.cons (.refl _) (.cons (.refl _) .nil))) (d_stock_worth_c e33) rfl) ?_
  refine tr tbk 3 (.mk ?_)
  refine sA 9 z60 fun v34 => ?_
  refine sS ⟨60, 3, true, true, v34, [[int x33.1.Qty, int x33.1.Value, int x33.1.Profit]]⟩ sh60 ?_
  refine tr tbk 3 (.mk ?_)
  refine jn h0 [5, 9, 10, 11, 12, 13, 17] [1, 2, 3, 5, 7, 8] (fun (a : Bool) (k : Unit) => [(88, boo a)]) (fun a k => []) ⟨fun j35 h1 => ?_, ?_⟩
  refine tc tbk 2 (.mk ?_)
  refine nb tbk h1 fun x36 h1 => ?_
  refine tr tbk 1 (.mk ?_)
  cases x36
  replace h1 := cf h1
  refine tr tbk 4 (.mk ?_)
  obtain ⟨x37, e37, h1⟩ := bind_e h1
  refine sY (yv_callT (v := boo x37) rfl rfl (.cons rfl (.cons rfl (.cons rfl .nil))) cal42 (.cons (CvL.agg (.cons (.refl _) (.cons (.refl _) (.cons (.refl _) (.cons (.refl _) (.cons (.refl _) (.cons (cv_ov rfl rfl rfl rfl rfl (Eq.symm rfl) e32 (cvl_to (.cons (.refl _) (.cons (.refl _) (.cons (cv_lst rfl rfl rfl rfl rfl (Eq.symm rfl)) (.cons (.refl _) (.cons (.refl _) (.cons (.refl _) (.cons (.refl _) (.cons (.refl _) .nil)))))))) (GEnt.av_eq _))) (.cons (.refl _) (.cons (.refl _) (.cons (.refl _) (.cons (.refl _) .nil))))))))))) (.cons (.refl _) (.cons (.refl _) .nil))) (d_stock_steady_c e37) rfl) ?_
  refine nb tbk h1 fun x38 h1 => ?_
  refine tr tbk 2 (.mk ?_)
  exact lf h1 () leA
  replace h1 := ct h1
  refine tr tbk 8 (.mk ?_)
  exact lf h1 () leA
  rintro y2_1 _ h0
  replace h0 := asrt_e h0
  obtain ⟨rfl, h0⟩ := h0
  refine tc tbk 3 (.mk ?_)
  refine c_drawE [0, 1, 0, 4, 0, 28, 0, 3, 191, 511, 1023] (rl [(0, [5]), (1, [5]), (2, [2]), (3, [2])] []) (rl [(7, [2])] [2, 5]) (rl [(7, false)] true) [0, 1, 2, 3, 4, 5, 6, 7, 8, 9, 10] mixed (by kernel_rfl) ?_; intro K hK
  refine eF fo86_0 ?_
  refine eL sh32 ?_
  refine eF fo60_1 ?_
  refine eL sh3 ?_
  refine eM ?_
  obtain ⟨x39, e39, h0⟩ := bnd_e h0
  refine eP (fun H hH => yv_sub rfl rfl rfl e39) ?_
  refine eM ?_
  refine de_eff0 rfl rfl rfl rfl (Yield.weak (yl_ob (ob' := (⟨32, 10, true, true, v8, [[int a1.Master.Entities, int a1.Master.Periods, lst 1 fI a1.Master.Weights, lst 1 (fL 1 fI) a1.Master.Methods, lst 1 (fL 1 fI) a1.Master.Costs, .sl 7 w1_1 0 a1.Ents.length, lst 8 GReceipt.av a1.Receipts, lst 9 GSale.av a1.Sales, lst 6 GTransit.av a1.Transits, int a1.Done]]⟩ : AObj)) (yl_store rfl sh32 rfl rfl rfl rfl rfl rfl rfl rfl rfl) rfl) (fun _ h => h) (fun _ _ => trivial)) (by rintro _ _ ⟨rfl, rfl⟩; exact ⟨rfl, trivial⟩) ?_; rintro _ _ ⟨rfl, rfl⟩
  iterate 3 refine eA ?_
  refine de_nil (hK _ ?_)
  obtain rfl := nxt_e h0
  refine wR hret (rC sh32 (rT (rT (rT .nil)))) ?_
  exact CvL.tup (.cons (CvL.agg (.cons (.refl _) (.cons (.refl _) (.cons (.refl _) (.cons (.refl _) (.cons (.refl _) (.cons (cv_ov rfl rfl rfl rfl rfl (Eq.symm rfl) e32 (cvl_to (.cons (.refl _) (.cons (.refl _) (.cons (cv_lst rfl rfl rfl rfl rfl (Eq.symm rfl)) (.cons (.refl _) (.cons (.refl _) (.cons (.refl _) (.cons (.refl _) (.cons (.refl _) .nil)))))))) (GEnt.av_eq _))) (.cons (.refl _) (.cons (.refl _) (.cons (.refl _) (.cons (.refl _) .nil))))))))))) (.cons (.refl _) (.cons (.refl _) (.cons (.refl _) .nil))))
def d_sell_line (a1 : Int) (a2 : Int) : Option (GLine) :=
some (((⟨a1, a2⟩ : GLine) : GLine))
theorem d_sell_line_c {a1 : Int} {a2 : Int} {r : GLine} (h0 : d_sell_line a1 a2 = some r) : PP Tryz.prog 61 [int a1, int a2] (fun y => y = .agg (GLine.av r)) := by
  unfold d_sell_line at h0
  refine pp_of_pc (R0 := fun y H => Cv (frzH H) y (.agg (GLine.av r))) ?_ (fun y H hc => ⟨_, rfl, (fun (a : GLine) => PV.agg (GLine.pvc a)) r, hc⟩)
  refine pcw (c := _) Tryz.func61 rfl rfl ?_; intro Q hret hnorm
  refine tc tbk 2 (.mk ?_)
  refine sA 1 z63 fun v3 => ?_
  refine tr tbk 6 (.mk ?_)
  refine sS ⟨63, 2, true, true, v3, [[int a1, int a2]]⟩ sh63 ?_
  refine tr tbk 1 (.mk ?_)
  obtain rfl := nxt_e h0
  refine wR hret (rC sh63 .nil) ?_
  exact .refl _
def d_voucher_is (a1 : Int) : Option (Bool) :=
(show Option (Bool) from
bnd (decide (a1 ≥ 0)) fun x3 =>
cond x3 (bnd (decide (a1 < 17)) fun x4 =>
some (x4 : Bool)) (some (false : Bool))).bind <| fun y0_1 =>
some ((y0_1 : Bool))
theorem d_voucher_is_c {a1 : Int} {r : Bool} (h0 : d_voucher_is a1 = some r) : PP Tryz.prog 77 [int a1] (fun y => y = boo r) := by
  unfold d_voucher_is at h0
  refine pp_of_pc (R0 := fun y H => Cv (frzH H) y (boo r)) ?_ (fun y H hc => ⟨_, rfl, pvB r, hc⟩)
  refine pcw (c := _) Tryz.func77 rfl rfl ?_; intro Q hret hnorm
  refine tc tbk 5 (.mk ?_)
  refine jn h0 [] [] (fun (a : Bool) (k : Unit) => [(2, boo a)]) (fun a k => []) ⟨fun j2 h1 => ?_, ?_⟩
  refine tc tbk 2 (.mk ?_)
  refine nb tbk h1 fun x3 h1 => ?_
  refine tr tbk 1 (.mk ?_)
  cases x3
  replace h1 := cf h1
  refine tr tbk 5 (.mk ?_)
  exact lf h1 () leA
  replace h1 := ct h1
  refine tr tbk 1 (.mk ?_)
  refine nb tbk h1 fun x4 h1 => ?_
  refine tr tbk 3 (.mk ?_)
  exact lf h1 () leA
  rintro y0_1 _ h0
  obtain rfl := nxt_e h0
  refine wR hret (rT .nil) ?_
  exact .refl _
def d_voucher_in (a1 : Int) : Option (Bool) :=
(show Option (Bool) from
bnd (decide (a1 ≥ (-288230376151711744))) fun x3 =>
cond x3 (bnd (decide (a1 ≤ 288230376151711744)) fun x4 =>
some (x4 : Bool)) (some (false : Bool))).bind <| fun y0_1 =>
some ((y0_1 : Bool))
theorem d_voucher_in_c {a1 : Int} {r : Bool} (h0 : d_voucher_in a1 = some r) : PP Tryz.prog 78 [int a1] (fun y => y = boo r) := by
  unfold d_voucher_in at h0
  refine pp_of_pc (R0 := fun y H => Cv (frzH H) y (boo r)) ?_ (fun y H hc => ⟨_, rfl, pvB r, hc⟩)
  refine pcw (c := _) Tryz.func78 rfl rfl ?_; intro Q hret hnorm
  refine tc tbk 5 (.mk ?_)
  refine jn h0 [] [] (fun (a : Bool) (k : Unit) => [(2, boo a)]) (fun a k => []) ⟨fun j2 h1 => ?_, ?_⟩
  refine tc tbk 2 (.mk ?_)
  refine nb tbk h1 fun x3 h1 => ?_
  refine tr tbk 1 (.mk ?_)
  cases x3
  replace h1 := cf h1
  refine tr tbk 5 (.mk ?_)
  exact lf h1 () leA
  replace h1 := ct h1
  refine tr tbk 1 (.mk ?_)
  refine nb tbk h1 fun x4 h1 => ?_
  refine tr tbk 3 (.mk ?_)
  exact lf h1 () leA
  rintro y0_1 _ h0
  obtain rfl := nxt_e h0
  refine wR hret (rT .nil) ?_
  exact .refl _
def d_voucher_Plain_1 (a1 : GLine) : Option (Bool) :=
(show Option (Bool) from
(d_voucher_is a1.Account).bind fun x4 =>
bnd (!x4) fun x5 =>
cond x5 (some (true : Bool)) ((d_voucher_in a1.Amount).bind fun x6 =>
bnd (!x6) fun x7 =>
some (x7 : Bool))).bind <| fun y0_1 =>
some ((y0_1 : Bool))
theorem d_voucher_Plain_1_c {a1 : GLine} {r : Bool} (h0 : d_voucher_Plain_1 a1 = some r) : PP Tryz.prog 76 [.agg (GLine.av a1)] (fun y => y = boo r) := by
  unfold d_voucher_Plain_1 at h0
  refine pp_of_pc (R0 := fun y H => Cv (frzH H) y (boo r)) ?_ (fun y H hc => ⟨_, rfl, pvB r, hc⟩)
  refine pcw (c := _) Tryz.func76 rfl rfl ?_; intro Q hret hnorm
  refine tc tbk 2 (.mk ?_)
  refine sB 1 fun v2 => ?_
  refine tr tbk 3 (.mk ?_)
  refine jn h0 [] [] (fun (a : Bool) (k : Unit) => [(2, boo a)]) (fun a k => []) ⟨fun j3 h1 => ?_, ?_⟩
  refine tc tbk 3 (.mk ?_)
  obtain ⟨x4, e4, h1⟩ := bind_e h1
  refine sC cal77 (d_voucher_is_c e4) ?_
  refine nb tbk h1 fun x5 h1 => ?_
  refine tr tbk 1 (.mk ?_)
  cases x5
  replace h1 := cf h1
  refine tr tbk 2 (.mk ?_)
  obtain ⟨x6, e6, h1⟩ := bind_e h1
  refine sC cal78 (d_voucher_in_c e6) ?_
  refine nb tbk h1 fun x7 h1 => ?_
  refine tr tbk 3 (.mk ?_)
  exact lf h1 () leA
  replace h1 := ct h1
  refine tr tbk 7 (.mk ?_)
  exact lf h1 () leA
  rintro y0_1 _ h0
  obtain rfl := nxt_e h0
  refine wR hret (rT .nil) ?_
  exact .refl _
def d_voucher_Plain_2 (a1 : GLine) : Option (Int) :=
some ((a1.Account : Int))
theorem d_voucher_Plain_2_c {a1 : GLine} {r : Int} (h0 : d_voucher_Plain_2 a1 = some r) : PP Tryz.prog 81 [.agg (GLine.av a1)] (fun y => y = int r) := by
  unfold d_voucher_Plain_2 at h0
  refine pp_of_pc (R0 := fun y H => Cv (frzH H) y (int r)) ?_ (fun y H hc => ⟨_, rfl, pvI r, hc⟩)
  refine pcw (c := _) Tryz.func81 rfl rfl ?_; intro Q hret hnorm
  refine tc tbk 2 (.mk ?_)
  refine sB 1 fun v2 => ?_
  refine tr tbk 8 (.mk ?_)
  obtain rfl := nxt_e h0
  refine wR hret (rT .nil) ?_
  exact .refl _
def d_cmp_isNaN_int (a1 : Int) : Option (Bool) :=
bnd (decide (a1 ≠ a1)) fun x2 =>
some ((x2 : Bool))
theorem d_cmp_isNaN_int_c {a1 : Int} {r : Bool} (h0 : d_cmp_isNaN_int a1 = some r) : PP Tryz.prog 127 [int a1] (fun y => y = boo r) := by
  unfold d_cmp_isNaN_int at h0
  refine pp_of_pc (R0 := fun y H => Cv (frzH H) y (boo r)) ?_ (fun y H hc => ⟨_, rfl, pvB r, hc⟩)
  refine pcw (c := _) Tryz.func127 rfl rfl ?_; intro Q hret hnorm
  refine tc tbk 8 (.mk ?_)
  refine nb tbk h0 fun x2 h0 => ?_
  refine tr tbk 2 (.mk ?_)
  obtain rfl := nxt_e h0
  refine wR hret (rT .nil) ?_
  exact .refl _
def d_cmp_Compare_int (a1 : Int) (a2 : Int) : Option (Int) :=
(d_cmp_isNaN_int a1).bind fun x3 =>
(d_cmp_isNaN_int a2).bind fun x4 =>
cond x3 (cond x4 (some ((0 : Int))) (some (((-1) : Int)))) (cond x4 (some ((1 : Int))) (bnd (decide (a1 < a2)) fun x5 =>
cond x5 (some (((-1) : Int))) (bnd (decide (a1 > a2)) fun x6 =>
cond x6 (some ((1 : Int))) (some ((0 : Int))))))
theorem d_cmp_Compare_int_c {a1 : Int} {a2 : Int} {r : Int} (h0 : d_cmp_Compare_int a1 a2 = some r) : PP Tryz.prog 110 [int a1, int a2] (fun y => y = int r) := by
  unfold d_cmp_Compare_int at h0
  refine pp_of_pc (R0 := fun y H => Cv (frzH H) y (int r)) ?_ (fun y H hc => ⟨_, rfl, pvI r, hc⟩)
  refine pcw (c := _) Tryz.func110 rfl rfl ?_; intro Q hret hnorm
  refine tc tbk 7 (.mk ?_)
  obtain ⟨x3, e3, h0⟩ := bind_e h0
  refine sC cal127 (d_cmp_isNaN_int_c e3) ?_
  refine tr tbk 5 (.mk ?_)
  obtain ⟨x4, e4, h0⟩ := bind_e h0
  refine sC cal127 (d_cmp_isNaN_int_c e4) ?_
  refine tr tbk 7 (.mk ?_)
  cases x3
  replace h0 := cf h0
  refine tc tbk 7 (.mk ?_)
  cases x4
  replace h0 := cf h0
  refine tc tbk 7 (.mk ?_)
  refine nb tbk h0 fun x5 h0 => ?_
  refine tr tbk 1 (.mk ?_)
  cases x5
  replace h0 := cf h0
  refine tc tbk 7 (.mk ?_)
  refine nb tbk h0 fun x6 h0 => ?_
  refine tr tbk 1 (.mk ?_)
  cases x6
  replace h0 := cf h0
  refine tc tbk 6 (.mk ?_)
  obtain rfl := nxt_e h0
  refine wR hret (rT .nil) ?_
  exact .refl _
  replace h0 := ct h0
  refine tc tbk 5 (.mk ?_)
  obtain rfl := nxt_e h0
  refine wR hret (rT .nil) ?_
  exact .refl _
  replace h0 := ct h0
  refine tc tbk 5 (.mk ?_)
  obtain rfl := nxt_e h0
  refine wR hret (rT .nil) ?_
  exact .refl _
  replace h0 := ct h0
  refine tc tbk 5 (.mk ?_)
  obtain rfl := nxt_e h0
  refine wR hret (rT .nil) ?_
  exact .refl _
  replace h0 := ct h0
  refine tc tbk 6 (.mk ?_)
  cases x4
  replace h0 := cf h0
  refine tc tbk 6 (.mk ?_)
  obtain rfl := nxt_e h0
  refine wR hret (rT .nil) ?_
  exact .refl _
  replace h0 := ct h0
  refine tc tbk 5 (.mk ?_)
  obtain rfl := nxt_e h0
  refine wR hret (rT .nil) ?_
  exact .refl _
def d_voucher_Plain_3 (a1 : GLine) : Option (Bool) :=
bnd (decide (a1.Amount = 0)) fun x3 =>
some ((x3 : Bool))
theorem d_voucher_Plain_3_c {a1 : GLine} {r : Bool} (h0 : d_voucher_Plain_3 a1 = some r) : PP Tryz.prog 83 [.agg (GLine.av a1)] (fun y => y = boo r) := by
  unfold d_voucher_Plain_3 at h0
  refine pp_of_pc (R0 := fun y H => Cv (frzH H) y (boo r)) ?_ (fun y H hc => ⟨_, rfl, pvB r, hc⟩)
  refine pcw (c := _) Tryz.func83 rfl rfl ?_; intro Q hret hnorm
  refine tc tbk 2 (.mk ?_)
  refine sB 1 fun v2 => ?_
  refine tr tbk 6 (.mk ?_)
  refine nb tbk h0 fun x3 h0 => ?_
  refine tr tbk 2 (.mk ?_)
  obtain rfl := nxt_e h0
  refine wR hret (rT .nil) ?_
  exact .refl _
def d_voucher_Plain_L0 (a1 : List GLine) : Nat → Int → Option ((Unit) ⊕ ((Int)))
  | 0, _ => none
  | n + 1, y0_1 =>
    bnd (decide (y0_1 < (a1.length : Int))) fun x5 =>
    cond x5 ((ix a1 y0_1).bind fun x6 =>
    (d_voucher_Plain_1 x6).bind fun x7 =>
    cond x7 (esc (some (y0_1 : Int))) (bnd (w64 (y0_1 + 1)) fun x8 =>
    d_voucher_Plain_L0 a1 n (x8 : Int))) (brk ())
def d_voucher_Plain_L1 (a1 : List GLine) : Nat → Option (Unit)
  | 0 => none
  | n + 1 =>
    bnd (decide (20 ≤ (a1.length : Int))) fun x18 =>
    asrt (x18 = false) <|
    some ()
def d_voucher_Plain_L3 : Nat → Int → (List GLine) → Option ((List GLine))
  | 0, _, _ => none
  | n + 1, y7_1, y7_2 =>
    (show Option (Bool) from
    bnd (decide (y7_1 > 0)) fun x25 =>
    cond x25 ((ix y7_2 y7_1).bind fun x26 =>
    bnd (w64 (y7_1 - 1)) fun x27 =>
    (ix y7_2 x27).bind fun x28 =>
    (show Option ((Int)) from
    (d_voucher_Plain_2 x26).bind fun x32 =>
    (d_voucher_Plain_2 x28).bind fun x33 =>
    (d_cmp_Compare_int x32 x33).bind fun x34 =>
    some (x34 : Int)).bind <| fun y8_1 =>
    bnd (decide (y8_1 < 0)) fun x35 =>
    some (x35 : Bool)) (some (false : Bool))).bind <| fun y10_1 =>
    cond y10_1 (bnd (w64 (y7_1 - 1)) fun x36 =>
    bnd (w64 (y7_1 - 1)) fun x37 =>
    (ix y7_2 x37).bind fun x38 =>
    (ix y7_2 y7_1).bind fun x39 =>
    bnd (y7_2.set (Int.toNat y7_1) (x38 : GLine)) fun x40 =>
    (ix x40 x36).bind fun x41 =>
    bnd (x40.set (Int.toNat x36) (x39 : GLine)) fun x42 =>
    bnd (w64 (y7_1 - 1)) fun x43 =>
    d_voucher_Plain_L3 n (x43 : Int) (x42 : List GLine)) (some (y7_2 : List GLine))
def d_voucher_Plain_L2 (a1 : List GLine) : Nat → Int → (List GLine) → Option ((List GLine))
  | 0, _, _ => none
  | n + 1, y6_1, y6_2 =>
    bnd (decide (y6_1 < (a1.length : Int))) fun x21 =>
    cond x21 ((show Option ((List GLine)) from
    (show Option ((List GLine)) from
    d_voucher_Plain_L3 n (y6_1 : Int) (y6_2 : List GLine)).bind <| fun y11_1 =>
    some (y11_1 : List GLine)).bind <| fun y12_1 =>
    bnd (w64 (y6_1 + 1)) fun x44 =>
    d_voucher_Plain_L2 a1 n (x44 : Int) (y12_1 : List GLine)) (some (y6_2 : List GLine))
def d_voucher_Plain_L4 (a1 : List GLine) : Nat → Option (Unit)
  | 0 => none
  | n + 1 =>
    bnd (decide (20 < (a1.length : Int))) fun x47 =>
    asrt (x47 = false) <|
    some ()
def d_voucher_Plain_L5 (a1 : List GLine) (y19_1 : List GLine) : Nat → Int → (List GLine) → Option ((List GLine))
  | 0, _, _ => none
  | n + 1, y20_2, y20_3 =>
    bnd (decide (y20_2 < (a1.length : Int))) fun x51 =>
    cond x51 ((ix y19_1 y20_2).bind fun x52 =>
    bnd (w64 ((y20_3.length : Int) - 1)) fun x54 =>
    (show Option (Bool) from
    bnd (decide (x54 ≥ 0)) fun x56 =>
    cond x56 ((ix y20_3 x54).bind fun x57 =>
    bnd (decide (x57.Account = x52.Account)) fun x58 =>
    some (x58 : Bool)) (some (false : Bool))).bind <| fun y21_1 =>
    asrt (y21_1 = false) <|
    bnd (y20_3 ++ ([x52] : List GLine)) fun x59 =>
    asrt (x59.length ≤ 68719476736) <|
    bnd (w64 (y20_2 + 1)) fun x62 =>
    d_voucher_Plain_L5 a1 y19_1 n (x62 : Int) (x59 : List GLine)) (some (y20_3 : List GLine))
def d_voucher_Plain_L6 (y22_2 : List GLine) : Nat → Int → Option ((Unit) ⊕ ((Int)))
  | 0, _ => none
  | n + 1, y23_1 =>
    bnd (decide (y23_1 < (y22_2.length : Int))) fun x66 =>
    cond x66 ((ix y22_2 y23_1).bind fun x67 =>
    (d_voucher_Plain_3 x67).bind fun x68 =>
    cond x68 (esc (some (y23_1 : Int))) (bnd (w64 (y23_1 + 1)) fun x69 =>
    d_voucher_Plain_L6 y22_2 n (x69 : Int))) (brk ())
def d_voucher_Plain_L7 : Nat → Int → Int → (List GLine) → Option (Int × (List GLine))
  | 0, _, _, _ => none
  | n + 1, y26_1, y26_2, y26_3 =>
    bnd (decide (y26_2 < (y26_3.length : Int))) fun x74 =>
    cond x74 ((show Option (Int × (List GLine)) from
    (ix y26_3 y26_2).bind fun x76 =>
    (d_voucher_Plain_3 x76).bind fun x78 =>
    bnd (!x78) fun x79 =>
    cond x79 ((ix y26_3 y26_1).bind fun x80 =>
    bnd (y26_3.set (Int.toNat y26_1) (x76 : GLine)) fun x81 =>
    bnd (w64 (y26_1 + 1)) fun x82 =>
    some ((x82 : Int), (x81 : List GLine))) (some ((y26_1 : Int), (y26_3 : List GLine)))).bind <| p2 fun (y27_1 : Int) (y27_2 : List GLine) =>
    bnd (w64 (y26_2 + 1)) fun x83 =>
    d_voucher_Plain_L7 n (y27_1 : Int) (x83 : Int) (y27_2 : List GLine)) (some ((y26_1 : Int), (y26_3 : List GLine)))
def d_voucher_Plain (n : Nat) (a1 : List GLine) : Option ((List GLine) × Int) :=
(show Option ((Bool)) from
(show Option ((Int)) from
(show Option ((Unit) ⊕ ((Int))) from
d_voucher_Plain_L0 a1 n (0 : Int)).bind <| sel <| fun _ =>
some ((-1) : Int)).bind <| fun y2_1 =>
bnd (decide (y2_1 ≥ 0)) fun x10 =>
some (x10 : Bool)).bind <| fun y3_1 =>
asrt (y3_1 = false) <|
asrt (a1.length ≤ 68719476736) <|
(show Option (((List GLine))) from
(show Option (((List GLine))) from
(show Option (((List GLine))) from
(show Option (Unit) from
d_voucher_Plain_L1 a1 n).bind <| fun _ =>
(show Option (((List GLine))) from
(show Option ((List GLine)) from
d_voucher_Plain_L2 a1 n (1 : Int) (a1 : List GLine)).bind <| fun y13_1 =>
some (y13_1 : List GLine)).bind <| fun y14_1 =>
asrt (y14_1.length = a1.length) <|
(show Option (Unit) from
d_voucher_Plain_L4 a1 n).bind <| fun _ =>
some (y14_1 : List GLine)).bind <| fun y17_1 =>
some (y17_1 : List GLine)).bind <| fun y18_1 =>
some (y18_1 : List GLine)).bind <| fun y19_1 =>
asrt (y19_1.length = a1.length) <|
(show Option ((List GLine)) from
d_voucher_Plain_L5 a1 y19_1 n (0 : Int) (([] : List GLine) : List GLine)).bind <| fun y22_2 =>
(show Option ((Nat × Nat × (List GLine))) from
(show Option ((Int)) from
(show Option ((Unit) ⊕ ((Int))) from
d_voucher_Plain_L6 y22_2 n (0 : Int)).bind <| sel <| fun _ =>
some ((-1) : Int)).bind <| fun y25_1 =>
bnd (decide (y25_1 = (-1))) fun x71 =>
cond x71 (some ((0 : Nat), (y22_2.length : Nat), (y22_2 : List GLine))) (bnd (w64 (y25_1 + 1)) fun x72 =>
(show Option (Int × (List GLine)) from
d_voucher_Plain_L7 n (y25_1 : Int) (x72 : Int) (y22_2 : List GLine)).bind <| p2 fun (y28_1 : Int) (y28_2 : List GLine) =>
asrt ((0 : Int) ≤ y28_1 ∧ y28_1 < (y28_2.length : Int)) <|
bnd (y28_2.take (0 + y28_1.toNat)) fun x85 =>
asrt ((0 : Int) ≤ y28_1 ∧ y28_1 ≤ (y28_2.length : Int)) <|
some (((0 + 0) : Nat), ((y28_1.toNat - 0) : Nat), (x85 : List GLine)))).bind <| p2 fun (y29_1 : Nat) (q0 : Nat × (List GLine)) => (p2 fun (y29_2 : Nat) (y29_3 : List GLine) =>
asrt (y29_1 + y29_2 ≤ y29_3.length) <|
some (((((y29_3).drop y29_1).take y29_2) : List GLine), (0 : Int))) q0
theorem d_voucher_Plain_c {n : Nat} {a1 : List GLine} {r : (List GLine) × Int} (h0 : d_voucher_Plain n a1 = some r) : PP Tryz.prog 43 [lst 2 GLine.av a1] (fun y => y = .tup [lst 2 GLine.av r.1, int r.2]) := by
  unfold d_voucher_Plain at h0
  refine pp_of_pc (R0 := fun y H => Cv (frzH H) y (.tup [lst 2 GLine.av r.1, int r.2])) ?_ (fun y H hc => ⟨_, rfl, .tup (pvl2 ((pvLs GLine.pvc) (r.1)) (pvI (r.2))), hc⟩)
  refine pcw (c := _) Tryz.func43 rfl rfl ?_; intro Q hret hnorm
  refine tc tbk 9 (.mk ?_)
  obtain ⟨j2, h1, h0⟩ := bind_e h0
  refine rse (Out := fun y H' => (∃ (a : Bool) (k : Unit), a = j2 ∧ y = boo a ∧ H' = hk [])) rfl rfl rfl (yl_call rfl rfl (.cons rfl (.cons rfl .nil)) cal75 ?_) ?_
  refine pcw (c := _) Tryz.func75 rfl rfl ?_; intro Q hret hnorm
  refine tc tbk 8 (.mk ?_)
  obtain ⟨j3, h2, h1⟩ := bind_e h1
  refine rse (Out := fun y H' => (∃ (a : Int) (k : Unit), a = j3 ∧ y = int a ∧ H' = hk [])) rfl rfl rfl (yl_call rfl rfl (.cons rfl (.cons rfl .nil)) cal107 ?_) ?_
  refine pcw (c := _) Tryz.func107 rfl rfl ?_; intro Q hret hnorm
  refine tc tbk 8 (.mk ?_)
  refine sY (yv_len_sl rfl Tryz.underlying64 rfl (lst_len _)) ?_
  refine tr tbk 2 (.mk ?_)
  refine jnE h2 [4] [] (fun (a : Unit) (k : Unit) => []) (fun a k => []) ⟨fun j4 h3 h2 => ?_, ?_⟩
  refine tc tbk 1 (.mk ?_)
  refine lp (fun n (a : Int) => d_voucher_Plain_L0 a1 n a) (0 : Int) () h3 [0, 1, 4, 7] [] (fun (a : Int) (k : Unit) => [(8, int a)]) (fun a k => []) (fun _ => rfl) ⟨leA, ?_⟩
  rintro n y0_1 _ hm h3
  replace h3 : d_voucher_Plain_L0 a1 (n + 1) y0_1 = some _ := h3
  rw [d_voucher_Plain_L0] at h3
  refine tc tbk 2 (.mk ?_)
  refine nb tbk h3 fun x5 h3 => ?_
  refine tr tbk 2 (.mk ?_)
  cases x5
  replace h3 := cf h3
  refine tc tbk 2 (.mk ?_)
  exact lfE h3 () leA
  replace h3 := ct h3
  refine tc tbk 14 (.mk ?_)
  obtain ⟨x6, e6, h3⟩ := bind_e h3
  refine sY (yv_ixT rfl Tryz.underlying64 sh63 rfl rfl e6) ?_
  refine tr tbk 1 (.mk ?_)
  obtain ⟨x7, e7, h3⟩ := bind_e h3
  refine sC cal76 (d_voucher_Plain_1_c e7) ?_
  refine tr tbk 1 (.mk ?_)
  cases x7
  replace h3 := cf h3
  refine tc tbk 4 (.mk ?_)
  refine ni tbk h3 fun x8 h3 => ?_
  refine tr tbk 2 (.mk ?_)
  exact bk x8 () h3 leA
  replace h3 := ct h3
  refine tc tbk 6 (.mk ?_)
  obtain ⟨c9, hX, hj⟩ := esc_e h3; subst hj; replace h2 := hX.trans (sel_r h2)
  obtain rfl := nxt_e h2
  refine w_ret (hret _ _ (hk []) (.tmp rfl .nil) (fun _ _ h => nomatch h) ?_)
  exact ⟨y0_1, (), rfl, rfl, rfl⟩
  rintro _ _ h2
  refine tc tbk 4 (.mk ?_)
  obtain rfl := nxt_e h2
  refine w_ret (hret _ _ (hk []) (.tmp rfl .nil) (fun _ _ h => nomatch h) ?_)
  exact ⟨(-1), (), rfl, rfl, rfl⟩
  rintro y _ ⟨y2_1, _, rfl, hc, rfl⟩
  subst hc
  refine nb tbk h1 fun x10 h1 => ?_
  refine tr tbk 2 (.mk ?_)
  obtain rfl := nxt_e h1
  refine w_ret (hret _ _ (hk []) (.tmp rfl .nil) (fun _ _ h => nomatch h) ?_)
  exact ⟨x10, (), rfl, rfl, rfl⟩
  rintro y _ ⟨y3_1, _, rfl, hc, rfl⟩
  subst hc
  refine tr tbk 1 (.mk ?_)
  replace h0 := asrt_e h0
  obtain ⟨rfl, h0⟩ := h0
  refine tc tbk 5 (.mk ?_)
  obtain ⟨p11, h0⟩ := asrt_e h0
  refine rse rfl rfl rfl (yl_call rfl rfl (.cons rfl .nil) cal79 (pc_cv (clone79_c (id := 1) (l := a1) rfl p11) (.cons (.refl _) .nil))) ?_; rintro _ _ ⟨v12, rfl, rfl⟩
  refine tr tbk 5 (.mk ?_)
  obtain ⟨j13, h1, h0⟩ := bind_e h0
  refine rse (Out := fun y H' => (∃ (a : (List GLine)) (k : Unit), a = j13 ∧ y = .tup [] ∧ H' = hk [(1, ⟨63, 2, true, true, v12, a.map GLine.av⟩)])) rfl rfl rfl (yl_call rfl rfl (.cons rfl (.cons rfl .nil)) cal80 ?_) ?_
  refine pcw (c := _) Tryz.func80 rfl rfl ?_; intro Q hret hnorm
  refine tc tbk 2 (.mk ?_)
  refine sB 2 fun v14 => ?_
  refine tr tbk 4 (.mk ?_)
  obtain ⟨j15, h2, h1⟩ := bind_e h1
  refine rse (Out := fun y H' => (∃ (a : (List GLine)) (k : Unit), a = j15 ∧ y = .tup [] ∧ H' = hk [(1, ⟨63, 2, true, true, v12, a.map GLine.av⟩), (2, ⟨139, 1, true, true, v14, [[.fn (.func 81) [] []]]⟩)])) rfl rfl rfl (yl_call rfl rfl (.cons rfl (.cons rfl .nil)) cal108 ?_) ?_
  refine pcw (c := _) Tryz.func108 rfl rfl ?_; intro Q hret hnorm
  refine tc tbk 3 (.mk ?_)
  refine sY (yv_len_sl rfl Tryz.underlying64 rfl (.sl rfl rfl)) ?_
  refine tr tbk 1 (.mk ?_)
  obtain ⟨j16, h3, h2⟩ := bind_e h2
  refine rse (Out := fun y H' => (∃ (a : (List GLine)) (k : Unit), a = j16 ∧ y = .tup [] ∧ H' = hk [(1, ⟨63, 2, true, true, v12, a.map GLine.av⟩), (2, ⟨139, 1, true, true, v14, [[.fn (.func 81) [] []]]⟩)])) rfl rfl rfl (yl_call rfl rfl (.cons rfl (.cons rfl (.cons rfl .nil))) cal126 ?_) ?_
  refine pcw (c := _) Tryz.func126 rfl rfl ?_; intro Q hret hnorm
  refine tc tbk 11 (.mk ?_)
  refine jn h3 [0, 1, 2, 6, 7] [1, 2] (fun (a : Unit) (k : Unit) => []) (fun a k => []) ⟨fun j17 h4 => ?_, ?_⟩
  refine tc tbk 1 (.mk ?_)
  refine lp (fun n (a : Unit) => d_voucher_Plain_L1 a1 n) () () h4 [0, 1, 2, 6, 7, 8] [1, 2] (fun (a : Unit) (k : Unit) => []) (fun a k => []) (fun _ => rfl) ⟨leA, ?_⟩
  rintro n _ _ hm h4
  replace h4 : d_voucher_Plain_L1 a1 (n + 1) = some _ := h4
  rw [d_voucher_Plain_L1] at h4
  refine tc tbk 5 (.mk ?_)
  refine nb tbk h4 fun x18 h4 => ?_
  refine tr tbk 1 (.mk ?_)
  replace h4 := asrt_e h4
  obtain ⟨rfl, h4⟩ := h4
  refine tc tbk 2 (.mk ?_)
  exact lf h4 () leA
  rintro _ _ h3
  refine tc tbk 6 (.mk ?_)
  obtain ⟨j19, h4, h3⟩ := bind_e h3
  refine rse (Out := fun y H' => (∃ (a : (List GLine)) (k : Unit), a = j19 ∧ y = .tup [] ∧ H' = hk [(1, ⟨63, 2, true, true, v12, a.map GLine.av⟩), (2, ⟨139, 1, true, true, v14, [[.fn (.func 81) [] []]]⟩)])) rfl rfl rfl (yl_call rfl rfl (.cons rfl (.cons rfl (.cons rfl (.cons rfl .nil)))) cal132 ?_) ?_
  refine pcw (c := _) Tryz.func132 rfl rfl ?_; intro Q hret hnorm
  refine tc tbk 3 (.mk ?_)
  refine sY (yv_add (r := 1) rfl rfl rfl (by decide)) ?_
  refine tr tbk 2 (.mk ?_)
  refine jn h4 [] [2] (fun (a : (List GLine)) (k : Unit) => []) (fun a k => [(1, ⟨63, 2, true, true, v12, a.map GLine.av⟩)]) ⟨fun j20 h5 => ?_, ?_⟩
  refine tc tbk 1 (.mk ?_)
  refine lp (fun n (a : Int × (List GLine)) => d_voucher_Plain_L2 a1 n a.1 a.2) ((1 : Int), (a1 : List GLine)) () h5 [1, 2, 3] [2] (fun (a : Int × (List GLine)) (k : Unit) => [(0, .sl 1 v12 0 a.2.length), (8, int a.1)]) (fun a k => [(1, ⟨63, 2, true, true, v12, a.2.map GLine.av⟩)]) (fun _ => rfl) ⟨leA, ?_⟩
  rintro n ⟨y6_1, y6_2⟩ _ hm h5
  replace h5 : d_voucher_Plain_L2 a1 (n + 1) y6_1 y6_2 = some _ := h5
  rw [d_voucher_Plain_L2] at h5
  refine tc tbk 5 (.mk ?_)
  refine nb tbk h5 fun x21 h5 => ?_
  refine tr tbk 1 (.mk ?_)
  cases x21
  replace h5 := cf h5
  refine tc tbk 2 (.mk ?_)
  exact lf h5 () leA
  replace h5 := ct h5
  refine tc tbk 3 (.mk ?_)
  refine jn h5 [1, 2, 3, 8] [2] (fun (a : (List GLine)) (k : Unit) => [(0, .sl 1 v12 0 a.length)]) (fun a k => [(1, ⟨63, 2, true, true, v12, a.map GLine.av⟩)]) ⟨fun j22 h6 => ?_, ?_⟩
  refine tc tbk 6 (.mk ?_)
  refine jn h6 [1, 2, 3, 8] [2] (fun (a : (List GLine)) (k : Unit) => [(0, .sl 1 v12 0 a.length)]) (fun a k => [(1, ⟨63, 2, true, true, v12, a.map GLine.av⟩)]) ⟨fun j23 h7 => ?_, ?_⟩
  refine tc tbk 1 (.mk ?_)
  refine lp (fun n (a : Int × (List GLine)) => d_voucher_Plain_L3 n a.1 a.2) ((y6_1 : Int), (y6_2 : List GLine)) () h7 [1, 2, 3, 8] [2] (fun (a : Int × (List GLine)) (k : Unit) => [(0, .sl 1 v12 0 a.2.length), (9, int a.1)]) (fun a k => [(1, ⟨63, 2, true, true, v12, a.2.map GLine.av⟩)]) (fun _ => rfl) ⟨leA, ?_⟩
  rintro n ⟨y7_1, y7_2⟩ _ hm h7
  replace h7 : d_voucher_Plain_L3 (n + 1) y7_1 y7_2 = some _ := h7
  rw [d_voucher_Plain_L3] at h7
  refine tc tbk 2 (.mk ?_)
  refine jn h7 [0, 1, 2, 3, 8, 9] [1, 2] (fun (a : Bool) (k : Unit) => [(34, boo a)]) (fun a k => []) ⟨fun j24 h8 => ?_, ?_⟩
  refine c_drawE [0, 0, 3, 7, 15, 15, 15, 111, 239, 15, 15, 1039, 3599, 7695, 16383, 32767, 65535] (rl [(7, [1]), (8, [1]), (12, [1]), (13, [1])] []) (rl [(14, [])] [1]) (rl [(14, false)] true) [0, 1, 2, 3, 4, 5, 6, 7, 8, 9, 10, 11, 12, 13, 14, 15, 16] mixed (by kernel_rfl) ?_; intro K hK
  iterate 2 refine eM ?_
  obtain ⟨x25, e25, h8⟩ := bnd_e h8
  refine eP (fun H hH => yv_to (y := boo x25) (yv_gtr rfl rfl rfl) (congrArg boo e25)) ?_
  refine eM ?_
  cases x25
  replace h8 := cf h8
  refine de_skip rfl rfl rfl ?_
  refine de_skip rfl rfl rfl ?_
  refine de_skip rfl rfl rfl ?_
  refine de_skip rfl rfl rfl ?_
  refine de_skip rfl rfl rfl ?_
  refine de_skip rfl rfl rfl ?_
  refine de_skip rfl rfl rfl ?_
  refine de_skip rfl rfl rfl ?_
  refine de_skip rfl rfl rfl ?_
  refine de_skip rfl rfl rfl ?_
  refine de_skip rfl rfl rfl ?_
  refine de_skip rfl rfl rfl ?_
  refine eP (fun H hH => yv_pick rfl rfl (fun _ => rfl) (fun _ => rfl) rfl) ?_
  refine de_nil (hK _ ?_)
  exact lf h8 () leA
  replace h8 := ct h8
  iterate 3 refine eM ?_
  obtain ⟨x26, e26, h8⟩ := bind_e h8
  refine de_pure rfl rfl rfl rfl (fun H hH => yv_ixO rfl Tryz.underlying64 sh63 rfl rfl ((hH _ (by decide)).trans rfl) rfl rfl (Eq.symm rfl) (List.length_map _) e26) ?_
  refine eL sh63 (hr := ix_get e26) ?_
  iterate 2 refine eM ?_
  obtain ⟨x27, e27, h8⟩ := bnd_e h8
  refine eP (fun H hH => yv_sub rfl rfl rfl e27) ?_
  obtain ⟨x28, e28, h8⟩ := bind_e h8
  refine de_pure rfl rfl rfl rfl (fun H hH => yv_ixO rfl Tryz.underlying64 sh63 rfl rfl ((hH _ (by decide)).trans rfl) rfl rfl (Eq.symm rfl) (List.length_map _) e28) ?_
  refine eL sh63 (hr := ix_get e28) ?_
  obtain ⟨j29, h9, h8⟩ := bind_e h8
  refine de_eff (Out := fun y H' => (∃ (a : Int) (k : Unit), a = j29 ∧ y = int a ∧ H' = hk [(1, ⟨63, 2, true, true, v12, y7_2.map GLine.av⟩), (2, ⟨139, 1, true, true, v14, [[.fn (.func 81) [] []]]⟩)])) rfl rfl rfl rfl (yl_call rfl rfl (.cons rfl (.cons rfl .nil)) cal109 ?_) (by rintro y _ ⟨y8_1, _, rfl, hc, rfl⟩ <;> exact trivial) ?_
  refine pcw (c := _) Tryz.func109 rfl rfl ?_; intro Q hret hnorm
  refine tc tbk 2 (.mk ?_)
  refine sB 3 fun v30 => ?_
  refine sB 4 fun v31 => ?_
  refine tr tbk 3 (.mk ?_)
  refine c_drawE [0, 0, 3, 0, 0, 31, 63, 127] (rl [(0, [2]), (1, [3]), (3, [2]), (4, [4])] []) (fun i => [2, 3, 4]) (fun i => true) [0, 1, 2, 3, 4, 5, 6, 7] mixed (by kernel_rfl) ?_; intro K hK
  refine eL sh139 ?_
  refine eL sh63 ?_
  obtain ⟨x32, e32, h9⟩ := bind_e h9
  refine eP (fun H hH => yv_callP rfl rfl (.cons rfl .nil) cal81 (CvL.refl _) (d_voucher_Plain_2_c e32)) ?_
  refine eL sh139 ?_
  refine eL sh63 ?_
  obtain ⟨x33, e33, h9⟩ := bind_e h9
  refine eP (fun H hH => yv_callP rfl rfl (.cons rfl .nil) cal81 (CvL.refl _) (d_voucher_Plain_2_c e33)) ?_
  obtain ⟨x34, e34, h9⟩ := bind_e h9
  refine eP (fun H hH => yv_callP rfl rfl (.cons rfl (.cons rfl .nil)) cal110 (CvL.refl _) (d_cmp_Compare_int_c e34)) ?_
  refine eA ?_
  refine de_nil (hK _ ?_)
  obtain rfl := nxt_e h9
  refine w_ret (hret _ _ (hk [(1, ⟨63, 2, true, true, v12, y7_2.map GLine.av⟩), (2, ⟨139, 1, true, true, v14, [[.fn (.func 81) [] []]]⟩)]) (.tmp rfl .nil) (HK.le ⟨rfl, rfl, trivial⟩) ?_)
  exact ⟨x34, (), rfl, rfl, rfl⟩
  rintro y _ ⟨y8_1, _, rfl, hc, rfl⟩
  subst hc
  obtain ⟨x35, e35, h8⟩ := bnd_e h8
  refine eP (fun H hH => yv_to (y := boo x35) (yv_lss rfl rfl rfl) (congrArg boo e35)) ?_
  refine eP (fun H hH => yv_pick rfl rfl (fun _ => rfl) (fun _ => rfl) rfl) ?_
  refine de_nil (hK _ ?_)
  exact lf h8 () leA
  rintro y10_1 _ h7
  cases y10_1
  replace h7 := cf h7
  refine tc tbk 2 (.mk ?_)
  exact lf h7 () leA
  replace h7 := ct h7
  refine tc tbk 4 (.mk ?_)
  refine c_drawE [0, 0, 0, 0, 8, 0, 0, 64, 224, 480, 0, 0, 3072, 7168, 16355, 32739, 65535, 131071] (rl [(8, [1]), (9, [1]), (12, [1]), (13, [1]), (14, [1]), (16, [1])] []) (rl [(15, []), (17, [])] [1]) (rl [(15, false), (17, false)] true) [0, 1, 2, 3, 4, 5, 6, 7, 8, 9, 10, 11, 12, 13, 14, 15, 16, 17] mixed (by kernel_rfl) ?_; intro K hK
  iterate 4 refine eM ?_
  obtain ⟨x36, e36, h7⟩ := bnd_e h7
  refine eP (fun H hH => yv_sub rfl rfl rfl e36) ?_
  iterate 2 refine eM ?_
  obtain ⟨x37, e37, h7⟩ := bnd_e h7
  refine eP (fun H hH => yv_sub rfl rfl rfl e37) ?_
  obtain ⟨x38, e38, h7⟩ := bind_e h7
  refine de_pure rfl rfl rfl rfl (fun H hH => yv_ixO rfl Tryz.underlying64 sh63 rfl rfl ((hH _ (by decide)).trans rfl) rfl rfl (Eq.symm rfl) (List.length_map _) e38) ?_
  refine eL sh63 (hr := ix_get e38) ?_
  iterate 2 refine eM ?_
  obtain ⟨x39, e39, h7⟩ := bind_e h7
  refine de_pure rfl rfl rfl rfl (fun H hH => yv_ixO rfl Tryz.underlying64 sh63 rfl rfl ((hH _ (by decide)).trans rfl) rfl rfl (Eq.symm rfl) (List.length_map _) e39) ?_
  refine eL sh63 (hr := ix_get e39) ?_
  refine de_pure rfl rfl rfl rfl (fun H hH => yv_ixO rfl Tryz.underlying64 sh63 rfl rfl ((hH _ (by decide)).trans rfl) rfl rfl (Eq.symm rfl) (List.length_map _) e39) ?_
  obtain ⟨x40, e40, h7⟩ := bnd_e h7
  have fx40 := ix_set e39 e40; have lx40 := len_setV e40 (rfl : y7_2.length = y7_2.length)
  refine de_eff0 rfl rfl rfl rfl (Yield.weak (yl_ob (ob' := (⟨63, 2, true, true, v12, x40.map GLine.av⟩ : AObj)) (yl_store rfl sh63 rfl rfl rfl rfl rfl (ix_get e39) rfl rfl rfl) (ob_eq (map_setV e40))) (fun _ h => h) (fun _ _ => trivial)) (by rintro _ _ ⟨rfl, rfl⟩; exact trivial) ?_; rintro _ _ ⟨rfl, rfl⟩
  obtain ⟨x41, e41, h7⟩ := bind_e h7
  refine de_pure rfl rfl rfl rfl (fun H hH => yv_ixO rfl Tryz.underlying64 sh63 rfl rfl ((hH _ (by decide)).trans rfl) rfl rfl (Eq.symm lx40) (List.length_map _) e41) ?_
  obtain ⟨x42, e42, h7⟩ := bnd_e h7
  have fx42 := ix_set e41 e42; have lx42 := len_setV e42 lx40
  refine de_eff0 rfl rfl rfl rfl (Yield.weak (yl_ob (ob' := (⟨63, 2, true, true, v12, x42.map GLine.av⟩ : AObj)) (yl_store rfl sh63 rfl rfl rfl rfl rfl (ix_get e41) rfl rfl rfl) (ob_eq (map_setV e42))) (fun _ h => h) (fun _ _ => trivial)) (by rintro _ _ ⟨rfl, rfl⟩; exact trivial) ?_; rintro _ _ ⟨rfl, rfl⟩
  refine de_nil (hK _ ?_)
  refine tc tbk 3 (.mk ?_)
  refine ni tbk h7 fun x43 h7 => ?_
  refine tr tbk 2 (.mk ?_)
  exact bk (x43, x42) () h7 (leH_kn ⟨⟨_, rfl, (cv_slen (Eq.symm lx42))⟩, ⟨_, rfl, (.refl _)⟩, ⟨_, rfl, (.refl _)⟩, ⟨_, rfl, (.refl _)⟩, ⟨_, rfl, (.refl _)⟩, ⟨_, rfl, (.refl _)⟩, trivial⟩ ⟨⟨_, rfl, (.refl _)⟩, ⟨_, rfl, (.refl _)⟩, trivial⟩)
  rintro y11_1 _ h6
  refine tc tbk 1 (.mk ?_)
  exact lf h6 () leA
  rintro y12_1 _ h5
  refine tc tbk 2 (.mk ?_)
  refine ni tbk h5 fun x44 h5 => ?_
  refine tr tbk 2 (.mk ?_)
  exact bk (x44, y12_1) () h5 leA
  rintro y13_1 _ h4
  obtain rfl := nxt_e h4
  refine c_nil (hnorm _ _ (hk [(1, ⟨63, 2, true, true, v12, y13_1.map GLine.av⟩), (2, ⟨139, 1, true, true, v14, [[.fn (.func 81) [] []]]⟩)]) .nil (HK.le ⟨rfl, rfl, trivial⟩) ?_)
  exact ⟨y13_1, (), rfl, rfl, rfl⟩
  rintro y _ ⟨y14_1, _, rfl, hc, rfl⟩
  subst hc
  refine tr tbk 1 (.mk ?_)
  obtain ⟨p45, h3⟩ := asrt_e h3
  refine jn h3 [] [1, 2] (fun (a : Unit) (k : Unit) => []) (fun a k => []) ⟨fun j46 h4 => ?_, ?_⟩
  refine tc tbk 1 (.mk ?_)
  refine lp (fun n (a : Unit) => d_voucher_Plain_L4 a1 n) () () h4 [0, 1, 2, 6] [1, 2] (fun (a : Unit) (k : Unit) => []) (fun a k => []) (fun _ => rfl) ⟨leA, ?_⟩
  rintro n _ _ hm h4
  replace h4 : d_voucher_Plain_L4 a1 (n + 1) = some _ := h4
  rw [d_voucher_Plain_L4] at h4
  refine tc tbk 5 (.mk ?_)
  refine nb tbk h4 fun x47 h4 => ?_
  refine tr tbk 1 (.mk ?_)
  replace h4 := asrt_e h4
  obtain ⟨rfl, h4⟩ := h4
  refine tc tbk 2 (.mk ?_)
  exact lf h4 () leA
  rintro _ _ h3
  obtain rfl := nxt_e h3
  refine c_nil (hnorm _ _ (hk [(1, ⟨63, 2, true, true, v12, y14_1.map GLine.av⟩), (2, ⟨139, 1, true, true, v14, [[.fn (.func 81) [] []]]⟩)]) .nil (HK.le ⟨rfl, rfl, trivial⟩) ?_)
  exact ⟨y14_1, (), rfl, rfl, rfl⟩
  rintro y _ ⟨y17_1, _, rfl, hc, rfl⟩
  subst hc
  refine tr tbk 1 (.mk ?_)
  obtain rfl := nxt_e h2
  refine g_nil (hnorm _ _ (hk [(1, ⟨63, 2, true, true, v12, y17_1.map GLine.av⟩), (2, ⟨139, 1, true, true, v14, [[.fn (.func 81) [] []]]⟩)]) .nil (HK.le ⟨rfl, rfl, trivial⟩) ?_)
  exact ⟨y17_1, (), rfl, rfl, rfl⟩
  rintro y _ ⟨y18_1, _, rfl, hc, rfl⟩
  subst hc
  refine tr tbk 1 (.mk ?_)
  obtain rfl := nxt_e h1
  refine g_nil (hnorm _ _ (hk [(1, ⟨63, 2, true, true, v12, y18_1.map GLine.av⟩)]) .nil (HK.le ⟨rfl, trivial⟩) ?_)
  exact ⟨y18_1, (), rfl, rfl, rfl⟩
  rintro y _ ⟨y19_1, _, rfl, hc, rfl⟩
  subst hc
  refine tr tbk 8 (.mk ?_)
  obtain ⟨p48, h0⟩ := asrt_e h0
  refine sY (yv_move rfl rfl) ?_
  refine sY (yv_len_sl rfl Tryz.underlying64 rfl (.sl rfl rfl)) ?_
  refine tr tbk 2 (.mk ?_)
  refine jn h0 [2, 3] [] (fun (a : (List GLine)) (k : Nat) => [(5, .sl 7 k 0 a.length)]) (fun a k => [(7, ⟨63, 2, true, true, k, a.map GLine.av⟩)]) ⟨fun j49 h1 => ?_, ?_⟩
  refine tc tbk 1 (.mk ?_)
  refine c_nilobj 5 7 63 2 rfl rfl ?_; intro v50
  refine lp (fun n (a : Int × (List GLine)) => d_voucher_Plain_L5 a1 y19_1 n a.1 a.2) ((0 : Int), (([] : List GLine) : List GLine)) v50 h1 [2, 3, 17, 18] [1] (fun (a : Int × (List GLine)) (k : Nat) => [(5, .sl 7 k 0 a.2.length), (19, int a.1)]) (fun a k => [(7, ⟨63, 2, true, true, k, a.2.map GLine.av⟩)]) (fun _ => rfl) ⟨leA, ?_⟩
  rintro n ⟨y20_2, y20_3⟩ w20_1 hm h1
  replace h1 : d_voucher_Plain_L5 a1 y19_1 (n + 1) y20_2 y20_3 = some _ := h1
  rw [d_voucher_Plain_L5] at h1
  refine tc tbk 2 (.mk ?_)
  refine nb tbk h1 fun x51 h1 => ?_
  refine tr tbk 2 (.mk ?_)
  cases x51
  replace h1 := cf h1
  refine tc tbk 2 (.mk ?_)
  exact lf h1 w20_1 leA
  replace h1 := ct h1
  refine tc tbk 6 (.mk ?_)
  obtain ⟨x52, e52, h1⟩ := bind_e h1
  refine sY (yv_ixO rfl Tryz.underlying64 sh63 rfl rfl rfl rfl rfl (Eq.symm p48) (List.length_map _) e52) ?_
  refine sY (yv_load rfl sh63 rfl (.pt rfl rfl (ix_get e52)) rfl) ?_
  refine sA 5 z63 fun v53 => ?_
  refine sS ⟨63, 2, true, true, v53, [[int x52.Account, int x52.Amount]]⟩ sh63 ?_
  refine tr tbk 5 (.mk ?_)
  refine sY (yv_len_sl rfl Tryz.underlying64 rfl (.sl rfl rfl)) ?_
  refine ni tbk h1 fun x54 h1 => ?_
  refine tr tbk 3 (.mk ?_)
  refine jn h1 [2, 3, 5, 7, 8, 17, 18, 19] [1, 5, 7] (fun (a : Bool) (k : Unit) => [(37, boo a)]) (fun a k => []) ⟨fun j55 h2 => ?_, ?_⟩
  refine c_drawE [0, 1, 3, 7, 7, 31, 63, 127, 7, 263, 1023, 2047] (rl [(5, [7]), (6, [7]), (7, [7]), (8, [5]), (9, [5])] []) (fun i => [5, 7]) (fun i => true) [0, 1, 2, 3, 4, 5, 6, 7, 8, 9, 10, 11] mixed (by kernel_rfl) ?_; intro K hK
  refine eM ?_
  obtain ⟨x56, e56, h2⟩ := bnd_e h2
  refine eP (fun H hH => yv_to (y := boo x56) (yv_geq rfl rfl rfl) (congrArg boo e56)) ?_
  refine eM ?_
  cases x56
  replace h2 := cf h2
  refine de_skip rfl rfl rfl ?_
  refine de_skip rfl rfl rfl ?_
  refine de_skip rfl rfl rfl ?_
  refine de_skip rfl rfl rfl ?_
  refine de_skip rfl rfl rfl ?_
  refine de_skip rfl rfl rfl ?_
  refine de_skip rfl rfl rfl ?_
  refine de_skip rfl rfl rfl ?_
  refine eP (fun H hH => yv_pick rfl rfl (fun _ => rfl) (fun _ => rfl) rfl) ?_
  refine de_nil (hK _ ?_)
  exact lf h2 () leA
  replace h2 := ct h2
  iterate 2 refine eM ?_
  obtain ⟨x57, e57, h2⟩ := bind_e h2
  refine de_pure rfl rfl rfl rfl (fun H hH => yv_ixO rfl Tryz.underlying64 sh63 rfl rfl ((hH _ (by decide)).trans rfl) rfl rfl (Eq.symm rfl) (List.length_map _) e57) ?_
  refine eF fo63_0 (hr := ix_get e57) ?_
  refine eL sh3 (hr := ix_get e57) ?_
  refine eF fo63_0 ?_
  refine eL sh3 ?_
  obtain ⟨x58, e58, h2⟩ := bnd_e h2
  refine eP (fun H hH => yv_to (y := boo x58) (yv_eql rfl rfl rfl) (congrArg boo e58)) ?_
  refine eP (fun H hH => yv_pick rfl rfl (fun _ => rfl) (fun _ => rfl) rfl) ?_
  refine de_nil (hK _ ?_)
  exact lf h2 () leA
  rintro y21_1 _ h1
  replace h1 := asrt_e h1
  obtain ⟨rfl, h1⟩ := h1
  refine tc tbk 5 (.mk ?_)
  refine sY (yv_to (y := lst 2 GLine.av ([x52] : List GLine)) (yv_buildSlice (ps := [(0, _)]) (rows := [[int x52.Account, int x52.Amount]]) rfl Tryz.underlying64 bz63 (.cons rfl .nil) (by kernel_rfl) rfl rfl rfl) rfl) ?_
  obtain ⟨x59, e59, h1⟩ := bnd_e h1
  obtain ⟨p60, h1⟩ := asrt_e h1
  refine rse rfl rfl rfl (yl_appT (g := GLine.av) (l := y20_3) (m := ([x52] : List GLine)) .any rfl Tryz.underlying64 bz63 by63 rfl rfl rfl rfl rfl rfl rfl rfl rfl rfl (Eq.symm rfl) (.refl _) (fun _ => rfl) e59 p60) ?_; rintro _ _ ⟨v61, -, rfl, rfl⟩
  refine tr tbk 4 (.mk ?_)
  refine ni tbk h1 fun x62 h1 => ?_
  refine tr tbk 2 (.mk ?_)
  exact bk (x62, x59) v61 h1 leA
  rintro y22_2 w22_1 h0
  refine tc tbk 3 (.mk ?_)
  obtain ⟨j63, h1, h0⟩ := bind_e h0
  refine rse (Out := fun y H' => (∃ (a : Nat × Nat × (List GLine)) (k : Unit), a = j63 ∧ y = .sl 7 w22_1 a.1 a.2.1 ∧ H' = hk [(7, ⟨63, 2, true, true, w22_1, a.2.2.map GLine.av⟩)])) rfl rfl rfl (yl_call rfl rfl (.cons rfl (.cons rfl .nil)) cal82 ?_) ?_
  refine pcw (c := _) Tryz.func82 rfl rfl ?_; intro Q hret hnorm
  refine tc tbk 8 (.mk ?_)
  obtain ⟨j64, h2, h1⟩ := bind_e h1
  refine rse (Out := fun y H' => (∃ (a : Int) (k : Unit), a = j64 ∧ y = int a ∧ H' = hk [(7, ⟨63, 2, true, true, w22_1, y22_2.map GLine.av⟩)])) rfl rfl rfl (yl_call rfl rfl (.cons rfl (.cons rfl .nil)) cal107 ?_) ?_
  refine pcw (c := _) Tryz.func107 rfl rfl ?_; intro Q hret hnorm
  refine tc tbk 8 (.mk ?_)
  refine sY (yv_len_sl rfl Tryz.underlying64 rfl (.sl rfl rfl)) ?_
  refine tr tbk 2 (.mk ?_)
  refine jnE h2 [4] [7] (fun (a : Unit) (k : Unit) => []) (fun a k => []) ⟨fun j65 h3 h2 => ?_, ?_⟩
  refine tc tbk 1 (.mk ?_)
  refine lp (fun n (a : Int) => d_voucher_Plain_L6 y22_2 n a) (0 : Int) () h3 [0, 1, 4, 7] [7] (fun (a : Int) (k : Unit) => [(8, int a)]) (fun a k => []) (fun _ => rfl) ⟨leA, ?_⟩
  rintro n y23_1 _ hm h3
  replace h3 : d_voucher_Plain_L6 y22_2 (n + 1) y23_1 = some _ := h3
  rw [d_voucher_Plain_L6] at h3
  refine tc tbk 2 (.mk ?_)
  refine nb tbk h3 fun x66 h3 => ?_
  refine tr tbk 2 (.mk ?_)
  cases x66
  replace h3 := cf h3
  refine tc tbk 2 (.mk ?_)
  exact lfE h3 () leA
  replace h3 := ct h3
  refine tc tbk 14 (.mk ?_)
  obtain ⟨x67, e67, h3⟩ := bind_e h3
  refine sY (yv_ixO rfl Tryz.underlying64 sh63 rfl rfl rfl rfl rfl (Eq.symm rfl) (List.length_map _) e67) ?_
  refine sY (yv_load rfl sh63 rfl (.pt rfl rfl (ix_get e67)) rfl) ?_
  obtain ⟨x68, e68, h3⟩ := bind_e h3
  refine sC cal83 (d_voucher_Plain_3_c e68) ?_
  refine tr tbk 1 (.mk ?_)
  cases x68
  replace h3 := cf h3
  refine tc tbk 4 (.mk ?_)
  refine ni tbk h3 fun x69 h3 => ?_
  refine tr tbk 2 (.mk ?_)
  exact bk x69 () h3 leA
  replace h3 := ct h3
  refine tc tbk 6 (.mk ?_)
  obtain ⟨c70, hX, hj⟩ := esc_e h3; subst hj; replace h2 := hX.trans (sel_r h2)
  obtain rfl := nxt_e h2
  refine w_ret (hret _ _ (hk [(7, ⟨63, 2, true, true, w22_1, y22_2.map GLine.av⟩)]) (.tmp rfl .nil) (HK.le ⟨rfl, trivial⟩) ?_)
  exact ⟨y23_1, (), rfl, rfl, rfl⟩
  rintro _ _ h2
  refine tc tbk 4 (.mk ?_)
  obtain rfl := nxt_e h2
  refine w_ret (hret _ _ (hk [(7, ⟨63, 2, true, true, w22_1, y22_2.map GLine.av⟩)]) (.tmp rfl .nil) (HK.le ⟨rfl, trivial⟩) ?_)
  exact ⟨(-1), (), rfl, rfl, rfl⟩
  rintro y _ ⟨y25_1, _, rfl, hc, rfl⟩
  subst hc
  refine tr tbk 6 (.mk ?_)
  refine nb tbk h1 fun x71 h1 => ?_
  refine tr tbk 1 (.mk ?_)
  cases x71
  replace h1 := cf h1
  refine tc tbk 6 (.mk ?_)
  refine ni tbk h1 fun x72 h1 => ?_
  refine tr tbk 2 (.mk ?_)
  refine jn h1 [4] [] (fun (a : Int × (List GLine)) (k : Unit) => [(0, .sl 7 w22_1 0 a.2.length), (5, int a.1)]) (fun a k => [(7, ⟨63, 2, true, true, w22_1, a.2.map GLine.av⟩)]) ⟨fun j73 h2 => ?_, ?_⟩
  refine tc tbk 1 (.mk ?_)
  refine lp (fun n (a : Int × Int × (List GLine)) => d_voucher_Plain_L7 n a.1 a.2.1 a.2.2) ((y25_1 : Int), (x72 : Int), (y22_2 : List GLine)) () h2 [1, 4] [] (fun (a : Int × Int × (List GLine)) (k : Unit) => [(0, .sl 7 w22_1 0 a.2.2.length), (5, int a.1), (6, int a.2.1)]) (fun a k => [(7, ⟨63, 2, true, true, w22_1, a.2.2.map GLine.av⟩)]) (fun _ => rfl) ⟨leA, ?_⟩
  rintro n ⟨y26_1, y26_2, y26_3⟩ _ hm h2
  replace h2 : d_voucher_Plain_L7 (n + 1) y26_1 y26_2 y26_3 = some _ := h2
  rw [d_voucher_Plain_L7] at h2
  refine tc tbk 5 (.mk ?_)
  refine sY (yv_len_sl rfl Tryz.underlying64 rfl (.sl rfl rfl)) ?_
  refine nb tbk h2 fun x74 h2 => ?_
  refine tr tbk 1 (.mk ?_)
  cases x74
  replace h2 := cf h2
  refine tc tbk 2 (.mk ?_)
  exact lf h2 () leA
  replace h2 := ct h2
  refine tc tbk 3 (.mk ?_)
  refine jn h2 [1, 4, 6] [] (fun (a : Int × (List GLine)) (k : Unit) => [(0, .sl 7 w22_1 0 a.2.length), (5, int a.1)]) (fun a k => [(7, ⟨63, 2, true, true, w22_1, a.2.map GLine.av⟩)]) ⟨fun j75 h3 => ?_, ?_⟩
  refine tc tbk 5 (.mk ?_)
  obtain ⟨x76, e76, h3⟩ := bind_e h3
  refine sY (yv_ixO rfl Tryz.underlying64 sh63 rfl rfl rfl rfl rfl (Eq.symm rfl) (List.length_map _) e76) ?_
  refine sY (yv_load rfl sh63 rfl (.pt rfl rfl (ix_get e76)) rfl) ?_
  refine sA 8 z63 fun v77 => ?_
  refine sS ⟨63, 2, true, true, v77, [[int x76.Account, int x76.Amount]]⟩ sh63 ?_
  refine tr tbk 5 (.mk ?_)
  obtain ⟨x78, e78, h3⟩ := bind_e h3
  refine sC cal83 (d_voucher_Plain_3_c e78) ?_
  refine nb tbk h3 fun x79 h3 => ?_
  refine tr tbk 1 (.mk ?_)
  cases x79
  replace h3 := cf h3
  refine tc tbk 3 (.mk ?_)
  exact lf h3 () leA
  replace h3 := ct h3
  refine tc tbk 6 (.mk ?_)
  obtain ⟨x80, e80, h3⟩ := bind_e h3
  refine sY (yv_ixO rfl Tryz.underlying64 sh63 rfl rfl rfl rfl rfl (Eq.symm rfl) (List.length_map _) e80) ?_
  obtain ⟨x81, e81, h3⟩ := bnd_e h3
  have fx81 := ix_set e80 e81; have lx81 := len_setV e81 (rfl : y26_3.length = y26_3.length)
  refine rsstore rfl rfl (yl_ob (ob' := (⟨63, 2, true, true, w22_1, x81.map GLine.av⟩ : AObj)) (yl_store rfl sh63 rfl rfl rfl rfl rfl (ix_get e80) rfl rfl rfl) (ob_eq (map_setV e81))) ?_
  refine tr tbk 3 (.mk ?_)
  refine ni tbk h3 fun x82 h3 => ?_
  refine tr tbk 3 (.mk ?_)
  exact lf h3 () (leH_kn ⟨⟨_, rfl, (cv_slen (Eq.symm lx81))⟩, ⟨_, rfl, (.refl _)⟩, ⟨_, rfl, (.refl _)⟩, ⟨_, rfl, (.refl _)⟩, ⟨_, rfl, (.refl _)⟩, trivial⟩ ⟨⟨_, rfl, (.refl _)⟩, trivial⟩)
  rintro ⟨y27_1, y27_2⟩ _ h2
  replace h2 := p2_e h2
  refine tc tbk 2 (.mk ?_)
  refine ni tbk h2 fun x83 h2 => ?_
  refine tr tbk 2 (.mk ?_)
  exact bk (y27_1, x83, y27_2) () h2 leA
  rintro ⟨y28_1, y28_2⟩ _ h1
  replace h1 := p2_e h1
  refine tc tbk 4 (.mk ?_)
  obtain ⟨p84, h1⟩ := asrt_e h1
  refine sY (yv_slO (len := y28_2.length) (i := y28_1.toNat) (j := y28_2.length) rfl Tryz.underlying64 sh63 rfl rfl rfl rfl (.yes rfl (by first | omega | (dsimp only; omega) | (dsimp only at *; omega))) .no (by first | omega | (dsimp only; omega) | (dsimp only at *; omega)) (Nat.le_refl _) (.inl (by first | omega | (dsimp only; omega) | (dsimp only at *; omega)))) ?_
  obtain ⟨x85, e85, h1⟩ := bnd_e h1
  refine rsstore rfl rfl (yl_ob (ob' := (⟨63, 2, true, true, w22_1, x85.map GLine.av⟩ : AObj)) (yl_clear rfl Tryz.underlying64 bz63 rfl rfl rfl rfl rfl rfl e85) rfl) ?_
  refine tr tbk 5 (.mk ?_)
  obtain ⟨p86, h1⟩ := asrt_e h1
  refine sY (yv_slO (len := y28_2.length) (i := 0) (j := y28_1.toNat) rfl Tryz.underlying64 sh63 rfl rfl rfl rfl .no (.yes rfl (by first | omega | (dsimp only; omega) | (dsimp only at *; omega))) (Nat.zero_le _) (by first | omega | (dsimp only; omega) | (dsimp only at *; omega)) (.inr rfl)) ?_
  refine tr tbk 2 (.mk ?_)
  obtain rfl := nxt_e h1
  refine w_ret (hret _ _ (hk [(7, ⟨63, 2, true, true, w22_1, x85.map GLine.av⟩)]) (.tmp rfl .nil) (HK.le ⟨rfl, trivial⟩) ?_)
  exact ⟨((0 + 0), (y28_1.toNat - 0), x85), (), rfl, rfl, rfl⟩
  replace h1 := ct h1
  refine tc tbk 6 (.mk ?_)
  obtain rfl := nxt_e h1
  refine w_ret (hret _ _ (hk [(7, ⟨63, 2, true, true, w22_1, y22_2.map GLine.av⟩)]) (.tmp rfl .nil) (HK.le ⟨rfl, trivial⟩) ?_)
  exact ⟨(0, y22_2.length, y22_2), (), rfl, rfl, rfl⟩
  rintro y _ ⟨⟨y29_1, y29_2, y29_3⟩, _, rfl, hc, rfl⟩
  replace h0 := p2_e h0
  replace h0 := p2_e h0
  subst hc
  refine tr tbk 3 (.mk ?_)
  obtain ⟨p87, h0⟩ := asrt_e h0
  obtain rfl := nxt_e h0
  refine wR hret (rT (rT .nil)) ?_
  exact CvL.tup (.cons (cv_win (l := y29_3) rfl rfl rfl rfl (CvLL.refl _) (by first | omega | (simp only [List.length_set]; omega)) rfl) (.cons (.refl _) .nil))
def d_voucher_sum_L0 (a1 : List GLine) : Nat → Int → (List Int) → Option ((List Int))
  | 0, _, _ => none
  | n + 1, y0_2, y0_3 =>
    bnd (decide (y0_2 < (a1.length : Int))) fun x4 =>
    cond x4 ((ix a1 y0_2).bind fun x5 =>
    bnd (y0_3 ++ ([x5.Amount] : List Int)) fun x7 =>
    asrt (x7.length ≤ 68719476736) <|
    bnd (w64 (y0_2 + 1)) fun x10 =>
    d_voucher_sum_L0 a1 n (x10 : Int) (x7 : List Int)) (some (y0_3 : List Int))
def d_voucher_sum (n : Nat) (a1 : List GLine) : Option (Int × Int) :=
(show Option ((List Int)) from
d_voucher_sum_L0 a1 n (0 : Int) (([] : List Int) : List Int)).bind <| fun y1_2 =>
(d_money_Sum n y1_2).bind fun x11 =>
some ((x11.1 : Int), (x11.2 : Int))
theorem d_voucher_sum_c {n : Nat} {a1 : List GLine} {r : Int × Int} (h0 : d_voucher_sum n a1 = some r) : PP Tryz.prog 113 [lst 2 GLine.av a1] (fun y => y = .tup [int r.1, int r.2]) := by
  unfold d_voucher_sum at h0
  refine pp_of_pc (R0 := fun y H => Cv (frzH H) y (.tup [int r.1, int r.2])) ?_ (fun y H hc => ⟨_, rfl, .tup (pvl2 (pvI (r.1)) (pvI (r.2))), hc⟩)
  refine pcw (c := _) Tryz.func113 rfl rfl ?_; intro Q hret hnorm
  refine tc tbk 13 (.mk ?_)
  refine sY (yv_len_sl rfl Tryz.underlying64 rfl (lst_len _)) ?_
  refine tr tbk 2 (.mk ?_)
  refine jn h0 [2, 3] [] (fun (a : (List Int)) (k : Nat) => [(4, .sl 3 k 0 a.length)]) (fun a k => [(3, ⟨3, 1, true, true, k, a.map fI⟩)]) ⟨fun j2 h1 => ?_, ?_⟩
  refine tc tbk 1 (.mk ?_)
  refine c_nilobj 4 3 3 1 rfl rfl ?_; intro v3
  refine lp (fun n (a : Int × (List Int)) => d_voucher_sum_L0 a1 n a.1 a.2) ((0 : Int), (([] : List Int) : List Int)) v3 h1 [2, 3, 7, 8] [] (fun (a : Int × (List Int)) (k : Nat) => [(4, .sl 3 k 0 a.2.length), (9, int a.1)]) (fun a k => [(3, ⟨3, 1, true, true, k, a.2.map fI⟩)]) (fun _ => rfl) ⟨leA, ?_⟩
  rintro n ⟨y0_2, y0_3⟩ w0_1 hm h1
  replace h1 : d_voucher_sum_L0 a1 (n + 1) y0_2 y0_3 = some _ := h1
  rw [d_voucher_sum_L0] at h1
  refine tc tbk 2 (.mk ?_)
  refine nb tbk h1 fun x4 h1 => ?_
  refine tr tbk 2 (.mk ?_)
  cases x4
  replace h1 := cf h1
  refine tc tbk 2 (.mk ?_)
  exact lf h1 w0_1 leA
  replace h1 := ct h1
  refine tc tbk 6 (.mk ?_)
  obtain ⟨x5, e5, h1⟩ := bind_e h1
  refine sY (yv_ixT rfl Tryz.underlying64 sh63 rfl rfl e5) ?_
  refine tr tbk 1 (.mk ?_)
  refine sA 1 z63 fun v6 => ?_
  refine sS ⟨63, 2, true, true, v6, [[int x5.Account, int x5.Amount]]⟩ sh63 ?_
  refine tr tbk 5 (.mk ?_)
  refine sY (yv_to (y := lst 1 fI ([x5.Amount] : List Int)) (yv_buildSlice (ps := [(0, _)]) (rows := [[int x5.Amount]]) rfl Tryz.underlying23 bz3 (.cons rfl .nil) (by kernel_rfl) rfl rfl rfl) rfl) ?_
  obtain ⟨x7, e7, h1⟩ := bnd_e h1
  obtain ⟨p8, h1⟩ := asrt_e h1
  refine rse rfl rfl rfl (yl_appT (g := fI) (l := y0_3) (m := ([x5.Amount] : List Int)) .any rfl Tryz.underlying23 bz3 by3 rfl rfl rfl rfl rfl rfl rfl rfl rfl rfl (Eq.symm rfl) (.refl _) (fun _ => rfl) e7 p8) ?_; rintro _ _ ⟨v9, -, rfl, rfl⟩
  refine tr tbk 4 (.mk ?_)
  refine ni tbk h1 fun x10 h1 => ?_
  refine tr tbk 2 (.mk ?_)
  exact bk (x10, x7) v9 h1 leA
  rintro y1_2 w1_1 h0
  refine tc tbk 3 (.mk ?_)
  obtain ⟨x11, e11, h0⟩ := bind_e h0
  refine sY (yv_callT (v := .tup [int x11.1, int x11.2]) rfl rfl (.cons rfl .nil) cal74 (.cons (cv_lst rfl rfl rfl rfl rfl (Eq.symm rfl)) .nil) (d_money_Sum_c e11) rfl) ?_
  refine tr tbk 5 (.mk ?_)
  obtain rfl := nxt_e h0
  refine wR hret (rT (rT .nil)) ?_
  exact .refl _
def d_voucher_Check_1 (a1 : GLine) : Option (Bool) :=
(show Option (Bool) from
(d_voucher_is a1.Account).bind fun x4 =>
bnd (!x4) fun x5 =>
cond x5 (some (true : Bool)) (bnd (decide (a1.Amount = 0)) fun x6 =>
cond x6 (some (true : Bool)) ((d_voucher_in a1.Amount).bind fun x7 =>
bnd (!x7) fun x8 =>
some (x8 : Bool)))).bind <| fun y0_1 =>
some ((y0_1 : Bool))
theorem d_voucher_Check_1_c {a1 : GLine} {r : Bool} (h0 : d_voucher_Check_1 a1 = some r) : PP Tryz.prog 112 [.agg (GLine.av a1)] (fun y => y = boo r) := by
  unfold d_voucher_Check_1 at h0
  refine pp_of_pc (R0 := fun y H => Cv (frzH H) y (boo r)) ?_ (fun y H hc => ⟨_, rfl, pvB r, hc⟩)
  refine pcw (c := _) Tryz.func112 rfl rfl ?_; intro Q hret hnorm
  refine tc tbk 2 (.mk ?_)
  refine sB 1 fun v2 => ?_
  refine tr tbk 3 (.mk ?_)
  refine jn h0 [] [] (fun (a : Bool) (k : Unit) => [(2, boo a)]) (fun a k => []) ⟨fun j3 h1 => ?_, ?_⟩
  refine tc tbk 3 (.mk ?_)
  obtain ⟨x4, e4, h1⟩ := bind_e h1
  refine sC cal77 (d_voucher_is_c e4) ?_
  refine nb tbk h1 fun x5 h1 => ?_
  refine tr tbk 1 (.mk ?_)
  cases x5
  replace h1 := cf h1
  refine tr tbk 2 (.mk ?_)
  refine nb tbk h1 fun x6 h1 => ?_
  refine tr tbk 2 (.mk ?_)
  cases x6
  replace h1 := cf h1
  refine tr tbk 2 (.mk ?_)
  obtain ⟨x7, e7, h1⟩ := bind_e h1
  refine sC cal78 (d_voucher_in_c e7) ?_
  refine nb tbk h1 fun x8 h1 => ?_
  refine tr tbk 3 (.mk ?_)
  exact lf h1 () leA
  replace h1 := ct h1
  refine tr tbk 7 (.mk ?_)
  exact lf h1 () leA
  replace h1 := ct h1
  refine tr tbk 12 (.mk ?_)
  exact lf h1 () leA
  rintro y0_1 _ h0
  obtain rfl := nxt_e h0
  refine wR hret (rT .nil) ?_
  exact .refl _
def d_voucher_Check_L0 (a1 : List GLine) : Nat → Int → Option ((Unit) ⊕ ((Int)))
  | 0, _ => none
  | n + 1, y1_1 =>
    bnd (decide (y1_1 < (a1.length : Int))) fun x10 =>
    cond x10 ((ix a1 y1_1).bind fun x11 =>
    (d_voucher_Check_1 x11).bind fun x12 =>
    cond x12 (esc (some (y1_1 : Int))) (bnd (w64 (y1_1 + 1)) fun x13 =>
    d_voucher_Check_L0 a1 n (x13 : Int))) (brk ())
def d_voucher_Check (n : Nat) (a1 : List GLine) : Option (Bool) :=
(show Option (Bool) from
bnd (decide ((a1.length : Int) < 1)) fun x3 =>
cond x3 (some (true : Bool)) (bnd (decide ((a1.length : Int) > 12)) fun x4 =>
some (x4 : Bool))).bind <| fun y0_1 =>
asrt (y0_1 = false) <|
(d_voucher_sum n a1).bind fun x5 =>
(show Option (Bool) from
(show Option ((Bool)) from
(show Option ((Int)) from
(show Option ((Unit) ⊕ ((Int))) from
d_voucher_Check_L0 a1 n (0 : Int)).bind <| sel <| fun _ =>
some ((-1) : Int)).bind <| fun y3_1 =>
bnd (decide (y3_1 ≥ 0)) fun x15 =>
some (x15 : Bool)).bind <| fun y4_1 =>
bnd (!y4_1) fun x16 =>
cond x16 (bnd (decide (x5.1 = 0)) fun x17 =>
cond x17 (bnd (decide (x5.2 = 0)) fun x18 =>
some (x18 : Bool)) (some (false : Bool))) (some (false : Bool))).bind <| fun y5_1 =>
some ((y5_1 : Bool))
theorem d_voucher_Check_c {n : Nat} {a1 : List GLine} {r : Bool} (h0 : d_voucher_Check n a1 = some r) : PP Tryz.prog 86 [lst 2 GLine.av a1] (fun y => y = boo r) := by
  unfold d_voucher_Check at h0
  refine pp_of_pc (R0 := fun y H => Cv (frzH H) y (boo r)) ?_ (fun y H hc => ⟨_, rfl, pvB r, hc⟩)
  refine pcw (c := _) Tryz.func86 rfl rfl ?_; intro Q hret hnorm
  refine tc tbk 6 (.mk ?_)
  refine jn h0 [0, 2] [] (fun (a : Bool) (k : Unit) => [(13, boo a)]) (fun a k => []) ⟨fun j2 h1 => ?_, ?_⟩
  refine tc tbk 2 (.mk ?_)
  refine sY (yv_len_sl rfl Tryz.underlying64 rfl (lst_len _)) ?_
  refine nb tbk h1 fun x3 h1 => ?_
  refine tr tbk 1 (.mk ?_)
  cases x3
  replace h1 := cf h1
  refine tr tbk 1 (.mk ?_)
  refine sY (yv_len_sl rfl Tryz.underlying64 rfl (lst_len _)) ?_
  refine nb tbk h1 fun x4 h1 => ?_
  refine tr tbk 2 (.mk ?_)
  exact lf h1 () leA
  replace h1 := ct h1
  refine tr tbk 5 (.mk ?_)
  exact lf h1 () leA
  rintro y0_1 _ h0
  replace h0 := asrt_e h0
  obtain ⟨rfl, h0⟩ := h0
  refine tc tbk 9 (.mk ?_)
  obtain ⟨x5, e5, h0⟩ := bind_e h0
  refine sC cal113 (d_voucher_sum_c e5) ?_
  refine tr tbk 7 (.mk ?_)
  refine jn h0 [] [] (fun (a : Bool) (k : Unit) => [(2, boo a)]) (fun a k => []) ⟨fun j6 h1 => ?_, ?_⟩
  refine tc tbk 3 (.mk ?_)
  obtain ⟨j7, h2, h1⟩ := bind_e h1
  refine rse (Out := fun y H' => (∃ (a : Bool) (k : Unit), a = j7 ∧ y = boo a ∧ H' = hk [])) rfl rfl rfl (yl_call rfl rfl (.cons rfl (.cons rfl .nil)) cal75 ?_) ?_
  refine pcw (c := _) Tryz.func75 rfl rfl ?_; intro Q hret hnorm
  refine tc tbk 8 (.mk ?_)
  obtain ⟨j8, h3, h2⟩ := bind_e h2
  refine rse (Out := fun y H' => (∃ (a : Int) (k : Unit), a = j8 ∧ y = int a ∧ H' = hk [])) rfl rfl rfl (yl_call rfl rfl (.cons rfl (.cons rfl .nil)) cal107 ?_) ?_
  refine pcw (c := _) Tryz.func107 rfl rfl ?_; intro Q hret hnorm
  refine tc tbk 8 (.mk ?_)
  refine sY (yv_len_sl rfl Tryz.underlying64 rfl (lst_len _)) ?_
  refine tr tbk 2 (.mk ?_)
  refine jnE h3 [4] [] (fun (a : Unit) (k : Unit) => []) (fun a k => []) ⟨fun j9 h4 h3 => ?_, ?_⟩
  refine tc tbk 1 (.mk ?_)
  refine lp (fun n (a : Int) => d_voucher_Check_L0 a1 n a) (0 : Int) () h4 [0, 1, 4, 7] [] (fun (a : Int) (k : Unit) => [(8, int a)]) (fun a k => []) (fun _ => rfl) ⟨leA, ?_⟩
  rintro n y1_1 _ hm h4
  replace h4 : d_voucher_Check_L0 a1 (n + 1) y1_1 = some _ := h4
  rw [d_voucher_Check_L0] at h4
  refine tc tbk 2 (.mk ?_)
  refine nb tbk h4 fun x10 h4 => ?_
  refine tr tbk 2 (.mk ?_)
  cases x10
  replace h4 := cf h4
  refine tc tbk 2 (.mk ?_)
  exact lfE h4 () leA
  replace h4 := ct h4
  refine tc tbk 14 (.mk ?_)
  obtain ⟨x11, e11, h4⟩ := bind_e h4
  refine sY (yv_ixT rfl Tryz.underlying64 sh63 rfl rfl e11) ?_
  refine tr tbk 1 (.mk ?_)
  obtain ⟨x12, e12, h4⟩ := bind_e h4
  refine sC cal112 (d_voucher_Check_1_c e12) ?_
  refine tr tbk 1 (.mk ?_)
  cases x12
  replace h4 := cf h4
  refine tc tbk 4 (.mk ?_)
  refine ni tbk h4 fun x13 h4 => ?_
  refine tr tbk 2 (.mk ?_)
  exact bk x13 () h4 leA
  replace h4 := ct h4
  refine tc tbk 6 (.mk ?_)
  obtain ⟨c14, hX, hj⟩ := esc_e h4; subst hj; replace h3 := hX.trans (sel_r h3)
  obtain rfl := nxt_e h3
  refine w_ret (hret _ _ (hk []) (.tmp rfl .nil) (fun _ _ h => nomatch h) ?_)
  exact ⟨y1_1, (), rfl, rfl, rfl⟩
  rintro _ _ h3
  refine tc tbk 4 (.mk ?_)
  obtain rfl := nxt_e h3
  refine w_ret (hret _ _ (hk []) (.tmp rfl .nil) (fun _ _ h => nomatch h) ?_)
  exact ⟨(-1), (), rfl, rfl, rfl⟩
  rintro y _ ⟨y3_1, _, rfl, hc, rfl⟩
  subst hc
  refine nb tbk h2 fun x15 h2 => ?_
  refine tr tbk 2 (.mk ?_)
  obtain rfl := nxt_e h2
  refine w_ret (hret _ _ (hk []) (.tmp rfl .nil) (fun _ _ h => nomatch h) ?_)
  exact ⟨x15, (), rfl, rfl, rfl⟩
  rintro y _ ⟨y4_1, _, rfl, hc, rfl⟩
  subst hc
  refine nb tbk h1 fun x16 h1 => ?_
  refine tr tbk 1 (.mk ?_)
  cases x16
  replace h1 := cf h1
  refine tr tbk 9 (.mk ?_)
  exact lf h1 () leA
  replace h1 := ct h1
  refine tr tbk 1 (.mk ?_)
  refine nb tbk h1 fun x17 h1 => ?_
  refine tr tbk 2 (.mk ?_)
  cases x17
  replace h1 := cf h1
  refine tr tbk 5 (.mk ?_)
  exact lf h1 () leA
  replace h1 := ct h1
  refine tr tbk 1 (.mk ?_)
  refine nb tbk h1 fun x18 h1 => ?_
  refine tr tbk 3 (.mk ?_)
  exact lf h1 () leA
  rintro y5_1 _ h0
  obtain rfl := nxt_e h0
  refine wR hret (rT .nil) ?_
  exact .refl _
def d_gl_Post_L0 (x9 : (List GLine) × Int) : Nat → Int → (List Int) → Option ((List Int))
  | 0, _, _ => none
  | n + 1, y1_1, y1_2 =>
    bnd (decide (y1_1 < (x9.1.length : Int))) fun x16 =>
    cond x16 ((ix x9.1 y1_1).bind fun x17 =>
    (ix y1_2 x17.Account).bind fun x19 =>
    (d_money_Add x19 x17.Amount).bind fun x20 =>
    bnd (y1_2.set (Int.toNat x17.Account) (x20.1 : Int)) fun x21 =>
    bnd (decide (x20.2 ≠ 0)) fun x22 =>
    asrt (x22 = false) <|
    bnd (w64 (y1_1 + 1)) fun x23 =>
    d_gl_Post_L0 x9 n (x23 : Int) (x21 : List Int)) (some (y1_2 : List Int))
def d_gl_Post (n : Nat) (a1 : List Int) (a2 : List GLine) : Option ((List Int) × Int) :=
bnd (decide ((a1.length : Int) ≠ 17)) fun x4 =>
asrt (x4 = false) <|
(show Option (((List Int))) from
asrt (a1.length ≤ 68719476736) <|
(show Option (((List Int))) from
(d_voucher_Plain n a2).bind fun x9 =>
(show Option (Bool) from
bnd (decide (x9.2 ≠ 0)) fun x11 =>
cond x11 (some (true : Bool)) (bnd (decide ((x9.1.length : Int) > 0)) fun x12 =>
cond x12 ((d_voucher_Check n x9.1).bind fun x13 =>
bnd (!x13) fun x14 =>
some (x14 : Bool)) (some (false : Bool)))).bind <| fun y0_1 =>
asrt (y0_1 = false) <|
(show Option ((List Int)) from
d_gl_Post_L0 x9 n (0 : Int) (a1 : List Int)).bind <| fun y2_1 =>
some (y2_1 : List Int)).bind <| fun y3_1 =>
asrt (y3_1.length = a1.length) <|
some (y3_1 : List Int)).bind <| fun y4_2 =>
some ((y4_2 : List Int), (0 : Int))
theorem d_gl_Post_c {n : Nat} {a1 : List Int} {a2 : List GLine} {r : (List Int) × Int} (h0 : d_gl_Post n a1 a2 = some r) : PP Tryz.prog 44 [lst 1 fI a1, lst 2 GLine.av a2] (fun y => y = .tup [lst 1 fI r.1, int r.2]) := by
  unfold d_gl_Post at h0
  refine pp_of_pc (R0 := fun y H => Cv (frzH H) y (.tup [lst 1 fI r.1, int r.2])) ?_ (fun y H hc => ⟨_, rfl, .tup (pvl2 ((pvLs pvcI) (r.1)) (pvI (r.2))), hc⟩)
  refine pcw (c := _) Tryz.func44 rfl rfl ?_; intro Q hret hnorm
  refine tc tbk 2 (.mk ?_)
  refine sB 1 fun v3 => ?_
  refine tr tbk 7 (.mk ?_)
  refine sY (yv_len_sl rfl Tryz.underlying23 rfl (lst_len _)) ?_
  refine nb tbk h0 fun x4 h0 => ?_
  refine tr tbk 1 (.mk ?_)
  replace h0 := asrt_e h0
  obtain ⟨rfl, h0⟩ := h0
  refine tc tbk 6 (.mk ?_)
  obtain ⟨j5, h1, h0⟩ := bind_e h0
  refine rse (Out := fun y H' => (∃ (a : (List Int)) (k : Nat), a = j5 ∧ Cv H' y (.tup [.sl 2 k 0 a.length, int 0]) ∧ H' = hk [(1, ⟨64, 1, true, true, v3, [[lst 2 GLine.av a2]]⟩), (2, ⟨3, 1, true, true, k, a.map fI⟩)])) rfl rfl rfl (yl_call rfl rfl (.cons rfl (.cons rfl .nil)) cal84 ?_) ?_
  refine pcw (c := _) Tryz.func84 rfl rfl ?_; intro Q hret hnorm
  refine tc tbk 8 (.mk ?_)
  obtain ⟨p6, h1⟩ := asrt_e h1
  refine rse rfl rfl rfl (yl_call rfl rfl (.cons rfl .nil) cal111 (pc_cv (clone111_c (id := 2) (l := a1) rfl p6) (.cons (.refl _) .nil))) ?_; rintro _ _ ⟨v7, rfl, rfl⟩
  refine tr tbk 7 (.mk ?_)
  obtain ⟨j8, h2, h1⟩ := bind_e h1
  refine rse (Out := fun y H' => (∃ (a : (List Int)) (k : Unit), a = j8 ∧ y = int 0 ∧ H' = hk [(1, ⟨64, 1, true, true, v3, [[lst 2 GLine.av a2]]⟩), (2, ⟨3, 1, true, true, v7, a.map fI⟩)])) rfl rfl rfl (yl_call rfl rfl (.cons rfl .nil) cal85 ?_) ?_
  refine pcw (c := _) Tryz.func85 rfl rfl ?_; intro Q hret hnorm
  refine tc tbk 7 (.mk ?_)
  obtain ⟨x9, e9, h2⟩ := bind_e h2
  refine sC cal43 (d_voucher_Plain_c e9) ?_
  refine tr tbk 8 (.mk ?_)
  refine jn h2 [0, 3, 4] [1, 2] (fun (a : Bool) (k : Unit) => [(24, boo a)]) (fun a k => []) ⟨fun j10 h3 => ?_, ?_⟩
  refine tc tbk 2 (.mk ?_)
  refine nb tbk h3 fun x11 h3 => ?_
  refine tr tbk 1 (.mk ?_)
  cases x11
  replace h3 := cf h3
  refine tr tbk 1 (.mk ?_)
  refine sY (yv_len_sl rfl Tryz.underlying64 rfl (lst_len _)) ?_
  refine nb tbk h3 fun x12 h3 => ?_
  refine tr tbk 1 (.mk ?_)
  cases x12
  replace h3 := cf h3
  refine tr tbk 6 (.mk ?_)
  exact lf h3 () leA
  replace h3 := ct h3
  refine tr tbk 1 (.mk ?_)
  obtain ⟨x13, e13, h3⟩ := bind_e h3
  refine sC cal86 (d_voucher_Check_c e13) ?_
  refine nb tbk h3 fun x14 h3 => ?_
  refine tr tbk 3 (.mk ?_)
  exact lf h3 () leA
  replace h3 := ct h3
  refine tr tbk 10 (.mk ?_)
  exact lf h3 () leA
  rintro y0_1 _ h2
  replace h2 := asrt_e h2
  obtain ⟨rfl, h2⟩ := h2
  refine tc tbk 6 (.mk ?_)
  refine sY (yv_len_sl rfl Tryz.underlying64 rfl (lst_len _)) ?_
  refine tr tbk 2 (.mk ?_)
  refine jn h2 [3] [1] (fun (a : (List Int)) (k : Unit) => []) (fun a k => [(2, ⟨3, 1, true, true, v7, a.map fI⟩)]) ⟨fun j15 h3 => ?_, ?_⟩
  refine tc tbk 1 (.mk ?_)
  refine lp (fun n (a : Int × (List Int)) => d_gl_Post_L0 x9 n a.1 a.2) ((0 : Int), (a1 : List Int)) () h3 [3, 25, 26] [1] (fun (a : Int × (List Int)) (k : Unit) => [(0, .sl 2 v7 0 a.2.length), (27, int a.1)]) (fun a k => [(2, ⟨3, 1, true, true, v7, a.2.map fI⟩)]) (fun _ => rfl) ⟨leA, ?_⟩
  rintro n ⟨y1_1, y1_2⟩ _ hm h3
  replace h3 : d_gl_Post_L0 x9 (n + 1) y1_1 y1_2 = some _ := h3
  rw [d_gl_Post_L0] at h3
  refine tc tbk 2 (.mk ?_)
  refine nb tbk h3 fun x16 h3 => ?_
  refine tr tbk 2 (.mk ?_)
  cases x16
  replace h3 := cf h3
  refine tc tbk 2 (.mk ?_)
  exact lf h3 () leA
  replace h3 := ct h3
  refine tc tbk 6 (.mk ?_)
  obtain ⟨x17, e17, h3⟩ := bind_e h3
  refine sY (yv_ixT rfl Tryz.underlying64 sh63 rfl rfl e17) ?_
  refine tr tbk 1 (.mk ?_)
  refine sA 3 z63 fun v18 => ?_
  refine sS ⟨63, 2, true, true, v18, [[int x17.Account, int x17.Amount]]⟩ sh63 ?_
  refine tr tbk 2 (.mk ?_)
  refine c_drawE [0, 0, 2, 0, 0, 16, 56, 120, 0, 256, 1016, 2040, 4088, 4088, 8191, 24575, 65535] (rl [(1, [3]), (2, [3]), (4, [3]), (5, [3]), (6, [2]), (7, [2]), (8, [3]), (9, [3]), (14, [2])] []) (rl [(15, [])] [2, 3]) (rl [(15, false)] true) [0, 1, 2, 3, 4, 5, 6, 7, 8, 9, 10, 11, 12, 13, 14, 15, 16] mixed (by kernel_rfl) ?_; intro K hK
  refine eM ?_
  refine eF fo63_0 ?_
  refine eL sh3 ?_
  refine eM ?_
  refine eF fo63_0 ?_
  refine eL sh3 ?_
  obtain ⟨x19, e19, h3⟩ := bind_e h3
  refine de_pure rfl rfl rfl rfl (fun H hH => yv_ixO rfl Tryz.underlying23 sh3 rfl rfl ((hH _ (by decide)).trans rfl) rfl rfl (Eq.symm rfl) (List.length_map _) e19) ?_
  refine eL sh3 (hr := ix_get e19) ?_
  refine eF fo63_1 ?_
  refine eL sh3 ?_
  obtain ⟨x20, e20, h3⟩ := bind_e h3
  refine eP (fun H hH => yv_callP rfl rfl (.cons rfl (.cons rfl .nil)) cal48 (CvL.refl _) (d_money_Add_c e20)) ?_
  refine eM ?_
  iterate 2 refine eX ?_
  refine de_pure rfl rfl rfl rfl (fun H hH => yv_ixO rfl Tryz.underlying23 sh3 rfl rfl ((hH _ (by decide)).trans rfl) rfl rfl (Eq.symm rfl) (List.length_map _) e19) ?_
  obtain ⟨x21, e21, h3⟩ := bnd_e h3
  have fx21 := ix_set e19 e21; have lx21 := len_setV e21 (rfl : y1_2.length = y1_2.length)
  refine de_eff0 rfl rfl rfl rfl (Yield.weak (yl_ob (ob' := (⟨3, 1, true, true, v7, x21.map fI⟩ : AObj)) (yl_store rfl sh3 rfl rfl rfl rfl rfl (ix_get e19) rfl rfl rfl) (ob_eq (map_setV e21))) (fun _ h => h) (fun _ _ => trivial)) (by rintro _ _ ⟨rfl, rfl⟩; exact trivial) ?_; rintro _ _ ⟨rfl, rfl⟩
  refine eA ?_
  refine de_nil (hK _ ?_)
  refine tc tbk 3 (.mk ?_)
  refine nb tbk h3 fun x22 h3 => ?_
  refine tr tbk 1 (.mk ?_)
  replace h3 := asrt_e h3
  obtain ⟨rfl, h3⟩ := h3
  refine tc tbk 4 (.mk ?_)
  refine ni tbk h3 fun x23 h3 => ?_
  refine tr tbk 2 (.mk ?_)
  exact bk (x23, x21) () h3 (leH_kn ⟨⟨_, rfl, (cv_slen (Eq.symm lx21))⟩, ⟨_, rfl, (.refl _)⟩, ⟨_, rfl, (.refl _)⟩, ⟨_, rfl, (.refl _)⟩, ⟨_, rfl, (.refl _)⟩, trivial⟩ ⟨⟨_, rfl, (.refl _)⟩, ⟨_, rfl, (.refl _)⟩, trivial⟩)
  rintro y2_1 _ h2
  refine tc tbk 4 (.mk ?_)
  obtain rfl := nxt_e h2
  refine w_ret (hret _ _ (hk [(1, ⟨64, 1, true, true, v3, [[lst 2 GLine.av a2]]⟩), (2, ⟨3, 1, true, true, v7, y2_1.map fI⟩)]) (.tmp rfl .nil) (HK.le ⟨rfl, rfl, trivial⟩) ?_)
  exact ⟨y2_1, (), rfl, rfl, rfl⟩
  rintro y _ ⟨y3_1, _, rfl, hc, rfl⟩
  subst hc
  refine tr tbk 5 (.mk ?_)
  refine sY (yv_to (y := boo false) (yv_neq rfl rfl rfl) (congrArg boo (by decide))) ?_
  refine tr tbk 5 (.mk ?_)
  obtain ⟨p24, h1⟩ := asrt_e h1
  refine sY (yv_move rfl rfl) ?_
  refine tr tbk 3 (.mk ?_)
  obtain rfl := nxt_e h1
  refine w_ret (hret _ _ (hk [(1, ⟨64, 1, true, true, v3, [[lst 2 GLine.av a2]]⟩), (2, ⟨3, 1, true, true, v7, y3_1.map fI⟩)]) (.tmp rfl (.tmp rfl .nil)) (HK.le ⟨rfl, rfl, trivial⟩) ?_)
  exact ⟨y3_1, v7, rfl, (CvL.tup (.cons (cv_slen (Eq.symm p24)) (.cons (.refl _) .nil))), rfl⟩
  rintro y _ ⟨y4_2, w4_1, rfl, hc, rfl⟩
  refine rs_cv 11 (.tup [.sl 2 w4_1 0 y4_2.length, int 0]) rfl hc ?_
  refine tr tbk 5 (.mk ?_)
  obtain rfl := nxt_e h0
  refine wR hret (rT (rT .nil)) ?_
  exact CvL.tup (.cons (cv_lst rfl rfl rfl rfl rfl (Eq.symm rfl)) (.cons (.refl _) .nil))
def d_stock_Post (n : Nat) (a1 : GState) (a2 : Int) (a3 : List GLine) : Option (GState × Int) :=
(show Option (Bool) from
bnd (decide (a2 < 0)) fun x7 =>
cond x7 (some (true : Bool)) (bnd (decide (a2 ≥ (a1.Ents.length : Int))) fun x8 =>
some (x8 : Bool))).bind <| fun y0_1 =>
asrt (y0_1 = false) <|
(d_voucher_Plain n a3).bind fun x9 =>
bnd (decide (x9.2 ≠ 0)) fun x10 =>
asrt (x10 = false) <|
(ix a1.Ents a2).bind fun x11 =>
(d_gl_Post n x11.Bal x9.1).bind fun x12 =>
bnd (decide (x12.2 ≠ 0)) fun x13 =>
asrt (x13 = false) <|
(show Option ((Unit)) from
asrt (a1.Ents.length ≤ 68719476736) <|
(ix a1.Ents a2).bind fun x18 =>
some ()).bind <| fun _ =>
(ix a1.Ents a2).bind fun x19 =>
bnd (a1.Ents.set (Int.toNat a2) ((⟨x19.Now, x19.Closed, x19.Pools, x12.1, x19.Rolls, x19.Prices, x19.Down, x19.Ahead⟩ : GEnt) : GEnt)) fun x20 =>
some (((⟨a1.Master, x20, a1.Receipts, a1.Sales, a1.Transits, a1.Done⟩ : GState) : GState), (0 : Int))
theorem d_stock_Post_c {n : Nat} {a1 : GState} {a2 : Int} {a3 : List GLine} {r : GState × Int} (h0 : d_stock_Post n a1 a2 a3 = some r) : PP Tryz.prog 22 [.agg (GState.av a1), int a2, lst 2 GLine.av a3] (fun y => y = .tup [.agg (GState.av r.1), int r.2]) := by
  unfold d_stock_Post at h0
  refine pp_of_pc (R0 := fun y H => Cv (frzH H) y (.tup [.agg (GState.av r.1), int r.2])) ?_ (fun y H hc => ⟨_, rfl, .tup (pvl2 ((fun (a : GState) => PV.agg (GState.pvc a)) (r.1)) (pvI (r.2))), hc⟩)
  refine pcw (c := _) Tryz.func22 rfl rfl ?_; intro Q hret hnorm
  refine tc tbk 2 (.mk ?_)
  refine sB 1 fun v4 => ?_
  refine sA 2 z32 fun v5 => ?_
  refine tr tbk 4 (.mk ?_)
  refine jn h0 [1, 2, 3, 6, 7] [1, 2] (fun (a : Bool) (k : Unit) => [(20, boo a)]) (fun a k => []) ⟨fun j6 h1 => ?_, ?_⟩
  refine tc tbk 2 (.mk ?_)
  refine nb tbk h1 fun x7 h1 => ?_
  refine tr tbk 1 (.mk ?_)
  cases x7
  replace h1 := cf h1
  refine tr tbk 3 (.mk ?_)
  refine sY (yv_len_sl rfl Tryz.underlying27 rfl (lst_len _)) ?_
  refine nb tbk h1 fun x8 h1 => ?_
  refine tr tbk 2 (.mk ?_)
  exact lf h1 () leA
  replace h1 := ct h1
  refine tr tbk 7 (.mk ?_)
  exact lf h1 () leA
  rintro y0_1 _ h0
  replace h0 := asrt_e h0
  obtain ⟨rfl, h0⟩ := h0
  refine tc tbk 5 (.mk ?_)
  obtain ⟨x9, e9, h0⟩ := bind_e h0
  refine sC cal43 (d_voucher_Plain_c e9) ?_
  refine tr tbk 10 (.mk ?_)
  refine nb tbk h0 fun x10 h0 => ?_
  refine tr tbk 1 (.mk ?_)
  replace h0 := asrt_e h0
  obtain ⟨rfl, h0⟩ := h0
  refine tc tbk 7 (.mk ?_)
  obtain ⟨x11, e11, h0⟩ := bind_e h0
  refine sY (yv_to (y := .pp [int x11.Now, boo x11.Closed, lst 4 GPool.av x11.Pools, lst 1 fI x11.Bal, lst 11 GRoll.av x11.Rolls, lst 1 fI x11.Prices, lst 1 fI x11.Down, lst 8 GEnt.av x11.Ahead]) (yv_ixT rfl Tryz.underlying27 sh40 rfl rfl e11) (congrArg AV.pp (GEnt.av_eq x11))) ?_
  refine tr tbk 3 (.mk ?_)
  obtain ⟨x12, e12, h0⟩ := bind_e h0
  refine sC cal44 (d_gl_Post_c e12) ?_
  refine tr tbk 10 (.mk ?_)
  refine nb tbk h0 fun x13 h0 => ?_
  refine tr tbk 1 (.mk ?_)
  replace h0 := asrt_e h0
  obtain ⟨rfl, h0⟩ := h0
  refine tc tbk 5 (.mk ?_)
  refine sY (yv_build (cs := (GState.av a1)) (ps := [(0, _)]) rfl pl86 z86 rfl (.cons rfl .nil) (by kernel_rfl)) ?_
  refine sA 3 z86 fun v14 => ?_
  refine sS ⟨86, 10, true, true, v14, [(GState.av a1)]⟩ sh86 ?_
  refine tr tbk 4 (.mk ?_)
  obtain ⟨j15, h1, h0⟩ := bind_e h0
  refine rse (Out := fun y H' => (∃ (a : Unit) (k : Nat), a = j15 ∧ y = .pt 4 k (Int.toNat a2) 0 ∧ H' = hk [(1, ⟨32, 10, true, true, v4, [(GState.av a1)]⟩), (2, ⟨32, 10, true, true, v5, [[int 0, int 0, .sc (.slice none 0 0), .sc (.slice none 0 0), .sc (.slice none 0 0), .sc (.slice none 0 0), .sc (.slice none 0 0), .sc (.slice none 0 0), .sc (.slice none 0 0), int 0]]⟩), (3, ⟨86, 10, true, true, v14, [[int a1.Master.Entities, int a1.Master.Periods, lst 1 fI a1.Master.Weights, lst 1 (fL 1 fI) a1.Master.Methods, lst 1 (fL 1 fI) a1.Master.Costs, .sl 4 k 0 a1.Ents.length, lst 8 GReceipt.av a1.Receipts, lst 9 GSale.av a1.Sales, lst 6 GTransit.av a1.Transits, int a1.Done]]⟩), (4, ⟨40, 8, true, true, k, a1.Ents.map GEnt.av⟩)])) rfl rfl rfl (yl_call rfl rfl (.cons rfl (.cons rfl .nil)) cal45 ?_) ?_
  refine pcw (c := _) Tryz.func45 rfl rfl ?_; intro Q hret hnorm
  refine tc tbk 12 (.mk ?_)
  obtain ⟨p16, h1⟩ := asrt_e h1
  refine rse rfl rfl rfl (yl_call rfl rfl (.cons rfl .nil) cal65 (pc_cv (clone65_c (id := 4) (l := a1.Ents) rfl p16) (.cons (.refl _) .nil))) ?_; rintro _ _ ⟨v17, rfl, rfl⟩
  refine tr tbk 3 (.mk ?_)
  refine sS ⟨86, 10, true, true, v14, [[int a1.Master.Entities, int a1.Master.Periods, lst 1 fI a1.Master.Weights, lst 1 (fL 1 fI) a1.Master.Methods, lst 1 (fL 1 fI) a1.Master.Costs, .sl 4 v17 0 a1.Ents.length, lst 8 GReceipt.av a1.Receipts, lst 9 GSale.av a1.Sales, lst 6 GTransit.av a1.Transits, int a1.Done]]⟩ sh27 ?_
  refine tr tbk 9 (.mk ?_)
  obtain ⟨x18, e18, h1⟩ := bind_e h1
  refine sY (yv_ixO rfl Tryz.underlying27 sh40 rfl rfl rfl rfl rfl (Eq.symm rfl) (List.length_map _) e18) ?_
  refine tr tbk 2 (.mk ?_)
  obtain rfl := nxt_e h1
  refine w_ret (hret _ _ (hk [(1, ⟨32, 10, true, true, v4, [(GState.av a1)]⟩), (2, ⟨32, 10, true, true, v5, [[int 0, int 0, .sc (.slice none 0 0), .sc (.slice none 0 0), .sc (.slice none 0 0), .sc (.slice none 0 0), .sc (.slice none 0 0), .sc (.slice none 0 0), .sc (.slice none 0 0), int 0]]⟩), (3, ⟨86, 10, true, true, v14, [[int a1.Master.Entities, int a1.Master.Periods, lst 1 fI a1.Master.Weights, lst 1 (fL 1 fI) a1.Master.Methods, lst 1 (fL 1 fI) a1.Master.Costs, .sl 4 v17 0 a1.Ents.length, lst 8 GReceipt.av a1.Receipts, lst 9 GSale.av a1.Sales, lst 6 GTransit.av a1.Transits, int a1.Done]]⟩), (4, ⟨40, 8, true, true, v17, a1.Ents.map GEnt.av⟩)]) (.tmp rfl .nil) (HK.le ⟨rfl, rfl, rfl, rfl, trivial⟩) ?_)
  exact ⟨(), v17, rfl, rfl, rfl⟩
  rintro y _ ⟨_, w1_1, rfl, hc, rfl⟩
  subst hc
  refine tr tbk 1 (.mk ?_)
  obtain ⟨x19, e19, h0⟩ := bind_e h0
  refine sY (yv_nilCheck rfl rfl (.pt rfl rfl (ix_get' e19 (GEnt.av_eq _)))) ?_
  refine sY (yv_fieldAddr rfl fo40_3 rfl (.pt rfl rfl (ix_get' e19 (GEnt.av_eq _))) (.pt _ _ _ _ _)) ?_
  obtain ⟨x20, e20, h0⟩ := bnd_e h0
  have fx20 := ix_set e19 e20; have lx20 := len_setV e20 (rfl : a1.Ents.length = a1.Ents.length)
  refine rsstore rfl rfl (yl_ob (ob' := (⟨40, 8, true, true, w1_1, x20.map GEnt.av⟩ : AObj)) (yl_store rfl sh23 rfl rfl rfl rfl rfl (ix_get' e19 (GEnt.av_eq _)) rfl rfl rfl) (ob_eq (map_setR e20 (GEnt.av_eq _)))) ?_
  refine tr tbk 5 (.mk ?_)
  refine sS ⟨32, 10, true, true, v5, [[int a1.Master.Entities, int a1.Master.Periods, lst 1 fI a1.Master.Weights, lst 1 (fL 1 fI) a1.Master.Methods, lst 1 (fL 1 fI) a1.Master.Costs, .sl 4 w1_1 0 a1.Ents.length, lst 8 GReceipt.av a1.Receipts, lst 9 GSale.av a1.Sales, lst 6 GTransit.av a1.Transits, int a1.Done]]⟩ sh32 ?_
  refine tr tbk 2 (.mk ?_)
  obtain rfl := nxt_e h0
  refine wR hret (rC sh32 (rT .nil)) ?_
  exact CvL.tup (.cons (CvL.agg (.cons (.refl _) (.cons (.refl _) (.cons (.refl _) (.cons (.refl _) (.cons (.refl _) (.cons (cv_lst rfl rfl rfl rfl rfl (Eq.symm lx20)) (.cons (.refl _) (.cons (.refl _) (.cons (.refl _) (.cons (.refl _) .nil))))))))))) (.cons (.refl _) .nil))
end Go.Pv
