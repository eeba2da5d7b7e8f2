import Derived.Test.YtiamgfjojjjggaaGreatK47b
set_option linter.unusedVariables false
namespace Go.Pv
open Go.Proofs
set_option maxRecDepth 10000
set_option maxHeartbeats 1000000
def d_stock_At (a1 : GState) (a2 : Int) (a3 : Int) (a4 : Int) : Option (GPool) :=
(d_stock_place a1 a2 a3 a4).bind fun x7 =>
bnd (decide (x7 < 0)) fun x8 =>
asrt (x8 = false) <|
(ix a1.Ents a2).bind fun x9 =>
(ix x9.Pools x7).bind fun x10 =>
asrt (x10.Layers.length ≤ 68719476736) <|
some ((x10 : GPool))
theorem d_stock_At_c {a1 : GState} {a2 : Int} {a3 : Int} {a4 : Int} {r : GPool} (h0 : d_stock_At a1 a2 a3 a4 = some r) : PP Tryz.prog 33 [.agg (GState.av a1), int a2, int a3, int a4] (fun y => y = .agg (GPool.av r)) := by
  unfold d_stock_At at h0
  refine pp_of_pc (R0 := fun y H => Cv (frzH H) y (.agg (GPool.av r))) ?_ (fun y H hc => ⟨_, rfl, (fun (a : GPool) => PV.agg (GPool.pvc a)) r, hc⟩)
  refine pcw (c := _) Tryz.func33 rfl rfl ?_; intro Q hret hnorm
  refine tc tbk 2 (.mk ?_)
  refine sB 1 fun v5 => ?_
  refine sA 2 z74 fun v6 => ?_
  refine tr tbk 7 (.mk ?_)
  obtain ⟨x7, e7, h0⟩ := bind_e h0
  refine sC cal62 (d_stock_place_c e7) ?_
  refine tr tbk 6 (.mk ?_)
  refine nb tbk h0 fun x8 h0 => ?_
  refine tr tbk 1 (.mk ?_)
  replace h0 := asrt_e h0
  obtain ⟨rfl, h0⟩ := h0
  refine tc tbk 7 (.mk ?_)
  obtain ⟨x9, e9, h0⟩ := bind_e h0
  refine sY (yv_to (y := .pp [int x9.Now, boo x9.Closed, lst 4 GPool.av x9.Pools, lst 1 fI x9.Bal, lst 11 GRoll.av x9.Rolls, lst 1 fI x9.Prices, lst 1 fI x9.Down, lst 8 GEnt.av x9.Ahead]) (yv_ixT rfl Tryz.underlying26 sh47 rfl rfl e9) (congrArg AV.pp (GEnt.av_eq x9))) ?_
  refine tr tbk 3 (.mk ?_)
  obtain ⟨x10, e10, h0⟩ := bind_e h0
  refine sY (yv_ixT rfl Tryz.underlying44 sh74 rfl rfl e10) ?_
  refine tr tbk 1 (.mk ?_)
  refine sA 3 z74 fun v11 => ?_
  refine sS ⟨74, 4, true, true, v11, [[lst 3 GLayer.av x10.Layers, int x10.Pend.a0, int x10.Pend.a1, int x10.Pend.a2]]⟩ sh74 ?_
  refine tr tbk 5 (.mk ?_)
  obtain ⟨p12, h0⟩ := asrt_e h0
  refine rse rfl rfl rfl (yl_call rfl rfl (.cons rfl .nil) cal63 (pc_cv (clone63_c (id := 4) (l := x10.Layers) rfl p12) (.cons (.refl _) .nil))) ?_; rintro _ _ ⟨v13, rfl, rfl⟩
  refine tr tbk 1 (.mk ?_)
  refine sS ⟨74, 4, true, true, v11, [[.sl 4 v13 0 x10.Layers.length, int x10.Pend.a0, int x10.Pend.a1, int x10.Pend.a2]]⟩ sh71 ?_
  refine tr tbk 4 (.mk ?_)
  refine sS ⟨74, 4, true, true, v6, [[.sl 4 v13 0 x10.Layers.length, int x10.Pend.a0, int x10.Pend.a1, int x10.Pend.a2]]⟩ sh74 ?_
  refine tr tbk 1 (.mk ?_)
  obtain rfl := nxt_e h0
  refine wR hret (rC sh74 .nil) ?_
  exact (CvL.agg (.cons (cv_lst rfl rfl rfl rfl rfl (Eq.symm rfl)) (.cons (.refl _) (.cons (.refl _) (.cons (.refl _) .nil)))))
def d_stock_worth_L0 (a1 : GState) (a2 : Int) (a3 : Int) : Nat → Int → (List Int) → (List Int) → (List Int) → Option ((List Int) × (List Int) × (List Int))
  | 0, _, _, _, _ => none
  | n + 1, y0_4, y0_5, y0_6, y0_7 =>
    bnd (decide (y0_4 < 2)) fun x10 =>
    cond x10 ((d_stock_At a1 a2 a3 y0_4).bind fun x11 =>
    (d_fifo_Total n x11.Layers).bind fun x12 =>
    bnd (y0_5 ++ ([x12.1.Qty] : List Int)) fun x14 =>
    asrt (x14.length ≤ 68719476736) <|
    bnd (y0_6 ++ ([x12.1.Value] : List Int)) fun x17 =>
    asrt (x17.length ≤ 68719476736) <|
    bnd (y0_7 ++ ([x12.1.Profit] : List Int)) fun x20 =>
    asrt (x20.length ≤ 68719476736) <|
    bnd (w64 (y0_4 + 1)) fun x23 =>
    d_stock_worth_L0 a1 a2 a3 n (x23 : Int) (x14 : List Int) (x17 : List Int) (x20 : List Int)) (some ((y0_5 : List Int), (y0_6 : List Int), (y0_7 : List Int)))
def d_stock_worth (n : Nat) (a1 : GState) (a2 : Int) (a3 : Int) : Option (GLayer × Bool) :=
(show Option ((List Int) × (List Int) × (List Int)) from
d_stock_worth_L0 a1 a2 a3 n (0 : Int) (([] : List Int) : List Int) (([] : List Int) : List Int) (([] : List Int) : List Int)).bind <| p2 fun (y1_4 : List Int) (q0 : (List Int) × (List Int)) => (p2 fun (y1_5 : List Int) (y1_6 : List Int) =>
(d_money_Sum n y1_4).bind fun x24 =>
(d_money_Sum n y1_5).bind fun x25 =>
(d_money_Sum n y1_6).bind fun x26 =>
bnd (if x26.2 > (if x25.2 > x24.2 then x25.2 else x24.2) then x26.2 else (if x25.2 > x24.2 then x25.2 else x24.2)) fun x27 =>
bnd (decide (x27 = 0)) fun x28 =>
some (((⟨x24.1, x25.1, x26.1⟩ : GLayer) : GLayer), (x28 : Bool))) q0
theorem d_stock_worth_c {n : Nat} {a1 : GState} {a2 : Int} {a3 : Int} {r : GLayer × Bool} (h0 : d_stock_worth n a1 a2 a3 = some r) : PP Tryz.prog 16 [.agg (GState.av a1), int a2, int a3] (fun y => y = .tup [.agg (GLayer.av r.1), boo r.2]) := by
  unfold d_stock_worth at h0
  refine pp_of_pc (R0 := fun y H => Cv (frzH H) y (.tup [.agg (GLayer.av r.1), boo r.2])) ?_ (fun y H hc => ⟨_, rfl, .tup (pvl2 ((fun (a : GLayer) => PV.agg (GLayer.pvc a)) (r.1)) (pvB (r.2))), hc⟩)
  refine pcw (c := _) Tryz.func16 rfl rfl ?_; intro Q hret hnorm
  refine tc tbk 2 (.mk ?_)
  refine sB 1 fun v4 => ?_
  refine sA 2 z42 fun v5 => ?_
  refine tr tbk 13 (.mk ?_)
  refine jn h0 [6, 7] [2] (fun (a : (List Int) × (List Int) × (List Int)) (k : Nat × Nat × Nat) => [(8, .sl 7 k.1 0 a.1.length), (9, .sl 8 k.2.1 0 a.2.1.length), (10, .sl 9 k.2.2 0 a.2.2.length)]) (fun a k => [(7, ⟨3, 1, true, true, k.1, a.1.map fI⟩), (8, ⟨3, 1, true, true, k.2.1, a.2.1.map fI⟩), (9, ⟨3, 1, true, true, k.2.2, a.2.2.map fI⟩)]) ⟨fun j6 h1 => ?_, ?_⟩
  refine tc tbk 1 (.mk ?_)
  refine c_nilobj 8 7 3 1 rfl rfl ?_; intro v7
  refine c_nilobj 9 8 3 1 rfl rfl ?_; intro v8
  refine c_nilobj 10 9 3 1 rfl rfl ?_; intro v9
  refine lp (fun n (a : Int × (List Int) × (List Int) × (List Int)) => d_stock_worth_L0 a1 a2 a3 n a.1 a.2.1 a.2.2.1 a.2.2.2) ((0 : Int), (([] : List Int) : List Int), (([] : List Int) : List Int), (([] : List Int) : List Int)) (v7, v8, v9) h1 [1, 2, 3, 6, 7] [1, 2] (fun (a : Int × (List Int) × (List Int) × (List Int)) (k : Nat × Nat × Nat) => [(8, .sl 7 k.1 0 a.2.1.length), (9, .sl 8 k.2.1 0 a.2.2.1.length), (10, .sl 9 k.2.2 0 a.2.2.2.length), (20, int a.1)]) (fun a k => [(7, ⟨3, 1, true, true, k.1, a.2.1.map fI⟩), (8, ⟨3, 1, true, true, k.2.1, a.2.2.1.map fI⟩), (9, ⟨3, 1, true, true, k.2.2, a.2.2.2.map fI⟩)]) (fun _ => rfl) ⟨leA, ?_⟩
  rintro n ⟨y0_4, y0_5, y0_6, y0_7⟩ ⟨w0_1, w0_2, w0_3⟩ hm h1
  replace h1 : d_stock_worth_L0 a1 a2 a3 (n + 1) y0_4 y0_5 y0_6 y0_7 = some _ := h1
  rw [d_stock_worth_L0] at h1
  refine tc tbk 2 (.mk ?_)
  refine nb tbk h1 fun x10 h1 => ?_
  refine tr tbk 2 (.mk ?_)
  cases x10
  replace h1 := cf h1
  refine tc tbk 2 (.mk ?_)
  exact lf h1 (w0_1, w0_2, w0_3) leA
  replace h1 := ct h1
  refine tc tbk 15 (.mk ?_)
  obtain ⟨x11, e11, h1⟩ := bind_e h1
  refine sC cal33 (d_stock_At_c e11) ?_
  refine tr tbk 1 (.mk ?_)
  obtain ⟨x12, e12, h1⟩ := bind_e h1
  refine sC cal32 (d_fifo_Total_c e12) ?_
  refine tr tbk 3 (.mk ?_)
  refine sA 3 z42 fun v13 => ?_
  refine sS ⟨42, 3, true, true, v13, [[int x12.1.Qty, int x12.1.Value, int x12.1.Profit]]⟩ sh42 ?_
  refine tr tbk 2 (.mk ?_)
  refine c_drawE [0, 0, 2, 6, 15, 0, 0, 64, 192, 511, 0, 0, 2048, 6144, 16383, 32767, 65535, 131071] (rl [(1, [3]), (2, [3]), (6, [3]), (7, [3]), (11, [3]), (12, [3])] []) (rl [(14, [])] [3]) (rl [(4, false), (9, false), (14, false)] true) [0, 1, 2, 3, 5, 6, 7, 8, 10, 11, 12, 13, 4, 9, 14, 15, 16, 17] mixed (by kernel_rfl) ?_; intro K hK
  refine eM ?_
  refine eF fo42_0 ?_
  refine eL sh3 ?_
  refine eP (fun H hH => yv_to (y := lst 1 fI ([x12.1.Qty] : List Int)) (yv_buildSlice (ps := [(0, _)]) (rows := [[int x12.1.Qty]]) rfl Tryz.underlying22 bz3 (.cons rfl .nil) (by kernel_rfl) rfl rfl rfl) rfl) ?_
  refine eM ?_
  refine eF fo42_1 ?_
  refine eL sh3 ?_
  refine eP (fun H hH => yv_to (y := lst 1 fI ([x12.1.Value] : List Int)) (yv_buildSlice (ps := [(0, _)]) (rows := [[int x12.1.Value]]) rfl Tryz.underlying22 bz3 (.cons rfl .nil) (by kernel_rfl) rfl rfl rfl) rfl) ?_
  refine eM ?_
  refine eF fo42_2 ?_
  refine eL sh3 ?_
  refine eP (fun H hH => yv_to (y := lst 1 fI ([x12.1.Profit] : List Int)) (yv_buildSlice (ps := [(0, _)]) (rows := [[int x12.1.Profit]]) rfl Tryz.underlying22 bz3 (.cons rfl .nil) (by kernel_rfl) rfl rfl rfl) rfl) ?_
  obtain ⟨x14, e14, h1⟩ := bnd_e h1
  obtain ⟨p15, h1⟩ := asrt_e h1
  refine de_eff rfl rfl rfl rfl (yl_appT (g := fI) (l := y0_5) (m := ([x12.1.Qty] : List Int)) .any rfl Tryz.underlying22 bz3 by3 rfl rfl rfl rfl rfl rfl rfl rfl rfl rfl (Eq.symm rfl) (.refl _) (fun _ => rfl) e14 p15) (by rintro _ _ ⟨v16, -, rfl, rfl⟩; exact ⟨rfl, trivial⟩) ?_; rintro _ _ ⟨v16, -, rfl, rfl⟩
  obtain ⟨x17, e17, h1⟩ := bnd_e h1
  obtain ⟨p18, h1⟩ := asrt_e h1
  refine de_eff rfl rfl rfl rfl (yl_appT (g := fI) (l := y0_6) (m := ([x12.1.Value] : List Int)) .any rfl Tryz.underlying22 bz3 by3 rfl rfl rfl rfl rfl rfl rfl rfl rfl rfl (Eq.symm rfl) (.refl _) (fun _ => rfl) e17 p18) (by rintro _ _ ⟨v19, -, rfl, rfl⟩; exact ⟨rfl, trivial⟩) ?_; rintro _ _ ⟨v19, -, rfl, rfl⟩
  obtain ⟨x20, e20, h1⟩ := bnd_e h1
  obtain ⟨p21, h1⟩ := asrt_e h1
  refine de_eff rfl rfl rfl rfl (yl_appT (g := fI) (l := y0_7) (m := ([x12.1.Profit] : List Int)) .any rfl Tryz.underlying22 bz3 by3 rfl rfl rfl rfl rfl rfl rfl rfl rfl rfl (Eq.symm rfl) (.refl _) (fun _ => rfl) e20 p21) (by rintro _ _ ⟨v22, -, rfl, rfl⟩; exact trivial) ?_; rintro _ _ ⟨v22, -, rfl, rfl⟩
  iterate 3 refine eA ?_
  refine de_nil (hK _ ?_)
  refine tc tbk 2 (.mk ?_)
  refine ni tbk h1 fun x23 h1 => ?_
  refine tr tbk 2 (.mk ?_)
  exact bk (x23, x14, x17, x20) (v16, v19, v22) h1 leA
  rintro ⟨y1_4, y1_5, y1_6⟩ ⟨w1_1, w1_2, w1_3⟩ h0
  replace h0 := p2_e h0
  replace h0 := p2_e h0
  refine tc tbk 3 (.mk ?_)
  obtain ⟨x24, e24, h0⟩ := bind_e h0
  refine sY (yv_callT (v := .tup [int x24.1, int x24.2]) rfl rfl (.cons rfl .nil) cal34 (.cons (cv_lst rfl rfl rfl rfl rfl (Eq.symm rfl)) .nil) (d_money_Sum_c e24) rfl) ?_
  refine tr tbk 9 (.mk ?_)
  obtain ⟨x25, e25, h0⟩ := bind_e h0
  refine sY (yv_callT (v := .tup [int x25.1, int x25.2]) rfl rfl (.cons rfl .nil) cal34 (.cons (cv_lst rfl rfl rfl rfl rfl (Eq.symm rfl)) .nil) (d_money_Sum_c e25) rfl) ?_
  refine tr tbk 9 (.mk ?_)
  obtain ⟨x26, e26, h0⟩ := bind_e h0
  refine sY (yv_callT (v := .tup [int x26.1, int x26.2]) rfl rfl (.cons rfl .nil) cal34 (.cons (cv_lst rfl rfl rfl rfl rfl (Eq.symm rfl)) .nil) (d_money_Sum_c e26) rfl) ?_
  refine tr tbk 15 (.mk ?_)
  obtain ⟨x27, e27, h0⟩ := bnd_e h0
  refine sY (yv_max3 rfl rfl rfl rfl e27) ?_
  refine nb tbk h0 fun x28 h0 => ?_
  refine sS ⟨42, 3, true, true, v5, [[int x24.1, int x25.1, int x26.1]]⟩ sh42 ?_
  refine tr tbk 2 (.mk ?_)
  obtain rfl := nxt_e h0
  refine wR hret (rC sh42 (rT .nil)) ?_
  exact .refl _
def d_stock_steady_L1 (x9 : GPool) : Nat → Int → (List Int) → Option ((List Int))
  | 0, _, _ => none
  | n + 1, y1_2, y1_3 =>
    bnd (decide (y1_2 < (x9.Layers.length : Int))) fun x11 =>
    cond x11 ((ix x9.Layers y1_2).bind fun x12 =>
    bnd (w64 (0 - x12.Profit)) fun x14 =>
    bnd (if x14 > x12.Profit then x14 else x12.Profit) fun x15 =>
    bnd (y1_3 ++ ([x15] : List Int)) fun x16 =>
    asrt (x16.length ≤ 68719476736) <|
    bnd (w64 (y1_2 + 1)) fun x19 =>
    d_stock_steady_L1 x9 n (x19 : Int) (x16 : List Int)) (some (y1_3 : List Int))
def d_stock_steady_L0 (a1 : GState) (a2 : Int) (a3 : Int) : Nat → Int → (List Int) → Option ((List Int))
  | 0, _, _ => none
  | n + 1, y0_2, y0_3 =>
    bnd (decide (y0_2 < 2)) fun x7 =>
    cond x7 ((show Option ((List Int)) from
    (d_stock_At a1 a2 a3 y0_2).bind fun x9 =>
    (show Option ((List Int)) from
    d_stock_steady_L1 x9 n (0 : Int) (y0_3 : List Int)).bind <| fun y2_2 =>
    some (y2_2 : List Int)).bind <| fun y3_2 =>
    bnd (w64 (y0_2 + 1)) fun x20 =>
    d_stock_steady_L0 a1 a2 a3 n (x20 : Int) (y3_2 : List Int)) (some (y0_3 : List Int))
def d_stock_steady (n : Nat) (a1 : GState) (a2 : Int) (a3 : Int) : Option (Bool) :=
(show Option ((List Int)) from
d_stock_steady_L0 a1 a2 a3 n (0 : Int) (([] : List Int) : List Int)).bind <| fun y4_2 =>
(d_money_Sum n y4_2).bind fun x21 =>
bnd (decide (x21.2 = 0)) fun x22 =>
some ((x22 : Bool))
theorem d_stock_steady_c {n : Nat} {a1 : GState} {a2 : Int} {a3 : Int} {r : Bool} (h0 : d_stock_steady n a1 a2 a3 = some r) : PP Tryz.prog 146 [.agg (GState.av a1), int a2, int a3] (fun y => y = boo r) := by
  unfold d_stock_steady at h0
  refine pp_of_pc (R0 := fun y H => Cv (frzH H) y (boo r)) ?_ (fun y H hc => ⟨_, rfl, pvB r, hc⟩)
  refine pcw (c := _) Tryz.func146 rfl rfl ?_; intro Q hret hnorm
  refine tc tbk 2 (.mk ?_)
  refine sB 1 fun v4 => ?_
  refine tr tbk 11 (.mk ?_)
  refine jn h0 [6] [] (fun (a : (List Int)) (k : Nat) => [(7, .sl 4 k 0 a.length)]) (fun a k => [(4, ⟨3, 1, true, true, k, a.map fI⟩)]) ⟨fun j5 h1 => ?_, ?_⟩
  refine tc tbk 1 (.mk ?_)
  refine c_nilobj 7 4 3 1 rfl rfl ?_; intro v6
  refine lp (fun n (a : Int × (List Int)) => d_stock_steady_L0 a1 a2 a3 n a.1 a.2) ((0 : Int), (([] : List Int) : List Int)) v6 h1 [1, 2, 3, 6] [1] (fun (a : Int × (List Int)) (k : Nat) => [(7, .sl 4 k 0 a.2.length), (13, int a.1)]) (fun a k => [(4, ⟨3, 1, true, true, k, a.2.map fI⟩)]) (fun _ => rfl) ⟨leA, ?_⟩
  rintro n ⟨y0_2, y0_3⟩ w0_1 hm h1
  replace h1 : d_stock_steady_L0 a1 a2 a3 (n + 1) y0_2 y0_3 = some _ := h1
  rw [d_stock_steady_L0] at h1
  refine tc tbk 2 (.mk ?_)
  refine nb tbk h1 fun x7 h1 => ?_
  refine tr tbk 2 (.mk ?_)
  cases x7
  replace h1 := cf h1
  refine tc tbk 2 (.mk ?_)
  exact lf h1 w0_1 leA
  replace h1 := ct h1
  refine tc tbk 3 (.mk ?_)
  refine jn h1 [1, 2, 3, 6, 13] [1] (fun (a : (List Int)) (k : Nat) => [(7, .sl 4 k 0 a.length)]) (fun a k => [(4, ⟨3, 1, true, true, k, a.map fI⟩)]) ⟨fun j8 h2 => ?_, ?_⟩
  refine tc tbk 12 (.mk ?_)
  obtain ⟨x9, e9, h2⟩ := bind_e h2
  refine sC cal33 (d_stock_At_c e9) ?_
  refine tr tbk 1 (.mk ?_)
  refine sY (yv_len_sl rfl Tryz.underlying71 rfl (lst_len _)) ?_
  refine tr tbk 2 (.mk ?_)
  refine jn h2 [1, 2, 3, 6, 13] [1] (fun (a : (List Int)) (k : Nat) => [(7, .sl 4 k 0 a.length)]) (fun a k => [(4, ⟨3, 1, true, true, k, a.map fI⟩)]) ⟨fun j10 h3 => ?_, ?_⟩
  refine tc tbk 1 (.mk ?_)
  refine lp (fun n (a : Int × (List Int)) => d_stock_steady_L1 x9 n a.1 a.2) ((0 : Int), (y0_3 : List Int)) w0_1 h3 [1, 2, 3, 6, 13, 21, 22] [1] (fun (a : Int × (List Int)) (k : Nat) => [(7, .sl 4 k 0 a.2.length), (23, int a.1)]) (fun a k => [(4, ⟨3, 1, true, true, k, a.2.map fI⟩)]) (fun _ => rfl) ⟨leA, ?_⟩
  rintro n ⟨y1_2, y1_3⟩ w1_1 hm h3
  replace h3 : d_stock_steady_L1 x9 (n + 1) y1_2 y1_3 = some _ := h3
  rw [d_stock_steady_L1] at h3
  refine tc tbk 2 (.mk ?_)
  refine nb tbk h3 fun x11 h3 => ?_
  refine tr tbk 2 (.mk ?_)
  cases x11
  replace h3 := cf h3
  refine tc tbk 2 (.mk ?_)
  exact lf h3 w1_1 leA
  replace h3 := ct h3
  refine tc tbk 6 (.mk ?_)
  obtain ⟨x12, e12, h3⟩ := bind_e h3
  refine sY (yv_ixT rfl Tryz.underlying71 sh42 rfl rfl e12) ?_
  refine tr tbk 1 (.mk ?_)
  refine sA 2 z42 fun v13 => ?_
  refine sS ⟨42, 3, true, true, v13, [[int x12.Qty, int x12.Value, int x12.Profit]]⟩ sh42 ?_
  refine tr tbk 7 (.mk ?_)
  refine ni tbk h3 fun x14 h3 => ?_
  obtain ⟨x15, e15, h3⟩ := bnd_e h3
  refine sY (yv_max rfl rfl rfl e15) ?_
  refine sY (yv_to (y := lst 1 fI ([x15] : List Int)) (yv_buildSlice (ps := [(0, _)]) (rows := [[int x15]]) rfl Tryz.underlying22 bz3 (.cons rfl .nil) (by kernel_rfl) rfl rfl rfl) rfl) ?_
  obtain ⟨x16, e16, h3⟩ := bnd_e h3
  obtain ⟨p17, h3⟩ := asrt_e h3
  refine rse rfl rfl rfl (yl_appT (g := fI) (l := y1_3) (m := ([x15] : List Int)) .any rfl Tryz.underlying22 bz3 by3 rfl rfl rfl rfl rfl rfl rfl rfl rfl rfl (Eq.symm rfl) (.refl _) (fun _ => rfl) e16 p17) ?_; rintro _ _ ⟨v18, -, rfl, rfl⟩
  refine tr tbk 4 (.mk ?_)
  refine ni tbk h3 fun x19 h3 => ?_
  refine tr tbk 2 (.mk ?_)
  exact bk (x19, x16) v18 h3 leA
  rintro y2_2 w2_1 h2
  refine tc tbk 1 (.mk ?_)
  exact lf h2 w2_1 leA
  rintro y3_2 w3_1 h1
  refine tc tbk 1 (.mk ?_)
  refine ni tbk h1 fun x20 h1 => ?_
  refine tr tbk 2 (.mk ?_)
  exact bk (x20, y3_2) w3_1 h1 leA
  rintro y4_2 w4_1 h0
  refine tc tbk 3 (.mk ?_)
  obtain ⟨x21, e21, h0⟩ := bind_e h0
  refine sY (yv_callT (v := .tup [int x21.1, int x21.2]) rfl rfl (.cons rfl .nil) cal34 (.cons (cv_lst rfl rfl rfl rfl rfl (Eq.symm rfl)) .nil) (d_money_Sum_c e21) rfl) ?_
  refine tr tbk 9 (.mk ?_)
  refine nb tbk h0 fun x22 h0 => ?_
  refine tr tbk 2 (.mk ?_)
  obtain rfl := nxt_e h0
  refine wR hret (rT .nil) ?_
  exact .refl _
def d_stock_Bring (n : Nat) (a1 : GState) (a2 : Int) (a3 : Int) (a4 : Int) (a5 : GLayer) : Option (GState × Int × Int × Int) :=
(d_stock_place a1 a2 a3 a4).bind fun x9 =>
bnd (decide (x9 < 0)) fun x10 =>
asrt (x10 = false) <|
(ix a1.Master.Methods a2).bind fun x11 =>
(ix x11 a3).bind fun x12 =>
(ix a1.Master.Costs a2).bind fun x13 =>
(ix x13 a3).bind fun x14 =>
(ix a1.Ents a2).bind fun x15 =>
(ix x15.Pools x9).bind fun x16 =>
(d_pool_In n x12 x14 x16 a5).bind fun x17 =>
bnd (decide (x17.2.2 ≠ 0)) fun x19 =>
cond x19 (some ((a1 : GState), (0 : Int), (0 : Int), (x17.2.2 : Int))) ((show Option ((Int × Bool × (List Int) × (List GRoll) × (List Int) × (List Int) × (List GEnt) × (List GPool))) from
(show Option ((Unit)) from
asrt (a1.Ents.length ≤ 68719476736) <|
(ix a1.Ents a2).bind fun x26 =>
some ()).bind <| fun _ =>
(ix a1.Ents a2).bind fun x27 =>
asrt (x27.Pools.length ≤ 68719476736) <|
(ix x27.Pools x9).bind fun x30 =>
bnd (x27.Pools.set (Int.toNat x9) (x17.1 : GPool)) fun x31 =>
some ((x27.Now : Int), (x27.Closed : Bool), (x27.Bal : List Int), (x27.Rolls : List GRoll), (x27.Prices : List Int), (x27.Down : List Int), (x27.Ahead : List GEnt), (x31 : List GPool))).bind <| p2 fun (y3_2 : Int) (q0 : Bool × (List Int) × (List GRoll) × (List Int) × (List Int) × (List GEnt) × (List GPool)) => (p2 fun (y3_3 : Bool) (q1 : (List Int) × (List GRoll) × (List Int) × (List Int) × (List GEnt) × (List GPool)) => (p2 fun (y3_5 : List Int) (q2 : (List GRoll) × (List Int) × (List Int) × (List GEnt) × (List GPool)) => (p2 fun (y3_6 : List GRoll) (q3 : (List Int) × (List Int) × (List GEnt) × (List GPool)) => (p2 fun (y3_7 : List Int) (q4 : (List Int) × (List GEnt) × (List GPool)) => (p2 fun (y3_8 : List Int) (q5 : (List GEnt) × (List GPool)) => (p2 fun (y3_9 : List GEnt) (y3_10 : List GPool) =>
(ix a1.Ents a2).bind fun x32 =>
(d_stock_worth n (⟨a1.Master, (a1.Ents.set (Int.toNat a2) (⟨y3_2, y3_3, y3_10, y3_5, y3_6, y3_7, y3_8, y3_9⟩ : GEnt)), a1.Receipts, a1.Sales, a1.Transits, a1.Done⟩ : GState) a2 a3).bind fun x33 =>
(show Option (Bool) from
bnd (!x33.2) fun x36 =>
cond x36 (some (true : Bool)) ((d_stock_steady n (⟨a1.Master, (a1.Ents.set (Int.toNat a2) (⟨y3_2, y3_3, y3_10, y3_5, y3_6, y3_7, y3_8, y3_9⟩ : GEnt)), a1.Receipts, a1.Sales, a1.Transits, a1.Done⟩ : GState) a2 a3).bind fun x37 =>
bnd (!x37) fun x38 =>
some (x38 : Bool))).bind <| fun y4_1 =>
asrt (y4_1 = false) <|
bnd (w64 (a5.Value - x17.2.1)) fun x39 =>
some (((⟨a1.Master, (a1.Ents.set (Int.toNat a2) (⟨y3_2, y3_3, y3_10, y3_5, y3_6, y3_7, y3_8, y3_9⟩ : GEnt)), a1.Receipts, a1.Sales, a1.Transits, a1.Done⟩ : GState) : GState), (x39 : Int), (x17.2.1 : Int), (0 : Int))) q5) q4) q3) q2) q1) q0)
theorem d_stock_Bring_c {n : Nat} {a1 : GState} {a2 : Int} {a3 : Int} {a4 : Int} {a5 : GLayer} {r : GState × Int × Int × Int} (h0 : d_stock_Bring n a1 a2 a3 a4 a5 = some r) : PP Tryz.prog 97 [.agg (GState.av a1), int a2, int a3, int a4, .agg (GLayer.av a5)] (fun y => y = .tup [.agg (GState.av r.1), int r.2.1, int r.2.2.1, int r.2.2.2]) := by
  unfold d_stock_Bring at h0
  refine pp_of_pc (R0 := fun y H => Cv (frzH H) y (.tup [.agg (GState.av r.1), int r.2.1, int r.2.2.1, int r.2.2.2])) ?_ (fun y H hc => ⟨_, rfl, .tup (pvl4 ((fun (a : GState) => PV.agg (GState.pvc a)) (r.1)) (pvI (r.2.1)) (pvI (r.2.2.1)) (pvI (r.2.2.2))), hc⟩)
  refine pcw (c := _) Tryz.func97 rfl rfl ?_; intro Q hret hnorm
  refine tc tbk 2 (.mk ?_)
  refine sB 1 fun v6 => ?_
  refine sB 2 fun v7 => ?_
  refine sA 3 z31 fun v8 => ?_
  refine tr tbk 10 (.mk ?_)
  obtain ⟨x9, e9, h0⟩ := bind_e h0
  refine sC cal62 (d_stock_place_c e9) ?_
  refine tr tbk 6 (.mk ?_)
  refine nb tbk h0 fun x10 h0 => ?_
  refine tr tbk 1 (.mk ?_)
  replace h0 := asrt_e h0
  obtain ⟨rfl, h0⟩ := h0
  refine tc tbk 3 (.mk ?_)
  refine c_drawE [0, 1, 3, 0, 15, 31, 0, 127, 255, 0, 512, 1536, 0, 7680, 15872, 0, 65024, 130560, 0, 262144, 0, 1835008, 3932160, 8126464, 0, 33292288, 66846720, 0, 268435455, 536870911, 1073741823, 1073741823, 1073741823, 0, 10737418239, 30064771071, 68719476735] (rl [(0, [1]), (1, [1]), (2, [1]), (9, [1]), (10, [1]), (11, [1]), (18, [1]), (19, [1]), (27, [2])] []) (rl [(34, [])] [1, 2]) (rl [(33, false), (34, false)] true) [0, 1, 2, 3, 4, 5, 6, 7, 8, 9, 10, 11, 12, 13, 14, 15, 16, 17, 18, 19, 20, 21, 22, 23, 24, 25, 26, 27, 28, 29, 30, 31, 32, 33, 34, 35, 36] mixed (by kernel_rfl) ?_; intro K hK
  refine eF fo31_0 ?_
  refine eF fo25_3 ?_
  refine eL sh23 ?_
  refine eM ?_
  obtain ⟨x11, e11, h0⟩ := bind_e h0
  refine eP (fun H hH => yv_ixT rfl Tryz.underlying23 sh22 rfl rfl e11) ?_
  refine eP (fun H hH => yv_load rfl sh22 rfl (.pp _) rfl) ?_
  refine eM ?_
  obtain ⟨x12, e12, h0⟩ := bind_e h0
  refine eP (fun H hH => yv_ixT rfl Tryz.underlying22 sh3 rfl rfl e12) ?_
  refine eP (fun H hH => yv_load rfl sh3 rfl (.pp _) rfl) ?_
  refine eF fo31_0 ?_
  refine eF fo25_4 ?_
  refine eL sh23 ?_
  refine eM ?_
  obtain ⟨x13, e13, h0⟩ := bind_e h0
  refine eP (fun H hH => yv_ixT rfl Tryz.underlying23 sh22 rfl rfl e13) ?_
  refine eP (fun H hH => yv_load rfl sh22 rfl (.pp _) rfl) ?_
  refine eM ?_
  obtain ⟨x14, e14, h0⟩ := bind_e h0
  refine eP (fun H hH => yv_ixT rfl Tryz.underlying22 sh3 rfl rfl e14) ?_
  refine eP (fun H hH => yv_load rfl sh3 rfl (.pp _) rfl) ?_
  refine eF fo31_1 ?_
  refine eL sh26 ?_
  refine eM ?_
  obtain ⟨x15, e15, h0⟩ := bind_e h0
  refine eP (fun H hH => yv_to (y := .pp [int x15.Now, boo x15.Closed, lst 4 GPool.av x15.Pools, lst 1 fI x15.Bal, lst 11 GRoll.av x15.Rolls, lst 1 fI x15.Prices, lst 1 fI x15.Down, lst 8 GEnt.av x15.Ahead]) (yv_ixT rfl Tryz.underlying26 sh47 rfl rfl e15) (congrArg AV.pp (GEnt.av_eq x15))) ?_
  refine eP (fun H hH => yv_fieldAddr rfl fo47_2 rfl (.pp _) (.pp _ _)) ?_
  refine eP (fun H hH => yv_load rfl sh44 rfl (.pp _) rfl) ?_
  refine eM ?_
  obtain ⟨x16, e16, h0⟩ := bind_e h0
  refine eP (fun H hH => yv_ixT rfl Tryz.underlying44 sh74 rfl rfl e16) ?_
  refine eP (fun H hH => yv_load rfl sh74 rfl (.pp _) rfl) ?_
  refine eL sh42 ?_
  obtain ⟨x17, e17, h0⟩ := bind_e h0
  refine eP (fun H hH => yv_callP rfl rfl (.cons rfl (.cons rfl (.cons rfl (.cons rfl .nil)))) cal144 (CvL.refl _) (d_pool_In_c e17)) ?_
  refine eM ?_
  iterate 3 refine eX ?_
  refine de_eff rfl rfl rfl rfl (yl_alloc 4 .any rfl z74 rfl) (by rintro _ _ ⟨v18, -, rfl, rfl⟩; exact ⟨rfl, rfl, trivial⟩) ?_; rintro _ _ ⟨v18, -, rfl, rfl⟩
  refine de_eff0 rfl rfl rfl rfl (Yield.weak (yl_ob (ob' := (⟨74, 4, true, true, v18, [[lst 3 GLayer.av x17.1.Layers, int x17.1.Pend.a0, int x17.1.Pend.a1, int x17.1.Pend.a2]]⟩ : AObj)) (yl_store rfl sh74 rfl rfl rfl rfl rfl rfl rfl rfl rfl) rfl) (fun _ h => h) (fun _ _ => trivial)) (by rintro _ _ ⟨rfl, rfl⟩; exact trivial) ?_; rintro _ _ ⟨rfl, rfl⟩
  iterate 2 refine eA ?_
  refine de_nil (hK _ ?_)
  refine tc tbk 4 (.mk ?_)
  refine nb tbk h0 fun x19 h0 => ?_
  refine tr tbk 1 (.mk ?_)
  cases x19
  replace h0 := cf h0
  refine tc tbk 5 (.mk ?_)
  refine sY (yv_build (cs := (GState.av a1)) (ps := [(0, _)]) rfl pl153 z153 rfl (.cons rfl .nil) (by kernel_rfl)) ?_
  refine sA 5 z153 fun v20 => ?_
  refine sS ⟨153, 10, true, true, v20, [(GState.av a1)]⟩ sh153 ?_
  refine tr tbk 6 (.mk ?_)
  obtain ⟨j21, h1, h0⟩ := bind_e h0
  refine rse (Out := fun y H' => (∃ (a : Int × Bool × (List Int) × (List GRoll) × (List Int) × (List Int) × (List GEnt) × (List GPool)) (k : Nat × Nat), a = j21 ∧ y = .tup [] ∧ H' = hk [(1, ⟨31, 10, true, true, v6, [(GState.av a1)]⟩), (2, ⟨42, 3, true, true, v7, [[int a5.Qty, int a5.Value, int a5.Profit]]⟩), (3, ⟨31, 10, true, true, v8, [[int 0, int 0, .sc (.slice none 0 0), .sc (.slice none 0 0), .sc (.slice none 0 0), .sc (.slice none 0 0), .sc (.slice none 0 0), .sc (.slice none 0 0), .sc (.slice none 0 0), int 0]]⟩), (4, ⟨74, 4, true, true, v18, [[lst 3 GLayer.av x17.1.Layers, int x17.1.Pend.a0, int x17.1.Pend.a1, int x17.1.Pend.a2]]⟩), (5, ⟨153, 10, true, true, v20, [[int a1.Master.Entities, int a1.Master.Periods, lst 1 fI a1.Master.Weights, lst 1 (fL 1 fI) a1.Master.Methods, lst 1 (fL 1 fI) a1.Master.Costs, .sl 7 k.1 0 a1.Ents.length, lst 8 GReceipt.av a1.Receipts, lst 9 GSale.av a1.Sales, lst 6 GTransit.av a1.Transits, int a1.Done]]⟩), (7, ⟨47, 8, true, true, k.1, (a1.Ents.map GEnt.av).set (Int.toNat a2) [int a.1, boo a.2.1, .sl 8 k.2 0 a.2.2.2.2.2.2.2.length, lst 1 fI a.2.2.1, lst 11 GRoll.av a.2.2.2.1, lst 1 fI a.2.2.2.2.1, lst 1 fI a.2.2.2.2.2.1, lst 8 GEnt.av a.2.2.2.2.2.2.1]⟩), (8, ⟨74, 4, true, true, k.2, a.2.2.2.2.2.2.2.map GPool.av⟩)])) rfl rfl rfl (yl_call rfl rfl (.cons rfl (.cons rfl (.cons rfl (.cons rfl .nil)))) cal145 ?_) ?_
  refine pcw (c := _) Tryz.func145 rfl rfl ?_; intro Q hret hnorm
  refine tc tbk 2 (.mk ?_)
  refine sB 6 fun v22 => ?_
  refine tr tbk 5 (.mk ?_)
  obtain ⟨j23, h2, h1⟩ := bind_e h1
  refine rse (Out := fun y H' => (∃ (a : Unit) (k : Nat), a = j23 ∧ y = .pt 7 k (Int.toNat a2) 0 ∧ H' = hk [(1, ⟨31, 10, true, true, v6, [(GState.av a1)]⟩), (2, ⟨42, 3, true, true, v7, [[int a5.Qty, int a5.Value, int a5.Profit]]⟩), (3, ⟨31, 10, true, true, v8, [[int 0, int 0, .sc (.slice none 0 0), .sc (.slice none 0 0), .sc (.slice none 0 0), .sc (.slice none 0 0), .sc (.slice none 0 0), .sc (.slice none 0 0), .sc (.slice none 0 0), int 0]]⟩), (4, ⟨74, 4, true, true, v18, [[lst 3 GLayer.av x17.1.Layers, int x17.1.Pend.a0, int x17.1.Pend.a1, int x17.1.Pend.a2]]⟩), (5, ⟨153, 10, true, true, v20, [[int a1.Master.Entities, int a1.Master.Periods, lst 1 fI a1.Master.Weights, lst 1 (fL 1 fI) a1.Master.Methods, lst 1 (fL 1 fI) a1.Master.Costs, .sl 7 k 0 a1.Ents.length, lst 8 GReceipt.av a1.Receipts, lst 9 GSale.av a1.Sales, lst 6 GTransit.av a1.Transits, int a1.Done]]⟩), (6, ⟨74, 4, true, true, v22, [[lst 3 GLayer.av x17.1.Layers, int x17.1.Pend.a0, int x17.1.Pend.a1, int x17.1.Pend.a2]]⟩), (7, ⟨47, 8, true, true, k, a1.Ents.map GEnt.av⟩)])) rfl rfl rfl (yl_call rfl rfl (.cons rfl (.cons rfl .nil)) cal86 ?_) ?_
  refine pcw (c := _) Tryz.func86 rfl rfl ?_; intro Q hret hnorm
  refine tc tbk 12 (.mk ?_)
  obtain ⟨p24, h2⟩ := asrt_e h2
  refine rse rfl rfl rfl (yl_call rfl rfl (.cons rfl .nil) cal28 (pc_cv (clone28_c (id := 7) (l := a1.Ents) rfl p24) (.cons (.refl _) .nil))) ?_; rintro _ _ ⟨v25, rfl, rfl⟩
  refine tr tbk 3 (.mk ?_)
  refine sS ⟨153, 10, true, true, v20, [[int a1.Master.Entities, int a1.Master.Periods, lst 1 fI a1.Master.Weights, lst 1 (fL 1 fI) a1.Master.Methods, lst 1 (fL 1 fI) a1.Master.Costs, .sl 7 v25 0 a1.Ents.length, lst 8 GReceipt.av a1.Receipts, lst 9 GSale.av a1.Sales, lst 6 GTransit.av a1.Transits, int a1.Done]]⟩ sh26 ?_
  refine tr tbk 9 (.mk ?_)
  obtain ⟨x26, e26, h2⟩ := bind_e h2
  refine sY (yv_ixO rfl Tryz.underlying26 sh47 rfl rfl rfl rfl rfl (Eq.symm rfl) (List.length_map _) e26) ?_
  refine tr tbk 2 (.mk ?_)
  obtain rfl := nxt_e h2
  refine w_ret (hret _ _ (hk [(1, ⟨31, 10, true, true, v6, [(GState.av a1)]⟩), (2, ⟨42, 3, true, true, v7, [[int a5.Qty, int a5.Value, int a5.Profit]]⟩), (3, ⟨31, 10, true, true, v8, [[int 0, int 0, .sc (.slice none 0 0), .sc (.slice none 0 0), .sc (.slice none 0 0), .sc (.slice none 0 0), .sc (.slice none 0 0), .sc (.slice none 0 0), .sc (.slice none 0 0), int 0]]⟩), (4, ⟨74, 4, true, true, v18, [[lst 3 GLayer.av x17.1.Layers, int x17.1.Pend.a0, int x17.1.Pend.a1, int x17.1.Pend.a2]]⟩), (5, ⟨153, 10, true, true, v20, [[int a1.Master.Entities, int a1.Master.Periods, lst 1 fI a1.Master.Weights, lst 1 (fL 1 fI) a1.Master.Methods, lst 1 (fL 1 fI) a1.Master.Costs, .sl 7 v25 0 a1.Ents.length, lst 8 GReceipt.av a1.Receipts, lst 9 GSale.av a1.Sales, lst 6 GTransit.av a1.Transits, int a1.Done]]⟩), (6, ⟨74, 4, true, true, v22, [[lst 3 GLayer.av x17.1.Layers, int x17.1.Pend.a0, int x17.1.Pend.a1, int x17.1.Pend.a2]]⟩), (7, ⟨47, 8, true, true, v25, a1.Ents.map GEnt.av⟩)]) (.tmp rfl .nil) (HK.le ⟨rfl, rfl, rfl, rfl, rfl, rfl, rfl, trivial⟩) ?_)
  exact ⟨(), v25, rfl, rfl, rfl⟩
  rintro y _ ⟨_, w1_1, rfl, hc, rfl⟩
  subst hc
  refine tr tbk 6 (.mk ?_)
  obtain ⟨x27, e27, h1⟩ := bind_e h1
  refine sY (yv_nilCheck rfl rfl (.pt rfl rfl (ix_get' e27 (GEnt.av_eq _)))) ?_
  refine sY (yv_fieldAddr rfl fo47_2 rfl (.pt rfl rfl (ix_get' e27 (GEnt.av_eq _))) (.pt _ _ _ _ _)) ?_
  refine sY (yv_load rfl sh44 rfl (.pt rfl rfl (ix_get' e27 (GEnt.av_eq _))) rfl) ?_
  obtain ⟨p28, h1⟩ := asrt_e h1
  refine rse rfl rfl rfl (yl_call rfl rfl (.cons rfl .nil) cal48 (pc_cv (clone48_c (id := 8) (l := x27.Pools) rfl p28) (.cons (.refl _) .nil))) ?_; rintro _ _ ⟨v29, rfl, rfl⟩
  refine sY (yv_nilCheck rfl rfl (.pt rfl rfl (ix_get' e27 (GEnt.av_eq _)))) ?_
  refine sY (yv_fieldAddr rfl fo47_2 rfl (.pt rfl rfl (ix_get' e27 (GEnt.av_eq _))) (.pt _ _ _ _ _)) ?_
  refine rsstore rfl rfl (yl_ob (ob' := (⟨47, 8, true, true, w1_1, (a1.Ents.map GEnt.av).set (Int.toNat a2) [int x27.Now, boo x27.Closed, .sl 8 v29 0 x27.Pools.length, lst 1 fI x27.Bal, lst 11 GRoll.av x27.Rolls, lst 1 fI x27.Prices, lst 1 fI x27.Down, lst 8 GEnt.av x27.Ahead]⟩ : AObj)) (yl_store rfl sh44 rfl rfl rfl rfl rfl (ix_get' e27 (GEnt.av_eq _)) rfl rfl rfl) (ob_eq rfl)) ?_
  refine tr tbk 1 (.mk ?_)
  refine c_drawE [0, 1, 3, 7, 0, 0, 63, 127] (rl [(1, [7]), (2, [7]), (3, [7]), (5, [6]), (6, [8])] []) (rl [(7, [])] [6, 7, 8]) (rl [(7, false)] true) [0, 1, 2, 3, 4, 5, 6, 7] mixed (by kernel_rfl) ?_; intro K hK
  refine eM ?_
  refine eN (hr := set_get e27) ?_
  refine eF fo47_2 (hr := set_get e27) ?_
  refine eL sh44 (hr := set_get e27) ?_
  refine eM ?_
  refine eL sh74 ?_
  obtain ⟨x30, e30, h1⟩ := bind_e h1
  refine de_pure rfl rfl rfl rfl (fun H hH => yv_ixO rfl Tryz.underlying44 sh74 rfl rfl ((hH _ (by decide)).trans rfl) rfl rfl (Eq.symm rfl) (List.length_map _) e30) ?_
  obtain ⟨x31, e31, h1⟩ := bnd_e h1
  have fx31 := ix_set e30 e31; have lx31 := len_setV e31 (rfl : x27.Pools.length = x27.Pools.length)
  refine de_eff0 rfl rfl rfl rfl (Yield.weak (yl_ob (ob' := (⟨74, 4, true, true, v29, x31.map GPool.av⟩ : AObj)) (yl_store rfl sh74 rfl rfl rfl rfl rfl (ix_get e30) rfl rfl rfl) (ob_eq (map_setV e31))) (fun _ h => h) (fun _ _ => trivial)) (by rintro _ _ ⟨rfl, rfl⟩; exact trivial) ?_; rintro _ _ ⟨rfl, rfl⟩
  refine de_nil (hK _ ?_)
  obtain rfl := nxt_e h1
  refine c_nil (hnorm _ _ (hk [(1, ⟨31, 10, true, true, v6, [(GState.av a1)]⟩), (2, ⟨42, 3, true, true, v7, [[int a5.Qty, int a5.Value, int a5.Profit]]⟩), (3, ⟨31, 10, true, true, v8, [[int 0, int 0, .sc (.slice none 0 0), .sc (.slice none 0 0), .sc (.slice none 0 0), .sc (.slice none 0 0), .sc (.slice none 0 0), .sc (.slice none 0 0), .sc (.slice none 0 0), int 0]]⟩), (4, ⟨74, 4, true, true, v18, [[lst 3 GLayer.av x17.1.Layers, int x17.1.Pend.a0, int x17.1.Pend.a1, int x17.1.Pend.a2]]⟩), (5, ⟨153, 10, true, true, v20, [[int a1.Master.Entities, int a1.Master.Periods, lst 1 fI a1.Master.Weights, lst 1 (fL 1 fI) a1.Master.Methods, lst 1 (fL 1 fI) a1.Master.Costs, .sl 7 w1_1 0 a1.Ents.length, lst 8 GReceipt.av a1.Receipts, lst 9 GSale.av a1.Sales, lst 6 GTransit.av a1.Transits, int a1.Done]]⟩), (7, ⟨47, 8, true, true, w1_1, (a1.Ents.map GEnt.av).set (Int.toNat a2) [int x27.Now, boo x27.Closed, .sl 8 v29 0 x31.length, lst 1 fI x27.Bal, lst 11 GRoll.av x27.Rolls, lst 1 fI x27.Prices, lst 1 fI x27.Down, lst 8 GEnt.av x27.Ahead]⟩), (8, ⟨74, 4, true, true, v29, x31.map GPool.av⟩)]) .nil (HK.le ⟨rfl, rfl, rfl, rfl, rfl, (by first | rfl | exact lx31 ▸ rfl), rfl, trivial⟩) ?_)
  exact ⟨(x27.Now, x27.Closed, x27.Bal, x27.Rolls, x27.Prices, x27.Down, x27.Ahead, x31), (w1_1, v29), rfl, rfl, rfl⟩
  rintro y _ ⟨⟨y3_2, y3_3, y3_5, y3_6, y3_7, y3_8, y3_9, y3_10⟩, ⟨w3_1, w3_4⟩, rfl, hc, rfl⟩
  replace h0 := p2_e h0
  replace h0 := p2_e h0
  replace h0 := p2_e h0
  replace h0 := p2_e h0
  replace h0 := p2_e h0
  replace h0 := p2_e h0
  replace h0 := p2_e h0
  subst hc
  obtain ⟨x32, e32, h0⟩ := bind_e h0
  refine tr tbk 8 (.mk ?_)
  obtain ⟨x33, e33, h0⟩ := bind_e h0
  refine sY (yv_callT (v := .tup [.agg [int x33.1.Qty, int x33.1.Value, int x33.1.Profit], boo x33.2]) rfl rfl (.cons rfl (.cons rfl (.cons rfl .nil))) cal16 (.cons (CvL.agg (.cons (.refl _) (.cons (.refl _) (.cons (.refl _) (.cons (.refl _) (.cons (.refl _) (.cons (cv_ov rfl rfl rfl rfl rfl (Eq.symm rfl) e32 (cvl_to (.cons (.refl _) (.cons (.refl _) (.cons (cv_lst rfl rfl rfl rfl rfl (Eq.symm rfl)) (.cons (.refl _) (.cons (.refl _) (.cons (.refl _) (.cons (.refl _) (.cons (.refl _) .nil)))))))) (GEnt.av_eq _))) (.cons (.refl _) (.cons (.refl _) (.cons (.refl _) (.cons (.refl _) .nil))))))))))) (.cons (.refl _) (.cons (.refl _) .nil))) (d_stock_worth_c e33) rfl) ?_
  refine tr tbk 3 (.mk ?_)
  refine sA 9 z42 fun v34 => ?_
  refine sS ⟨42, 3, true, true, v34, [[int x33.1.Qty, int x33.1.Value, int x33.1.Profit]]⟩ sh42 ?_
  refine tr tbk 3 (.mk ?_)
  refine jn h0 [5, 9, 10, 11, 12, 13, 17] [1, 2, 3, 5, 7, 8] (fun (a : Bool) (k : Unit) => [(88, boo a)]) (fun a k => []) ⟨fun j35 h1 => ?_, ?_⟩
  refine tc tbk 2 (.mk ?_)
  refine nb tbk h1 fun x36 h1 => ?_
  refine tr tbk 1 (.mk ?_)
  cases x36
  replace h1 := cf h1
  refine tr tbk 4 (.mk ?_)
  obtain ⟨x37, e37, h1⟩ := bind_e h1
  refine sY (yv_callT (v := boo x37) rfl rfl (.cons rfl (.cons rfl (.cons rfl .nil))) cal146 (.cons (CvL.agg (.cons (.refl _) (.cons (.refl _) (.cons (.refl _) (.cons (.refl _) (.cons (.refl _) (.cons (cv_ov rfl rfl rfl rfl rfl (Eq.symm rfl) e32 (cvl_to (.cons (.refl _) (.cons (.refl _) (.cons (cv_lst rfl rfl rfl rfl rfl (Eq.symm rfl)) (.cons (.refl _) (.cons (.refl _) (.cons (.refl _) (.cons (.refl _) (.cons (.refl _) .nil)))))))) (GEnt.av_eq _))) (.cons (.refl _) (.cons (.refl _) (.cons (.refl _) (.cons (.refl _) .nil))))))))))) (.cons (.refl _) (.cons (.refl _) .nil))) (d_stock_steady_c e37) rfl) ?_
  refine nb tbk h1 fun x38 h1 => ?_
  refine tr tbk 2 (.mk ?_)
  exact lf h1 () leA
  replace h1 := ct h1
  refine tr tbk 8 (.mk ?_)
  exact lf h1 () leA
  rintro y4_1 _ h0
  replace h0 := asrt_e h0
  obtain ⟨rfl, h0⟩ := h0
  refine tc tbk 3 (.mk ?_)
  refine c_drawE [0, 1, 0, 4, 0, 28, 0, 3, 191, 511, 1023] (rl [(0, [5]), (1, [5]), (2, [2]), (3, [2])] []) (rl [(7, [2])] [2, 5]) (rl [(7, false)] true) [0, 1, 2, 3, 4, 5, 6, 7, 8, 9, 10] mixed (by kernel_rfl) ?_; intro K hK
  refine eF fo153_0 ?_
  refine eL sh31 ?_
  refine eF fo42_1 ?_
  refine eL sh3 ?_
  refine eM ?_
  obtain ⟨x39, e39, h0⟩ := bnd_e h0
  refine eP (fun H hH => yv_sub rfl rfl rfl e39) ?_
  refine eM ?_
  refine de_eff0 rfl rfl rfl rfl (Yield.weak (yl_ob (ob' := (⟨31, 10, true, true, v8, [[int a1.Master.Entities, int a1.Master.Periods, lst 1 fI a1.Master.Weights, lst 1 (fL 1 fI) a1.Master.Methods, lst 1 (fL 1 fI) a1.Master.Costs, .sl 7 w3_1 0 a1.Ents.length, lst 8 GReceipt.av a1.Receipts, lst 9 GSale.av a1.Sales, lst 6 GTransit.av a1.Transits, int a1.Done]]⟩ : AObj)) (yl_store rfl sh31 rfl rfl rfl rfl rfl rfl rfl rfl rfl) rfl) (fun _ h => h) (fun _ _ => trivial)) (by rintro _ _ ⟨rfl, rfl⟩; exact ⟨rfl, trivial⟩) ?_; rintro _ _ ⟨rfl, rfl⟩
  iterate 3 refine eA ?_
  refine de_nil (hK _ ?_)
  obtain rfl := nxt_e h0
  refine wR hret (rC sh31 (rT (rT (rT .nil)))) ?_
  exact CvL.tup (.cons (CvL.agg (.cons (.refl _) (.cons (.refl _) (.cons (.refl _) (.cons (.refl _) (.cons (.refl _) (.cons (cv_ov rfl rfl rfl rfl rfl (Eq.symm rfl) e32 (cvl_to (.cons (.refl _) (.cons (.refl _) (.cons (cv_lst rfl rfl rfl rfl rfl (Eq.symm rfl)) (.cons (.refl _) (.cons (.refl _) (.cons (.refl _) (.cons (.refl _) (.cons (.refl _) .nil)))))))) (GEnt.av_eq _))) (.cons (.refl _) (.cons (.refl _) (.cons (.refl _) (.cons (.refl _) .nil))))))))))) (.cons (.refl _) (.cons (.refl _) (.cons (.refl _) .nil))))
  replace h0 := ct h0
  refine tc tbk 5 (.mk ?_)
  refine sS ⟨31, 10, true, true, v8, [(GState.av a1)]⟩ sh31 ?_
  refine tr tbk 4 (.mk ?_)
  obtain rfl := nxt_e h0
  refine wR hret (rC sh31 (rT (rT (rT .nil)))) ?_
  exact .refl _
def d_receive_Do (n : Nat) (a1 : GState) (a2 : GOp) : Option (GState × Int) :=
bnd (decide (a2.Kind ≠ 1)) fun x6 =>
asrt (x6 = false) <|
(show Option (GState × Int) from
(show Option ((Int)) from
(d_stock_Ready a1 a2.E a2.Item).bind fun x13 =>
some (x13 : Int)).bind <| fun y1_1 =>
bnd (decide (y1_1 ≠ 0)) fun x14 =>
cond x14 (some ((a1 : GState), (y1_1 : Int))) ((show Option ((Int)) from
bnd (decide ((a1.Receipts.length : Int) ≥ 40)) fun x16 =>
cond x16 (some (6 : Int)) (some (y1_1 : Int))).bind <| fun y1_1_1 =>
bnd (decide (y1_1_1 ≠ 0)) fun x17 =>
cond x17 (some ((a1 : GState), (y1_1_1 : Int))) ((show Option ((GState × Int × Int × Int)) from
(d_stock_Bring n a1 a2.E a2.Item a2.Loc (⟨a2.Qty, a2.Amount, 0⟩ : GLayer)).bind fun x19 =>
some ((x19.1 : GState), (x19.2.1 : Int), (x19.2.2.1 : Int), (x19.2.2.2 : Int))).bind <| p2 fun (y1_1_2 : GState) (q0 : Int × Int × Int) => (p2 fun (y1_2 : Int) (q1 : Int × Int) => (p2 fun (y1_3 : Int) (y1_4 : Int) =>
bnd (decide (y1_4 ≠ 0)) fun x20 =>
cond x20 (some ((y1_1_2 : GState), (y1_4 : Int))) ((show Option ((GState × Int)) from
bnd (w64 (0 - a2.Amount)) fun x22 =>
(d_stock_Post n y1_1_2 a2.E ([(⟨0, y1_2⟩ : GLine), (⟨6, y1_3⟩ : GLine), (⟨1, x22⟩ : GLine)] : List GLine)).bind fun x23 =>
some ((x23.1 : GState), (x23.2 : Int))).bind <| p2 fun (y1_1_3 : GState) (y1_2_1 : Int) =>
bnd (decide (y1_2_1 ≠ 0)) fun x24 =>
cond x24 (some ((y1_1_3 : GState), (y1_2_1 : Int))) ((show Option ((GState × Int)) from
(d_stock_Turn y1_1_3 a2.E a2.Item (⟨0, y1_2, 0, 0, 0, 0, 0, 0, 0, 0, 0⟩ : GRoll)).bind fun x26 =>
some ((x26.1 : GState), (x26.2 : Int))).bind <| p2 fun (y1_1_4 : GState) (y1_2_2 : Int) =>
bnd (decide (y1_2_2 ≠ 0)) fun x27 =>
cond x27 (some ((y1_1_4 : GState), (y1_2_2 : Int))) (some ((y1_1_4 : GState), (y1_2_2 : Int)))))) q1) q0))).bind <| p2 fun (y6_1 : GState) (y6_2 : Int) =>
bnd (decide (y6_2 ≠ 0)) fun x28 =>
cond x28 (some ((a1 : GState), (y6_2 : Int))) (asrt (y6_1.Receipts.length ≤ 68719476736) <|
bnd (y6_1.Receipts ++ ([(⟨a2.E, a2.Item, a2.Loc, a2.Qty, a2.Amount, a2.Qty, a2.Amount, 0⟩ : GReceipt)] : List GReceipt)) fun x32 =>
asrt (x32.length ≤ 68719476736) <|
some (((⟨y6_1.Master, y6_1.Ents, x32, y6_1.Sales, y6_1.Transits, y6_1.Done⟩ : GState) : GState), (0 : Int)))
theorem d_receive_Do_c {n : Nat} {a1 : GState} {a2 : GOp} {r : GState × Int} (h0 : d_receive_Do n a1 a2 = some r) : PP Tryz.prog 55 [.agg (GState.av a1), .agg (GOp.av a2)] (fun y => y = .tup [.agg (GState.av r.1), int r.2]) := by
  unfold d_receive_Do at h0
  refine pp_of_pc (R0 := fun y H => Cv (frzH H) y (.tup [.agg (GState.av r.1), int r.2])) ?_ (fun y H hc => ⟨_, rfl, .tup (pvl2 ((fun (a : GState) => PV.agg (GState.pvc a)) (r.1)) (pvI (r.2))), hc⟩)
  refine pcw (c := _) Tryz.func55 rfl rfl ?_; intro Q hret hnorm
  refine tc tbk 2 (.mk ?_)
  refine sB 1 fun v3 => ?_
  refine sB 2 fun v4 => ?_
  refine sA 3 z31 fun v5 => ?_
  refine tr tbk 8 (.mk ?_)
  refine nb tbk h0 fun x6 h0 => ?_
  refine tr tbk 1 (.mk ?_)
  replace h0 := asrt_e h0
  obtain ⟨rfl, h0⟩ := h0
  refine tc tbk 5 (.mk ?_)
  refine sA 4 z31 fun v7 => ?_
  refine sA 5 z3 fun v8 => ?_
  refine sA 6 z3 fun v9 => ?_
  refine sS ⟨31, 10, true, true, v7, [(GState.av a1)]⟩ sh31 ?_
  refine sS ⟨3, 1, true, true, v8, [[int 0]]⟩ sh3 ?_
  refine sS ⟨3, 1, true, true, v9, [[int 0]]⟩ sh3 ?_
  refine tr tbk 3 (.mk ?_)
  refine sA 7 z38 fun v10 => ?_
  refine tr tbk 8 (.mk ?_)
  refine sY (yv_buildSlice (ps := [(0, _), (1, _), (2, _), (3, _), (4, _)]) (rows := [[.fn (.func 93) [] [.pt 1 v3 0 0, .pt 2 v4 0 0, .pt 7 v10 0 0]], [.fn (.func 95) [] [.pt 1 v3 0 0, .pt 7 v10 0 0]], [.fn (.func 96) [] [.pt 1 v3 0 0, .pt 2 v4 0 0, .pt 4 v7 0 0, .pt 5 v8 0 0, .pt 6 v9 0 0, .pt 7 v10 0 0]], [.fn (.func 98) [] [.pt 4 v7 0 0, .pt 2 v4 0 0, .pt 5 v8 0 0, .pt 6 v9 0 0, .pt 7 v10 0 0]], [.fn (.func 99) [] [.pt 4 v7 0 0, .pt 2 v4 0 0, .pt 5 v8 0 0, .pt 7 v10 0 0]]]) rfl Tryz.underlying167 bz1 (.cons rfl (.cons rfl (.cons rfl (.cons rfl (.cons rfl .nil))))) (by kernel_rfl) rfl rfl rfl) ?_
  refine tr tbk 8 (.mk ?_)
  refine sY (yv_to (y := int 5) (yv_len_sl rfl Tryz.underlying167 rfl (.list _ _)) rfl) ?_
  refine tr tbk 2 (.mk ?_)
  refine jn h0 [2, 3, 4, 5, 6, 9] [1, 2, 3] (fun (a : GState × Int) (k : Unit) => []) (fun a k => [(4, ⟨31, 10, true, true, v7, [(GState.av a.1)]⟩), (7, ⟨38, 1, true, true, v10, [[int a.2]]⟩)]) ⟨fun j11 h1 => ?_, ?_⟩
  refine tc tbk 4 (.mk ?_)
  refine sY (yv_to (y := boo true) (yv_lss rfl rfl rfl) (congrArg boo (by decide))) ?_
  refine tr tbk 8 (.mk ?_)
  refine sY (yv_indexAddr (j := 0) rfl Tryz.underlying167 sh1 rfl rfl rfl (.list rfl)) ?_
  refine tr tbk 6 (.mk ?_)
  obtain ⟨j12, h2, h1⟩ := bind_e h1
  refine rse (Out := fun y H' => (∃ (a : Int) (k : Unit), a = j12 ∧ y = .tup [] ∧ H' = hk [(1, ⟨31, 10, true, true, v3, [(GState.av a1)]⟩), (2, ⟨36, 9, true, true, v4, [[int a2.Kind, int a2.E, int a2.Item, int a2.Loc, int a2.To, int a2.Qty, int a2.Amount, int a2.Ref, lst 1 fI a2.Refs]]⟩), (3, ⟨31, 10, true, true, v5, [[int 0, int 0, .sc (.slice none 0 0), .sc (.slice none 0 0), .sc (.slice none 0 0), .sc (.slice none 0 0), .sc (.slice none 0 0), .sc (.slice none 0 0), .sc (.slice none 0 0), int 0]]⟩), (4, ⟨31, 10, true, true, v7, [(GState.av a1)]⟩), (5, ⟨3, 1, true, true, v8, [[int 0]]⟩), (6, ⟨3, 1, true, true, v9, [[int 0]]⟩), (7, ⟨38, 1, true, true, v10, [[int a]]⟩)])) rfl rfl rfl (yl_call rfl rfl .nil cal93 ?_) ?_
  refine pcw (c := _) Tryz.func93 rfl rfl ?_; intro Q hret hnorm
  refine tc tbk 6 (.mk ?_)
  obtain ⟨x13, e13, h2⟩ := bind_e h2
  refine sC cal94 (d_stock_Ready_c e13) ?_
  refine sS ⟨38, 1, true, true, v10, [[int x13]]⟩ sh38 ?_
  refine tr tbk 1 (.mk ?_)
  obtain rfl := nxt_e h2
  refine g_nil (hnorm _ _ (hk [(1, ⟨31, 10, true, true, v3, [(GState.av a1)]⟩), (2, ⟨36, 9, true, true, v4, [[int a2.Kind, int a2.E, int a2.Item, int a2.Loc, int a2.To, int a2.Qty, int a2.Amount, int a2.Ref, lst 1 fI a2.Refs]]⟩), (3, ⟨31, 10, true, true, v5, [[int 0, int 0, .sc (.slice none 0 0), .sc (.slice none 0 0), .sc (.slice none 0 0), .sc (.slice none 0 0), .sc (.slice none 0 0), .sc (.slice none 0 0), .sc (.slice none 0 0), int 0]]⟩), (4, ⟨31, 10, true, true, v7, [(GState.av a1)]⟩), (5, ⟨3, 1, true, true, v8, [[int 0]]⟩), (6, ⟨3, 1, true, true, v9, [[int 0]]⟩), (7, ⟨38, 1, true, true, v10, [[int x13]]⟩)]) .nil (HK.le ⟨rfl, rfl, rfl, rfl, rfl, rfl, rfl, trivial⟩) ?_)
  exact ⟨x13, (), rfl, rfl, rfl⟩
  rintro y _ ⟨y1_1, _, rfl, hc, rfl⟩
  subst hc
  refine tr tbk 4 (.mk ?_)
  refine nb tbk h1 fun x14 h1 => ?_
  refine tr tbk 1 (.mk ?_)
  cases x14
  replace h1 := cf h1
  refine tc tbk 4 (.mk ?_)
  refine sY (yv_add (r := 1) rfl rfl rfl (by decide)) ?_
  refine tr tbk 5 (.mk ?_)
  refine sY (yv_to (y := boo true) (yv_lss rfl rfl rfl) (congrArg boo (by decide))) ?_
  refine tr tbk 8 (.mk ?_)
  refine sY (yv_indexAddr (j := 1) rfl Tryz.underlying167 sh1 rfl rfl rfl (.list rfl)) ?_
  refine tr tbk 6 (.mk ?_)
  obtain ⟨j15, h2, h1⟩ := bind_e h1
  refine rse (Out := fun y H' => (∃ (a : Int) (k : Unit), a = j15 ∧ y = .tup [] ∧ H' = hk [(1, ⟨31, 10, true, true, v3, [(GState.av a1)]⟩), (2, ⟨36, 9, true, true, v4, [[int a2.Kind, int a2.E, int a2.Item, int a2.Loc, int a2.To, int a2.Qty, int a2.Amount, int a2.Ref, lst 1 fI a2.Refs]]⟩), (3, ⟨31, 10, true, true, v5, [[int 0, int 0, .sc (.slice none 0 0), .sc (.slice none 0 0), .sc (.slice none 0 0), .sc (.slice none 0 0), .sc (.slice none 0 0), .sc (.slice none 0 0), .sc (.slice none 0 0), int 0]]⟩), (4, ⟨31, 10, true, true, v7, [(GState.av a1)]⟩), (5, ⟨3, 1, true, true, v8, [[int 0]]⟩), (6, ⟨3, 1, true, true, v9, [[int 0]]⟩), (7, ⟨38, 1, true, true, v10, [[int a]]⟩)])) rfl rfl rfl (yl_call rfl rfl .nil cal95 ?_) ?_
  refine pcw (c := _) Tryz.func95 rfl rfl ?_; intro Q hret hnorm
  refine tc tbk 4 (.mk ?_)
  refine sY (yv_len_sl rfl Tryz.underlying27 rfl (lst_len _)) ?_
  refine nb tbk h2 fun x16 h2 => ?_
  refine tr tbk 1 (.mk ?_)
  cases x16
  replace h2 := cf h2
  refine tc tbk 2 (.mk ?_)
  obtain rfl := nxt_e h2
  refine g_nil (hnorm _ _ (hk [(1, ⟨31, 10, true, true, v3, [(GState.av a1)]⟩), (2, ⟨36, 9, true, true, v4, [[int a2.Kind, int a2.E, int a2.Item, int a2.Loc, int a2.To, int a2.Qty, int a2.Amount, int a2.Ref, lst 1 fI a2.Refs]]⟩), (3, ⟨31, 10, true, true, v5, [[int 0, int 0, .sc (.slice none 0 0), .sc (.slice none 0 0), .sc (.slice none 0 0), .sc (.slice none 0 0), .sc (.slice none 0 0), .sc (.slice none 0 0), .sc (.slice none 0 0), int 0]]⟩), (4, ⟨31, 10, true, true, v7, [(GState.av a1)]⟩), (5, ⟨3, 1, true, true, v8, [[int 0]]⟩), (6, ⟨3, 1, true, true, v9, [[int 0]]⟩), (7, ⟨38, 1, true, true, v10, [[int y1_1]]⟩)]) .nil (HK.le ⟨rfl, rfl, rfl, rfl, rfl, rfl, rfl, trivial⟩) ?_)
  exact ⟨y1_1, (), rfl, rfl, rfl⟩
  replace h2 := ct h2
  refine tc tbk 2 (.mk ?_)
  refine sS ⟨38, 1, true, true, v10, [[int 6]]⟩ sh38 ?_
  refine tr tbk 1 (.mk ?_)
  obtain rfl := nxt_e h2
  refine g_nil (hnorm _ _ (hk [(1, ⟨31, 10, true, true, v3, [(GState.av a1)]⟩), (2, ⟨36, 9, true, true, v4, [[int a2.Kind, int a2.E, int a2.Item, int a2.Loc, int a2.To, int a2.Qty, int a2.Amount, int a2.Ref, lst 1 fI a2.Refs]]⟩), (3, ⟨31, 10, true, true, v5, [[int 0, int 0, .sc (.slice none 0 0), .sc (.slice none 0 0), .sc (.slice none 0 0), .sc (.slice none 0 0), .sc (.slice none 0 0), .sc (.slice none 0 0), .sc (.slice none 0 0), int 0]]⟩), (4, ⟨31, 10, true, true, v7, [(GState.av a1)]⟩), (5, ⟨3, 1, true, true, v8, [[int 0]]⟩), (6, ⟨3, 1, true, true, v9, [[int 0]]⟩), (7, ⟨38, 1, true, true, v10, [[int 6]]⟩)]) .nil (HK.le ⟨rfl, rfl, rfl, rfl, rfl, rfl, rfl, trivial⟩) ?_)
  exact ⟨6, (), rfl, rfl, rfl⟩
  rintro y _ ⟨y1_1_1, _, rfl, hc, rfl⟩
  subst hc
  refine tr tbk 4 (.mk ?_)
  refine nb tbk h1 fun x17 h1 => ?_
  refine tr tbk 1 (.mk ?_)
  cases x17
  replace h1 := cf h1
  refine tc tbk 4 (.mk ?_)
  refine sY (yv_add (r := 2) rfl rfl rfl (by decide)) ?_
  refine tr tbk 5 (.mk ?_)
  refine sY (yv_to (y := boo true) (yv_lss rfl rfl rfl) (congrArg boo (by decide))) ?_
  refine tr tbk 8 (.mk ?_)
  refine sY (yv_indexAddr (j := 2) rfl Tryz.underlying167 sh1 rfl rfl rfl (.list rfl)) ?_
  refine tr tbk 6 (.mk ?_)
  obtain ⟨j18, h2, h1⟩ := bind_e h1
  refine rse (Out := fun y H' => (∃ (a : GState × Int × Int × Int) (k : Unit), a = j18 ∧ y = .tup [] ∧ H' = hk [(1, ⟨31, 10, true, true, v3, [(GState.av a1)]⟩), (2, ⟨36, 9, true, true, v4, [[int a2.Kind, int a2.E, int a2.Item, int a2.Loc, int a2.To, int a2.Qty, int a2.Amount, int a2.Ref, lst 1 fI a2.Refs]]⟩), (3, ⟨31, 10, true, true, v5, [[int 0, int 0, .sc (.slice none 0 0), .sc (.slice none 0 0), .sc (.slice none 0 0), .sc (.slice none 0 0), .sc (.slice none 0 0), .sc (.slice none 0 0), .sc (.slice none 0 0), int 0]]⟩), (4, ⟨31, 10, true, true, v7, [(GState.av a.1)]⟩), (5, ⟨3, 1, true, true, v8, [[int a.2.1]]⟩), (6, ⟨3, 1, true, true, v9, [[int a.2.2.1]]⟩), (7, ⟨38, 1, true, true, v10, [[int a.2.2.2]]⟩)])) rfl rfl rfl (yl_call rfl rfl .nil cal96 ?_) ?_
  refine pcw (c := _) Tryz.func96 rfl rfl ?_; intro Q hret hnorm
  refine tc tbk 13 (.mk ?_)
  obtain ⟨x19, e19, h2⟩ := bind_e h2
  refine sC cal97 (d_stock_Bring_c e19) ?_
  refine tr tbk 5 (.mk ?_)
  refine sS ⟨31, 10, true, true, v7, [(GState.av x19.1)]⟩ sh31 ?_
  refine sS ⟨3, 1, true, true, v8, [[int x19.2.1]]⟩ sh3 ?_
  refine sS ⟨3, 1, true, true, v9, [[int x19.2.2.1]]⟩ sh3 ?_
  refine sS ⟨38, 1, true, true, v10, [[int x19.2.2.2]]⟩ sh38 ?_
  refine tr tbk 1 (.mk ?_)
  obtain rfl := nxt_e h2
  refine g_nil (hnorm _ _ (hk [(1, ⟨31, 10, true, true, v3, [(GState.av a1)]⟩), (2, ⟨36, 9, true, true, v4, [[int a2.Kind, int a2.E, int a2.Item, int a2.Loc, int a2.To, int a2.Qty, int a2.Amount, int a2.Ref, lst 1 fI a2.Refs]]⟩), (3, ⟨31, 10, true, true, v5, [[int 0, int 0, .sc (.slice none 0 0), .sc (.slice none 0 0), .sc (.slice none 0 0), .sc (.slice none 0 0), .sc (.slice none 0 0), .sc (.slice none 0 0), .sc (.slice none 0 0), int 0]]⟩), (4, ⟨31, 10, true, true, v7, [(GState.av x19.1)]⟩), (5, ⟨3, 1, true, true, v8, [[int x19.2.1]]⟩), (6, ⟨3, 1, true, true, v9, [[int x19.2.2.1]]⟩), (7, ⟨38, 1, true, true, v10, [[int x19.2.2.2]]⟩)]) .nil (HK.le ⟨rfl, rfl, rfl, rfl, rfl, rfl, rfl, trivial⟩) ?_)
  exact ⟨(x19.1, x19.2.1, x19.2.2.1, x19.2.2.2), (), rfl, rfl, rfl⟩
  rintro y _ ⟨⟨y1_1_2, y1_2, y1_3, y1_4⟩, _, rfl, hc, rfl⟩
  replace h1 := p2_e h1
  replace h1 := p2_e h1
  replace h1 := p2_e h1
  subst hc
  refine tr tbk 4 (.mk ?_)
  refine nb tbk h1 fun x20 h1 => ?_
  refine tr tbk 1 (.mk ?_)
  cases x20
  replace h1 := cf h1
  refine tc tbk 4 (.mk ?_)
  refine sY (yv_add (r := 3) rfl rfl rfl (by decide)) ?_
  refine tr tbk 5 (.mk ?_)
  refine sY (yv_to (y := boo true) (yv_lss rfl rfl rfl) (congrArg boo (by decide))) ?_
  refine tr tbk 8 (.mk ?_)
  refine sY (yv_indexAddr (j := 3) rfl Tryz.underlying167 sh1 rfl rfl rfl (.list rfl)) ?_
  refine tr tbk 6 (.mk ?_)
  obtain ⟨j21, h2, h1⟩ := bind_e h1
  refine rse (Out := fun y H' => (∃ (a : GState × Int) (k : Unit), a = j21 ∧ y = .tup [] ∧ H' = hk [(1, ⟨31, 10, true, true, v3, [(GState.av a1)]⟩), (2, ⟨36, 9, true, true, v4, [[int a2.Kind, int a2.E, int a2.Item, int a2.Loc, int a2.To, int a2.Qty, int a2.Amount, int a2.Ref, lst 1 fI a2.Refs]]⟩), (3, ⟨31, 10, true, true, v5, [[int 0, int 0, .sc (.slice none 0 0), .sc (.slice none 0 0), .sc (.slice none 0 0), .sc (.slice none 0 0), .sc (.slice none 0 0), .sc (.slice none 0 0), .sc (.slice none 0 0), int 0]]⟩), (4, ⟨31, 10, true, true, v7, [(GState.av a.1)]⟩), (5, ⟨3, 1, true, true, v8, [[int y1_2]]⟩), (6, ⟨3, 1, true, true, v9, [[int y1_3]]⟩), (7, ⟨38, 1, true, true, v10, [[int a.2]]⟩)])) rfl rfl rfl (yl_call rfl rfl .nil cal98 ?_) ?_
  refine pcw (c := _) Tryz.func98 rfl rfl ?_; intro Q hret hnorm
  refine tc tbk 10 (.mk ?_)
  refine ni tbk h2 fun x22 h2 => ?_
  refine tr tbk 1 (.mk ?_)
  refine sY (yv_to (y := lst 2 GLine.av ([(⟨0, y1_2⟩ : GLine), (⟨6, y1_3⟩ : GLine), (⟨1, x22⟩ : GLine)] : List GLine)) (yv_buildSlice (ps := [(0, _), (1, _), (2, _)]) (rows := [[int 0, int y1_2], [int 6, int y1_3], [int 1, int x22]]) rfl Tryz.underlying109 bz108 (.cons rfl (.cons rfl (.cons rfl .nil))) (by kernel_rfl) rfl rfl rfl) rfl) ?_
  obtain ⟨x23, e23, h2⟩ := bind_e h2
  refine sC cal49 (d_stock_Post_c e23) ?_
  refine tr tbk 3 (.mk ?_)
  refine sS ⟨31, 10, true, true, v7, [(GState.av x23.1)]⟩ sh31 ?_
  refine sS ⟨38, 1, true, true, v10, [[int x23.2]]⟩ sh38 ?_
  refine tr tbk 1 (.mk ?_)
  obtain rfl := nxt_e h2
  refine g_nil (hnorm _ _ (hk [(1, ⟨31, 10, true, true, v3, [(GState.av a1)]⟩), (2, ⟨36, 9, true, true, v4, [[int a2.Kind, int a2.E, int a2.Item, int a2.Loc, int a2.To, int a2.Qty, int a2.Amount, int a2.Ref, lst 1 fI a2.Refs]]⟩), (3, ⟨31, 10, true, true, v5, [[int 0, int 0, .sc (.slice none 0 0), .sc (.slice none 0 0), .sc (.slice none 0 0), .sc (.slice none 0 0), .sc (.slice none 0 0), .sc (.slice none 0 0), .sc (.slice none 0 0), int 0]]⟩), (4, ⟨31, 10, true, true, v7, [(GState.av x23.1)]⟩), (5, ⟨3, 1, true, true, v8, [[int y1_2]]⟩), (6, ⟨3, 1, true, true, v9, [[int y1_3]]⟩), (7, ⟨38, 1, true, true, v10, [[int x23.2]]⟩)]) .nil (HK.le ⟨rfl, rfl, rfl, rfl, rfl, rfl, rfl, trivial⟩) ?_)
  exact ⟨(x23.1, x23.2), (), rfl, rfl, rfl⟩
  rintro y _ ⟨⟨y1_1_3, y1_2_1⟩, _, rfl, hc, rfl⟩
  replace h1 := p2_e h1
  subst hc
  refine tr tbk 4 (.mk ?_)
  refine nb tbk h1 fun x24 h1 => ?_
  refine tr tbk 1 (.mk ?_)
  cases x24
  replace h1 := cf h1
  refine tc tbk 4 (.mk ?_)
  refine sY (yv_add (r := 4) rfl rfl rfl (by decide)) ?_
  refine tr tbk 5 (.mk ?_)
  refine sY (yv_to (y := boo true) (yv_lss rfl rfl rfl) (congrArg boo (by decide))) ?_
  refine tr tbk 8 (.mk ?_)
  refine sY (yv_indexAddr (j := 4) rfl Tryz.underlying167 sh1 rfl rfl rfl (.list rfl)) ?_
  refine tr tbk 6 (.mk ?_)
  obtain ⟨j25, h2, h1⟩ := bind_e h1
  refine rse (Out := fun y H' => (∃ (a : GState × Int) (k : Unit), a = j25 ∧ y = .tup [] ∧ H' = hk [(1, ⟨31, 10, true, true, v3, [(GState.av a1)]⟩), (2, ⟨36, 9, true, true, v4, [[int a2.Kind, int a2.E, int a2.Item, int a2.Loc, int a2.To, int a2.Qty, int a2.Amount, int a2.Ref, lst 1 fI a2.Refs]]⟩), (3, ⟨31, 10, true, true, v5, [[int 0, int 0, .sc (.slice none 0 0), .sc (.slice none 0 0), .sc (.slice none 0 0), .sc (.slice none 0 0), .sc (.slice none 0 0), .sc (.slice none 0 0), .sc (.slice none 0 0), int 0]]⟩), (4, ⟨31, 10, true, true, v7, [(GState.av a.1)]⟩), (5, ⟨3, 1, true, true, v8, [[int y1_2]]⟩), (6, ⟨3, 1, true, true, v9, [[int y1_3]]⟩), (7, ⟨38, 1, true, true, v10, [[int a.2]]⟩)])) rfl rfl rfl (yl_call rfl rfl .nil cal99 ?_) ?_
  refine pcw (c := _) Tryz.func99 rfl rfl ?_; intro Q hret hnorm
  refine tc tbk 7 (.mk ?_)
  refine sY (yv_build (cs := [int 0, int y1_2, int 0, int 0, int 0, int 0, int 0, int 0, int 0, int 0, int 0]) (ps := [(1, _)]) rfl pl83 z83 rfl (.cons rfl .nil) (by kernel_rfl)) ?_
  obtain ⟨x26, e26, h2⟩ := bind_e h2
  refine sC cal50 (d_stock_Turn_c e26) ?_
  refine tr tbk 3 (.mk ?_)
  refine sS ⟨31, 10, true, true, v7, [(GState.av x26.1)]⟩ sh31 ?_
  refine sS ⟨38, 1, true, true, v10, [[int x26.2]]⟩ sh38 ?_
  refine tr tbk 1 (.mk ?_)
  obtain rfl := nxt_e h2
  refine g_nil (hnorm _ _ (hk [(1, ⟨31, 10, true, true, v3, [(GState.av a1)]⟩), (2, ⟨36, 9, true, true, v4, [[int a2.Kind, int a2.E, int a2.Item, int a2.Loc, int a2.To, int a2.Qty, int a2.Amount, int a2.Ref, lst 1 fI a2.Refs]]⟩), (3, ⟨31, 10, true, true, v5, [[int 0, int 0, .sc (.slice none 0 0), .sc (.slice none 0 0), .sc (.slice none 0 0), .sc (.slice none 0 0), .sc (.slice none 0 0), .sc (.slice none 0 0), .sc (.slice none 0 0), int 0]]⟩), (4, ⟨31, 10, true, true, v7, [(GState.av x26.1)]⟩), (5, ⟨3, 1, true, true, v8, [[int y1_2]]⟩), (6, ⟨3, 1, true, true, v9, [[int y1_3]]⟩), (7, ⟨38, 1, true, true, v10, [[int x26.2]]⟩)]) .nil (HK.le ⟨rfl, rfl, rfl, rfl, rfl, rfl, rfl, trivial⟩) ?_)
  exact ⟨(x26.1, x26.2), (), rfl, rfl, rfl⟩
  rintro y _ ⟨⟨y1_1_4, y1_2_2⟩, _, rfl, hc, rfl⟩
  replace h1 := p2_e h1
  subst hc
  refine tr tbk 4 (.mk ?_)
  refine nb tbk h1 fun x27 h1 => ?_
  refine tr tbk 1 (.mk ?_)
  cases x27
  replace h1 := cf h1
  refine tc tbk 4 (.mk ?_)
  refine sY (yv_add (r := 5) rfl rfl rfl (by decide)) ?_
  refine tr tbk 5 (.mk ?_)
  refine sY (yv_to (y := boo false) (yv_lss rfl rfl rfl) (congrArg boo (by decide))) ?_
  refine tr tbk 4 (.mk ?_)
  exact lf h1 () leA
  replace h1 := ct h1
  refine tc tbk 2 (.mk ?_)
  exact lf h1 () leA
  replace h1 := ct h1
  refine tc tbk 2 (.mk ?_)
  exact lf h1 () leA
  replace h1 := ct h1
  refine tc tbk 2 (.mk ?_)
  exact lf h1 () leA
  replace h1 := ct h1
  refine tc tbk 2 (.mk ?_)
  exact lf h1 () leA
  replace h1 := ct h1
  refine tc tbk 2 (.mk ?_)
  exact lf h1 () leA
  rintro ⟨y6_1, y6_2⟩ _ h0
  replace h0 := p2_e h0
  refine tc tbk 4 (.mk ?_)
  refine nb tbk h0 fun x28 h0 => ?_
  refine tr tbk 1 (.mk ?_)
  cases x28
  replace h0 := cf h0
  refine tc tbk 18 (.mk ?_)
  refine sY (yv_build (cs := [int a2.E, int a2.Item, int a2.Loc, int a2.Qty, int a2.Amount, int a2.Qty, int a2.Amount, int 0]) (ps := [(0, _), (1, _), (2, _), (3, _), (4, _), (5, _), (6, _)]) rfl pl129 z129 rfl (.cons rfl (.cons rfl (.cons rfl (.cons rfl (.cons rfl (.cons rfl (.cons rfl .nil))))))) (by kernel_rfl)) ?_
  refine sA 8 z129 fun v29 => ?_
  refine sS ⟨129, 8, true, true, v29, [[int a2.E, int a2.Item, int a2.Loc, int a2.Qty, int a2.Amount, int a2.Qty, int a2.Amount, int 0]]⟩ sh129 ?_
  refine tr tbk 2 (.mk ?_)
  refine c_drawE [0, 1, 3, 0, 8, 31, 63, 127] (rl [(0, [4]), (1, [4]), (3, [8]), (6, [4])] []) (rl [(2, [8]), (5, []), (7, [])] [4, 8]) (rl [(2, false), (5, false), (7, false)] true) [0, 1, 3, 4, 2, 5, 6, 7] mixed (by kernel_rfl) ?_; intro K hK
  refine eF fo31_2 ?_
  refine eL sh27 ?_
  refine eL sh129 ?_
  refine eP (fun H hH => yv_to (y := lst 8 GReceipt.av ([(⟨a2.E, a2.Item, a2.Loc, a2.Qty, a2.Amount, a2.Qty, a2.Amount, 0⟩ : GReceipt)] : List GReceipt)) (yv_buildSlice (ps := [(0, _)]) (rows := [[int a2.E, int a2.Item, int a2.Loc, int a2.Qty, int a2.Amount, int a2.Qty, int a2.Amount, int 0]]) rfl Tryz.underlying27 bz129 (.cons rfl .nil) (by kernel_rfl) rfl rfl rfl) rfl) ?_
  obtain ⟨p30, h0⟩ := asrt_e h0
  refine de_eff rfl rfl rfl rfl (yl_call rfl rfl (.cons rfl .nil) cal100 (pc_cv (clone100_c (id := 9) (l := y6_1.Receipts) rfl p30) (.cons (.refl _) .nil))) (by rintro _ _ ⟨v31, rfl, rfl⟩; exact ⟨rfl, trivial⟩) ?_; rintro _ _ ⟨v31, rfl, rfl⟩
  obtain ⟨x32, e32, h0⟩ := bnd_e h0
  obtain ⟨p33, h0⟩ := asrt_e h0
  refine de_eff rfl rfl rfl rfl (yl_appT (g := GReceipt.av) (l := y6_1.Receipts) (m := ([(⟨a2.E, a2.Item, a2.Loc, a2.Qty, a2.Amount, a2.Qty, a2.Amount, 0⟩ : GReceipt)] : List GReceipt)) .any rfl Tryz.underlying27 bz129 by129 rfl rfl rfl rfl rfl rfl rfl rfl rfl rfl (Eq.symm rfl) (.refl _) (fun _ => rfl) e32 p33) (by rintro _ _ ⟨v34, -, rfl, rfl⟩; exact trivial) ?_; rintro _ _ ⟨v34, -, rfl, rfl⟩
  refine eF fo31_2 ?_
  refine de_eff0 rfl rfl rfl rfl (Yield.weak (yl_ob (ob' := (⟨31, 10, true, true, v7, [[int y6_1.Master.Entities, int y6_1.Master.Periods, lst 1 fI y6_1.Master.Weights, lst 1 (fL 1 fI) y6_1.Master.Methods, lst 1 (fL 1 fI) y6_1.Master.Costs, lst 8 GEnt.av y6_1.Ents, .sl 9 v34 0 x32.length, lst 9 GSale.av y6_1.Sales, lst 6 GTransit.av y6_1.Transits, int y6_1.Done]]⟩ : AObj)) (yl_store rfl sh27 rfl rfl rfl rfl rfl rfl rfl rfl rfl) rfl) (fun _ h => h) (fun _ _ => trivial)) (by rintro _ _ ⟨rfl, rfl⟩; exact trivial) ?_; rintro _ _ ⟨rfl, rfl⟩
  refine de_nil (hK _ ?_)
  refine tc tbk 3 (.mk ?_)
  refine sS ⟨31, 10, true, true, v5, [[int y6_1.Master.Entities, int y6_1.Master.Periods, lst 1 fI y6_1.Master.Weights, lst 1 (fL 1 fI) y6_1.Master.Methods, lst 1 (fL 1 fI) y6_1.Master.Costs, lst 8 GEnt.av y6_1.Ents, .sl 9 v34 0 x32.length, lst 9 GSale.av y6_1.Sales, lst 6 GTransit.av y6_1.Transits, int y6_1.Done]]⟩ sh31 ?_
  refine tr tbk 2 (.mk ?_)
  obtain rfl := nxt_e h0
  refine wR hret (rC sh31 (rT .nil)) ?_
  exact CvL.tup (.cons (CvL.agg (.cons (.refl _) (.cons (.refl _) (.cons (.refl _) (.cons (.refl _) (.cons (.refl _) (.cons (.refl _) (.cons (cv_lst rfl rfl rfl rfl rfl (Eq.symm rfl)) (.cons (.refl _) (.cons (.refl _) (.cons (.refl _) .nil))))))))))) (.cons (.refl _) .nil))
  replace h0 := ct h0
  refine tc tbk 2 (.mk ?_)
  refine c_drawE [0, 0, 1, 7] (rl [(0, [1]), (1, [7])] []) (rl [(2, [7])] [1, 7]) (rl [(2, false)] true) [0, 1, 2, 3] mixed (by kernel_rfl) ?_; intro K hK
  refine eL sh31 ?_
  refine eL sh38 ?_
  refine de_eff0 rfl rfl rfl rfl (Yield.weak (yl_ob (ob' := (⟨31, 10, true, true, v5, [(GState.av a1)]⟩ : AObj)) (yl_store rfl sh31 rfl rfl rfl rfl rfl rfl rfl rfl rfl) rfl) (fun _ h => h) (fun _ _ => trivial)) (by rintro _ _ ⟨rfl, rfl⟩; exact ⟨rfl, trivial⟩) ?_; rintro _ _ ⟨rfl, rfl⟩
  refine eA ?_
  refine de_nil (hK _ ?_)
  obtain rfl := nxt_e h0
  refine wR hret (rC sh31 (rT .nil)) ?_
  exact .refl _
def d_apply_Do (n : Nat) (a1 : GState) (a2 : GOp) : Option (GState × Int) :=
(show Option ((Unit) ⊕ (Unit) ⊕ (Unit) ⊕ (Unit)) from
bnd (decide (a2.Kind = 1)) fun x7 =>
cond x7 (some (.inr (.inr (.inr ())))) (bnd (decide (a2.Kind = 4)) fun x8 =>
(show Option (Bool) from
cond x8 (some (true : Bool)) (bnd (decide (a2.Kind = 5)) fun x10 =>
some (x10 : Bool))).bind <| fun y0_1 =>
cond y0_1 (some (.inr (.inr (.inl ())))) (bnd (decide (a2.Kind = 6)) fun x11 =>
(show Option (Bool) from
cond x11 (some (true : Bool)) (bnd (decide (a2.Kind = 7)) fun x13 =>
cond x13 (some (true : Bool)) (bnd (decide (a2.Kind = 8)) fun x14 =>
cond x14 (some (true : Bool)) (bnd (decide (a2.Kind = 9)) fun x15 =>
some (x15 : Bool))))).bind <| fun y1_1 =>
cond y1_1 (some (.inr (.inl ()))) (bnd (decide (a2.Kind = 2)) fun x16 =>
(show Option (Bool) from
cond x16 (some (true : Bool)) (bnd (decide (a2.Kind = 3)) fun x18 =>
some (x18 : Bool))).bind <| fun y2_1 =>
asrt (y2_1 = false) <|
bnd (decide (a2.Kind = 11)) fun x19 =>
asrt (x19 = false) <|
bnd (decide (a2.Kind = 12)) fun x20 =>
(show Option (Bool) from
cond x20 (some (true : Bool)) (bnd (decide (a2.Kind = 13)) fun x22 =>
some (x22 : Bool))).bind <| fun y3_1 =>
asrt (y3_1 = false) <|
bnd (decide (a2.Kind = 10)) fun x23 =>
asrt (x23 = false) <|
some (.inl ()))))).bind <| selr (fun _ =>
(show Option (Unit) from
(d_ops_Check a2).bind fun x25 =>
bnd (!x25) fun x26 =>
cond x26 (some ()) (some ())).bind <| fun _ =>
some ((a1 : GState), (1 : Int))) <| selr (fun _ =>
(show Option (Bool) from
(d_ops_Check a2).bind fun x28 =>
bnd (!x28) fun x29 =>
cond x29 (some (true : Bool)) (some (false : Bool))).bind <| fun y12_1 =>
asrt (y12_1 = false) <|
(show Option ((GState × Int)) from
(show Option ((GState × Int)) from
asrt (a2.Kind = 6) <|
(d_stock_Ready a1 a2.E a2.Item).bind fun x40 =>
bnd (decide (x40 ≠ 0)) fun x41 =>
asrt (x41 = false) <|
(d_adjust_scrap n a1 a2).bind fun x42 =>
bnd (decide (x42.2 ≠ 0)) fun x44 =>
cond x44 (some ((a1 : GState), (x42.2 : Int))) (some ((x42.1 : GState), (0 : Int)))).bind <| p2 fun (y15_1 : GState) (y15_2 : Int) =>
some ((y15_1 : GState), (y15_2 : Int))).bind <| p2 fun (y16_1 : GState) (y16_2 : Int) =>
bnd (decide (y16_2 ≠ 0)) fun x46 =>
cond x46 (some ((a1 : GState), (y16_2 : Int))) (bnd (w64 (y16_1.Done + 1)) fun x47 =>
bnd (if 288230376151711744 < x47 then 288230376151711744 else x47) fun x48 =>
some (((⟨y16_1.Master, y16_1.Ents, y16_1.Receipts, y16_1.Sales, y16_1.Transits, x48⟩ : GState) : GState), (0 : Int)))) <| selr (fun _ =>
(show Option (Bool) from
(d_ops_Check a2).bind fun x50 =>
bnd (!x50) fun x51 =>
cond x51 (some (true : Bool)) (some (false : Bool))).bind <| fun y12_1 =>
asrt (y12_1 = false) <|
(show Option ((GState × Int)) from
(d_sell_Do n a1 a2).bind fun x56 =>
some ((x56.1 : GState), (x56.2 : Int))).bind <| p2 fun (y18_1 : GState) (y18_2 : Int) =>
bnd (decide (y18_2 ≠ 0)) fun x58 =>
cond x58 (some ((a1 : GState), (y18_2 : Int))) (bnd (w64 (y18_1.Done + 1)) fun x59 =>
bnd (if 288230376151711744 < x59 then 288230376151711744 else x59) fun x60 =>
some (((⟨y18_1.Master, y18_1.Ents, y18_1.Receipts, y18_1.Sales, y18_1.Transits, x60⟩ : GState) : GState), (0 : Int)))) <| fun _ =>
(show Option (Bool) from
(d_ops_Check a2).bind fun x62 =>
bnd (!x62) fun x63 =>
cond x63 (some (true : Bool)) (some (false : Bool))).bind <| fun y12_1 =>
asrt (y12_1 = false) <|
(show Option ((GState × Int)) from
(d_receive_Do n a1 a2).bind fun x68 =>
some ((x68.1 : GState), (x68.2 : Int))).bind <| p2 fun (y20_1 : GState) (y20_2 : Int) =>
bnd (decide (y20_2 ≠ 0)) fun x70 =>
cond x70 (some ((a1 : GState), (y20_2 : Int))) (bnd (w64 (y20_1.Done + 1)) fun x71 =>
bnd (if 288230376151711744 < x71 then 288230376151711744 else x71) fun x72 =>
some (((⟨y20_1.Master, y20_1.Ents, y20_1.Receipts, y20_1.Sales, y20_1.Transits, x72⟩ : GState) : GState), (0 : Int)))
theorem d_apply_Do_c {n : Nat} {a1 : GState} {a2 : GOp} {r : GState × Int} (h0 : d_apply_Do n a1 a2 = some r) : PP Tryz.prog 15 [.agg (GState.av a1), .agg (GOp.av a2)] (fun y => y = .tup [.agg (GState.av r.1), int r.2]) := by
  unfold d_apply_Do at h0
  refine pp_of_pc (R0 := fun y H => Cv (frzH H) y (.tup [.agg (GState.av r.1), int r.2])) ?_ (fun y H hc => ⟨_, rfl, .tup (pvl2 ((fun (a : GState) => PV.agg (GState.pvc a)) (r.1)) (pvI (r.2))), hc⟩)
  refine pcw (c := _) Tryz.func15 rfl rfl ?_; intro Q hret hnorm
  refine tc tbk 2 (.mk ?_)
  refine sB 1 fun v3 => ?_
  refine sB 2 fun v4 => ?_
  refine sA 3 z31 fun v5 => ?_
  refine tr tbk 6 (.mk ?_)
  obtain ⟨j6, h1, h0⟩ := bind_e h0
  refine rse (Out := fun y H' => (∃ (a : Unit) (k : Unit), (.inl a) = j6 ∧ y = .sc .nilIface ∧ H' = hk [(1, ⟨31, 10, true, true, v3, [(GState.av a1)]⟩), (2, ⟨36, 9, true, true, v4, [[int a2.Kind, int a2.E, int a2.Item, int a2.Loc, int a2.To, int a2.Qty, int a2.Amount, int a2.Ref, lst 1 fI a2.Refs]]⟩), (3, ⟨31, 10, true, true, v5, [[int 0, int 0, .sc (.slice none 0 0), .sc (.slice none 0 0), .sc (.slice none 0 0), .sc (.slice none 0 0), .sc (.slice none 0 0), .sc (.slice none 0 0), .sc (.slice none 0 0), int 0]]⟩)]) ∨ (∃ (a : Unit) (k : Unit), (.inr (.inl a)) = j6 ∧ y = .ifc 115 (.fn (.func 57) [] []) ∧ H' = hk [(1, ⟨31, 10, true, true, v3, [(GState.av a1)]⟩), (2, ⟨36, 9, true, true, v4, [[int a2.Kind, int a2.E, int a2.Item, int a2.Loc, int a2.To, int a2.Qty, int a2.Amount, int a2.Ref, lst 1 fI a2.Refs]]⟩), (3, ⟨31, 10, true, true, v5, [[int 0, int 0, .sc (.slice none 0 0), .sc (.slice none 0 0), .sc (.slice none 0 0), .sc (.slice none 0 0), .sc (.slice none 0 0), .sc (.slice none 0 0), .sc (.slice none 0 0), int 0]]⟩)]) ∨ (∃ (a : Unit) (k : Unit), (.inr (.inr (.inl a))) = j6 ∧ y = .ifc 115 (.fn (.func 56) [] []) ∧ H' = hk [(1, ⟨31, 10, true, true, v3, [(GState.av a1)]⟩), (2, ⟨36, 9, true, true, v4, [[int a2.Kind, int a2.E, int a2.Item, int a2.Loc, int a2.To, int a2.Qty, int a2.Amount, int a2.Ref, lst 1 fI a2.Refs]]⟩), (3, ⟨31, 10, true, true, v5, [[int 0, int 0, .sc (.slice none 0 0), .sc (.slice none 0 0), .sc (.slice none 0 0), .sc (.slice none 0 0), .sc (.slice none 0 0), .sc (.slice none 0 0), .sc (.slice none 0 0), int 0]]⟩)]) ∨ (∃ (a : Unit) (k : Unit), (.inr (.inr (.inr a))) = j6 ∧ y = .ifc 115 (.fn (.func 55) [] []) ∧ H' = hk [(1, ⟨31, 10, true, true, v3, [(GState.av a1)]⟩), (2, ⟨36, 9, true, true, v4, [[int a2.Kind, int a2.E, int a2.Item, int a2.Loc, int a2.To, int a2.Qty, int a2.Amount, int a2.Ref, lst 1 fI a2.Refs]]⟩), (3, ⟨31, 10, true, true, v5, [[int 0, int 0, .sc (.slice none 0 0), .sc (.slice none 0 0), .sc (.slice none 0 0), .sc (.slice none 0 0), .sc (.slice none 0 0), .sc (.slice none 0 0), .sc (.slice none 0 0), int 0]]⟩)])) rfl rfl rfl (yl_call rfl rfl (.cons rfl .nil) cal31 ?_) ?_
  refine pcw (c := _) Tryz.func31 rfl rfl ?_; intro Q hret hnorm
  refine tc tbk 12 (.mk ?_)
  refine nb tbk h1 fun x7 h1 => ?_
  refine tr tbk 2 (.mk ?_)
  cases x7
  replace h1 := cf h1
  refine tc tbk 4 (.mk ?_)
  refine nb tbk h1 fun x8 h1 => ?_
  refine tr tbk 2 (.mk ?_)
  refine jn h1 [2, 3] [1, 2, 3] (fun (a : Bool) (k : Unit) => [(7, boo a)]) (fun a k => []) ⟨fun j9 h2 => ?_, ?_⟩
  cases x8
  replace h2 := cf h2
  refine tc tbk 2 (.mk ?_)
  refine nb tbk h2 fun x10 h2 => ?_
  refine tr tbk 2 (.mk ?_)
  exact lf h2 () leA
  replace h2 := ct h2
  refine tc tbk 2 (.mk ?_)
  exact lf h2 () leA
  rintro y0_1 _ h1
  cases y0_1
  replace h1 := cf h1
  refine tc tbk 4 (.mk ?_)
  refine nb tbk h1 fun x11 h1 => ?_
  refine tr tbk 2 (.mk ?_)
  refine jn h1 [2, 3] [1, 2, 3] (fun (a : Bool) (k : Unit) => [(11, boo a)]) (fun a k => []) ⟨fun j12 h2 => ?_, ?_⟩
  cases x11
  replace h2 := cf h2
  refine tc tbk 3 (.mk ?_)
  refine nb tbk h2 fun x13 h2 => ?_
  refine tr tbk 2 (.mk ?_)
  cases x13
  replace h2 := cf h2
  refine tc tbk 3 (.mk ?_)
  refine nb tbk h2 fun x14 h2 => ?_
  refine tr tbk 2 (.mk ?_)
  cases x14
  replace h2 := cf h2
  refine tc tbk 2 (.mk ?_)
  refine nb tbk h2 fun x15 h2 => ?_
  refine tr tbk 2 (.mk ?_)
  exact lf h2 () leA
  replace h2 := ct h2
  refine tc tbk 2 (.mk ?_)
  exact lf h2 () leA
  replace h2 := ct h2
  refine tc tbk 2 (.mk ?_)
  exact lf h2 () leA
  replace h2 := ct h2
  refine tc tbk 2 (.mk ?_)
  exact lf h2 () leA
  rintro y1_1 _ h1
  cases y1_1
  replace h1 := cf h1
  refine tc tbk 4 (.mk ?_)
  refine nb tbk h1 fun x16 h1 => ?_
  refine tr tbk 2 (.mk ?_)
  refine jn h1 [2, 3] [1, 2, 3] (fun (a : Bool) (k : Unit) => [(17, boo a)]) (fun a k => []) ⟨fun j17 h2 => ?_, ?_⟩
  cases x16
  replace h2 := cf h2
  refine tc tbk 2 (.mk ?_)
  refine nb tbk h2 fun x18 h2 => ?_
  refine tr tbk 2 (.mk ?_)
  exact lf h2 () leA
  replace h2 := ct h2
  refine tc tbk 2 (.mk ?_)
  exact lf h2 () leA
  rintro y2_1 _ h1
  replace h1 := asrt_e h1
  obtain ⟨rfl, h1⟩ := h1
  refine tc tbk 3 (.mk ?_)
  refine nb tbk h1 fun x19 h1 => ?_
  refine tr tbk 2 (.mk ?_)
  replace h1 := asrt_e h1
  obtain ⟨rfl, h1⟩ := h1
  refine tc tbk 4 (.mk ?_)
  refine nb tbk h1 fun x20 h1 => ?_
  refine tr tbk 2 (.mk ?_)
  refine jn h1 [2, 3] [1, 2, 3] (fun (a : Bool) (k : Unit) => [(24, boo a)]) (fun a k => []) ⟨fun j21 h2 => ?_, ?_⟩
  cases x20
  replace h2 := cf h2
  refine tc tbk 2 (.mk ?_)
  refine nb tbk h2 fun x22 h2 => ?_
  refine tr tbk 2 (.mk ?_)
  exact lf h2 () leA
  replace h2 := ct h2
  refine tc tbk 2 (.mk ?_)
  exact lf h2 () leA
  rintro y3_1 _ h1
  replace h1 := asrt_e h1
  obtain ⟨rfl, h1⟩ := h1
  refine tc tbk 3 (.mk ?_)
  refine nb tbk h1 fun x23 h1 => ?_
  refine tr tbk 2 (.mk ?_)
  replace h1 := asrt_e h1
  obtain ⟨rfl, h1⟩ := h1
  refine tc tbk 7 (.mk ?_)
  obtain rfl := nxt_e h1
  refine w_ret (hret _ _ (hk [(1, ⟨31, 10, true, true, v3, [(GState.av a1)]⟩), (2, ⟨36, 9, true, true, v4, [[int a2.Kind, int a2.E, int a2.Item, int a2.Loc, int a2.To, int a2.Qty, int a2.Amount, int a2.Ref, lst 1 fI a2.Refs]]⟩), (3, ⟨31, 10, true, true, v5, [[int 0, int 0, .sc (.slice none 0 0), .sc (.slice none 0 0), .sc (.slice none 0 0), .sc (.slice none 0 0), .sc (.slice none 0 0), .sc (.slice none 0 0), .sc (.slice none 0 0), int 0]]⟩)]) (.tmp rfl .nil) (HK.le ⟨rfl, rfl, rfl, trivial⟩) ?_)
  exact (.inl ⟨(), (), rfl, rfl, rfl⟩)
  replace h1 := ct h1
  refine tc tbk 3 (.mk ?_)
  refine sY (yv_makeIface rfl Tryz.underlying115 (by intro _ h; cases h) rfl) ?_
  refine tr tbk 2 (.mk ?_)
  obtain rfl := nxt_e h1
  refine w_ret (hret _ _ (hk [(1, ⟨31, 10, true, true, v3, [(GState.av a1)]⟩), (2, ⟨36, 9, true, true, v4, [[int a2.Kind, int a2.E, int a2.Item, int a2.Loc, int a2.To, int a2.Qty, int a2.Amount, int a2.Ref, lst 1 fI a2.Refs]]⟩), (3, ⟨31, 10, true, true, v5, [[int 0, int 0, .sc (.slice none 0 0), .sc (.slice none 0 0), .sc (.slice none 0 0), .sc (.slice none 0 0), .sc (.slice none 0 0), .sc (.slice none 0 0), .sc (.slice none 0 0), int 0]]⟩)]) (.tmp rfl .nil) (HK.le ⟨rfl, rfl, rfl, trivial⟩) ?_)
  exact (.inr (.inl ⟨(), (), rfl, rfl, rfl⟩))
  replace h1 := ct h1
  refine tc tbk 3 (.mk ?_)
  refine sY (yv_makeIface rfl Tryz.underlying115 (by intro _ h; cases h) rfl) ?_
  refine tr tbk 2 (.mk ?_)
  obtain rfl := nxt_e h1
  refine w_ret (hret _ _ (hk [(1, ⟨31, 10, true, true, v3, [(GState.av a1)]⟩), (2, ⟨36, 9, true, true, v4, [[int a2.Kind, int a2.E, int a2.Item, int a2.Loc, int a2.To, int a2.Qty, int a2.Amount, int a2.Ref, lst 1 fI a2.Refs]]⟩), (3, ⟨31, 10, true, true, v5, [[int 0, int 0, .sc (.slice none 0 0), .sc (.slice none 0 0), .sc (.slice none 0 0), .sc (.slice none 0 0), .sc (.slice none 0 0), .sc (.slice none 0 0), .sc (.slice none 0 0), int 0]]⟩)]) (.tmp rfl .nil) (HK.le ⟨rfl, rfl, rfl, trivial⟩) ?_)
  exact (.inr (.inr (.inl ⟨(), (), rfl, rfl, rfl⟩)))
  replace h1 := ct h1
  refine tc tbk 3 (.mk ?_)
  refine sY (yv_makeIface rfl Tryz.underlying115 (by intro _ h; cases h) rfl) ?_
  refine tr tbk 2 (.mk ?_)
  obtain rfl := nxt_e h1
  refine w_ret (hret _ _ (hk [(1, ⟨31, 10, true, true, v3, [(GState.av a1)]⟩), (2, ⟨36, 9, true, true, v4, [[int a2.Kind, int a2.E, int a2.Item, int a2.Loc, int a2.To, int a2.Qty, int a2.Amount, int a2.Ref, lst 1 fI a2.Refs]]⟩), (3, ⟨31, 10, true, true, v5, [[int 0, int 0, .sc (.slice none 0 0), .sc (.slice none 0 0), .sc (.slice none 0 0), .sc (.slice none 0 0), .sc (.slice none 0 0), .sc (.slice none 0 0), .sc (.slice none 0 0), int 0]]⟩)]) (.tmp rfl .nil) (HK.le ⟨rfl, rfl, rfl, trivial⟩) ?_)
  exact (.inr (.inr (.inr ⟨(), (), rfl, rfl, rfl⟩)))
  rintro y _ (⟨_, _, rfl, hc, rfl⟩ | ⟨_, _, rfl, hc, rfl⟩ | ⟨_, _, rfl, hc, rfl⟩ | ⟨_, _, rfl, hc, rfl⟩)
  replace h0 := selr_l h0
  subst hc
  refine tr tbk 4 (.mk ?_)
  refine jn h0 [2, 3, 4, 5, 6] [1, 2, 3] (fun (a : Unit) (k : Unit) => [(18, boo true)]) (fun a k => []) ⟨fun j24 h1 => ?_, ?_⟩
  refine tc tbk 2 (.mk ?_)
  obtain ⟨x25, e25, h1⟩ := bind_e h1
  refine sC cal11 (d_ops_Check_c e25) ?_
  refine nb tbk h1 fun x26 h1 => ?_
  refine tr tbk 1 (.mk ?_)
  cases x26
  replace h1 := cf h1
  refine tr tbk 1 (.mk ?_)
  refine sY (yv_ifeqN rfl Tryz.underlying85 rfl rfl) ?_
  refine tr tbk 2 (.mk ?_)
  exact lf h1 () leA
  replace h1 := ct h1
  refine tr tbk 4 (.mk ?_)
  exact lf h1 () leA
  rintro _ _ h0
  refine tc tbk 4 (.mk ?_)
  refine sS ⟨31, 10, true, true, v5, [(GState.av a1)]⟩ sh31 ?_
  refine tr tbk 2 (.mk ?_)
  obtain rfl := nxt_e h0
  refine wR hret (rC sh31 (rT .nil)) ?_
  exact .refl _
  replace h0 := selr_r h0
  replace h0 := selr_l h0
  subst hc
  refine tr tbk 4 (.mk ?_)
  refine jn h0 [2, 3, 4, 5, 6] [1, 2, 3] (fun (a : Bool) (k : Unit) => [(18, boo a)]) (fun a k => []) ⟨fun j27 h1 => ?_, ?_⟩
  refine tc tbk 2 (.mk ?_)
  obtain ⟨x28, e28, h1⟩ := bind_e h1
  refine sC cal11 (d_ops_Check_c e28) ?_
  refine nb tbk h1 fun x29 h1 => ?_
  refine tr tbk 1 (.mk ?_)
  cases x29
  replace h1 := cf h1
  refine tr tbk 1 (.mk ?_)
  refine sY (yv_ifeq rfl Tryz.underlying85 rfl rfl) ?_
  refine tr tbk 2 (.mk ?_)
  exact lf h1 () leA
  replace h1 := ct h1
  refine tr tbk 4 (.mk ?_)
  exact lf h1 () leA
  rintro y12_1 _ h0
  replace h0 := asrt_e h0
  obtain ⟨rfl, h0⟩ := h0
  refine tc tbk 7 (.mk ?_)
  obtain ⟨j30, h1, h0⟩ := bind_e h0
  refine rse (Out := fun y H' => (∃ (a : GState × Int) (k : Unit), a = j30 ∧ y = .tup [.agg (GState.av a.1), int a.2] ∧ H' = hk [(1, ⟨31, 10, true, true, v3, [(GState.av a1)]⟩), (2, ⟨36, 9, true, true, v4, [[int a2.Kind, int a2.E, int a2.Item, int a2.Loc, int a2.To, int a2.Qty, int a2.Amount, int a2.Ref, lst 1 fI a2.Refs]]⟩), (3, ⟨31, 10, true, true, v5, [[int 0, int 0, .sc (.slice none 0 0), .sc (.slice none 0 0), .sc (.slice none 0 0), .sc (.slice none 0 0), .sc (.slice none 0 0), .sc (.slice none 0 0), .sc (.slice none 0 0), int 0]]⟩)])) rfl rfl rfl (yl_callI rfl rfl mth115_232 (.cons rfl (.cons rfl .nil)) cal232 ?_) ?_
  refine pcw (c := _) Tryz.func232 rfl rfl ?_; intro Q hret hnorm
  refine tc tbk 2 (.mk ?_)
  refine sB 13 fun v31 => ?_
  refine sB 14 fun v32 => ?_
  refine sA 15 z31 fun v33 => ?_
  refine tr tbk 7 (.mk ?_)
  obtain ⟨j34, h2, h1⟩ := bind_e h1
  refine rse (Out := fun y H' => (∃ (a : GState × Int) (k : Unit), a = j34 ∧ y = .tup [.agg (GState.av a.1), int a.2] ∧ H' = hk [(1, ⟨31, 10, true, true, v3, [(GState.av a1)]⟩), (2, ⟨36, 9, true, true, v4, [[int a2.Kind, int a2.E, int a2.Item, int a2.Loc, int a2.To, int a2.Qty, int a2.Amount, int a2.Ref, lst 1 fI a2.Refs]]⟩), (3, ⟨31, 10, true, true, v5, [[int 0, int 0, .sc (.slice none 0 0), .sc (.slice none 0 0), .sc (.slice none 0 0), .sc (.slice none 0 0), .sc (.slice none 0 0), .sc (.slice none 0 0), .sc (.slice none 0 0), int 0]]⟩), (13, ⟨31, 10, true, true, v31, [(GState.av a1)]⟩), (14, ⟨36, 9, true, true, v32, [[int a2.Kind, int a2.E, int a2.Item, int a2.Loc, int a2.To, int a2.Qty, int a2.Amount, int a2.Ref, lst 1 fI a2.Refs]]⟩), (15, ⟨31, 10, true, true, v33, [[int 0, int 0, .sc (.slice none 0 0), .sc (.slice none 0 0), .sc (.slice none 0 0), .sc (.slice none 0 0), .sc (.slice none 0 0), .sc (.slice none 0 0), .sc (.slice none 0 0), int 0]]⟩)])) rfl rfl rfl (yl_call rfl rfl (.cons rfl (.cons rfl .nil)) cal57 ?_) ?_
  refine pcw (c := _) Tryz.func57 rfl rfl ?_; intro Q hret hnorm
  refine tc tbk 2 (.mk ?_)
  refine sB 16 fun v35 => ?_
  refine sB 17 fun v36 => ?_
  refine sA 18 z31 fun v37 => ?_
  refine tr tbk 3 (.mk ?_)
  refine c_drawE [0, 0, 2, 7, 15, 31, 31, 0, 191, 511] (rl [(1, [17]), (2, [17])] []) (rl [(8, [])] [17]) (rl [(7, false), (8, false)] true) [0, 1, 2, 3, 4, 5, 6, 7, 8, 9] mixed (by kernel_rfl) ?_; intro K hK
  refine eP (fun H hH => yv_callP rfl rfl .nil cal104 (CvL.refl _) map104_c) ?_
  refine eF fo36_0 ?_
  refine eL sh3 ?_
  obtain ⟨p38, h2⟩ := asrt_e h2
  refine eP (fun H hH => yv_lookup (j := 0) rfl Tryz.underlying173 Tryz.underlying3 rfl rfl ((congrArg (fix · _) p38).trans rfl) rfl) ?_
  refine eM ?_
  iterate 2 refine eX ?_
  refine de_eff rfl rfl rfl rfl (yl_alloc 19 .any rfl z171 rfl) (by rintro _ _ ⟨v39, -, rfl, rfl⟩; exact ⟨rfl, trivial⟩) ?_; rintro _ _ ⟨v39, -, rfl, rfl⟩
  refine de_eff0 rfl rfl rfl rfl (Yield.weak (yl_ob (ob' := (⟨171, 1, true, true, v39, [[.fn (.func 152) [] []]]⟩ : AObj)) (yl_store rfl sh171 rfl rfl rfl rfl rfl rfl rfl rfl rfl) rfl) (fun _ h => h) (fun _ _ => trivial)) (by rintro _ _ ⟨rfl, rfl⟩; exact trivial) ?_; rintro _ _ ⟨rfl, rfl⟩
  refine eA ?_
  refine de_nil (hK _ ?_)
  refine tc tbk 16 (.mk ?_)
  obtain ⟨x40, e40, h2⟩ := bind_e h2
  refine sC cal94 (d_stock_Ready_c e40) ?_
  refine tr tbk 5 (.mk ?_)
  refine nb tbk h2 fun x41 h2 => ?_
  refine tr tbk 1 (.mk ?_)
  replace h2 := asrt_e h2
  obtain ⟨rfl, h2⟩ := h2
  refine tc tbk 8 (.mk ?_)
  obtain ⟨x42, e42, h2⟩ := bind_e h2
  refine sC cal152 (d_adjust_scrap_c e42) ?_
  refine tr tbk 3 (.mk ?_)
  refine sA 20 z31 fun v43 => ?_
  refine sS ⟨31, 10, true, true, v43, [(GState.av x42.1)]⟩ sh31 ?_
  refine tr tbk 6 (.mk ?_)
  refine nb tbk h2 fun x44 h2 => ?_
  refine tr tbk 1 (.mk ?_)
  cases x44
  replace h2 := cf h2
  refine tc tbk 5 (.mk ?_)
  refine sS ⟨31, 10, true, true, v37, [(GState.av x42.1)]⟩ sh31 ?_
  refine tr tbk 2 (.mk ?_)
  obtain rfl := nxt_e h2
  refine w_ret (hret _ _ (hk [(1, ⟨31, 10, true, true, v3, [(GState.av a1)]⟩), (2, ⟨36, 9, true, true, v4, [[int a2.Kind, int a2.E, int a2.Item, int a2.Loc, int a2.To, int a2.Qty, int a2.Amount, int a2.Ref, lst 1 fI a2.Refs]]⟩), (3, ⟨31, 10, true, true, v5, [[int 0, int 0, .sc (.slice none 0 0), .sc (.slice none 0 0), .sc (.slice none 0 0), .sc (.slice none 0 0), .sc (.slice none 0 0), .sc (.slice none 0 0), .sc (.slice none 0 0), int 0]]⟩), (13, ⟨31, 10, true, true, v31, [(GState.av a1)]⟩), (14, ⟨36, 9, true, true, v32, [[int a2.Kind, int a2.E, int a2.Item, int a2.Loc, int a2.To, int a2.Qty, int a2.Amount, int a2.Ref, lst 1 fI a2.Refs]]⟩), (15, ⟨31, 10, true, true, v33, [[int 0, int 0, .sc (.slice none 0 0), .sc (.slice none 0 0), .sc (.slice none 0 0), .sc (.slice none 0 0), .sc (.slice none 0 0), .sc (.slice none 0 0), .sc (.slice none 0 0), int 0]]⟩)]) (.cell rfl (.pt rfl rfl rfl) sh31 rfl (.tmp rfl .nil)) (HK.le ⟨rfl, rfl, rfl, rfl, rfl, rfl, trivial⟩) ?_)
  exact ⟨(x42.1, 0), (), rfl, rfl, rfl⟩
  replace h2 := ct h2
  refine tc tbk 5 (.mk ?_)
  refine sS ⟨31, 10, true, true, v37, [(GState.av a1)]⟩ sh31 ?_
  refine tr tbk 2 (.mk ?_)
  obtain rfl := nxt_e h2
  refine w_ret (hret _ _ (hk [(1, ⟨31, 10, true, true, v3, [(GState.av a1)]⟩), (2, ⟨36, 9, true, true, v4, [[int a2.Kind, int a2.E, int a2.Item, int a2.Loc, int a2.To, int a2.Qty, int a2.Amount, int a2.Ref, lst 1 fI a2.Refs]]⟩), (3, ⟨31, 10, true, true, v5, [[int 0, int 0, .sc (.slice none 0 0), .sc (.slice none 0 0), .sc (.slice none 0 0), .sc (.slice none 0 0), .sc (.slice none 0 0), .sc (.slice none 0 0), .sc (.slice none 0 0), int 0]]⟩), (13, ⟨31, 10, true, true, v31, [(GState.av a1)]⟩), (14, ⟨36, 9, true, true, v32, [[int a2.Kind, int a2.E, int a2.Item, int a2.Loc, int a2.To, int a2.Qty, int a2.Amount, int a2.Ref, lst 1 fI a2.Refs]]⟩), (15, ⟨31, 10, true, true, v33, [[int 0, int 0, .sc (.slice none 0 0), .sc (.slice none 0 0), .sc (.slice none 0 0), .sc (.slice none 0 0), .sc (.slice none 0 0), .sc (.slice none 0 0), .sc (.slice none 0 0), int 0]]⟩)]) (.cell rfl (.pt rfl rfl rfl) sh31 rfl (.tmp rfl .nil)) (HK.le ⟨rfl, rfl, rfl, rfl, rfl, rfl, trivial⟩) ?_)
  exact ⟨(a1, x42.2), (), rfl, rfl, rfl⟩
  rintro y _ ⟨⟨y15_1, y15_2⟩, _, rfl, hc, rfl⟩
  replace h1 := p2_e h1
  subst hc
  refine tr tbk 2 (.mk ?_)
  refine sS ⟨31, 10, true, true, v33, [(GState.av y15_1)]⟩ sh31 ?_
  refine tr tbk 2 (.mk ?_)
  obtain rfl := nxt_e h1
  refine w_ret (hret _ _ (hk [(1, ⟨31, 10, true, true, v3, [(GState.av a1)]⟩), (2, ⟨36, 9, true, true, v4, [[int a2.Kind, int a2.E, int a2.Item, int a2.Loc, int a2.To, int a2.Qty, int a2.Amount, int a2.Ref, lst 1 fI a2.Refs]]⟩), (3, ⟨31, 10, true, true, v5, [[int 0, int 0, .sc (.slice none 0 0), .sc (.slice none 0 0), .sc (.slice none 0 0), .sc (.slice none 0 0), .sc (.slice none 0 0), .sc (.slice none 0 0), .sc (.slice none 0 0), int 0]]⟩)]) (.cell rfl (.pt rfl rfl rfl) sh31 rfl (.tmp rfl .nil)) (HK.le ⟨rfl, rfl, rfl, trivial⟩) ?_)
  exact ⟨(y15_1, y15_2), (), rfl, rfl, rfl⟩
  rintro y _ ⟨⟨y16_1, y16_2⟩, _, rfl, hc, rfl⟩
  replace h0 := p2_e h0
  subst hc
  refine tr tbk 3 (.mk ?_)
  refine sA 12 z31 fun v45 => ?_
  refine sS ⟨31, 10, true, true, v45, [(GState.av y16_1)]⟩ sh31 ?_
  refine tr tbk 6 (.mk ?_)
  refine nb tbk h0 fun x46 h0 => ?_
  refine tr tbk 1 (.mk ?_)
  cases x46
  replace h0 := cf h0
  refine tc tbk 6 (.mk ?_)
  refine ni tbk h0 fun x47 h0 => ?_
  obtain ⟨x48, e48, h0⟩ := bnd_e h0
  refine sY (yv_min rfl rfl rfl e48) ?_
  refine tr tbk 1 (.mk ?_)
  refine sS ⟨31, 10, true, true, v45, [[int y16_1.Master.Entities, int y16_1.Master.Periods, lst 1 fI y16_1.Master.Weights, lst 1 (fL 1 fI) y16_1.Master.Methods, lst 1 (fL 1 fI) y16_1.Master.Costs, lst 8 GEnt.av y16_1.Ents, lst 8 GReceipt.av y16_1.Receipts, lst 9 GSale.av y16_1.Sales, lst 6 GTransit.av y16_1.Transits, int x48]]⟩ sh3 ?_
  refine tr tbk 4 (.mk ?_)
  refine sS ⟨31, 10, true, true, v5, [[int y16_1.Master.Entities, int y16_1.Master.Periods, lst 1 fI y16_1.Master.Weights, lst 1 (fL 1 fI) y16_1.Master.Methods, lst 1 (fL 1 fI) y16_1.Master.Costs, lst 8 GEnt.av y16_1.Ents, lst 8 GReceipt.av y16_1.Receipts, lst 9 GSale.av y16_1.Sales, lst 6 GTransit.av y16_1.Transits, int x48]]⟩ sh31 ?_
  refine tr tbk 2 (.mk ?_)
  obtain rfl := nxt_e h0
  refine wR hret (rC sh31 (rT .nil)) ?_
  exact .refl _
  replace h0 := ct h0
  refine tc tbk 5 (.mk ?_)
  refine sS ⟨31, 10, true, true, v5, [(GState.av a1)]⟩ sh31 ?_
  refine tr tbk 2 (.mk ?_)
  obtain rfl := nxt_e h0
  refine wR hret (rC sh31 (rT .nil)) ?_
  exact .refl _
  replace h0 := selr_r h0
  replace h0 := selr_r h0
  replace h0 := selr_l h0
  subst hc
  refine tr tbk 4 (.mk ?_)
  refine jn h0 [2, 3, 4, 5, 6] [1, 2, 3] (fun (a : Bool) (k : Unit) => [(18, boo a)]) (fun a k => []) ⟨fun j49 h1 => ?_, ?_⟩
  refine tc tbk 2 (.mk ?_)
  obtain ⟨x50, e50, h1⟩ := bind_e h1
  refine sC cal11 (d_ops_Check_c e50) ?_
  refine nb tbk h1 fun x51 h1 => ?_
  refine tr tbk 1 (.mk ?_)
  cases x51
  replace h1 := cf h1
  refine tr tbk 1 (.mk ?_)
  refine sY (yv_ifeq rfl Tryz.underlying85 rfl rfl) ?_
  refine tr tbk 2 (.mk ?_)
  exact lf h1 () leA
  replace h1 := ct h1
  refine tr tbk 4 (.mk ?_)
  exact lf h1 () leA
  rintro y12_1 _ h0
  replace h0 := asrt_e h0
  obtain ⟨rfl, h0⟩ := h0
  refine tc tbk 7 (.mk ?_)
  obtain ⟨j52, h1, h0⟩ := bind_e h0
  refine rse (Out := fun y H' => (∃ (a : GState × Int) (k : Unit), a = j52 ∧ y = .tup [.agg (GState.av a.1), int a.2] ∧ H' = hk [(1, ⟨31, 10, true, true, v3, [(GState.av a1)]⟩), (2, ⟨36, 9, true, true, v4, [[int a2.Kind, int a2.E, int a2.Item, int a2.Loc, int a2.To, int a2.Qty, int a2.Amount, int a2.Ref, lst 1 fI a2.Refs]]⟩), (3, ⟨31, 10, true, true, v5, [[int 0, int 0, .sc (.slice none 0 0), .sc (.slice none 0 0), .sc (.slice none 0 0), .sc (.slice none 0 0), .sc (.slice none 0 0), .sc (.slice none 0 0), .sc (.slice none 0 0), int 0]]⟩)])) rfl rfl rfl (yl_callI rfl rfl mth115_232 (.cons rfl (.cons rfl .nil)) cal232 ?_) ?_
  refine pcw (c := _) Tryz.func232 rfl rfl ?_; intro Q hret hnorm
  refine tc tbk 2 (.mk ?_)
  refine sB 24 fun v53 => ?_
  refine sB 25 fun v54 => ?_
  refine sA 26 z31 fun v55 => ?_
  refine tr tbk 7 (.mk ?_)
  obtain ⟨x56, e56, h1⟩ := bind_e h1
  refine sC cal56 (d_sell_Do_c e56) ?_
  refine tr tbk 2 (.mk ?_)
  refine sS ⟨31, 10, true, true, v55, [(GState.av x56.1)]⟩ sh31 ?_
  refine tr tbk 2 (.mk ?_)
  obtain rfl := nxt_e h1
  refine w_ret (hret _ _ (hk [(1, ⟨31, 10, true, true, v3, [(GState.av a1)]⟩), (2, ⟨36, 9, true, true, v4, [[int a2.Kind, int a2.E, int a2.Item, int a2.Loc, int a2.To, int a2.Qty, int a2.Amount, int a2.Ref, lst 1 fI a2.Refs]]⟩), (3, ⟨31, 10, true, true, v5, [[int 0, int 0, .sc (.slice none 0 0), .sc (.slice none 0 0), .sc (.slice none 0 0), .sc (.slice none 0 0), .sc (.slice none 0 0), .sc (.slice none 0 0), .sc (.slice none 0 0), int 0]]⟩)]) (.cell rfl (.pt rfl rfl rfl) sh31 rfl (.tmp rfl .nil)) (HK.le ⟨rfl, rfl, rfl, trivial⟩) ?_)
  exact ⟨(x56.1, x56.2), (), rfl, rfl, rfl⟩
  rintro y _ ⟨⟨y18_1, y18_2⟩, _, rfl, hc, rfl⟩
  replace h0 := p2_e h0
  subst hc
  refine tr tbk 3 (.mk ?_)
  refine sA 12 z31 fun v57 => ?_
  refine sS ⟨31, 10, true, true, v57, [(GState.av y18_1)]⟩ sh31 ?_
  refine tr tbk 6 (.mk ?_)
  refine nb tbk h0 fun x58 h0 => ?_
  refine tr tbk 1 (.mk ?_)
  cases x58
  replace h0 := cf h0
  refine tc tbk 6 (.mk ?_)
  refine ni tbk h0 fun x59 h0 => ?_
  obtain ⟨x60, e60, h0⟩ := bnd_e h0
  refine sY (yv_min rfl rfl rfl e60) ?_
  refine tr tbk 1 (.mk ?_)
  refine sS ⟨31, 10, true, true, v57, [[int y18_1.Master.Entities, int y18_1.Master.Periods, lst 1 fI y18_1.Master.Weights, lst 1 (fL 1 fI) y18_1.Master.Methods, lst 1 (fL 1 fI) y18_1.Master.Costs, lst 8 GEnt.av y18_1.Ents, lst 8 GReceipt.av y18_1.Receipts, lst 9 GSale.av y18_1.Sales, lst 6 GTransit.av y18_1.Transits, int x60]]⟩ sh3 ?_
  refine tr tbk 4 (.mk ?_)
  refine sS ⟨31, 10, true, true, v5, [[int y18_1.Master.Entities, int y18_1.Master.Periods, lst 1 fI y18_1.Master.Weights, lst 1 (fL 1 fI) y18_1.Master.Methods, lst 1 (fL 1 fI) y18_1.Master.Costs, lst 8 GEnt.av y18_1.Ents, lst 8 GReceipt.av y18_1.Receipts, lst 9 GSale.av y18_1.Sales, lst 6 GTransit.av y18_1.Transits, int x60]]⟩ sh31 ?_
  refine tr tbk 2 (.mk ?_)
  obtain rfl := nxt_e h0
  refine wR hret (rC sh31 (rT .nil)) ?_
  exact .refl _
  replace h0 := ct h0
  refine tc tbk 5 (.mk ?_)
  refine sS ⟨31, 10, true, true, v5, [(GState.av a1)]⟩ sh31 ?_
  refine tr tbk 2 (.mk ?_)
  obtain rfl := nxt_e h0
  refine wR hret (rC sh31 (rT .nil)) ?_
  exact .refl _
  replace h0 := selr_r h0
  replace h0 := selr_r h0
  replace h0 := selr_r h0
  subst hc
  refine tr tbk 4 (.mk ?_)
  refine jn h0 [2, 3, 4, 5, 6] [1, 2, 3] (fun (a : Bool) (k : Unit) => [(18, boo a)]) (fun a k => []) ⟨fun j61 h1 => ?_, ?_⟩
  refine tc tbk 2 (.mk ?_)
  obtain ⟨x62, e62, h1⟩ := bind_e h1
  refine sC cal11 (d_ops_Check_c e62) ?_
  refine nb tbk h1 fun x63 h1 => ?_
  refine tr tbk 1 (.mk ?_)
  cases x63
  replace h1 := cf h1
  refine tr tbk 1 (.mk ?_)
  refine sY (yv_ifeq rfl Tryz.underlying85 rfl rfl) ?_
  refine tr tbk 2 (.mk ?_)
  exact lf h1 () leA
  replace h1 := ct h1
  refine tr tbk 4 (.mk ?_)
  exact lf h1 () leA
  rintro y12_1 _ h0
  replace h0 := asrt_e h0
  obtain ⟨rfl, h0⟩ := h0
  refine tc tbk 7 (.mk ?_)
  obtain ⟨j64, h1, h0⟩ := bind_e h0
  refine rse (Out := fun y H' => (∃ (a : GState × Int) (k : Unit), a = j64 ∧ y = .tup [.agg (GState.av a.1), int a.2] ∧ H' = hk [(1, ⟨31, 10, true, true, v3, [(GState.av a1)]⟩), (2, ⟨36, 9, true, true, v4, [[int a2.Kind, int a2.E, int a2.Item, int a2.Loc, int a2.To, int a2.Qty, int a2.Amount, int a2.Ref, lst 1 fI a2.Refs]]⟩), (3, ⟨31, 10, true, true, v5, [[int 0, int 0, .sc (.slice none 0 0), .sc (.slice none 0 0), .sc (.slice none 0 0), .sc (.slice none 0 0), .sc (.slice none 0 0), .sc (.slice none 0 0), .sc (.slice none 0 0), int 0]]⟩)])) rfl rfl rfl (yl_callI rfl rfl mth115_232 (.cons rfl (.cons rfl .nil)) cal232 ?_) ?_
  refine pcw (c := _) Tryz.func232 rfl rfl ?_; intro Q hret hnorm
  refine tc tbk 2 (.mk ?_)
  refine sB 30 fun v65 => ?_
  refine sB 31 fun v66 => ?_
  refine sA 32 z31 fun v67 => ?_
  refine tr tbk 7 (.mk ?_)
  obtain ⟨x68, e68, h1⟩ := bind_e h1
  refine sC cal55 (d_receive_Do_c e68) ?_
  refine tr tbk 2 (.mk ?_)
  refine sS ⟨31, 10, true, true, v67, [(GState.av x68.1)]⟩ sh31 ?_
  refine tr tbk 2 (.mk ?_)
  obtain rfl := nxt_e h1
  refine w_ret (hret _ _ (hk [(1, ⟨31, 10, true, true, v3, [(GState.av a1)]⟩), (2, ⟨36, 9, true, true, v4, [[int a2.Kind, int a2.E, int a2.Item, int a2.Loc, int a2.To, int a2.Qty, int a2.Amount, int a2.Ref, lst 1 fI a2.Refs]]⟩), (3, ⟨31, 10, true, true, v5, [[int 0, int 0, .sc (.slice none 0 0), .sc (.slice none 0 0), .sc (.slice none 0 0), .sc (.slice none 0 0), .sc (.slice none 0 0), .sc (.slice none 0 0), .sc (.slice none 0 0), int 0]]⟩)]) (.cell rfl (.pt rfl rfl rfl) sh31 rfl (.tmp rfl .nil)) (HK.le ⟨rfl, rfl, rfl, trivial⟩) ?_)
  exact ⟨(x68.1, x68.2), (), rfl, rfl, rfl⟩
  rintro y _ ⟨⟨y20_1, y20_2⟩, _, rfl, hc, rfl⟩
  replace h0 := p2_e h0
  subst hc
  refine tr tbk 3 (.mk ?_)
  refine sA 12 z31 fun v69 => ?_
  refine sS ⟨31, 10, true, true, v69, [(GState.av y20_1)]⟩ sh31 ?_
  refine tr tbk 6 (.mk ?_)
  refine nb tbk h0 fun x70 h0 => ?_
  refine tr tbk 1 (.mk ?_)
  cases x70
  replace h0 := cf h0
  refine tc tbk 6 (.mk ?_)
  refine ni tbk h0 fun x71 h0 => ?_
  obtain ⟨x72, e72, h0⟩ := bnd_e h0
  refine sY (yv_min rfl rfl rfl e72) ?_
  refine tr tbk 1 (.mk ?_)
  refine sS ⟨31, 10, true, true, v69, [[int y20_1.Master.Entities, int y20_1.Master.Periods, lst 1 fI y20_1.Master.Weights, lst 1 (fL 1 fI) y20_1.Master.Methods, lst 1 (fL 1 fI) y20_1.Master.Costs, lst 8 GEnt.av y20_1.Ents, lst 8 GReceipt.av y20_1.Receipts, lst 9 GSale.av y20_1.Sales, lst 6 GTransit.av y20_1.Transits, int x72]]⟩ sh3 ?_
  refine tr tbk 4 (.mk ?_)
  refine sS ⟨31, 10, true, true, v5, [[int y20_1.Master.Entities, int y20_1.Master.Periods, lst 1 fI y20_1.Master.Weights, lst 1 (fL 1 fI) y20_1.Master.Methods, lst 1 (fL 1 fI) y20_1.Master.Costs, lst 8 GEnt.av y20_1.Ents, lst 8 GReceipt.av y20_1.Receipts, lst 9 GSale.av y20_1.Sales, lst 6 GTransit.av y20_1.Transits, int x72]]⟩ sh31 ?_
  refine tr tbk 2 (.mk ?_)
  obtain rfl := nxt_e h0
  refine wR hret (rC sh31 (rT .nil)) ?_
  exact .refl _
  replace h0 := ct h0
  refine tc tbk 5 (.mk ?_)
  refine sS ⟨31, 10, true, true, v5, [(GState.av a1)]⟩ sh31 ?_
  refine tr tbk 2 (.mk ?_)
  obtain rfl := nxt_e h0
  refine wR hret (rC sh31 (rT .nil)) ?_
  exact .refl _
def d_close_is (a1 : GState) (a2 : Int) : Option (Bool) :=
(show Option (Bool) from
bnd (decide (a2 ≥ 0)) fun x5 =>
cond x5 (bnd (decide (a2 < (a1.Ents.length : Int))) fun x6 =>
cond x6 (bnd (decide (a2 < (a1.Master.Methods.length : Int))) fun x7 =>
some (x7 : Bool)) (some (false : Bool))) (some (false : Bool))).bind <| fun y0_1 =>
some ((y0_1 : Bool))
theorem d_close_is_c {a1 : GState} {a2 : Int} {r : Bool} (h0 : d_close_is a1 a2 = some r) : PP Tryz.prog 25 [.agg (GState.av a1), int a2] (fun y => y = boo r) := by
  unfold d_close_is at h0
  refine pp_of_pc (R0 := fun y H => Cv (frzH H) y (boo r)) ?_ (fun y H hc => ⟨_, rfl, pvB r, hc⟩)
  refine pcw (c := _) Tryz.func25 rfl rfl ?_; intro Q hret hnorm
  refine tc tbk 2 (.mk ?_)
  refine sB 1 fun v3 => ?_
  refine tr tbk 3 (.mk ?_)
  refine jn h0 [] [] (fun (a : Bool) (k : Unit) => [(4, boo a)]) (fun a k => []) ⟨fun j4 h1 => ?_, ?_⟩
  refine tc tbk 2 (.mk ?_)
  refine nb tbk h1 fun x5 h1 => ?_
  refine tr tbk 1 (.mk ?_)
  cases x5
  replace h1 := cf h1
  refine tr tbk 16 (.mk ?_)
  exact lf h1 () leA
  replace h1 := ct h1
  refine tr tbk 3 (.mk ?_)
  refine sY (yv_len_sl rfl Tryz.underlying26 rfl (lst_len _)) ?_
  refine nb tbk h1 fun x6 h1 => ?_
  refine tr tbk 2 (.mk ?_)
  cases x6
  replace h1 := cf h1
  refine tr tbk 9 (.mk ?_)
  exact lf h1 () leA
  replace h1 := ct h1
  refine tr tbk 4 (.mk ?_)
  refine sY (yv_len_sl rfl Tryz.underlying23 rfl (lst_len _)) ?_
  refine nb tbk h1 fun x7 h1 => ?_
  refine tr tbk 3 (.mk ?_)
  exact lf h1 () leA
  rintro y0_1 _ h0
  obtain rfl := nxt_e h0
  refine wR hret (rT .nil) ?_
  exact .refl _
def d_nrv_Mark_L0 (x9 : GEnt) (x13 : Int) : Nat → Int → Option (Unit)
  | 0, _ => none
  | n + 1, y1_1 =>
    bnd (decide (y1_1 < x13)) fun x15 =>
    cond x15 ((ix x9.Prices y1_1).bind fun x16 =>
    bnd (decide (x16 ≥ 0)) fun x17 =>
    asrt (x17 = false) <|
    bnd (w64 (y1_1 + 1)) fun x18 =>
    d_nrv_Mark_L0 x9 x13 n (x18 : Int)) (some ())
def d_nrv_Mark (n : Nat) (a1 : GState) (a2 : Int) : Option (GState × Int) :=
(show Option (Bool) from
bnd (decide (a2 < 0)) fun x7 =>
cond x7 (some (true : Bool)) (bnd (decide (a2 ≥ (a1.Ents.length : Int))) fun x8 =>
some (x8 : Bool))).bind <| fun y0_1 =>
asrt (y0_1 = false) <|
(ix a1.Ents a2).bind fun x9 =>
asrt (x9.Down.length ≤ 68719476736) <|
bnd (if (x9.Prices.length : Int) < (x9.Down.length : Int) then (x9.Prices.length : Int) else (x9.Down.length : Int)) fun x13 =>
(show Option (Unit) from
d_nrv_Mark_L0 x9 x13 n (0 : Int)).bind <| fun _ =>
(d_stock_Post n a1 a2 []).bind fun x19 =>
bnd (decide (x19.2 ≠ 0)) fun x21 =>
asrt (x21 = false) <|
asrt (x19.1.Ents.length ≤ 68719476736) <|
(ix x19.1.Ents a2).bind fun x24 =>
some (((⟨x19.1.Master, (x19.1.Ents.set (Int.toNat a2) (⟨x24.Now, x24.Closed, x24.Pools, x24.Bal, x24.Rolls, x24.Prices, x9.Down, x24.Ahead⟩ : GEnt)), x19.1.Receipts, x19.1.Sales, x19.1.Transits, x19.1.Done⟩ : GState) : GState), (0 : Int))
theorem d_nrv_Mark_c {n : Nat} {a1 : GState} {a2 : Int} {r : GState × Int} (h0 : d_nrv_Mark n a1 a2 = some r) : PP Tryz.prog 27 [.agg (GState.av a1), int a2] (fun y => y = .tup [.agg (GState.av r.1), int r.2]) := by
  unfold d_nrv_Mark at h0
  refine pp_of_pc (R0 := fun y H => Cv (frzH H) y (.tup [.agg (GState.av r.1), int r.2])) ?_ (fun y H hc => ⟨_, rfl, .tup (pvl2 ((fun (a : GState) => PV.agg (GState.pvc a)) (r.1)) (pvI (r.2))), hc⟩)
  refine pcw (c := _) Tryz.func27 rfl rfl ?_; intro Q hret hnorm
  refine tc tbk 2 (.mk ?_)
  refine sB 1 fun v3 => ?_
  refine sB 2 fun v4 => ?_
  refine sA 3 z31 fun v5 => ?_
  refine tr tbk 4 (.mk ?_)
  refine jn h0 [2, 3, 4, 5] [1, 2, 3] (fun (a : Bool) (k : Unit) => [(23, boo a)]) (fun a k => []) ⟨fun j6 h1 => ?_, ?_⟩
  refine tc tbk 2 (.mk ?_)
  refine nb tbk h1 fun x7 h1 => ?_
  refine tr tbk 1 (.mk ?_)
  cases x7
  replace h1 := cf h1
  refine tr tbk 3 (.mk ?_)
  refine sY (yv_len_sl rfl Tryz.underlying26 rfl (lst_len _)) ?_
  refine nb tbk h1 fun x8 h1 => ?_
  refine tr tbk 2 (.mk ?_)
  exact lf h1 () leA
  replace h1 := ct h1
  refine tr tbk 7 (.mk ?_)
  exact lf h1 () leA
  rintro y0_1 _ h0
  replace h0 := asrt_e h0
  obtain ⟨rfl, h0⟩ := h0
  refine tc tbk 7 (.mk ?_)
  obtain ⟨x9, e9, h0⟩ := bind_e h0
  refine sY (yv_to (y := .pp [int x9.Now, boo x9.Closed, lst 4 GPool.av x9.Pools, lst 1 fI x9.Bal, lst 11 GRoll.av x9.Rolls, lst 1 fI x9.Prices, lst 1 fI x9.Down, lst 8 GEnt.av x9.Ahead]) (yv_ixT rfl Tryz.underlying26 sh47 rfl rfl e9) (congrArg AV.pp (GEnt.av_eq x9))) ?_
  refine tr tbk 1 (.mk ?_)
  refine sA 4 z47 fun v10 => ?_
  refine sS ⟨47, 8, true, true, v10, [[int x9.Now, boo x9.Closed, lst 4 GPool.av x9.Pools, lst 1 fI x9.Bal, lst 11 GRoll.av x9.Rolls, lst 1 fI x9.Prices, lst 1 fI x9.Down, lst 8 GEnt.av x9.Ahead]]⟩ sh47 ?_
  refine tr tbk 5 (.mk ?_)
  obtain ⟨p11, h0⟩ := asrt_e h0
  refine rse rfl rfl rfl (yl_call rfl rfl (.cons rfl .nil) cal52 (pc_cv (clone52_c (id := 5) (l := x9.Down) rfl p11) (.cons (.refl _) .nil))) ?_; rintro _ _ ⟨v12, rfl, rfl⟩
  refine tr tbk 15 (.mk ?_)
  refine sY (yv_len_sl rfl Tryz.underlying22 rfl (.sl rfl rfl)) ?_
  refine tr tbk 2 (.mk ?_)
  refine sY (yv_len_sl rfl Tryz.underlying22 rfl (lst_len _)) ?_
  obtain ⟨x13, e13, h0⟩ := bnd_e h0
  refine sY (yv_min rfl rfl rfl e13) ?_
  refine tr tbk 2 (.mk ?_)
  refine jn h0 [2, 3, 4, 5, 7, 8] [1, 2, 3, 5] (fun (a : Unit) (k : Unit) => []) (fun a k => []) ⟨fun j14 h1 => ?_, ?_⟩
  refine tc tbk 1 (.mk ?_)
  refine lp (fun n (a : Int) => d_nrv_Mark_L0 x9 x13 n a) (0 : Int) () h1 [2, 3, 4, 5, 6, 7, 8, 9, 39] [1, 2, 3, 4, 5] (fun (a : Int) (k : Unit) => [(40, int a)]) (fun a k => []) (fun _ => rfl) ⟨leA, ?_⟩
  rintro n y1_1 _ hm h1
  replace h1 : d_nrv_Mark_L0 x9 x13 (n + 1) y1_1 = some _ := h1
  rw [d_nrv_Mark_L0] at h1
  refine tc tbk 2 (.mk ?_)
  refine nb tbk h1 fun x15 h1 => ?_
  refine tr tbk 2 (.mk ?_)
  cases x15
  replace h1 := cf h1
  refine tc tbk 2 (.mk ?_)
  exact lf h1 () leA
  replace h1 := ct h1
  refine tc tbk 14 (.mk ?_)
  obtain ⟨x16, e16, h1⟩ := bind_e h1
  refine sY (yv_ixT rfl Tryz.underlying22 sh3 rfl rfl e16) ?_
  refine tr tbk 1 (.mk ?_)
  refine nb tbk h1 fun x17 h1 => ?_
  refine tr tbk 1 (.mk ?_)
  replace h1 := asrt_e h1
  obtain ⟨rfl, h1⟩ := h1
  refine tc tbk 4 (.mk ?_)
  refine ni tbk h1 fun x18 h1 => ?_
  refine tr tbk 2 (.mk ?_)
  exact bk x18 () h1 leA
  rintro _ _ h0
  refine tc tbk 5 (.mk ?_)
  obtain ⟨x19, e19, h0⟩ := bind_e h0
  refine sY (yv_callP rfl rfl (.cons rfl (.cons rfl (.cons rfl .nil))) cal49 (.cons (.refl _) (.cons (.refl _) (.cons (.nil _) .nil))) (d_stock_Post_c e19)) ?_
  refine tr tbk 3 (.mk ?_)
  refine sA 6 z31 fun v20 => ?_
  refine sS ⟨31, 10, true, true, v20, [(GState.av x19.1)]⟩ sh31 ?_
  refine tr tbk 6 (.mk ?_)
  refine nb tbk h0 fun x21 h0 => ?_
  refine tr tbk 1 (.mk ?_)
  replace h0 := asrt_e h0
  obtain ⟨rfl, h0⟩ := h0
  refine tc tbk 6 (.mk ?_)
  obtain ⟨p22, h0⟩ := asrt_e h0
  refine rse rfl rfl rfl (yl_call rfl rfl (.cons rfl .nil) cal28 (pc_cv (clone28_c (id := 7) (l := x19.1.Ents) rfl p22) (.cons (.refl _) .nil))) ?_; rintro _ _ ⟨v23, rfl, rfl⟩
  refine tr tbk 1 (.mk ?_)
  refine sS ⟨31, 10, true, true, v20, [[int x19.1.Master.Entities, int x19.1.Master.Periods, lst 1 fI x19.1.Master.Weights, lst 1 (fL 1 fI) x19.1.Master.Methods, lst 1 (fL 1 fI) x19.1.Master.Costs, .sl 7 v23 0 x19.1.Ents.length, lst 8 GReceipt.av x19.1.Receipts, lst 9 GSale.av x19.1.Sales, lst 6 GTransit.av x19.1.Transits, int x19.1.Done]]⟩ sh26 ?_
  refine tr tbk 7 (.mk ?_)
  obtain ⟨x24, e24, h0⟩ := bind_e h0
  refine sY (yv_ixO rfl Tryz.underlying26 sh47 rfl rfl rfl rfl rfl (Eq.symm rfl) (List.length_map _) e24) ?_
  refine sY (yv_fieldAddr rfl fo47_6 rfl (.pt rfl rfl (ix_get' e24 (GEnt.av_eq _))) (.pt _ _ _ _ _)) ?_
  refine rsstore rfl rfl (yl_ob (ob' := (⟨47, 8, true, true, v23, (x19.1.Ents.map GEnt.av).set (Int.toNat a2) [int x24.Now, boo x24.Closed, lst 4 GPool.av x24.Pools, lst 1 fI x24.Bal, lst 11 GRoll.av x24.Rolls, lst 1 fI x24.Prices, .sl 5 v12 0 x9.Down.length, lst 8 GEnt.av x24.Ahead]⟩ : AObj)) (yl_store rfl sh22 rfl rfl rfl rfl rfl (ix_get' e24 (GEnt.av_eq _)) rfl rfl rfl) (ob_eq rfl)) ?_
  refine tr tbk 4 (.mk ?_)
  refine sS ⟨31, 10, true, true, v5, [[int x19.1.Master.Entities, int x19.1.Master.Periods, lst 1 fI x19.1.Master.Weights, lst 1 (fL 1 fI) x19.1.Master.Methods, lst 1 (fL 1 fI) x19.1.Master.Costs, .sl 7 v23 0 x19.1.Ents.length, lst 8 GReceipt.av x19.1.Receipts, lst 9 GSale.av x19.1.Sales, lst 6 GTransit.av x19.1.Transits, int x19.1.Done]]⟩ sh31 ?_
  refine tr tbk 2 (.mk ?_)
  obtain rfl := nxt_e h0
  refine wR hret (rC sh31 (rT .nil)) ?_
  exact CvL.tup (.cons (CvL.agg (.cons (.refl _) (.cons (.refl _) (.cons (.refl _) (.cons (.refl _) (.cons (.refl _) (.cons (cv_ov rfl rfl rfl rfl rfl (Eq.symm rfl) e24 (cvl_to (.cons (.refl _) (.cons (.refl _) (.cons (.refl _) (.cons (.refl _) (.cons (.refl _) (.cons (.refl _) (.cons (cv_lst rfl rfl rfl rfl rfl (Eq.symm rfl)) (.cons (.refl _) .nil)))))))) (GEnt.av_eq _))) (.cons (.refl _) (.cons (.refl _) (.cons (.refl _) (.cons (.refl _) .nil))))))))))) (.cons (.refl _) .nil))
def d_close_Close_L0 (a1 : GState) (a2 : Int) (x10 : List Int) : Nat → Int → Option (Unit)
  | 0, _ => none
  | n + 1, y0_1 =>
    bnd (decide (y0_1 < (x10.length : Int))) fun x12 =>
    cond x12 ((show Option (Unit) from
    (ix x10 y0_1).bind fun x14 =>
    (show Option (Bool) from
    bnd (decide (x14 ≠ 3)) fun x16 =>
    cond x16 (some (true : Bool)) (bnd (w64 (y0_1 + 1)) fun x17 =>
    bnd (w64 (x17 * 2)) fun x18 =>
    (ix a1.Ents a2).bind fun x19 =>
    bnd (decide (x18 > (x19.Pools.length : Int))) fun x20 =>
    some (x20 : Bool))).bind <| fun y1_1 =>
    asrt (y1_1 = true) <|
    some ()).bind <| fun _ =>
    bnd (w64 (y0_1 + 1)) fun x21 =>
    d_close_Close_L0 a1 a2 x10 n (x21 : Int)) (some ())
def d_close_Close (n : Nat) (a1 : GState) (a2 : Int) : Option (GState × Int) :=
(d_close_is a1 a2).bind fun x5 =>
bnd (!x5) fun x6 =>
asrt (x6 = false) <|
(ix a1.Ents a2).bind fun x7 =>
bnd x7.Closed fun x8 =>
asrt (x8 = false) <|
(ix a1.Master.Methods a2).bind fun x10 =>
(show Option (Unit) from
d_close_Close_L0 a1 a2 x10 n (0 : Int)).bind <| fun _ =>
(d_nrv_Mark n a1 a2).bind fun x22 =>
bnd (decide (x22.2 ≠ 0)) fun x23 =>
asrt (x23 = false) <|
asrt (x22.1.Ents.length ≤ 68719476736) <|
(ix a1.Ents a2).bind fun x26 =>
(ix x22.1.Ents a2).bind fun x27 =>
bnd (x22.1.Ents.set (Int.toNat a2) ((⟨x27.Now, x27.Closed, x27.Pools, x27.Bal, x27.Rolls, x27.Prices, x27.Down, ([x26] : List GEnt)⟩ : GEnt) : GEnt)) fun x28 =>
bnd (x28.set (Int.toNat a2) ((⟨x27.Now, true, x27.Pools, x27.Bal, x27.Rolls, x27.Prices, x27.Down, ([x26] : List GEnt)⟩ : GEnt) : GEnt)) fun x29 =>
some (((⟨x22.1.Master, x29, x22.1.Receipts, x22.1.Sales, x22.1.Transits, x22.1.Done⟩ : GState) : GState), (0 : Int))
theorem d_close_Close_c {n : Nat} {a1 : GState} {a2 : Int} {r : GState × Int} (h0 : d_close_Close n a1 a2 = some r) : PP Tryz.prog 12 [.agg (GState.av a1), int a2] (fun y => y = .tup [.agg (GState.av r.1), int r.2]) := by
  unfold d_close_Close at h0
  refine pp_of_pc (R0 := fun y H => Cv (frzH H) y (.tup [.agg (GState.av r.1), int r.2])) ?_ (fun y H hc => ⟨_, rfl, .tup (pvl2 ((fun (a : GState) => PV.agg (GState.pvc a)) (r.1)) (pvI (r.2))), hc⟩)
  refine pcw (c := _) Tryz.func12 rfl rfl ?_; intro Q hret hnorm
  refine tc tbk 2 (.mk ?_)
  refine sB 1 fun v3 => ?_
  refine sA 2 z31 fun v4 => ?_
  refine tr tbk 8 (.mk ?_)
  obtain ⟨x5, e5, h0⟩ := bind_e h0
  refine sC cal25 (d_close_is_c e5) ?_
  refine nb tbk h0 fun x6 h0 => ?_
  refine tr tbk 2 (.mk ?_)
  replace h0 := asrt_e h0
  obtain ⟨rfl, h0⟩ := h0
  refine tc tbk 6 (.mk ?_)
  obtain ⟨x7, e7, h0⟩ := bind_e h0
  refine sY (yv_to (y := .pp [int x7.Now, boo x7.Closed, lst 4 GPool.av x7.Pools, lst 1 fI x7.Bal, lst 11 GRoll.av x7.Rolls, lst 1 fI x7.Prices, lst 1 fI x7.Down, lst 8 GEnt.av x7.Ahead]) (yv_ixT rfl Tryz.underlying26 sh47 rfl rfl e7) (congrArg AV.pp (GEnt.av_eq x7))) ?_
  refine tr tbk 4 (.mk ?_)
  obtain ⟨x8, e8, h0⟩ := bnd_e h0
  refine c_as (t := 20) (boo x8) rfl (congrArg boo e8) ?_
  refine c_as (t := 26) (boo x8) rfl (congrArg boo e8) ?_
  replace h0 := asrt_e h0
  obtain ⟨rfl, h0⟩ := h0
  refine tc tbk 6 (.mk ?_)
  refine sA 3 z31 fun v9 => ?_
  refine sS ⟨31, 10, true, true, v9, [(GState.av a1)]⟩ sh31 ?_
  refine tr tbk 8 (.mk ?_)
  obtain ⟨x10, e10, h0⟩ := bind_e h0
  refine sY (yv_ixT rfl Tryz.underlying23 sh22 rfl rfl e10) ?_
  refine tr tbk 1 (.mk ?_)
  refine sY (yv_len_sl rfl Tryz.underlying22 rfl (lst_len _)) ?_
  refine tr tbk 2 (.mk ?_)
  refine jn h0 [1, 2, 4, 5, 6] [1, 2, 3] (fun (a : Unit) (k : Unit) => []) (fun a k => []) ⟨fun j11 h1 => ?_, ?_⟩
  refine tc tbk 1 (.mk ?_)
  refine lp (fun n (a : Int) => d_close_Close_L0 a1 a2 x10 n a) (0 : Int) () h1 [1, 2, 4, 5, 6, 34, 35] [1, 2, 3] (fun (a : Int) (k : Unit) => [(36, int a)]) (fun a k => []) (fun _ => rfl) ⟨leA, ?_⟩
  rintro n y0_1 _ hm h1
  replace h1 : d_close_Close_L0 a1 a2 x10 (n + 1) y0_1 = some _ := h1
  rw [d_close_Close_L0] at h1
  refine tc tbk 2 (.mk ?_)
  refine nb tbk h1 fun x12 h1 => ?_
  refine tr tbk 2 (.mk ?_)
  cases x12
  replace h1 := cf h1
  refine tc tbk 2 (.mk ?_)
  exact lf h1 () leA
  replace h1 := ct h1
  refine tc tbk 3 (.mk ?_)
  refine jn h1 [1, 2, 4, 5, 6, 34, 35, 36] [1, 2, 3] (fun (a : Unit) (k : Unit) => []) (fun a k => []) ⟨fun j13 h2 => ?_, ?_⟩
  refine tc tbk 4 (.mk ?_)
  obtain ⟨x14, e14, h2⟩ := bind_e h2
  refine sY (yv_ixT rfl Tryz.underlying22 sh3 rfl rfl e14) ?_
  refine tr tbk 6 (.mk ?_)
  refine jn h2 [1, 2, 4, 5, 6, 7, 34, 35, 36] [1, 2, 3] (fun (a : Bool) (k : Unit) => [(55, boo a)]) (fun a k => []) ⟨fun j15 h3 => ?_, ?_⟩
  refine tc tbk 2 (.mk ?_)
  refine nb tbk h3 fun x16 h3 => ?_
  refine tr tbk 1 (.mk ?_)
  cases x16
  replace h3 := cf h3
  refine tr tbk 1 (.mk ?_)
  refine ni tbk h3 fun x17 h3 => ?_
  refine ni tbk h3 fun x18 h3 => ?_
  refine tr tbk 3 (.mk ?_)
  obtain ⟨x19, e19, h3⟩ := bind_e h3
  refine sY (yv_to (y := .pp [int x19.Now, boo x19.Closed, lst 4 GPool.av x19.Pools, lst 1 fI x19.Bal, lst 11 GRoll.av x19.Rolls, lst 1 fI x19.Prices, lst 1 fI x19.Down, lst 8 GEnt.av x19.Ahead]) (yv_ixT rfl Tryz.underlying26 sh47 rfl rfl e19) (congrArg AV.pp (GEnt.av_eq x19))) ?_
  refine tr tbk 2 (.mk ?_)
  refine sY (yv_len_sl rfl Tryz.underlying44 rfl (lst_len _)) ?_
  refine nb tbk h3 fun x20 h3 => ?_
  refine tr tbk 2 (.mk ?_)
  exact lf h3 () leA
  replace h3 := ct h3
  refine tr tbk 13 (.mk ?_)
  exact lf h3 () leA
  rintro y1_1 _ h2
  replace h2 := asrt_e h2
  obtain ⟨rfl, h2⟩ := h2
  refine tc tbk 2 (.mk ?_)
  exact lf h2 () leA
  rintro _ _ h1
  refine tc tbk 1 (.mk ?_)
  refine ni tbk h1 fun x21 h1 => ?_
  refine tr tbk 2 (.mk ?_)
  exact bk x21 () h1 leA
  rintro _ _ h0
  refine tc tbk 4 (.mk ?_)
  obtain ⟨x22, e22, h0⟩ := bind_e h0
  refine sC cal27 (d_nrv_Mark_c e22) ?_
  refine tr tbk 3 (.mk ?_)
  refine sS ⟨31, 10, true, true, v9, [(GState.av x22.1)]⟩ sh31 ?_
  refine tr tbk 6 (.mk ?_)
  refine nb tbk h0 fun x23 h0 => ?_
  refine tr tbk 1 (.mk ?_)
  replace h0 := asrt_e h0
  obtain ⟨rfl, h0⟩ := h0
  refine tc tbk 6 (.mk ?_)
  obtain ⟨p24, h0⟩ := asrt_e h0
  refine rse rfl rfl rfl (yl_call rfl rfl (.cons rfl .nil) cal28 (pc_cv (clone28_c (id := 4) (l := x22.1.Ents) rfl p24) (.cons (.refl _) .nil))) ?_; rintro _ _ ⟨v25, rfl, rfl⟩
  refine tr tbk 1 (.mk ?_)
  refine sS ⟨31, 10, true, true, v9, [[int x22.1.Master.Entities, int x22.1.Master.Periods, lst 1 fI x22.1.Master.Weights, lst 1 (fL 1 fI) x22.1.Master.Methods, lst 1 (fL 1 fI) x22.1.Master.Costs, .sl 4 v25 0 x22.1.Ents.length, lst 8 GReceipt.av x22.1.Receipts, lst 9 GSale.av x22.1.Sales, lst 6 GTransit.av x22.1.Transits, int x22.1.Done]]⟩ sh26 ?_
  refine tr tbk 2 (.mk ?_)
  refine c_drawE [0, 1, 0, 0, 8, 0, 0, 64, 0, 448, 960, 1984, 4039, 8135, 16327, 32767, 65535, 131071] (rl [(0, [3]), (1, [3]), (3, [3]), (4, [3]), (6, [1]), (7, [1]), (12, [4]), (13, [4]), (15, [4]), (16, [4])] []) (rl [(14, [3]), (17, [])] [1, 3, 4]) (rl [(14, false), (17, false)] true) [0, 1, 2, 3, 4, 5, 6, 7, 8, 9, 10, 11, 12, 13, 14, 15, 16, 17] mixed (by kernel_rfl) ?_; intro K hK
  refine eF fo31_1 ?_
  refine eL sh26 ?_
  refine eM ?_
  refine eF fo31_1 ?_
  refine eL sh26 ?_
  refine eM ?_
  refine eF fo31_1 ?_
  refine eL sh26 ?_
  refine eM ?_
  obtain ⟨x26, e26, h0⟩ := bind_e h0
  refine eP (fun H hH => yv_to (y := .pp [int x26.Now, boo x26.Closed, lst 4 GPool.av x26.Pools, lst 1 fI x26.Bal, lst 11 GRoll.av x26.Rolls, lst 1 fI x26.Prices, lst 1 fI x26.Down, lst 8 GEnt.av x26.Ahead]) (yv_ixT rfl Tryz.underlying26 sh47 rfl rfl e26) (congrArg AV.pp (GEnt.av_eq x26))) ?_
  refine eP (fun H hH => yv_load rfl sh47 rfl (.pp _) rfl) ?_
  refine eP (fun H hH => yv_to (y := lst 8 GEnt.av ([x26] : List GEnt)) (yv_buildSlice (ps := [(0, _)]) (rows := [[int x26.Now, boo x26.Closed, lst 4 GPool.av x26.Pools, lst 1 fI x26.Bal, lst 11 GRoll.av x26.Rolls, lst 1 fI x26.Prices, lst 1 fI x26.Down, lst 8 GEnt.av x26.Ahead]]) rfl Tryz.underlying26 bz47 (.cons rfl .nil) (by kernel_rfl) rfl rfl rfl) (congrArg (AV.list 8) (by simp only [List.map_cons, List.map_nil, GEnt.av_eq]))) ?_
  obtain ⟨x27, e27, h0⟩ := bind_e h0
  refine de_pure rfl rfl rfl rfl (fun H hH => yv_ixO rfl Tryz.underlying26 sh47 rfl rfl ((hH _ (by decide)).trans rfl) rfl rfl (Eq.symm rfl) (List.length_map _) e27) ?_
  refine eF fo47_7 (hr := ix_get' e27 (GEnt.av_eq _)) ?_
  obtain ⟨x28, e28, h0⟩ := bnd_e h0
  have fx28 := ix_set e27 e28; have lx28 := len_setV e28 (rfl : x22.1.Ents.length = x22.1.Ents.length)
  refine de_eff0 rfl rfl rfl rfl (Yield.weak (yl_ob (ob' := (⟨47, 8, true, true, v25, x28.map GEnt.av⟩ : AObj)) (yl_store rfl sh26 rfl rfl rfl rfl rfl (ix_get' e27 (GEnt.av_eq _)) rfl rfl rfl) (ob_eq (map_setR e28 (GEnt.av_eq _)))) (fun _ h => h) (fun _ _ => trivial)) (by rintro _ _ ⟨rfl, rfl⟩; exact ⟨rfl, trivial⟩) ?_; rintro _ _ ⟨rfl, rfl⟩
  refine de_pure rfl rfl rfl rfl (fun H hH => yv_ixO rfl Tryz.underlying26 sh47 rfl rfl ((hH _ (by decide)).trans rfl) rfl rfl (Eq.symm lx28) (List.length_map _) fx28) ?_
  refine eF fo47_1 (hr := ix_get' fx28 (GEnt.av_eq _)) ?_
  obtain ⟨x29, e29, h0⟩ := bnd_e h0
  have fx29 := ix_set fx28 e29; have lx29 := len_setV e29 lx28
  refine de_eff0 rfl rfl rfl rfl (Yield.weak (yl_ob (ob' := (⟨47, 8, true, true, v25, x29.map GEnt.av⟩ : AObj)) (yl_store rfl sh4 rfl rfl rfl rfl rfl (ix_get' fx28 (GEnt.av_eq _)) rfl rfl rfl) (ob_eq (map_setR e29 (GEnt.av_eq _)))) (fun _ h => h) (fun _ _ => trivial)) (by rintro _ _ ⟨rfl, rfl⟩; exact trivial) ?_; rintro _ _ ⟨rfl, rfl⟩
  refine de_nil (hK _ ?_)
  refine tc tbk 3 (.mk ?_)
  refine sS ⟨31, 10, true, true, v4, [[int x22.1.Master.Entities, int x22.1.Master.Periods, lst 1 fI x22.1.Master.Weights, lst 1 (fL 1 fI) x22.1.Master.Methods, lst 1 (fL 1 fI) x22.1.Master.Costs, .sl 4 v25 0 x22.1.Ents.length, lst 8 GReceipt.av x22.1.Receipts, lst 9 GSale.av x22.1.Sales, lst 6 GTransit.av x22.1.Transits, int x22.1.Done]]⟩ sh31 ?_
  refine tr tbk 2 (.mk ?_)
  obtain rfl := nxt_e h0
  refine wR hret (rC sh31 (rT .nil)) ?_
  exact CvL.tup (.cons (CvL.agg (.cons (.refl _) (.cons (.refl _) (.cons (.refl _) (.cons (.refl _) (.cons (.refl _) (.cons (cv_lst rfl rfl rfl rfl rfl (Eq.symm lx29)) (.cons (.refl _) (.cons (.refl _) (.cons (.refl _) (.cons (.refl _) .nil))))))))))) (.cons (.refl _) .nil))
def d_close_Step (n : Nat) (a1 : GState) (a2 : GOp) : Option (GState × Int) :=
(d_ops_Check a2).bind fun x6 =>
bnd (!x6) fun x7 =>
asrt (x7 = false) <|
bnd (decide (a2.Kind = 14)) fun x9 =>
cond x9 ((d_close_Close n a1 a2.E).bind fun x13 =>
bnd (decide (x13.2 ≠ 0)) fun x14 =>
asrt (x14 = false) <|
bnd (w64 (x13.1.Done + 1)) fun x15 =>
some (((⟨x13.1.Master, x13.1.Ents, x13.1.Receipts, x13.1.Sales, x13.1.Transits, x15⟩ : GState) : GState), (0 : Int))) (bnd (decide (a2.Kind = 15)) fun x10 =>
asrt (x10 = false) <|
bnd (decide (a2.Kind = 16)) fun x11 =>
asrt (x11 = false) <|
(d_apply_Do n a1 a2).bind fun x12 =>
some ((x12.1 : GState), (x12.2 : Int)))
theorem d_close_Step_c {n : Nat} {a1 : GState} {a2 : GOp} {r : GState × Int} (h0 : d_close_Step n a1 a2 = some r) : PP Tryz.prog 7 [.agg (GState.av a1), .agg (GOp.av a2)] (fun y => y = .tup [.agg (GState.av r.1), int r.2]) := by
  unfold d_close_Step at h0
  refine pp_of_pc (R0 := fun y H => Cv (frzH H) y (.tup [.agg (GState.av r.1), int r.2])) ?_ (fun y H hc => ⟨_, rfl, .tup (pvl2 ((fun (a : GState) => PV.agg (GState.pvc a)) (r.1)) (pvI (r.2))), hc⟩)
  refine pcw (c := _) Tryz.func7 rfl rfl ?_; intro Q hret hnorm
  refine tc tbk 2 (.mk ?_)
  refine sB 1 fun v3 => ?_
  refine sB 2 fun v4 => ?_
  refine sA 3 z31 fun v5 => ?_
  refine tr tbk 6 (.mk ?_)
  obtain ⟨x6, e6, h0⟩ := bind_e h0
  refine sC cal11 (d_ops_Check_c e6) ?_
  refine nb tbk h0 fun x7 h0 => ?_
  refine tr tbk 1 (.mk ?_)
  replace h0 := asrt_e h0
  obtain ⟨rfl, h0⟩ := h0
  refine tc tbk 5 (.mk ?_)
  refine sA 4 z31 fun v8 => ?_
  refine sS ⟨31, 10, true, true, v8, [(GState.av a1)]⟩ sh31 ?_
  refine tr tbk 11 (.mk ?_)
  refine nb tbk h0 fun x9 h0 => ?_
  refine tr tbk 2 (.mk ?_)
  cases x9
  replace h0 := cf h0
  refine tc tbk 3 (.mk ?_)
  refine nb tbk h0 fun x10 h0 => ?_
  refine tr tbk 2 (.mk ?_)
  replace h0 := asrt_e h0
  obtain ⟨rfl, h0⟩ := h0
  refine tc tbk 3 (.mk ?_)
  refine nb tbk h0 fun x11 h0 => ?_
  refine tr tbk 2 (.mk ?_)
  replace h0 := asrt_e h0
  obtain ⟨rfl, h0⟩ := h0
  refine tc tbk 5 (.mk ?_)
  obtain ⟨x12, e12, h0⟩ := bind_e h0
  refine sC cal15 (d_apply_Do_c e12) ?_
  refine tr tbk 2 (.mk ?_)
  refine sS ⟨31, 10, true, true, v5, [(GState.av x12.1)]⟩ sh31 ?_
  refine tr tbk 2 (.mk ?_)
  obtain rfl := nxt_e h0
  refine wR hret (rC sh31 (rT .nil)) ?_
  exact .refl _
  replace h0 := ct h0
  refine tc tbk 5 (.mk ?_)
  obtain ⟨x13, e13, h0⟩ := bind_e h0
  refine sC cal12 (d_close_Close_c e13) ?_
  refine tr tbk 3 (.mk ?_)
  refine sS ⟨31, 10, true, true, v8, [(GState.av x13.1)]⟩ sh31 ?_
  refine tr tbk 7 (.mk ?_)
  refine nb tbk h0 fun x14 h0 => ?_
  refine tr tbk 1 (.mk ?_)
  replace h0 := asrt_e h0
  obtain ⟨rfl, h0⟩ := h0
  refine tc tbk 6 (.mk ?_)
  refine ni tbk h0 fun x15 h0 => ?_
  refine tr tbk 1 (.mk ?_)
  refine sS ⟨31, 10, true, true, v8, [[int x13.1.Master.Entities, int x13.1.Master.Periods, lst 1 fI x13.1.Master.Weights, lst 1 (fL 1 fI) x13.1.Master.Methods, lst 1 (fL 1 fI) x13.1.Master.Costs, lst 8 GEnt.av x13.1.Ents, lst 8 GReceipt.av x13.1.Receipts, lst 9 GSale.av x13.1.Sales, lst 6 GTransit.av x13.1.Transits, int x15]]⟩ sh3 ?_
  refine tr tbk 4 (.mk ?_)
  refine sS ⟨31, 10, true, true, v5, [[int x13.1.Master.Entities, int x13.1.Master.Periods, lst 1 fI x13.1.Master.Weights, lst 1 (fL 1 fI) x13.1.Master.Methods, lst 1 (fL 1 fI) x13.1.Master.Costs, lst 8 GEnt.av x13.1.Ents, lst 8 GReceipt.av x13.1.Receipts, lst 9 GSale.av x13.1.Sales, lst 6 GTransit.av x13.1.Transits, int x15]]⟩ sh31 ?_
  refine tr tbk 2 (.mk ?_)
  obtain rfl := nxt_e h0
  refine wR hret (rC sh31 (rT .nil)) ?_
  exact .refl _
def d_stock_Worth (n : Nat) (a1 : GState) (a2 : Int) (a3 : Int) : Option (GLayer) :=
(d_stock_worth n a1 a2 a3).bind fun x6 =>
some ((x6.1 : GLayer))
theorem d_stock_Worth_c {n : Nat} {a1 : GState} {a2 : Int} {a3 : Int} {r : GLayer} (h0 : d_stock_Worth n a1 a2 a3 = some r) : PP Tryz.prog 8 [.agg (GState.av a1), int a2, int a3] (fun y => y = .agg (GLayer.av r)) := by
  unfold d_stock_Worth at h0
  refine pp_of_pc (R0 := fun y H => Cv (frzH H) y (.agg (GLayer.av r))) ?_ (fun y H hc => ⟨_, rfl, (fun (a : GLayer) => PV.agg (GLayer.pvc a)) r, hc⟩)
  refine pcw (c := _) Tryz.func8 rfl rfl ?_; intro Q hret hnorm
  refine tc tbk 2 (.mk ?_)
  refine sB 1 fun v4 => ?_
  refine sA 2 z42 fun v5 => ?_
  refine tr tbk 6 (.mk ?_)
  obtain ⟨x6, e6, h0⟩ := bind_e h0
  refine sC cal16 (d_stock_worth_c e6) ?_
  refine tr tbk 3 (.mk ?_)
  refine sA 3 z42 fun v7 => ?_
  refine sS ⟨42, 3, true, true, v7, [[int x6.1.Qty, int x6.1.Value, int x6.1.Profit]]⟩ sh42 ?_
  refine tr tbk 5 (.mk ?_)
  refine sS ⟨42, 3, true, true, v5, [[int x6.1.Qty, int x6.1.Value, int x6.1.Profit]]⟩ sh42 ?_
  refine tr tbk 1 (.mk ?_)
  obtain rfl := nxt_e h0
  refine wR hret (rC sh42 .nil) ?_
  exact .refl _
def d_master_in (a1 : Int) (a2 : Int) (a3 : Int) : Option (Bool) :=
(show Option (Bool) from
bnd (decide (a1 ≥ a2)) fun x5 =>
cond x5 (bnd (decide (a1 ≤ a3)) fun x6 =>
some (x6 : Bool)) (some (false : Bool))).bind <| fun y0_1 =>
some ((y0_1 : Bool))
theorem d_master_in_c {a1 : Int} {a2 : Int} {a3 : Int} {r : Bool} (h0 : d_master_in a1 a2 a3 = some r) : PP Tryz.prog 115 [int a1, int a2, int a3] (fun y => y = boo r) := by
  unfold d_master_in at h0
  refine pp_of_pc (R0 := fun y H => Cv (frzH H) y (boo r)) ?_ (fun y H hc => ⟨_, rfl, pvB r, hc⟩)
  refine pcw (c := _) Tryz.func115 rfl rfl ?_; intro Q hret hnorm
  refine tc tbk 5 (.mk ?_)
  refine jn h0 [] [] (fun (a : Bool) (k : Unit) => [(6, boo a)]) (fun a k => []) ⟨fun j4 h1 => ?_, ?_⟩
  refine tc tbk 3 (.mk ?_)
  refine nb tbk h1 fun x5 h1 => ?_
  refine tr tbk 1 (.mk ?_)
  cases x5
  replace h1 := cf h1
  refine tr tbk 6 (.mk ?_)
  exact lf h1 () leA
  replace h1 := ct h1
  refine tr tbk 2 (.mk ?_)
  refine nb tbk h1 fun x6 h1 => ?_
  refine tr tbk 3 (.mk ?_)
  exact lf h1 () leA
  rintro y0_1 _ h0
  obtain rfl := nxt_e h0
  refine wR hret (rT .nil) ?_
  exact .refl _
def d_master_Check_1 (a1 : Int) : Option (Bool) :=
(d_master_in a1 0 1073741824).bind fun x2 =>
some ((x2 : Bool))
theorem d_master_Check_1_c {a1 : Int} {r : Bool} (h0 : d_master_Check_1 a1 = some r) : PP Tryz.prog 114 [int a1] (fun y => y = boo r) := by
  unfold d_master_Check_1 at h0
  refine pp_of_pc (R0 := fun y H => Cv (frzH H) y (boo r)) ?_ (fun y H hc => ⟨_, rfl, pvB r, hc⟩)
  refine pcw (c := _) Tryz.func114 rfl rfl ?_; intro Q hret hnorm
  refine tc tbk 7 (.mk ?_)
  obtain ⟨x2, e2, h0⟩ := bind_e h0
  refine sC cal115 (d_master_in_c e2) ?_
  refine tr tbk 2 (.mk ?_)
  obtain rfl := nxt_e h0
  refine wR hret (rT .nil) ?_
  exact .refl _
def d_master_Check_2_1 (a1 : Int) : Option (Bool) :=
(d_master_in a1 1 4).bind fun x2 =>
some ((x2 : Bool))
theorem d_master_Check_2_1_c {a1 : Int} {r : Bool} (h0 : d_master_Check_2_1 a1 = some r) : PP Tryz.prog 118 [int a1] (fun y => y = boo r) := by
  unfold d_master_Check_2_1 at h0
  refine pp_of_pc (R0 := fun y H => Cv (frzH H) y (boo r)) ?_ (fun y H hc => ⟨_, rfl, pvB r, hc⟩)
  refine pcw (c := _) Tryz.func118 rfl rfl ?_; intro Q hret hnorm
  refine tc tbk 7 (.mk ?_)
  obtain ⟨x2, e2, h0⟩ := bind_e h0
  refine sC cal115 (d_master_in_c e2) ?_
  refine tr tbk 2 (.mk ?_)
  obtain rfl := nxt_e h0
  refine wR hret (rT .nil) ?_
  exact .refl _
def d_master_Check_L0 (a1 : GMaster) : Nat → Int → Option ((Unit) ⊕ ((Int)))
  | 0, _ => none
  | n + 1, y0_1 =>
    bnd (decide (y0_1 < (a1.Weights.length : Int))) fun x16 =>
    cond x16 ((ix a1.Weights y0_1).bind fun x17 =>
    (show Option ((Bool)) from
    (d_master_Check_1 x17).bind fun x19 =>
    bnd (!x19) fun x20 =>
    some (x20 : Bool)).bind <| fun y2_1 =>
    cond y2_1 (esc (some (y0_1 : Int))) (bnd (w64 (y0_1 + 1)) fun x21 =>
    d_master_Check_L0 a1 n (x21 : Int))) (brk ())
def d_master_Check_L2 (x33 : List Int) : Nat → Int → Option ((Unit) ⊕ ((Int)))
  | 0, _ => none
  | n + 1, y10_1 =>
    bnd (decide (y10_1 < (x33.length : Int))) fun x43 =>
    cond x43 ((ix x33 y10_1).bind fun x44 =>
    (show Option ((Bool)) from
    (d_master_Check_2_1 x44).bind fun x46 =>
    bnd (!x46) fun x47 =>
    some (x47 : Bool)).bind <| fun y12_1 =>
    cond y12_1 (esc (some (y10_1 : Int))) (bnd (w64 (y10_1 + 1)) fun x48 =>
    d_master_Check_L2 x33 n (x48 : Int))) (brk ())
def d_master_Check_L1 (a1 : GMaster) : Nat → Int → Option ((Unit) ⊕ ((Int)))
  | 0, _ => none
  | n + 1, y9_1 =>
    bnd (decide (y9_1 < (a1.Methods.length : Int))) fun x32 =>
    cond x32 ((ix a1.Methods y9_1).bind fun x33 =>
    (show Option ((Bool)) from
    (show Option ((Bool)) from
    (show Option ((Bool)) from
    (show Option (Bool) from
    bnd (decide ((x33.length : Int) = (a1.Weights.length : Int))) fun x39 =>
    cond x39 ((show Option ((Bool)) from
    (show Option ((Int)) from
    (show Option ((Unit) ⊕ ((Int))) from
    d_master_Check_L2 x33 n (0 : Int)).bind <| sel <| fun _ =>
    some ((-1) : Int)).bind <| fun y15_1 =>
    bnd (decide (y15_1 ≥ 0)) fun x50 =>
    some (x50 : Bool)).bind <| fun y16_1 =>
    bnd (!y16_1) fun x51 =>
    some (x51 : Bool)) (some (false : Bool))).bind <| fun y17_1 =>
    some (y17_1 : Bool)).bind <| fun y19_1 =>
    some (y19_1 : Bool)).bind <| fun y21_1 =>
    bnd (!y21_1) fun x52 =>
    some (x52 : Bool)).bind <| fun y23_1 =>
    cond y23_1 (esc (some (y9_1 : Int))) (bnd (w64 (y9_1 + 1)) fun x53 =>
    d_master_Check_L1 a1 n (x53 : Int))) (brk ())
def d_master_Check_L4 (x65 : List Int) : Nat → Int → Option ((Unit) ⊕ ((Int)))
  | 0, _ => none
  | n + 1, y31_1 =>
    bnd (decide (y31_1 < (x65.length : Int))) fun x75 =>
    cond x75 ((ix x65 y31_1).bind fun x76 =>
    (show Option ((Bool)) from
    (d_master_Check_1 x76).bind fun x78 =>
    bnd (!x78) fun x79 =>
    some (x79 : Bool)).bind <| fun y33_1 =>
    cond y33_1 (esc (some (y31_1 : Int))) (bnd (w64 (y31_1 + 1)) fun x80 =>
    d_master_Check_L4 x65 n (x80 : Int))) (brk ())
def d_master_Check_L3 (a1 : GMaster) : Nat → Int → Option ((Unit) ⊕ ((Int)))
  | 0, _ => none
  | n + 1, y30_1 =>
    bnd (decide (y30_1 < (a1.Costs.length : Int))) fun x64 =>
    cond x64 ((ix a1.Costs y30_1).bind fun x65 =>
    (show Option ((Bool)) from
    (show Option ((Bool)) from
    (show Option ((Bool)) from
    (show Option (Bool) from
    bnd (decide ((x65.length : Int) = (a1.Weights.length : Int))) fun x71 =>
    cond x71 ((show Option ((Bool)) from
    (show Option ((Int)) from
    (show Option ((Unit) ⊕ ((Int))) from
    d_master_Check_L4 x65 n (0 : Int)).bind <| sel <| fun _ =>
    some ((-1) : Int)).bind <| fun y36_1 =>
    bnd (decide (y36_1 ≥ 0)) fun x82 =>
    some (x82 : Bool)).bind <| fun y37_1 =>
    bnd (!y37_1) fun x83 =>
    some (x83 : Bool)) (some (false : Bool))).bind <| fun y38_1 =>
    some (y38_1 : Bool)).bind <| fun y40_1 =>
    some (y40_1 : Bool)).bind <| fun y42_1 =>
    bnd (!y42_1) fun x84 =>
    some (x84 : Bool)).bind <| fun y44_1 =>
    cond y44_1 (esc (some (y30_1 : Int))) (bnd (w64 (y30_1 + 1)) fun x85 =>
    d_master_Check_L3 a1 n (x85 : Int))) (brk ())
def d_master_Check (n : Nat) (a1 : GMaster) : Option (Bool) :=
(show Option (Bool) from
(d_master_in a1.Entities 1 4).bind fun x6 =>
cond x6 ((d_master_in a1.Periods 1 12).bind fun x7 =>
cond x7 ((d_master_in (a1.Weights.length : Int) 1 5).bind fun x8 =>
cond x8 ((show Option ((Bool)) from
(show Option (Bool) from
bnd (decide ((a1.Weights.length : Int) = (a1.Weights.length : Int))) fun x12 =>
cond x12 ((show Option ((Bool)) from
(show Option ((Int)) from
(show Option ((Unit) ⊕ ((Int))) from
d_master_Check_L0 a1 n (0 : Int)).bind <| sel <| fun _ =>
some ((-1) : Int)).bind <| fun y5_1 =>
bnd (decide (y5_1 ≥ 0)) fun x23 =>
some (x23 : Bool)).bind <| fun y6_1 =>
bnd (!y6_1) fun x24 =>
some (x24 : Bool)) (some (false : Bool))).bind <| fun y7_1 =>
some (y7_1 : Bool)).bind <| fun y8_1 =>
cond y8_1 ((show Option ((Bool)) from
(show Option (Bool) from
bnd (decide ((a1.Methods.length : Int) = a1.Entities)) fun x28 =>
cond x28 ((show Option ((Bool)) from
(show Option ((Int)) from
(show Option ((Unit) ⊕ ((Int))) from
d_master_Check_L1 a1 n (0 : Int)).bind <| sel <| fun _ =>
some ((-1) : Int)).bind <| fun y26_1 =>
bnd (decide (y26_1 ≥ 0)) fun x55 =>
some (x55 : Bool)).bind <| fun y27_1 =>
bnd (!y27_1) fun x56 =>
some (x56 : Bool)) (some (false : Bool))).bind <| fun y28_1 =>
some (y28_1 : Bool)).bind <| fun y29_1 =>
cond y29_1 ((show Option ((Bool)) from
(show Option (Bool) from
bnd (decide ((a1.Costs.length : Int) = a1.Entities)) fun x60 =>
cond x60 ((show Option ((Bool)) from
(show Option ((Int)) from
(show Option ((Unit) ⊕ ((Int))) from
d_master_Check_L3 a1 n (0 : Int)).bind <| sel <| fun _ =>
some ((-1) : Int)).bind <| fun y47_1 =>
bnd (decide (y47_1 ≥ 0)) fun x87 =>
some (x87 : Bool)).bind <| fun y48_1 =>
bnd (!y48_1) fun x88 =>
some (x88 : Bool)) (some (false : Bool))).bind <| fun y49_1 =>
some (y49_1 : Bool)).bind <| fun y50_1 =>
some (y50_1 : Bool)) (some (false : Bool))) (some (false : Bool))) (some (false : Bool))) (some (false : Bool))) (some (false : Bool))).bind <| fun y51_1 =>
some ((y51_1 : Bool))
theorem d_master_Check_c {n : Nat} {a1 : GMaster} {r : Bool} (h0 : d_master_Check n a1 = some r) : PP Tryz.prog 65 [.agg (GMaster.av a1)] (fun y => y = boo r) := by
  unfold d_master_Check at h0
  refine pp_of_pc (R0 := fun y H => Cv (frzH H) y (boo r)) ?_ (fun y H hc => ⟨_, rfl, pvB r, hc⟩)
  refine pcw (c := _) Tryz.func65 rfl rfl ?_; intro Q hret hnorm
  refine tc tbk 2 (.mk ?_)
  refine sB 1 fun v2 => ?_
  refine tr tbk 6 (.mk ?_)
  refine sY (yv_len_sl rfl Tryz.underlying22 rfl (lst_len _)) ?_
  refine sA 2 z3 fun v3 => ?_
  refine sS ⟨3, 1, true, true, v3, [[int (a1.Weights.length : Int)]]⟩ sh3 ?_
  refine tr tbk 3 (.mk ?_)
  refine sA 3 z184 fun v4 => ?_
  refine sS ⟨184, 1, true, true, v4, [[.fn (.func 114) [] []]]⟩ sh184 ?_
  refine tr tbk 12 (.mk ?_)
  refine jn h0 [] [] (fun (a : Bool) (k : Unit) => [(2, boo a)]) (fun a k => []) ⟨fun j5 h1 => ?_, ?_⟩
  refine tc tbk 3 (.mk ?_)
  obtain ⟨x6, e6, h1⟩ := bind_e h1
  refine sC cal115 (d_master_in_c e6) ?_
  refine tr tbk 1 (.mk ?_)
  cases x6
  replace h1 := cf h1
  refine tr tbk 33 (.mk ?_)
  exact lf h1 () leA
  replace h1 := ct h1
  refine tr tbk 2 (.mk ?_)
  obtain ⟨x7, e7, h1⟩ := bind_e h1
  refine sC cal115 (d_master_in_c e7) ?_
  refine tr tbk 2 (.mk ?_)
  cases x7
  replace h1 := cf h1
  refine tr tbk 28 (.mk ?_)
  exact lf h1 () leA
  replace h1 := ct h1
  refine tr tbk 1 (.mk ?_)
  obtain ⟨x8, e8, h1⟩ := bind_e h1
  refine sC cal115 (d_master_in_c e8) ?_
  refine tr tbk 2 (.mk ?_)
  cases x8
  replace h1 := cf h1
  refine tr tbk 24 (.mk ?_)
  exact lf h1 () leA
  replace h1 := ct h1
  refine tr tbk 4 (.mk ?_)
  obtain ⟨j9, h2, h1⟩ := bind_e h1
  refine rse (Out := fun y H' => (∃ (a : Bool) (k : Unit), a = j9 ∧ y = boo a ∧ H' = hk [(1, ⟨25, 5, true, true, v2, [[int a1.Entities, int a1.Periods, lst 1 fI a1.Weights, lst 1 (fL 1 fI) a1.Methods, lst 1 (fL 1 fI) a1.Costs]]⟩), (2, ⟨3, 1, true, true, v3, [[int (a1.Weights.length : Int)]]⟩), (3, ⟨184, 1, true, true, v4, [[.fn (.func 114) [] []]]⟩)])) rfl rfl rfl (yl_call rfl rfl (.cons rfl (.cons rfl (.cons rfl .nil))) cal117 ?_) ?_
  refine pcw (c := _) Tryz.func117 rfl rfl ?_; intro Q hret hnorm
  refine tc tbk 2 (.mk ?_)
  refine sB 4 fun v10 => ?_
  refine tr tbk 3 (.mk ?_)
  refine jn h2 [] [1, 2, 3] (fun (a : Bool) (k : Unit) => [(6, boo a)]) (fun a k => []) ⟨fun j11 h3 => ?_, ?_⟩
  refine tc tbk 2 (.mk ?_)
  refine sY (yv_len_sl rfl Tryz.underlying22 rfl (lst_len _)) ?_
  refine tr tbk 1 (.mk ?_)
  refine nb tbk h3 fun x12 h3 => ?_
  refine tr tbk 1 (.mk ?_)
  cases x12
  replace h3 := cf h3
  refine tr tbk 7 (.mk ?_)
  exact lf h3 () leA
  replace h3 := ct h3
  refine tr tbk 2 (.mk ?_)
  obtain ⟨j13, h4, h3⟩ := bind_e h3
  refine rse (Out := fun y H' => (∃ (a : Bool) (k : Unit), a = j13 ∧ y = boo a ∧ H' = hk [(1, ⟨25, 5, true, true, v2, [[int a1.Entities, int a1.Periods, lst 1 fI a1.Weights, lst 1 (fL 1 fI) a1.Methods, lst 1 (fL 1 fI) a1.Costs]]⟩), (2, ⟨3, 1, true, true, v3, [[int (a1.Weights.length : Int)]]⟩), (3, ⟨184, 1, true, true, v4, [[.fn (.func 114) [] []]]⟩), (4, ⟨184, 1, true, true, v10, [[.fn (.func 114) [] []]]⟩)])) rfl rfl rfl (yl_call rfl rfl (.cons rfl (.cons rfl .nil)) cal122 ?_) ?_
  refine pcw (c := _) Tryz.func122 rfl rfl ?_; intro Q hret hnorm
  refine tc tbk 8 (.mk ?_)
  obtain ⟨j14, h5, h4⟩ := bind_e h4
  refine rse (Out := fun y H' => (∃ (a : Int) (k : Unit), a = j14 ∧ y = int a ∧ H' = hk [(1, ⟨25, 5, true, true, v2, [[int a1.Entities, int a1.Periods, lst 1 fI a1.Weights, lst 1 (fL 1 fI) a1.Methods, lst 1 (fL 1 fI) a1.Costs]]⟩), (2, ⟨3, 1, true, true, v3, [[int (a1.Weights.length : Int)]]⟩), (3, ⟨184, 1, true, true, v4, [[.fn (.func 114) [] []]]⟩), (4, ⟨184, 1, true, true, v10, [[.fn (.func 114) [] []]]⟩)])) rfl rfl rfl (yl_call rfl rfl (.cons rfl (.cons rfl .nil)) cal168 ?_) ?_
  refine pcw (c := _) Tryz.func168 rfl rfl ?_; intro Q hret hnorm
  refine tc tbk 8 (.mk ?_)
  refine sY (yv_len_sl rfl Tryz.underlying22 rfl (lst_len _)) ?_
  refine tr tbk 2 (.mk ?_)
  refine jnE h5 [4] [1, 2, 3, 4] (fun (a : Unit) (k : Unit) => []) (fun a k => []) ⟨fun j15 h6 h5 => ?_, ?_⟩
  refine tc tbk 1 (.mk ?_)
  refine lp (fun n (a : Int) => d_master_Check_L0 a1 n a) (0 : Int) () h6 [0, 1, 4, 7] [1, 2, 3, 4] (fun (a : Int) (k : Unit) => [(8, int a)]) (fun a k => []) (fun _ => rfl) ⟨leA, ?_⟩
  rintro n y0_1 _ hm h6
  replace h6 : d_master_Check_L0 a1 (n + 1) y0_1 = some _ := h6
  rw [d_master_Check_L0] at h6
  refine tc tbk 2 (.mk ?_)
  refine nb tbk h6 fun x16 h6 => ?_
  refine tr tbk 2 (.mk ?_)
  cases x16
  replace h6 := cf h6
  refine tc tbk 2 (.mk ?_)
  exact lfE h6 () leA
  replace h6 := ct h6
  refine tc tbk 14 (.mk ?_)
  obtain ⟨x17, e17, h6⟩ := bind_e h6
  refine sY (yv_ixT rfl Tryz.underlying22 sh3 rfl rfl e17) ?_
  refine tr tbk 1 (.mk ?_)
  obtain ⟨j18, h7, h6⟩ := bind_e h6
  refine rse (Out := fun y H' => (∃ (a : Bool) (k : Unit), a = j18 ∧ y = boo a ∧ H' = hk [(1, ⟨25, 5, true, true, v2, [[int a1.Entities, int a1.Periods, lst 1 fI a1.Weights, lst 1 (fL 1 fI) a1.Methods, lst 1 (fL 1 fI) a1.Costs]]⟩), (2, ⟨3, 1, true, true, v3, [[int (a1.Weights.length : Int)]]⟩), (3, ⟨184, 1, true, true, v4, [[.fn (.func 114) [] []]]⟩), (4, ⟨184, 1, true, true, v10, [[.fn (.func 114) [] []]]⟩)])) rfl rfl rfl (yl_call rfl rfl (.cons rfl .nil) cal165 ?_) ?_
  refine pcw (c := _) Tryz.func165 rfl rfl ?_; intro Q hret hnorm
  refine tc tbk 8 (.mk ?_)
  obtain ⟨x19, e19, h7⟩ := bind_e h7
  refine sC cal114 (d_master_Check_1_c e19) ?_
  refine nb tbk h7 fun x20 h7 => ?_
  refine tr tbk 2 (.mk ?_)
  obtain rfl := nxt_e h7
  refine w_ret (hret _ _ (hk [(1, ⟨25, 5, true, true, v2, [[int a1.Entities, int a1.Periods, lst 1 fI a1.Weights, lst 1 (fL 1 fI) a1.Methods, lst 1 (fL 1 fI) a1.Costs]]⟩), (2, ⟨3, 1, true, true, v3, [[int (a1.Weights.length : Int)]]⟩), (3, ⟨184, 1, true, true, v4, [[.fn (.func 114) [] []]]⟩), (4, ⟨184, 1, true, true, v10, [[.fn (.func 114) [] []]]⟩)]) (.tmp rfl .nil) (HK.le ⟨rfl, rfl, rfl, rfl, trivial⟩) ?_)
  exact ⟨x20, (), rfl, rfl, rfl⟩
  rintro y _ ⟨y2_1, _, rfl, hc, rfl⟩
  subst hc
  refine tr tbk 1 (.mk ?_)
  cases y2_1
  replace h6 := cf h6
  refine tc tbk 4 (.mk ?_)
  refine ni tbk h6 fun x21 h6 => ?_
  refine tr tbk 2 (.mk ?_)
  exact bk x21 () h6 leA
  replace h6 := ct h6
  refine tc tbk 6 (.mk ?_)
  obtain ⟨c22, hX, hj⟩ := esc_e h6; subst hj; replace h5 := hX.trans (sel_r h5)
  obtain rfl := nxt_e h5
  refine w_ret (hret _ _ (hk [(1, ⟨25, 5, true, true, v2, [[int a1.Entities, int a1.Periods, lst 1 fI a1.Weights, lst 1 (fL 1 fI) a1.Methods, lst 1 (fL 1 fI) a1.Costs]]⟩), (2, ⟨3, 1, true, true, v3, [[int (a1.Weights.length : Int)]]⟩), (3, ⟨184, 1, true, true, v4, [[.fn (.func 114) [] []]]⟩), (4, ⟨184, 1, true, true, v10, [[.fn (.func 114) [] []]]⟩)]) (.tmp rfl .nil) (HK.le ⟨rfl, rfl, rfl, rfl, trivial⟩) ?_)
  exact ⟨y0_1, (), rfl, rfl, rfl⟩
  rintro _ _ h5
  refine tc tbk 4 (.mk ?_)
  obtain rfl := nxt_e h5
  refine w_ret (hret _ _ (hk [(1, ⟨25, 5, true, true, v2, [[int a1.Entities, int a1.Periods, lst 1 fI a1.Weights, lst 1 (fL 1 fI) a1.Methods, lst 1 (fL 1 fI) a1.Costs]]⟩), (2, ⟨3, 1, true, true, v3, [[int (a1.Weights.length : Int)]]⟩), (3, ⟨184, 1, true, true, v4, [[.fn (.func 114) [] []]]⟩), (4, ⟨184, 1, true, true, v10, [[.fn (.func 114) [] []]]⟩)]) (.tmp rfl .nil) (HK.le ⟨rfl, rfl, rfl, rfl, trivial⟩) ?_)
  exact ⟨(-1), (), rfl, rfl, rfl⟩
  rintro y _ ⟨y5_1, _, rfl, hc, rfl⟩
  subst hc
  refine nb tbk h4 fun x23 h4 => ?_
  refine tr tbk 2 (.mk ?_)
  obtain rfl := nxt_e h4
  refine w_ret (hret _ _ (hk [(1, ⟨25, 5, true, true, v2, [[int a1.Entities, int a1.Periods, lst 1 fI a1.Weights, lst 1 (fL 1 fI) a1.Methods, lst 1 (fL 1 fI) a1.Costs]]⟩), (2, ⟨3, 1, true, true, v3, [[int (a1.Weights.length : Int)]]⟩), (3, ⟨184, 1, true, true, v4, [[.fn (.func 114) [] []]]⟩), (4, ⟨184, 1, true, true, v10, [[.fn (.func 114) [] []]]⟩)]) (.tmp rfl .nil) (HK.le ⟨rfl, rfl, rfl, rfl, trivial⟩) ?_)
  exact ⟨x23, (), rfl, rfl, rfl⟩
  rintro y _ ⟨y6_1, _, rfl, hc, rfl⟩
  subst hc
  refine nb tbk h3 fun x24 h3 => ?_
  refine tr tbk 3 (.mk ?_)
  exact lf h3 () leA
  rintro y7_1 _ h2
  obtain rfl := nxt_e h2
  refine w_ret (hret _ _ (hk [(1, ⟨25, 5, true, true, v2, [[int a1.Entities, int a1.Periods, lst 1 fI a1.Weights, lst 1 (fL 1 fI) a1.Methods, lst 1 (fL 1 fI) a1.Costs]]⟩), (2, ⟨3, 1, true, true, v3, [[int (a1.Weights.length : Int)]]⟩), (3, ⟨184, 1, true, true, v4, [[.fn (.func 114) [] []]]⟩)]) (.tmp rfl .nil) (HK.le ⟨rfl, rfl, rfl, trivial⟩) ?_)
  exact ⟨y7_1, (), rfl, rfl, rfl⟩
  rintro y _ ⟨y8_1, _, rfl, hc, rfl⟩
  subst hc
  refine tr tbk 2 (.mk ?_)
  cases y8_1
  replace h1 := cf h1
  refine tr tbk 17 (.mk ?_)
  exact lf h1 () leA
  replace h1 := ct h1
  refine tr tbk 5 (.mk ?_)
  obtain ⟨j25, h2, h1⟩ := bind_e h1
  refine rse (Out := fun y H' => (∃ (a : Bool) (k : Unit), a = j25 ∧ y = boo a ∧ H' = hk [(1, ⟨25, 5, true, true, v2, [[int a1.Entities, int a1.Periods, lst 1 fI a1.Weights, lst 1 (fL 1 fI) a1.Methods, lst 1 (fL 1 fI) a1.Costs]]⟩), (2, ⟨3, 1, true, true, v3, [[int (a1.Weights.length : Int)]]⟩), (3, ⟨184, 1, true, true, v4, [[.fn (.func 114) [] []]]⟩)])) rfl rfl rfl (yl_call rfl rfl (.cons rfl (.cons rfl (.cons rfl .nil))) cal120 ?_) ?_
  refine pcw (c := _) Tryz.func120 rfl rfl ?_; intro Q hret hnorm
  refine tc tbk 2 (.mk ?_)
  refine sB 5 fun v26 => ?_
  refine tr tbk 3 (.mk ?_)
  refine jn h2 [] [1, 2, 3] (fun (a : Bool) (k : Unit) => [(6, boo a)]) (fun a k => []) ⟨fun j27 h3 => ?_, ?_⟩
  refine tc tbk 2 (.mk ?_)
  refine sY (yv_len_sl rfl Tryz.underlying23 rfl (lst_len _)) ?_
  refine tr tbk 1 (.mk ?_)
  refine nb tbk h3 fun x28 h3 => ?_
  refine tr tbk 1 (.mk ?_)
  cases x28
  replace h3 := cf h3
  refine tr tbk 7 (.mk ?_)
  exact lf h3 () leA
  replace h3 := ct h3
  refine tr tbk 2 (.mk ?_)
  obtain ⟨j29, h4, h3⟩ := bind_e h3
  refine rse (Out := fun y H' => (∃ (a : Bool) (k : Unit), a = j29 ∧ y = boo a ∧ H' = hk [(1, ⟨25, 5, true, true, v2, [[int a1.Entities, int a1.Periods, lst 1 fI a1.Weights, lst 1 (fL 1 fI) a1.Methods, lst 1 (fL 1 fI) a1.Costs]]⟩), (2, ⟨3, 1, true, true, v3, [[int (a1.Weights.length : Int)]]⟩), (3, ⟨184, 1, true, true, v4, [[.fn (.func 114) [] []]]⟩), (5, ⟨49, 1, true, true, v26, [[.fn (.func 116) [] [.pt 2 v3 0 0]]]⟩)])) rfl rfl rfl (yl_call rfl rfl (.cons rfl (.cons rfl .nil)) cal166 ?_) ?_
  refine pcw (c := _) Tryz.func166 rfl rfl ?_; intro Q hret hnorm
  refine tc tbk 8 (.mk ?_)
  obtain ⟨j30, h5, h4⟩ := bind_e h4
  refine rse (Out := fun y H' => (∃ (a : Int) (k : Unit), a = j30 ∧ y = int a ∧ H' = hk [(1, ⟨25, 5, true, true, v2, [[int a1.Entities, int a1.Periods, lst 1 fI a1.Weights, lst 1 (fL 1 fI) a1.Methods, lst 1 (fL 1 fI) a1.Costs]]⟩), (2, ⟨3, 1, true, true, v3, [[int (a1.Weights.length : Int)]]⟩), (3, ⟨184, 1, true, true, v4, [[.fn (.func 114) [] []]]⟩), (5, ⟨49, 1, true, true, v26, [[.fn (.func 116) [] [.pt 2 v3 0 0]]]⟩)])) rfl rfl rfl (yl_call rfl rfl (.cons rfl (.cons rfl .nil)) cal193 ?_) ?_
  refine pcw (c := _) Tryz.func193 rfl rfl ?_; intro Q hret hnorm
  refine tc tbk 8 (.mk ?_)
  refine sY (yv_len_sl rfl Tryz.underlying23 rfl (lst_len _)) ?_
  refine tr tbk 2 (.mk ?_)
  refine jnE h5 [4] [1, 2, 3, 5] (fun (a : Unit) (k : Unit) => []) (fun a k => []) ⟨fun j31 h6 h5 => ?_, ?_⟩
  refine tc tbk 1 (.mk ?_)
  refine lp (fun n (a : Int) => d_master_Check_L1 a1 n a) (0 : Int) () h6 [0, 1, 4, 7] [1, 2, 3, 5] (fun (a : Int) (k : Unit) => [(8, int a)]) (fun a k => []) (fun _ => rfl) ⟨leA, ?_⟩
  rintro n y9_1 _ hm h6
  replace h6 : d_master_Check_L1 a1 (n + 1) y9_1 = some _ := h6
  rw [d_master_Check_L1] at h6
  refine tc tbk 2 (.mk ?_)
  refine nb tbk h6 fun x32 h6 => ?_
  refine tr tbk 2 (.mk ?_)
  cases x32
  replace h6 := cf h6
  refine tc tbk 2 (.mk ?_)
  exact lfE h6 () leA
  replace h6 := ct h6
  refine tc tbk 14 (.mk ?_)
  obtain ⟨x33, e33, h6⟩ := bind_e h6
  refine sY (yv_ixT rfl Tryz.underlying23 sh22 rfl rfl e33) ?_
  refine tr tbk 1 (.mk ?_)
  obtain ⟨j34, h7, h6⟩ := bind_e h6
  refine rse (Out := fun y H' => (∃ (a : Bool) (k : Unit), a = j34 ∧ y = boo a ∧ H' = hk [(1, ⟨25, 5, true, true, v2, [[int a1.Entities, int a1.Periods, lst 1 fI a1.Weights, lst 1 (fL 1 fI) a1.Methods, lst 1 (fL 1 fI) a1.Costs]]⟩), (2, ⟨3, 1, true, true, v3, [[int (a1.Weights.length : Int)]]⟩), (3, ⟨184, 1, true, true, v4, [[.fn (.func 114) [] []]]⟩), (5, ⟨49, 1, true, true, v26, [[.fn (.func 116) [] [.pt 2 v3 0 0]]]⟩)])) rfl rfl rfl (yl_call rfl rfl (.cons rfl .nil) cal167 ?_) ?_
  refine pcw (c := _) Tryz.func167 rfl rfl ?_; intro Q hret hnorm
  refine tc tbk 8 (.mk ?_)
  obtain ⟨j35, h8, h7⟩ := bind_e h7
  refine rse (Out := fun y H' => (∃ (a : Bool) (k : Unit), a = j35 ∧ y = boo a ∧ H' = hk [(1, ⟨25, 5, true, true, v2, [[int a1.Entities, int a1.Periods, lst 1 fI a1.Weights, lst 1 (fL 1 fI) a1.Methods, lst 1 (fL 1 fI) a1.Costs]]⟩), (2, ⟨3, 1, true, true, v3, [[int (a1.Weights.length : Int)]]⟩), (3, ⟨184, 1, true, true, v4, [[.fn (.func 114) [] []]]⟩), (5, ⟨49, 1, true, true, v26, [[.fn (.func 116) [] [.pt 2 v3 0 0]]]⟩)])) rfl rfl rfl (yl_call rfl rfl (.cons rfl .nil) cal116 ?_) ?_
  refine pcw (c := _) Tryz.func116 rfl rfl ?_; intro Q hret hnorm
  refine tc tbk 8 (.mk ?_)
  obtain ⟨j36, h9, h8⟩ := bind_e h8
  refine rse (Out := fun y H' => (∃ (a : Bool) (k : Unit), a = j36 ∧ y = boo a ∧ H' = hk [(1, ⟨25, 5, true, true, v2, [[int a1.Entities, int a1.Periods, lst 1 fI a1.Weights, lst 1 (fL 1 fI) a1.Methods, lst 1 (fL 1 fI) a1.Costs]]⟩), (2, ⟨3, 1, true, true, v3, [[int (a1.Weights.length : Int)]]⟩), (3, ⟨184, 1, true, true, v4, [[.fn (.func 114) [] []]]⟩), (5, ⟨49, 1, true, true, v26, [[.fn (.func 116) [] [.pt 2 v3 0 0]]]⟩)])) rfl rfl rfl (yl_call rfl rfl (.cons rfl (.cons rfl (.cons rfl .nil))) cal117 ?_) ?_
  refine pcw (c := _) Tryz.func117 rfl rfl ?_; intro Q hret hnorm
  refine tc tbk 2 (.mk ?_)
  refine sB 6 fun v37 => ?_
  refine tr tbk 3 (.mk ?_)
  refine jn h9 [] [1, 2, 3, 5] (fun (a : Bool) (k : Unit) => [(6, boo a)]) (fun a k => []) ⟨fun j38 h10 => ?_, ?_⟩
  refine tc tbk 2 (.mk ?_)
  refine sY (yv_len_sl rfl Tryz.underlying22 rfl (lst_len _)) ?_
  refine tr tbk 1 (.mk ?_)
  refine nb tbk h10 fun x39 h10 => ?_
  refine tr tbk 1 (.mk ?_)
  cases x39
  replace h10 := cf h10
  refine tr tbk 7 (.mk ?_)
  exact lf h10 () leA
  replace h10 := ct h10
  refine tr tbk 2 (.mk ?_)
  obtain ⟨j40, h11, h10⟩ := bind_e h10
  refine rse (Out := fun y H' => (∃ (a : Bool) (k : Unit), a = j40 ∧ y = boo a ∧ H' = hk [(1, ⟨25, 5, true, true, v2, [[int a1.Entities, int a1.Periods, lst 1 fI a1.Weights, lst 1 (fL 1 fI) a1.Methods, lst 1 (fL 1 fI) a1.Costs]]⟩), (2, ⟨3, 1, true, true, v3, [[int (a1.Weights.length : Int)]]⟩), (3, ⟨184, 1, true, true, v4, [[.fn (.func 114) [] []]]⟩), (5, ⟨49, 1, true, true, v26, [[.fn (.func 116) [] [.pt 2 v3 0 0]]]⟩), (6, ⟨184, 1, true, true, v37, [[.fn (.func 118) [] []]]⟩)])) rfl rfl rfl (yl_call rfl rfl (.cons rfl (.cons rfl .nil)) cal122 ?_) ?_
  refine pcw (c := _) Tryz.func122 rfl rfl ?_; intro Q hret hnorm
  refine tc tbk 8 (.mk ?_)
  obtain ⟨j41, h12, h11⟩ := bind_e h11
  refine rse (Out := fun y H' => (∃ (a : Int) (k : Unit), a = j41 ∧ y = int a ∧ H' = hk [(1, ⟨25, 5, true, true, v2, [[int a1.Entities, int a1.Periods, lst 1 fI a1.Weights, lst 1 (fL 1 fI) a1.Methods, lst 1 (fL 1 fI) a1.Costs]]⟩), (2, ⟨3, 1, true, true, v3, [[int (a1.Weights.length : Int)]]⟩), (3, ⟨184, 1, true, true, v4, [[.fn (.func 114) [] []]]⟩), (5, ⟨49, 1, true, true, v26, [[.fn (.func 116) [] [.pt 2 v3 0 0]]]⟩), (6, ⟨184, 1, true, true, v37, [[.fn (.func 118) [] []]]⟩)])) rfl rfl rfl (yl_call rfl rfl (.cons rfl (.cons rfl .nil)) cal168 ?_) ?_
  refine pcw (c := _) Tryz.func168 rfl rfl ?_; intro Q hret hnorm
  refine tc tbk 8 (.mk ?_)
  refine sY (yv_len_sl rfl Tryz.underlying22 rfl (lst_len _)) ?_
  refine tr tbk 2 (.mk ?_)
  refine jnE h12 [4] [1, 2, 3, 5, 6] (fun (a : Unit) (k : Unit) => []) (fun a k => []) ⟨fun j42 h13 h12 => ?_, ?_⟩
  refine tc tbk 1 (.mk ?_)
  refine lp (fun n (a : Int) => d_master_Check_L2 x33 n a) (0 : Int) () h13 [0, 1, 4, 7] [1, 2, 3, 5, 6] (fun (a : Int) (k : Unit) => [(8, int a)]) (fun a k => []) (fun _ => rfl) ⟨leA, ?_⟩
  rintro n y10_1 _ hm h13
  replace h13 : d_master_Check_L2 x33 (n + 1) y10_1 = some _ := h13
  rw [d_master_Check_L2] at h13
  refine tc tbk 2 (.mk ?_)
  refine nb tbk h13 fun x43 h13 => ?_
  refine tr tbk 2 (.mk ?_)
  cases x43
  replace h13 := cf h13
  refine tc tbk 2 (.mk ?_)
  exact lfE h13 () leA
  replace h13 := ct h13
  refine tc tbk 14 (.mk ?_)
  obtain ⟨x44, e44, h13⟩ := bind_e h13
  refine sY (yv_ixT rfl Tryz.underlying22 sh3 rfl rfl e44) ?_
  refine tr tbk 1 (.mk ?_)
  obtain ⟨j45, h14, h13⟩ := bind_e h13
  refine rse (Out := fun y H' => (∃ (a : Bool) (k : Unit), a = j45 ∧ y = boo a ∧ H' = hk [(1, ⟨25, 5, true, true, v2, [[int a1.Entities, int a1.Periods, lst 1 fI a1.Weights, lst 1 (fL 1 fI) a1.Methods, lst 1 (fL 1 fI) a1.Costs]]⟩), (2, ⟨3, 1, true, true, v3, [[int (a1.Weights.length : Int)]]⟩), (3, ⟨184, 1, true, true, v4, [[.fn (.func 114) [] []]]⟩), (5, ⟨49, 1, true, true, v26, [[.fn (.func 116) [] [.pt 2 v3 0 0]]]⟩), (6, ⟨184, 1, true, true, v37, [[.fn (.func 118) [] []]]⟩)])) rfl rfl rfl (yl_call rfl rfl (.cons rfl .nil) cal165 ?_) ?_
  refine pcw (c := _) Tryz.func165 rfl rfl ?_; intro Q hret hnorm
  refine tc tbk 8 (.mk ?_)
  obtain ⟨x46, e46, h14⟩ := bind_e h14
  refine sC cal118 (d_master_Check_2_1_c e46) ?_
  refine nb tbk h14 fun x47 h14 => ?_
  refine tr tbk 2 (.mk ?_)
  obtain rfl := nxt_e h14
  refine w_ret (hret _ _ (hk [(1, ⟨25, 5, true, true, v2, [[int a1.Entities, int a1.Periods, lst 1 fI a1.Weights, lst 1 (fL 1 fI) a1.Methods, lst 1 (fL 1 fI) a1.Costs]]⟩), (2, ⟨3, 1, true, true, v3, [[int (a1.Weights.length : Int)]]⟩), (3, ⟨184, 1, true, true, v4, [[.fn (.func 114) [] []]]⟩), (5, ⟨49, 1, true, true, v26, [[.fn (.func 116) [] [.pt 2 v3 0 0]]]⟩), (6, ⟨184, 1, true, true, v37, [[.fn (.func 118) [] []]]⟩)]) (.tmp rfl .nil) (HK.le ⟨rfl, rfl, rfl, rfl, rfl, trivial⟩) ?_)
  exact ⟨x47, (), rfl, rfl, rfl⟩
  rintro y _ ⟨y12_1, _, rfl, hc, rfl⟩
  subst hc
  refine tr tbk 1 (.mk ?_)
  cases y12_1
  replace h13 := cf h13
  refine tc tbk 4 (.mk ?_)
  refine ni tbk h13 fun x48 h13 => ?_
  refine tr tbk 2 (.mk ?_)
  exact bk x48 () h13 leA
  replace h13 := ct h13
  refine tc tbk 6 (.mk ?_)
  obtain ⟨c49, hX, hj⟩ := esc_e h13; subst hj; replace h12 := hX.trans (sel_r h12)
  obtain rfl := nxt_e h12
  refine w_ret (hret _ _ (hk [(1, ⟨25, 5, true, true, v2, [[int a1.Entities, int a1.Periods, lst 1 fI a1.Weights, lst 1 (fL 1 fI) a1.Methods, lst 1 (fL 1 fI) a1.Costs]]⟩), (2, ⟨3, 1, true, true, v3, [[int (a1.Weights.length : Int)]]⟩), (3, ⟨184, 1, true, true, v4, [[.fn (.func 114) [] []]]⟩), (5, ⟨49, 1, true, true, v26, [[.fn (.func 116) [] [.pt 2 v3 0 0]]]⟩), (6, ⟨184, 1, true, true, v37, [[.fn (.func 118) [] []]]⟩)]) (.tmp rfl .nil) (HK.le ⟨rfl, rfl, rfl, rfl, rfl, trivial⟩) ?_)
  exact ⟨y10_1, (), rfl, rfl, rfl⟩
  rintro _ _ h12
  refine tc tbk 4 (.mk ?_)
  obtain rfl := nxt_e h12
  refine w_ret (hret _ _ (hk [(1, ⟨25, 5, true, true, v2, [[int a1.Entities, int a1.Periods, lst 1 fI a1.Weights, lst 1 (fL 1 fI) a1.Methods, lst 1 (fL 1 fI) a1.Costs]]⟩), (2, ⟨3, 1, true, true, v3, [[int (a1.Weights.length : Int)]]⟩), (3, ⟨184, 1, true, true, v4, [[.fn (.func 114) [] []]]⟩), (5, ⟨49, 1, true, true, v26, [[.fn (.func 116) [] [.pt 2 v3 0 0]]]⟩), (6, ⟨184, 1, true, true, v37, [[.fn (.func 118) [] []]]⟩)]) (.tmp rfl .nil) (HK.le ⟨rfl, rfl, rfl, rfl, rfl, trivial⟩) ?_)
  exact ⟨(-1), (), rfl, rfl, rfl⟩
  rintro y _ ⟨y15_1, _, rfl, hc, rfl⟩
  subst hc
  refine nb tbk h11 fun x50 h11 => ?_
  refine tr tbk 2 (.mk ?_)
  obtain rfl := nxt_e h11
  refine w_ret (hret _ _ (hk [(1, ⟨25, 5, true, true, v2, [[int a1.Entities, int a1.Periods, lst 1 fI a1.Weights, lst 1 (fL 1 fI) a1.Methods, lst 1 (fL 1 fI) a1.Costs]]⟩), (2, ⟨3, 1, true, true, v3, [[int (a1.Weights.length : Int)]]⟩), (3, ⟨184, 1, true, true, v4, [[.fn (.func 114) [] []]]⟩), (5, ⟨49, 1, true, true, v26, [[.fn (.func 116) [] [.pt 2 v3 0 0]]]⟩), (6, ⟨184, 1, true, true, v37, [[.fn (.func 118) [] []]]⟩)]) (.tmp rfl .nil) (HK.le ⟨rfl, rfl, rfl, rfl, rfl, trivial⟩) ?_)
  exact ⟨x50, (), rfl, rfl, rfl⟩
  rintro y _ ⟨y16_1, _, rfl, hc, rfl⟩
  subst hc
  refine nb tbk h10 fun x51 h10 => ?_
  refine tr tbk 3 (.mk ?_)
  exact lf h10 () leA
  rintro y17_1 _ h9
  obtain rfl := nxt_e h9
  refine w_ret (hret _ _ (hk [(1, ⟨25, 5, true, true, v2, [[int a1.Entities, int a1.Periods, lst 1 fI a1.Weights, lst 1 (fL 1 fI) a1.Methods, lst 1 (fL 1 fI) a1.Costs]]⟩), (2, ⟨3, 1, true, true, v3, [[int (a1.Weights.length : Int)]]⟩), (3, ⟨184, 1, true, true, v4, [[.fn (.func 114) [] []]]⟩), (5, ⟨49, 1, true, true, v26, [[.fn (.func 116) [] [.pt 2 v3 0 0]]]⟩)]) (.tmp rfl .nil) (HK.le ⟨rfl, rfl, rfl, rfl, trivial⟩) ?_)
  exact ⟨y17_1, (), rfl, rfl, rfl⟩
  rintro y _ ⟨y19_1, _, rfl, hc, rfl⟩
  subst hc
  refine tr tbk 2 (.mk ?_)
  obtain rfl := nxt_e h8
  refine w_ret (hret _ _ (hk [(1, ⟨25, 5, true, true, v2, [[int a1.Entities, int a1.Periods, lst 1 fI a1.Weights, lst 1 (fL 1 fI) a1.Methods, lst 1 (fL 1 fI) a1.Costs]]⟩), (2, ⟨3, 1, true, true, v3, [[int (a1.Weights.length : Int)]]⟩), (3, ⟨184, 1, true, true, v4, [[.fn (.func 114) [] []]]⟩), (5, ⟨49, 1, true, true, v26, [[.fn (.func 116) [] [.pt 2 v3 0 0]]]⟩)]) (.tmp rfl .nil) (HK.le ⟨rfl, rfl, rfl, rfl, trivial⟩) ?_)
  exact ⟨y19_1, (), rfl, rfl, rfl⟩
  rintro y _ ⟨y21_1, _, rfl, hc, rfl⟩
  subst hc
  refine nb tbk h7 fun x52 h7 => ?_
  refine tr tbk 2 (.mk ?_)
  obtain rfl := nxt_e h7
  refine w_ret (hret _ _ (hk [(1, ⟨25, 5, true, true, v2, [[int a1.Entities, int a1.Periods, lst 1 fI a1.Weights, lst 1 (fL 1 fI) a1.Methods, lst 1 (fL 1 fI) a1.Costs]]⟩), (2, ⟨3, 1, true, true, v3, [[int (a1.Weights.length : Int)]]⟩), (3, ⟨184, 1, true, true, v4, [[.fn (.func 114) [] []]]⟩), (5, ⟨49, 1, true, true, v26, [[.fn (.func 116) [] [.pt 2 v3 0 0]]]⟩)]) (.tmp rfl .nil) (HK.le ⟨rfl, rfl, rfl, rfl, trivial⟩) ?_)
  exact ⟨x52, (), rfl, rfl, rfl⟩
  rintro y _ ⟨y23_1, _, rfl, hc, rfl⟩
  subst hc
  refine tr tbk 1 (.mk ?_)
  cases y23_1
  replace h6 := cf h6
  refine tc tbk 4 (.mk ?_)
  refine ni tbk h6 fun x53 h6 => ?_
  refine tr tbk 2 (.mk ?_)
  exact bk x53 () h6 leA
  replace h6 := ct h6
  refine tc tbk 6 (.mk ?_)
  obtain ⟨c54, hX, hj⟩ := esc_e h6; subst hj; replace h5 := hX.trans (sel_r h5)
  obtain rfl := nxt_e h5
  refine w_ret (hret _ _ (hk [(1, ⟨25, 5, true, true, v2, [[int a1.Entities, int a1.Periods, lst 1 fI a1.Weights, lst 1 (fL 1 fI) a1.Methods, lst 1 (fL 1 fI) a1.Costs]]⟩), (2, ⟨3, 1, true, true, v3, [[int (a1.Weights.length : Int)]]⟩), (3, ⟨184, 1, true, true, v4, [[.fn (.func 114) [] []]]⟩), (5, ⟨49, 1, true, true, v26, [[.fn (.func 116) [] [.pt 2 v3 0 0]]]⟩)]) (.tmp rfl .nil) (HK.le ⟨rfl, rfl, rfl, rfl, trivial⟩) ?_)
  exact ⟨y9_1, (), rfl, rfl, rfl⟩
  rintro _ _ h5
  refine tc tbk 4 (.mk ?_)
  obtain rfl := nxt_e h5
  refine w_ret (hret _ _ (hk [(1, ⟨25, 5, true, true, v2, [[int a1.Entities, int a1.Periods, lst 1 fI a1.Weights, lst 1 (fL 1 fI) a1.Methods, lst 1 (fL 1 fI) a1.Costs]]⟩), (2, ⟨3, 1, true, true, v3, [[int (a1.Weights.length : Int)]]⟩), (3, ⟨184, 1, true, true, v4, [[.fn (.func 114) [] []]]⟩), (5, ⟨49, 1, true, true, v26, [[.fn (.func 116) [] [.pt 2 v3 0 0]]]⟩)]) (.tmp rfl .nil) (HK.le ⟨rfl, rfl, rfl, rfl, trivial⟩) ?_)
  exact ⟨(-1), (), rfl, rfl, rfl⟩
  rintro y _ ⟨y26_1, _, rfl, hc, rfl⟩
  subst hc
  refine nb tbk h4 fun x55 h4 => ?_
  refine tr tbk 2 (.mk ?_)
  obtain rfl := nxt_e h4
  refine w_ret (hret _ _ (hk [(1, ⟨25, 5, true, true, v2, [[int a1.Entities, int a1.Periods, lst 1 fI a1.Weights, lst 1 (fL 1 fI) a1.Methods, lst 1 (fL 1 fI) a1.Costs]]⟩), (2, ⟨3, 1, true, true, v3, [[int (a1.Weights.length : Int)]]⟩), (3, ⟨184, 1, true, true, v4, [[.fn (.func 114) [] []]]⟩), (5, ⟨49, 1, true, true, v26, [[.fn (.func 116) [] [.pt 2 v3 0 0]]]⟩)]) (.tmp rfl .nil) (HK.le ⟨rfl, rfl, rfl, rfl, trivial⟩) ?_)
  exact ⟨x55, (), rfl, rfl, rfl⟩
  rintro y _ ⟨y27_1, _, rfl, hc, rfl⟩
  subst hc
  refine nb tbk h3 fun x56 h3 => ?_
  refine tr tbk 3 (.mk ?_)
  exact lf h3 () leA
  rintro y28_1 _ h2
  obtain rfl := nxt_e h2
  refine w_ret (hret _ _ (hk [(1, ⟨25, 5, true, true, v2, [[int a1.Entities, int a1.Periods, lst 1 fI a1.Weights, lst 1 (fL 1 fI) a1.Methods, lst 1 (fL 1 fI) a1.Costs]]⟩), (2, ⟨3, 1, true, true, v3, [[int (a1.Weights.length : Int)]]⟩), (3, ⟨184, 1, true, true, v4, [[.fn (.func 114) [] []]]⟩)]) (.tmp rfl .nil) (HK.le ⟨rfl, rfl, rfl, trivial⟩) ?_)
  exact ⟨y28_1, (), rfl, rfl, rfl⟩
  rintro y _ ⟨y29_1, _, rfl, hc, rfl⟩
  subst hc
  refine tr tbk 2 (.mk ?_)
  cases y29_1
  replace h1 := cf h1
  refine tr tbk 9 (.mk ?_)
  exact lf h1 () leA
  replace h1 := ct h1
  refine tr tbk 5 (.mk ?_)
  obtain ⟨j57, h2, h1⟩ := bind_e h1
  refine rse (Out := fun y H' => (∃ (a : Bool) (k : Unit), a = j57 ∧ y = boo a ∧ H' = hk [(1, ⟨25, 5, true, true, v2, [[int a1.Entities, int a1.Periods, lst 1 fI a1.Weights, lst 1 (fL 1 fI) a1.Methods, lst 1 (fL 1 fI) a1.Costs]]⟩), (2, ⟨3, 1, true, true, v3, [[int (a1.Weights.length : Int)]]⟩), (3, ⟨184, 1, true, true, v4, [[.fn (.func 114) [] []]]⟩)])) rfl rfl rfl (yl_call rfl rfl (.cons rfl (.cons rfl (.cons rfl .nil))) cal120 ?_) ?_
  refine pcw (c := _) Tryz.func120 rfl rfl ?_; intro Q hret hnorm
  refine tc tbk 2 (.mk ?_)
  refine sB 7 fun v58 => ?_
  refine tr tbk 3 (.mk ?_)
  refine jn h2 [] [1, 2, 3] (fun (a : Bool) (k : Unit) => [(6, boo a)]) (fun a k => []) ⟨fun j59 h3 => ?_, ?_⟩
  refine tc tbk 2 (.mk ?_)
  refine sY (yv_len_sl rfl Tryz.underlying23 rfl (lst_len _)) ?_
  refine tr tbk 1 (.mk ?_)
  refine nb tbk h3 fun x60 h3 => ?_
  refine tr tbk 1 (.mk ?_)
  cases x60
  replace h3 := cf h3
  refine tr tbk 7 (.mk ?_)
  exact lf h3 () leA
  replace h3 := ct h3
  refine tr tbk 2 (.mk ?_)
  obtain ⟨j61, h4, h3⟩ := bind_e h3
  refine rse (Out := fun y H' => (∃ (a : Bool) (k : Unit), a = j61 ∧ y = boo a ∧ H' = hk [(1, ⟨25, 5, true, true, v2, [[int a1.Entities, int a1.Periods, lst 1 fI a1.Weights, lst 1 (fL 1 fI) a1.Methods, lst 1 (fL 1 fI) a1.Costs]]⟩), (2, ⟨3, 1, true, true, v3, [[int (a1.Weights.length : Int)]]⟩), (3, ⟨184, 1, true, true, v4, [[.fn (.func 114) [] []]]⟩), (7, ⟨49, 1, true, true, v58, [[.fn (.func 119) [] [.pt 2 v3 0 0, .pt 3 v4 0 0]]]⟩)])) rfl rfl rfl (yl_call rfl rfl (.cons rfl (.cons rfl .nil)) cal166 ?_) ?_
  refine pcw (c := _) Tryz.func166 rfl rfl ?_; intro Q hret hnorm
  refine tc tbk 8 (.mk ?_)
  obtain ⟨j62, h5, h4⟩ := bind_e h4
  refine rse (Out := fun y H' => (∃ (a : Int) (k : Unit), a = j62 ∧ y = int a ∧ H' = hk [(1, ⟨25, 5, true, true, v2, [[int a1.Entities, int a1.Periods, lst 1 fI a1.Weights, lst 1 (fL 1 fI) a1.Methods, lst 1 (fL 1 fI) a1.Costs]]⟩), (2, ⟨3, 1, true, true, v3, [[int (a1.Weights.length : Int)]]⟩), (3, ⟨184, 1, true, true, v4, [[.fn (.func 114) [] []]]⟩), (7, ⟨49, 1, true, true, v58, [[.fn (.func 119) [] [.pt 2 v3 0 0, .pt 3 v4 0 0]]]⟩)])) rfl rfl rfl (yl_call rfl rfl (.cons rfl (.cons rfl .nil)) cal193 ?_) ?_
  refine pcw (c := _) Tryz.func193 rfl rfl ?_; intro Q hret hnorm
  refine tc tbk 8 (.mk ?_)
  refine sY (yv_len_sl rfl Tryz.underlying23 rfl (lst_len _)) ?_
  refine tr tbk 2 (.mk ?_)
  refine jnE h5 [4] [1, 2, 3, 7] (fun (a : Unit) (k : Unit) => []) (fun a k => []) ⟨fun j63 h6 h5 => ?_, ?_⟩
  refine tc tbk 1 (.mk ?_)
  refine lp (fun n (a : Int) => d_master_Check_L3 a1 n a) (0 : Int) () h6 [0, 1, 4, 7] [1, 2, 3, 7] (fun (a : Int) (k : Unit) => [(8, int a)]) (fun a k => []) (fun _ => rfl) ⟨leA, ?_⟩
  rintro n y30_1 _ hm h6
  replace h6 : d_master_Check_L3 a1 (n + 1) y30_1 = some _ := h6
  rw [d_master_Check_L3] at h6
  refine tc tbk 2 (.mk ?_)
  refine nb tbk h6 fun x64 h6 => ?_
  refine tr tbk 2 (.mk ?_)
  cases x64
  replace h6 := cf h6
  refine tc tbk 2 (.mk ?_)
  exact lfE h6 () leA
  replace h6 := ct h6
  refine tc tbk 14 (.mk ?_)
  obtain ⟨x65, e65, h6⟩ := bind_e h6
  refine sY (yv_ixT rfl Tryz.underlying23 sh22 rfl rfl e65) ?_
  refine tr tbk 1 (.mk ?_)
  obtain ⟨j66, h7, h6⟩ := bind_e h6
  refine rse (Out := fun y H' => (∃ (a : Bool) (k : Unit), a = j66 ∧ y = boo a ∧ H' = hk [(1, ⟨25, 5, true, true, v2, [[int a1.Entities, int a1.Periods, lst 1 fI a1.Weights, lst 1 (fL 1 fI) a1.Methods, lst 1 (fL 1 fI) a1.Costs]]⟩), (2, ⟨3, 1, true, true, v3, [[int (a1.Weights.length : Int)]]⟩), (3, ⟨184, 1, true, true, v4, [[.fn (.func 114) [] []]]⟩), (7, ⟨49, 1, true, true, v58, [[.fn (.func 119) [] [.pt 2 v3 0 0, .pt 3 v4 0 0]]]⟩)])) rfl rfl rfl (yl_call rfl rfl (.cons rfl .nil) cal167 ?_) ?_
  refine pcw (c := _) Tryz.func167 rfl rfl ?_; intro Q hret hnorm
  refine tc tbk 8 (.mk ?_)
  obtain ⟨j67, h8, h7⟩ := bind_e h7
  refine rse (Out := fun y H' => (∃ (a : Bool) (k : Unit), a = j67 ∧ y = boo a ∧ H' = hk [(1, ⟨25, 5, true, true, v2, [[int a1.Entities, int a1.Periods, lst 1 fI a1.Weights, lst 1 (fL 1 fI) a1.Methods, lst 1 (fL 1 fI) a1.Costs]]⟩), (2, ⟨3, 1, true, true, v3, [[int (a1.Weights.length : Int)]]⟩), (3, ⟨184, 1, true, true, v4, [[.fn (.func 114) [] []]]⟩), (7, ⟨49, 1, true, true, v58, [[.fn (.func 119) [] [.pt 2 v3 0 0, .pt 3 v4 0 0]]]⟩)])) rfl rfl rfl (yl_call rfl rfl (.cons rfl .nil) cal119 ?_) ?_
  refine pcw (c := _) Tryz.func119 rfl rfl ?_; intro Q hret hnorm
  refine tc tbk 9 (.mk ?_)
  obtain ⟨j68, h9, h8⟩ := bind_e h8
  refine rse (Out := fun y H' => (∃ (a : Bool) (k : Unit), a = j68 ∧ y = boo a ∧ H' = hk [(1, ⟨25, 5, true, true, v2, [[int a1.Entities, int a1.Periods, lst 1 fI a1.Weights, lst 1 (fL 1 fI) a1.Methods, lst 1 (fL 1 fI) a1.Costs]]⟩), (2, ⟨3, 1, true, true, v3, [[int (a1.Weights.length : Int)]]⟩), (3, ⟨184, 1, true, true, v4, [[.fn (.func 114) [] []]]⟩), (7, ⟨49, 1, true, true, v58, [[.fn (.func 119) [] [.pt 2 v3 0 0, .pt 3 v4 0 0]]]⟩)])) rfl rfl rfl (yl_call rfl rfl (.cons rfl (.cons rfl (.cons rfl .nil))) cal117 ?_) ?_
  refine pcw (c := _) Tryz.func117 rfl rfl ?_; intro Q hret hnorm
  refine tc tbk 2 (.mk ?_)
  refine sB 8 fun v69 => ?_
  refine tr tbk 3 (.mk ?_)
  refine jn h9 [] [1, 2, 3, 7] (fun (a : Bool) (k : Unit) => [(6, boo a)]) (fun a k => []) ⟨fun j70 h10 => ?_, ?_⟩
  refine tc tbk 2 (.mk ?_)
  refine sY (yv_len_sl rfl Tryz.underlying22 rfl (lst_len _)) ?_
  refine tr tbk 1 (.mk ?_)
  refine nb tbk h10 fun x71 h10 => ?_
  refine tr tbk 1 (.mk ?_)
  cases x71
  replace h10 := cf h10
  refine tr tbk 7 (.mk ?_)
  exact lf h10 () leA
  replace h10 := ct h10
  refine tr tbk 2 (.mk ?_)
  obtain ⟨j72, h11, h10⟩ := bind_e h10
  refine rse (Out := fun y H' => (∃ (a : Bool) (k : Unit), a = j72 ∧ y = boo a ∧ H' = hk [(1, ⟨25, 5, true, true, v2, [[int a1.Entities, int a1.Periods, lst 1 fI a1.Weights, lst 1 (fL 1 fI) a1.Methods, lst 1 (fL 1 fI) a1.Costs]]⟩), (2, ⟨3, 1, true, true, v3, [[int (a1.Weights.length : Int)]]⟩), (3, ⟨184, 1, true, true, v4, [[.fn (.func 114) [] []]]⟩), (7, ⟨49, 1, true, true, v58, [[.fn (.func 119) [] [.pt 2 v3 0 0, .pt 3 v4 0 0]]]⟩), (8, ⟨184, 1, true, true, v69, [[.fn (.func 114) [] []]]⟩)])) rfl rfl rfl (yl_call rfl rfl (.cons rfl (.cons rfl .nil)) cal122 ?_) ?_
  refine pcw (c := _) Tryz.func122 rfl rfl ?_; intro Q hret hnorm
  refine tc tbk 8 (.mk ?_)
  obtain ⟨j73, h12, h11⟩ := bind_e h11
  refine rse (Out := fun y H' => (∃ (a : Int) (k : Unit), a = j73 ∧ y = int a ∧ H' = hk [(1, ⟨25, 5, true, true, v2, [[int a1.Entities, int a1.Periods, lst 1 fI a1.Weights, lst 1 (fL 1 fI) a1.Methods, lst 1 (fL 1 fI) a1.Costs]]⟩), (2, ⟨3, 1, true, true, v3, [[int (a1.Weights.length : Int)]]⟩), (3, ⟨184, 1, true, true, v4, [[.fn (.func 114) [] []]]⟩), (7, ⟨49, 1, true, true, v58, [[.fn (.func 119) [] [.pt 2 v3 0 0, .pt 3 v4 0 0]]]⟩), (8, ⟨184, 1, true, true, v69, [[.fn (.func 114) [] []]]⟩)])) rfl rfl rfl (yl_call rfl rfl (.cons rfl (.cons rfl .nil)) cal168 ?_) ?_
  refine pcw (c := _) Tryz.func168 rfl rfl ?_; intro Q hret hnorm
  refine tc tbk 8 (.mk ?_)
  refine sY (yv_len_sl rfl Tryz.underlying22 rfl (lst_len _)) ?_
  refine tr tbk 2 (.mk ?_)
  refine jnE h12 [4] [1, 2, 3, 7, 8] (fun (a : Unit) (k : Unit) => []) (fun a k => []) ⟨fun j74 h13 h12 => ?_, ?_⟩
  refine tc tbk 1 (.mk ?_)
  refine lp (fun n (a : Int) => d_master_Check_L4 x65 n a) (0 : Int) () h13 [0, 1, 4, 7] [1, 2, 3, 7, 8] (fun (a : Int) (k : Unit) => [(8, int a)]) (fun a k => []) (fun _ => rfl) ⟨leA, ?_⟩
  rintro n y31_1 _ hm h13
  replace h13 : d_master_Check_L4 x65 (n + 1) y31_1 = some _ := h13
  rw [d_master_Check_L4] at h13
  refine tc tbk 2 (.mk ?_)
  refine nb tbk h13 fun x75 h13 => ?_
  refine tr tbk 2 (.mk ?_)
  cases x75
  replace h13 := cf h13
  refine tc tbk 2 (.mk ?_)
  exact lfE h13 () leA
  replace h13 := ct h13
  refine tc tbk 14 (.mk ?_)
  obtain ⟨x76, e76, h13⟩ := bind_e h13
  refine sY (yv_ixT rfl Tryz.underlying22 sh3 rfl rfl e76) ?_
  refine tr tbk 1 (.mk ?_)
  obtain ⟨j77, h14, h13⟩ := bind_e h13
  refine rse (Out := fun y H' => (∃ (a : Bool) (k : Unit), a = j77 ∧ y = boo a ∧ H' = hk [(1, ⟨25, 5, true, true, v2, [[int a1.Entities, int a1.Periods, lst 1 fI a1.Weights, lst 1 (fL 1 fI) a1.Methods, lst 1 (fL 1 fI) a1.Costs]]⟩), (2, ⟨3, 1, true, true, v3, [[int (a1.Weights.length : Int)]]⟩), (3, ⟨184, 1, true, true, v4, [[.fn (.func 114) [] []]]⟩), (7, ⟨49, 1, true, true, v58, [[.fn (.func 119) [] [.pt 2 v3 0 0, .pt 3 v4 0 0]]]⟩), (8, ⟨184, 1, true, true, v69, [[.fn (.func 114) [] []]]⟩)])) rfl rfl rfl (yl_call rfl rfl (.cons rfl .nil) cal165 ?_) ?_
  refine pcw (c := _) Tryz.func165 rfl rfl ?_; intro Q hret hnorm
  refine tc tbk 8 (.mk ?_)
  obtain ⟨x78, e78, h14⟩ := bind_e h14
  refine sC cal114 (d_master_Check_1_c e78) ?_
  refine nb tbk h14 fun x79 h14 => ?_
  refine tr tbk 2 (.mk ?_)
  obtain rfl := nxt_e h14
  refine w_ret (hret _ _ (hk [(1, ⟨25, 5, true, true, v2, [[int a1.Entities, int a1.Periods, lst 1 fI a1.Weights, lst 1 (fL 1 fI) a1.Methods, lst 1 (fL 1 fI) a1.Costs]]⟩), (2, ⟨3, 1, true, true, v3, [[int (a1.Weights.length : Int)]]⟩), (3, ⟨184, 1, true, true, v4, [[.fn (.func 114) [] []]]⟩), (7, ⟨49, 1, true, true, v58, [[.fn (.func 119) [] [.pt 2 v3 0 0, .pt 3 v4 0 0]]]⟩), (8, ⟨184, 1, true, true, v69, [[.fn (.func 114) [] []]]⟩)]) (.tmp rfl .nil) (HK.le ⟨rfl, rfl, rfl, rfl, rfl, trivial⟩) ?_)
  exact ⟨x79, (), rfl, rfl, rfl⟩
  rintro y _ ⟨y33_1, _, rfl, hc, rfl⟩
  subst hc
  refine tr tbk 1 (.mk ?_)
  cases y33_1
  replace h13 := cf h13
  refine tc tbk 4 (.mk ?_)
  refine ni tbk h13 fun x80 h13 => ?_
  refine tr tbk 2 (.mk ?_)
  exact bk x80 () h13 leA
  replace h13 := ct h13
  refine tc tbk 6 (.mk ?_)
  obtain ⟨c81, hX, hj⟩ := esc_e h13; subst hj; replace h12 := hX.trans (sel_r h12)
  obtain rfl := nxt_e h12
  refine w_ret (hret _ _ (hk [(1, ⟨25, 5, true, true, v2, [[int a1.Entities, int a1.Periods, lst 1 fI a1.Weights, lst 1 (fL 1 fI) a1.Methods, lst 1 (fL 1 fI) a1.Costs]]⟩), (2, ⟨3, 1, true, true, v3, [[int (a1.Weights.length : Int)]]⟩), (3, ⟨184, 1, true, true, v4, [[.fn (.func 114) [] []]]⟩), (7, ⟨49, 1, true, true, v58, [[.fn (.func 119) [] [.pt 2 v3 0 0, .pt 3 v4 0 0]]]⟩), (8, ⟨184, 1, true, true, v69, [[.fn (.func 114) [] []]]⟩)]) (.tmp rfl .nil) (HK.le ⟨rfl, rfl, rfl, rfl, rfl, trivial⟩) ?_)
  exact ⟨y31_1, (), rfl, rfl, rfl⟩
  rintro _ _ h12
  refine tc tbk 4 (.mk ?_)
  obtain rfl := nxt_e h12
  refine w_ret (hret _ _ (hk [(1, ⟨25, 5, true, true, v2, [[int a1.Entities, int a1.Periods, lst 1 fI a1.Weights, lst 1 (fL 1 fI) a1.Methods, lst 1 (fL 1 fI) a1.Costs]]⟩), (2, ⟨3, 1, true, true, v3, [[int (a1.Weights.length : Int)]]⟩), (3, ⟨184, 1, true, true, v4, [[.fn (.func 114) [] []]]⟩), (7, ⟨49, 1, true, true, v58, [[.fn (.func 119) [] [.pt 2 v3 0 0, .pt 3 v4 0 0]]]⟩), (8, ⟨184, 1, true, true, v69, [[.fn (.func 114) [] []]]⟩)]) (.tmp rfl .nil) (HK.le ⟨rfl, rfl, rfl, rfl, rfl, trivial⟩) ?_)
  exact ⟨(-1), (), rfl, rfl, rfl⟩
  rintro y _ ⟨y36_1, _, rfl, hc, rfl⟩
  subst hc
  refine nb tbk h11 fun x82 h11 => ?_
  refine tr tbk 2 (.mk ?_)
  obtain rfl := nxt_e h11
  refine w_ret (hret _ _ (hk [(1, ⟨25, 5, true, true, v2, [[int a1.Entities, int a1.Periods, lst 1 fI a1.Weights, lst 1 (fL 1 fI) a1.Methods, lst 1 (fL 1 fI) a1.Costs]]⟩), (2, ⟨3, 1, true, true, v3, [[int (a1.Weights.length : Int)]]⟩), (3, ⟨184, 1, true, true, v4, [[.fn (.func 114) [] []]]⟩), (7, ⟨49, 1, true, true, v58, [[.fn (.func 119) [] [.pt 2 v3 0 0, .pt 3 v4 0 0]]]⟩), (8, ⟨184, 1, true, true, v69, [[.fn (.func 114) [] []]]⟩)]) (.tmp rfl .nil) (HK.le ⟨rfl, rfl, rfl, rfl, rfl, trivial⟩) ?_)
  exact ⟨x82, (), rfl, rfl, rfl⟩
  rintro y _ ⟨y37_1, _, rfl, hc, rfl⟩
  subst hc
  refine nb tbk h10 fun x83 h10 => ?_
  refine tr tbk 3 (.mk ?_)
  exact lf h10 () leA
  rintro y38_1 _ h9
  obtain rfl := nxt_e h9
  refine w_ret (hret _ _ (hk [(1, ⟨25, 5, true, true, v2, [[int a1.Entities, int a1.Periods, lst 1 fI a1.Weights, lst 1 (fL 1 fI) a1.Methods, lst 1 (fL 1 fI) a1.Costs]]⟩), (2, ⟨3, 1, true, true, v3, [[int (a1.Weights.length : Int)]]⟩), (3, ⟨184, 1, true, true, v4, [[.fn (.func 114) [] []]]⟩), (7, ⟨49, 1, true, true, v58, [[.fn (.func 119) [] [.pt 2 v3 0 0, .pt 3 v4 0 0]]]⟩)]) (.tmp rfl .nil) (HK.le ⟨rfl, rfl, rfl, rfl, trivial⟩) ?_)
  exact ⟨y38_1, (), rfl, rfl, rfl⟩
  rintro y _ ⟨y40_1, _, rfl, hc, rfl⟩
  subst hc
  refine tr tbk 2 (.mk ?_)
  obtain rfl := nxt_e h8
  refine w_ret (hret _ _ (hk [(1, ⟨25, 5, true, true, v2, [[int a1.Entities, int a1.Periods, lst 1 fI a1.Weights, lst 1 (fL 1 fI) a1.Methods, lst 1 (fL 1 fI) a1.Costs]]⟩), (2, ⟨3, 1, true, true, v3, [[int (a1.Weights.length : Int)]]⟩), (3, ⟨184, 1, true, true, v4, [[.fn (.func 114) [] []]]⟩), (7, ⟨49, 1, true, true, v58, [[.fn (.func 119) [] [.pt 2 v3 0 0, .pt 3 v4 0 0]]]⟩)]) (.tmp rfl .nil) (HK.le ⟨rfl, rfl, rfl, rfl, trivial⟩) ?_)
  exact ⟨y40_1, (), rfl, rfl, rfl⟩
  rintro y _ ⟨y42_1, _, rfl, hc, rfl⟩
  subst hc
  refine nb tbk h7 fun x84 h7 => ?_
  refine tr tbk 2 (.mk ?_)
  obtain rfl := nxt_e h7
  refine w_ret (hret _ _ (hk [(1, ⟨25, 5, true, true, v2, [[int a1.Entities, int a1.Periods, lst 1 fI a1.Weights, lst 1 (fL 1 fI) a1.Methods, lst 1 (fL 1 fI) a1.Costs]]⟩), (2, ⟨3, 1, true, true, v3, [[int (a1.Weights.length : Int)]]⟩), (3, ⟨184, 1, true, true, v4, [[.fn (.func 114) [] []]]⟩), (7, ⟨49, 1, true, true, v58, [[.fn (.func 119) [] [.pt 2 v3 0 0, .pt 3 v4 0 0]]]⟩)]) (.tmp rfl .nil) (HK.le ⟨rfl, rfl, rfl, rfl, trivial⟩) ?_)
  exact ⟨x84, (), rfl, rfl, rfl⟩
  rintro y _ ⟨y44_1, _, rfl, hc, rfl⟩
  subst hc
  refine tr tbk 1 (.mk ?_)
  cases y44_1
  replace h6 := cf h6
  refine tc tbk 4 (.mk ?_)
  refine ni tbk h6 fun x85 h6 => ?_
  refine tr tbk 2 (.mk ?_)
  exact bk x85 () h6 leA
  replace h6 := ct h6
  refine tc tbk 6 (.mk ?_)
  obtain ⟨c86, hX, hj⟩ := esc_e h6; subst hj; replace h5 := hX.trans (sel_r h5)
  obtain rfl := nxt_e h5
  refine w_ret (hret _ _ (hk [(1, ⟨25, 5, true, true, v2, [[int a1.Entities, int a1.Periods, lst 1 fI a1.Weights, lst 1 (fL 1 fI) a1.Methods, lst 1 (fL 1 fI) a1.Costs]]⟩), (2, ⟨3, 1, true, true, v3, [[int (a1.Weights.length : Int)]]⟩), (3, ⟨184, 1, true, true, v4, [[.fn (.func 114) [] []]]⟩), (7, ⟨49, 1, true, true, v58, [[.fn (.func 119) [] [.pt 2 v3 0 0, .pt 3 v4 0 0]]]⟩)]) (.tmp rfl .nil) (HK.le ⟨rfl, rfl, rfl, rfl, trivial⟩) ?_)
  exact ⟨y30_1, (), rfl, rfl, rfl⟩
  rintro _ _ h5
  refine tc tbk 4 (.mk ?_)
  obtain rfl := nxt_e h5
  refine w_ret (hret _ _ (hk [(1, ⟨25, 5, true, true, v2, [[int a1.Entities, int a1.Periods, lst 1 fI a1.Weights, lst 1 (fL 1 fI) a1.Methods, lst 1 (fL 1 fI) a1.Costs]]⟩), (2, ⟨3, 1, true, true, v3, [[int (a1.Weights.length : Int)]]⟩), (3, ⟨184, 1, true, true, v4, [[.fn (.func 114) [] []]]⟩), (7, ⟨49, 1, true, true, v58, [[.fn (.func 119) [] [.pt 2 v3 0 0, .pt 3 v4 0 0]]]⟩)]) (.tmp rfl .nil) (HK.le ⟨rfl, rfl, rfl, rfl, trivial⟩) ?_)
  exact ⟨(-1), (), rfl, rfl, rfl⟩
  rintro y _ ⟨y47_1, _, rfl, hc, rfl⟩
  subst hc
  refine nb tbk h4 fun x87 h4 => ?_
  refine tr tbk 2 (.mk ?_)
  obtain rfl := nxt_e h4
  refine w_ret (hret _ _ (hk [(1, ⟨25, 5, true, true, v2, [[int a1.Entities, int a1.Periods, lst 1 fI a1.Weights, lst 1 (fL 1 fI) a1.Methods, lst 1 (fL 1 fI) a1.Costs]]⟩), (2, ⟨3, 1, true, true, v3, [[int (a1.Weights.length : Int)]]⟩), (3, ⟨184, 1, true, true, v4, [[.fn (.func 114) [] []]]⟩), (7, ⟨49, 1, true, true, v58, [[.fn (.func 119) [] [.pt 2 v3 0 0, .pt 3 v4 0 0]]]⟩)]) (.tmp rfl .nil) (HK.le ⟨rfl, rfl, rfl, rfl, trivial⟩) ?_)
  exact ⟨x87, (), rfl, rfl, rfl⟩
  rintro y _ ⟨y48_1, _, rfl, hc, rfl⟩
  subst hc
  refine nb tbk h3 fun x88 h3 => ?_
  refine tr tbk 3 (.mk ?_)
  exact lf h3 () leA
  rintro y49_1 _ h2
  obtain rfl := nxt_e h2
  refine w_ret (hret _ _ (hk [(1, ⟨25, 5, true, true, v2, [[int a1.Entities, int a1.Periods, lst 1 fI a1.Weights, lst 1 (fL 1 fI) a1.Methods, lst 1 (fL 1 fI) a1.Costs]]⟩), (2, ⟨3, 1, true, true, v3, [[int (a1.Weights.length : Int)]]⟩), (3, ⟨184, 1, true, true, v4, [[.fn (.func 114) [] []]]⟩)]) (.tmp rfl .nil) (HK.le ⟨rfl, rfl, rfl, trivial⟩) ?_)
  exact ⟨y49_1, (), rfl, rfl, rfl⟩
  rintro y _ ⟨y50_1, _, rfl, hc, rfl⟩
  subst hc
  refine tr tbk 3 (.mk ?_)
  exact lf h1 () leA
  rintro y51_1 _ h0
  obtain rfl := nxt_e h0
  refine wR hret (rT .nil) ?_
  exact .refl _
def d_master_own_L0 (a1 : List (List Int)) : Nat → Int → (List (List Int)) → Option ((List (List Int)))
  | 0, _, _ => none
  | n + 1, y0_2, y0_3 =>
    bnd (decide (y0_2 < (a1.length : Int))) fun x4 =>
    cond x4 ((ix a1 y0_2).bind fun x5 =>
    asrt (x5.length ≤ 68719476736) <|
    bnd (y0_3 ++ [x5]) fun x8 =>
    asrt (x8.length ≤ 68719476736) <|
    bnd (w64 (y0_2 + 1)) fun x11 =>
    d_master_own_L0 a1 n (x11 : Int) (x8 : List (List Int))) (some (y0_3 : List (List Int)))
def d_master_own (n : Nat) (a1 : List (List Int)) : Option ((List (List Int))) :=
(show Option ((List (List Int))) from
d_master_own_L0 a1 n (0 : Int) (([] : List (List Int)) : List (List Int))).bind <| fun y1_2 =>
some ((y1_2 : List (List Int)))
theorem d_master_own_c {n : Nat} {a1 : List (List Int)} {r : (List (List Int))} (h0 : d_master_own n a1 = some r) : PP Tryz.prog 66 [lst 1 (fL 1 fI) a1] (fun y => y = lst 1 (fL 1 fI) r) := by
  unfold d_master_own at h0
  refine pp_of_pc (R0 := fun y H => Cv (frzH H) y (lst 1 (fL 1 fI) r)) ?_ (fun y H hc => ⟨_, rfl, (pvLs (pvcLs pvcI)) r, hc⟩)
  refine pcw (c := _) Tryz.func66 rfl rfl ?_; intro Q hret hnorm
  refine tc tbk 12 (.mk ?_)
  refine sY (yv_len_sl rfl Tryz.underlying23 rfl (lst_len _)) ?_
  refine tr tbk 2 (.mk ?_)
  refine jn h0 [2] [] (fun (a : (List (List Int))) (k : Nat) => [(3, .sl 3 k 0 a.length)]) (fun a k => [(3, ⟨22, 1, true, true, k, a.map (fL 1 fI)⟩)]) ⟨fun j2 h1 => ?_, ?_⟩
  refine tc tbk 1 (.mk ?_)
  refine c_nilobj 3 3 22 1 rfl rfl ?_; intro v3
  refine lp (fun n (a : Int × (List (List Int))) => d_master_own_L0 a1 n a.1 a.2) ((0 : Int), (([] : List (List Int)) : List (List Int))) v3 h1 [2, 6, 7] [] (fun (a : Int × (List (List Int))) (k : Nat) => [(3, .sl 3 k 0 a.2.length), (8, int a.1)]) (fun a k => [(3, ⟨22, 1, true, true, k, a.2.map (fL 1 fI)⟩)]) (fun _ => rfl) ⟨leA, ?_⟩
  rintro n ⟨y0_2, y0_3⟩ w0_1 hm h1
  replace h1 : d_master_own_L0 a1 (n + 1) y0_2 y0_3 = some _ := h1
  rw [d_master_own_L0] at h1
  refine tc tbk 2 (.mk ?_)
  refine nb tbk h1 fun x4 h1 => ?_
  refine tr tbk 2 (.mk ?_)
  cases x4
  replace h1 := cf h1
  refine tc tbk 2 (.mk ?_)
  exact lf h1 w0_1 leA
  replace h1 := ct h1
  refine tc tbk 6 (.mk ?_)
  obtain ⟨x5, e5, h1⟩ := bind_e h1
  refine sY (yv_ixT rfl Tryz.underlying23 sh22 rfl rfl e5) ?_
  refine tr tbk 6 (.mk ?_)
  obtain ⟨p6, h1⟩ := asrt_e h1
  refine rse rfl rfl rfl (yl_call rfl rfl (.cons rfl .nil) cal52 (pc_cv (clone52_c (id := 1) (l := x5) rfl p6) (.cons (.refl _) .nil))) ?_; rintro _ _ ⟨v7, rfl, rfl⟩
  refine sY (yv_buildSlice (ps := [(0, _)]) (rows := [[.sl 1 v7 0 x5.length]]) rfl Tryz.underlying23 bz22 (.cons rfl .nil) (by kernel_rfl) rfl rfl rfl) ?_
  obtain ⟨x8, e8, h1⟩ := bnd_e h1
  obtain ⟨p9, h1⟩ := asrt_e h1
  refine rse rfl rfl rfl (Yield.frz 1 rfl (yl_appT (g := (fL 1 fI)) (l := y0_3) (m := [x5]) .any rfl Tryz.underlying23 bz22 by22 rfl rfl rfl rfl rfl rfl rfl rfl rfl rfl (Eq.symm rfl) (CvLL.list (.cons (.cons (cv_lst rfl rfl rfl rfl rfl (Eq.symm rfl)) .nil) .nil)) (fun _ => rfl) e8 p9)) ?_; rintro _ _ ⟨v10, -, rfl, rfl⟩
  refine tr tbk 4 (.mk ?_)
  refine ni tbk h1 fun x11 h1 => ?_
  refine tr tbk 2 (.mk ?_)
  exact bk (x11, x8) v10 h1 leA
  rintro y1_2 w1_1 h0
  refine tc tbk 5 (.mk ?_)
  obtain rfl := nxt_e h0
  refine wR hret (rT .nil) ?_
  exact (cv_lst rfl rfl rfl rfl rfl (Eq.symm rfl))
def d_master_Start_L1 (a1 : GMaster) : Nat → Int → (List Int) → Option ((List Int))
  | 0, _, _ => none
  | n + 1, y1_1, y1_2 =>
    bnd (decide (y1_1 < ((Int.toNat (a1.Weights.length : Int)) : Int))) fun x33 =>
    cond x33 ((ix y1_2 y1_1).bind fun x34 =>
    bnd (y1_2.set (Int.toNat y1_1) ((-1) : Int)) fun x35 =>
    bnd (w64 (y1_1 + 1)) fun x36 =>
    d_master_Start_L1 a1 n (x36 : Int) (x35 : List Int)) (some (y1_2 : List Int))
def d_master_Start_L0 (a1 : GMaster) : Nat → Int → (List GEnt) → Option ((List GEnt))
  | 0, _, _ => none
  | n + 1, y0_1, y0_3 =>
    bnd (decide (y0_1 < a1.Entities)) fun x13 =>
    cond x13 ((show Option ((List GEnt)) from
    bnd (w64 ((a1.Weights.length : Int) * 2)) fun x15 =>
    asrt ((0 : Int) ≤ x15 ∧ (x15 : Int) ≤ 1048576) <|
    bnd (List.replicate (Int.toNat x15) ((⟨[], (⟨0, 0, 0⟩ : A3_Int)⟩ : GPool) : GPool)) fun x17 =>
    asrt ((0 : Int) ≤ 17 ∧ (17 : Int) ≤ 1048576) <|
    bnd (List.replicate (Int.toNat 17) (0 : Int)) fun x20 =>
    asrt ((0 : Int) ≤ (a1.Weights.length : Int) ∧ ((a1.Weights.length : Int) : Int) ≤ 1048576) <|
    bnd (List.replicate (Int.toNat (a1.Weights.length : Int)) ((⟨0, 0, 0, 0, 0, 0, 0, 0, 0, 0, 0⟩ : GRoll) : GRoll)) fun x23 =>
    asrt ((0 : Int) ≤ (a1.Weights.length : Int) ∧ ((a1.Weights.length : Int) : Int) ≤ 1048576) <|
    bnd (List.replicate (Int.toNat (a1.Weights.length : Int)) (0 : Int)) fun x26 =>
    asrt ((0 : Int) ≤ (a1.Weights.length : Int) ∧ ((a1.Weights.length : Int) : Int) ≤ 1048576) <|
    bnd (List.replicate (Int.toNat (a1.Weights.length : Int)) (0 : Int)) fun x29 =>
    (show Option ((List Int)) from
    d_master_Start_L1 a1 n (0 : Int) (x26 : List Int)).bind <| fun y2_1 =>
    bnd (y0_3 ++ [(⟨1, false, x17, x20, x23, y2_1, x29, []⟩ : GEnt)]) fun x37 =>
    asrt (x37.length ≤ 68719476736) <|
    some (x37 : List GEnt)).bind <| fun y3_2 =>
    bnd (w64 (y0_1 + 1)) fun x40 =>
    d_master_Start_L0 a1 n (x40 : Int) (y3_2 : List GEnt)) (some (y0_3 : List GEnt))
def d_master_Start (n : Nat) (a1 : GMaster) : Option (GState × Int) :=
(d_master_Check n a1).bind fun x4 =>
bnd (!x4) fun x5 =>
asrt (x5 = false) <|
asrt (a1.Weights.length ≤ 68719476736) <|
(d_master_own n a1.Methods).bind fun x8 =>
(d_master_own n a1.Costs).bind fun x9 =>
(show Option ((List GEnt)) from
d_master_Start_L0 a1 n (0 : Int) (([] : List GEnt) : List GEnt)).bind <| fun y4_2 =>
some (((⟨(⟨a1.Entities, a1.Periods, a1.Weights, x8, x9⟩ : GMaster), y4_2, [], [], [], 0⟩ : GState) : GState), (0 : Int))
theorem d_master_Start_c {n : Nat} {a1 : GMaster} {r : GState × Int} (h0 : d_master_Start n a1 = some r) : PP Tryz.prog 35 [.agg (GMaster.av a1)] (fun y => y = .tup [.agg (GState.av r.1), int r.2]) := by
  unfold d_master_Start at h0
  refine pp_of_pc (R0 := fun y H => Cv (frzH H) y (.tup [.agg (GState.av r.1), int r.2])) ?_ (fun y H hc => ⟨_, rfl, .tup (pvl2 ((fun (a : GState) => PV.agg (GState.pvc a)) (r.1)) (pvI (r.2))), hc⟩)
  refine pcw (c := _) Tryz.func35 rfl rfl ?_; intro Q hret hnorm
  refine tc tbk 2 (.mk ?_)
  refine sB 1 fun v2 => ?_
  refine sA 2 z31 fun v3 => ?_
  refine tr tbk 6 (.mk ?_)
  obtain ⟨x4, e4, h0⟩ := bind_e h0
  refine sC cal65 (d_master_Check_c e4) ?_
  refine nb tbk h0 fun x5 h0 => ?_
  refine tr tbk 1 (.mk ?_)
  replace h0 := asrt_e h0
  obtain ⟨rfl, h0⟩ := h0
  refine tc tbk 3 (.mk ?_)
  refine c_drawE [0, 1, 3, 0, 8, 31, 0, 64, 255, 223, 1023, 2047, 4095, 8191, 16383] (rl [(0, [1]), (1, [1]), (3, [1]), (4, [1]), (6, [1]), (7, [1]), (9, [1]), (11, [1]), (13, [1])] []) (rl [(10, []), (12, []), (14, [])] [1]) (rl [(2, false), (10, false), (12, false), (14, false)] true) [0, 1, 3, 4, 6, 7, 2, 5, 8, 9, 10, 11, 12, 13, 14] mixed (by kernel_rfl) ?_; intro K hK
  refine eF fo25_2 ?_
  refine eL sh22 ?_
  refine eF fo25_3 ?_
  refine eL sh23 ?_
  refine eF fo25_4 ?_
  refine eL sh23 ?_
  obtain ⟨p6, h0⟩ := asrt_e h0
  refine de_eff rfl rfl rfl rfl (yl_call rfl rfl (.cons rfl .nil) cal52 (pc_cv (clone52_c (id := 3) (l := a1.Weights) rfl p6) (.cons (.refl _) .nil))) (by rintro _ _ ⟨v7, rfl, rfl⟩; exact ⟨rfl, trivial⟩) ?_; rintro _ _ ⟨v7, rfl, rfl⟩
  obtain ⟨x8, e8, h0⟩ := bind_e h0
  refine eP (fun H hH => yv_callP rfl rfl (.cons rfl .nil) cal66 (CvL.refl _) (d_master_own_c e8)) ?_
  obtain ⟨x9, e9, h0⟩ := bind_e h0
  refine eP (fun H hH => yv_callP rfl rfl (.cons rfl .nil) cal66 (CvL.refl _) (d_master_own_c e9)) ?_
  refine eF fo25_2 ?_
  refine de_eff0 rfl rfl rfl rfl (Yield.weak (yl_ob (ob' := (⟨25, 5, true, true, v2, [[int a1.Entities, int a1.Periods, .sl 3 v7 0 a1.Weights.length, lst 1 (fL 1 fI) a1.Methods, lst 1 (fL 1 fI) a1.Costs]]⟩ : AObj)) (yl_store rfl sh22 rfl rfl rfl rfl rfl rfl rfl rfl rfl) rfl) (fun _ h => h) (fun _ _ => trivial)) (by rintro _ _ ⟨rfl, rfl⟩; exact trivial) ?_; rintro _ _ ⟨rfl, rfl⟩
  refine eF fo25_3 ?_
  refine de_eff0 rfl rfl rfl rfl (Yield.weak (yl_ob (ob' := (⟨25, 5, true, true, v2, [[int a1.Entities, int a1.Periods, .sl 3 v7 0 a1.Weights.length, lst 1 (fL 1 fI) x8, lst 1 (fL 1 fI) a1.Costs]]⟩ : AObj)) (yl_store rfl sh23 rfl rfl rfl rfl rfl rfl rfl rfl rfl) rfl) (fun _ h => h) (fun _ _ => trivial)) (by rintro _ _ ⟨rfl, rfl⟩; exact trivial) ?_; rintro _ _ ⟨rfl, rfl⟩
  refine eF fo25_4 ?_
  refine de_eff0 rfl rfl rfl rfl (Yield.weak (yl_ob (ob' := (⟨25, 5, true, true, v2, [[int a1.Entities, int a1.Periods, .sl 3 v7 0 a1.Weights.length, lst 1 (fL 1 fI) x8, lst 1 (fL 1 fI) x9]]⟩ : AObj)) (yl_store rfl sh23 rfl rfl rfl rfl rfl rfl rfl rfl rfl) rfl) (fun _ h => h) (fun _ _ => trivial)) (by rintro _ _ ⟨rfl, rfl⟩; exact trivial) ?_; rintro _ _ ⟨rfl, rfl⟩
  refine de_nil (hK _ ?_)
  refine tc tbk 3 (.mk ?_)
  refine sY (yv_build (cs := [int a1.Entities, int a1.Periods, .sl 3 v7 0 a1.Weights.length, lst 1 (fL 1 fI) x8, lst 1 (fL 1 fI) x9, .sc (.slice none 0 0), .sc (.slice none 0 0), .sc (.slice none 0 0), .sc (.slice none 0 0), int 0]) (ps := [(0, _)]) rfl pl31 z31 rfl (.cons rfl .nil) (by kernel_rfl)) ?_
  refine sA 4 z31 fun v10 => ?_
  refine sS ⟨31, 10, true, true, v10, [[int a1.Entities, int a1.Periods, .sl 3 v7 0 a1.Weights.length, lst 1 (fL 1 fI) x8, lst 1 (fL 1 fI) x9, .sc (.slice none 0 0), .sc (.slice none 0 0), .sc (.slice none 0 0), .sc (.slice none 0 0), int 0]]⟩ sh31 ?_
  refine tr tbk 5 (.mk ?_)
  refine sY (yv_len_sl rfl Tryz.underlying22 rfl (.sl rfl rfl)) ?_
  refine tr tbk 9 (.mk ?_)
  refine jn h0 [2, 3, 4] [2, 3] (fun (a : (List GEnt)) (k : Nat) => []) (fun a k => [(4, ⟨31, 10, true, true, v10, [[int a1.Entities, int a1.Periods, .sl 3 v7 0 a1.Weights.length, lst 1 (fL 1 fI) x8, lst 1 (fL 1 fI) x9, .sl 12 k 0 a.length, .sc (.slice none 0 0), .sc (.slice none 0 0), .sc (.slice none 0 0), int 0]]⟩), (12, ⟨47, 8, true, true, k, a.map GEnt.av⟩)]) ⟨fun j11 h1 => ?_, ?_⟩
  refine tc tbk 1 (.mk ?_)
  refine c_nilcell 4 0 5 12 47 8 (rows := fun v12 => [[int a1.Entities, int a1.Periods, .sl 3 v7 0 a1.Weights.length, lst 1 (fL 1 fI) x8, lst 1 (fL 1 fI) x9, .sl 12 v12 0 0, .sc (.slice none 0 0), .sc (.slice none 0 0), .sc (.slice none 0 0), int 0]]) rfl rfl rfl rfl (fun _ => rfl) ?_; intro v12
  refine lp (fun n (a : Int × (List GEnt)) => d_master_Start_L0 a1 n a.1 a.2) ((0 : Int), (([] : List GEnt) : List GEnt)) v12 h1 [2, 3, 4, 5, 30] [2, 3] (fun (a : Int × (List GEnt)) (k : Nat) => [(31, int a.1)]) (fun a k => [(4, ⟨31, 10, true, true, v10, [[int a1.Entities, int a1.Periods, .sl 3 v7 0 a1.Weights.length, lst 1 (fL 1 fI) x8, lst 1 (fL 1 fI) x9, .sl 12 k 0 a.2.length, .sc (.slice none 0 0), .sc (.slice none 0 0), .sc (.slice none 0 0), int 0]]⟩), (12, ⟨47, 8, true, true, k, a.2.map GEnt.av⟩)]) (fun _ => rfl) ⟨leA, ?_⟩
  rintro n ⟨y0_1, y0_3⟩ w0_2 hm h1
  replace h1 : d_master_Start_L0 a1 (n + 1) y0_1 y0_3 = some _ := h1
  rw [d_master_Start_L0] at h1
  refine tc tbk 2 (.mk ?_)
  refine nb tbk h1 fun x13 h1 => ?_
  refine tr tbk 2 (.mk ?_)
  cases x13
  replace h1 := cf h1
  refine tc tbk 2 (.mk ?_)
  exact lf h1 w0_2 leA
  replace h1 := ct h1
  refine tc tbk 3 (.mk ?_)
  refine jn h1 [2, 3, 4, 5, 30, 31] [2, 3] (fun (a : (List GEnt)) (k : Nat) => []) (fun a k => [(4, ⟨31, 10, true, true, v10, [[int a1.Entities, int a1.Periods, .sl 3 v7 0 a1.Weights.length, lst 1 (fL 1 fI) x8, lst 1 (fL 1 fI) x9, .sl 12 k 0 a.length, .sc (.slice none 0 0), .sc (.slice none 0 0), .sc (.slice none 0 0), int 0]]⟩), (12, ⟨47, 8, true, true, k, a.map GEnt.av⟩)]) ⟨fun j14 h2 => ?_, ?_⟩
  refine tc tbk 2 (.mk ?_)
  refine c_draw [0, 1, 3, 0, 0, 16, 0, 64, 0, 256, 1023, 0, 4095] (fun i k => bif Nat.beq i 12 then (Nat.beq k 5 || Nat.beq k 6 || Nat.beq k 7 || Nat.beq k 8 || Nat.beq k 9 || Nat.beq k 10) else false) (fun i => bif Nat.beq i 2 then (some 5) else bif Nat.beq i 3 then (some 6) else bif Nat.beq i 5 then (some 7) else bif Nat.beq i 7 then (some 8) else bif Nat.beq i 9 then (some 9) else bif Nat.beq i 11 then (some 10) else bif Nat.beq i 12 then (some 10) else none) mixed (by kernel_rfl) ?_; intro C K hK
  refine dg_pure rfl (fun H hH => yv_move rfl rfl) ?_
  obtain ⟨x15, e15, h2⟩ := bnd_e h2
  refine dg_pure rfl (fun H hH => yv_mul rfl rfl rfl e15) ?_
  obtain ⟨p16, h2⟩ := asrt_e h2
  obtain ⟨x17, e17, h2⟩ := bnd_e h2
  have lx17 : x17.length = (Int.toNat x15) := by rw [← e17]; exact List.length_replicate
  refine dg_eff rfl rfl (fun H hH => yl_one (yl_make 5 (g := GPool.av) (z0 := ((⟨[], (⟨0, 0, 0⟩ : A3_Int)⟩ : GPool) : GPool)) (.one _) rfl Tryz.underlying44 bz74 by74 rfl rfl rfl p16 (.cons (.nil _) (.cons (.sc _) (.cons (.sc _) (.cons (.sc _) .nil)))) e17)) ?_; generalize C + 2 = v18
  obtain ⟨p19, h2⟩ := asrt_e h2
  obtain ⟨x20, e20, h2⟩ := bnd_e h2
  have lx20 : x20.length = (Int.toNat 17) := by rw [← e20]; exact List.length_replicate
  refine dg_eff rfl rfl (fun H hH => yl_one (yl_make 6 (g := fI) (z0 := (0 : Int)) (.one _) rfl Tryz.underlying22 bz3 by3 rfl rfl rfl p19 (.cons (.sc _) .nil) e20)) ?_; generalize C + 3 = v21
  refine dg_pure rfl (fun H hH => yv_move rfl rfl) ?_
  obtain ⟨p22, h2⟩ := asrt_e h2
  obtain ⟨x23, e23, h2⟩ := bnd_e h2
  have lx23 : x23.length = (Int.toNat (a1.Weights.length : Int)) := by rw [← e23]; exact List.length_replicate
  refine dg_eff rfl rfl (fun H hH => yl_one (yl_make 7 (g := GRoll.av) (z0 := ((⟨0, 0, 0, 0, 0, 0, 0, 0, 0, 0, 0⟩ : GRoll) : GRoll)) (.one _) rfl Tryz.underlying45 bz83 by83 rfl rfl rfl p22 (.cons (.sc _) (.cons (.sc _) (.cons (.sc _) (.cons (.sc _) (.cons (.sc _) (.cons (.sc _) (.cons (.sc _) (.cons (.sc _) (.cons (.sc _) (.cons (.sc _) (.cons (.sc _) .nil))))))))))) e23)) ?_; generalize C + 5 = v24
  refine dg_pure rfl (fun H hH => yv_move rfl rfl) ?_
  obtain ⟨p25, h2⟩ := asrt_e h2
  obtain ⟨x26, e26, h2⟩ := bnd_e h2
  have lx26 : x26.length = (Int.toNat (a1.Weights.length : Int)) := by rw [← e26]; exact List.length_replicate
  refine dg_eff rfl rfl (fun H hH => yl_one (yl_make 8 (g := fI) (z0 := (0 : Int)) (.one _) rfl Tryz.underlying22 bz3 by3 rfl rfl rfl p25 (.cons (.sc _) .nil) e26)) ?_; generalize C + 7 = v27
  refine dg_pure rfl (fun H hH => yv_move rfl rfl) ?_
  obtain ⟨p28, h2⟩ := asrt_e h2
  obtain ⟨x29, e29, h2⟩ := bnd_e h2
  have lx29 : x29.length = (Int.toNat (a1.Weights.length : Int)) := by rw [← e29]; exact List.length_replicate
  refine dg_eff rfl rfl (fun H hH => yl_one (yl_make 9 (g := fI) (z0 := (0 : Int)) (.one _) rfl Tryz.underlying22 bz3 by3 rfl rfl rfl p28 (.cons (.sc _) .nil) e29)) ?_; generalize C + 9 = v30
  refine dg_pure rfl (fun H hH => yv_build (cs := [int 1, boo false, .sl 5 v18 0 (Int.toNat x15), .sl 6 v21 0 (Int.toNat 17), .sl 7 v24 0 (Int.toNat (a1.Weights.length : Int)), .sl 8 v27 0 (Int.toNat (a1.Weights.length : Int)), .sl 9 v30 0 (Int.toNat (a1.Weights.length : Int)), .sc (.slice none 0 0)]) (ps := [(0, _), (2, _), (3, _), (4, _), (5, _), (6, _)]) rfl pl47 z47 rfl (.cons rfl (.cons rfl (.cons rfl (.cons rfl (.cons rfl (.cons rfl .nil)))))) (by kernel_rfl)) ?_
  refine dg_eff rfl rfl (fun H hH => yl_alloc1 10 rfl z47 rfl) ?_; generalize C + 11 = v31
  refine dg_store rfl rfl rfl (fun H hH => yl_ob (ob' := (⟨47, 8, true, true, v31, [[int 1, boo false, .sl 5 v18 0 (Int.toNat x15), .sl 6 v21 0 (Int.toNat 17), .sl 7 v24 0 (Int.toNat (a1.Weights.length : Int)), .sl 8 v27 0 (Int.toNat (a1.Weights.length : Int)), .sl 9 v30 0 (Int.toNat (a1.Weights.length : Int)), .sc (.slice none 0 0)]]⟩ : AObj)) (yl_store rfl sh47 rfl rfl ((hH _ rfl).trans rfl) rfl rfl rfl rfl rfl rfl) rfl) ?_
  refine dg_nil (hK _ ?_)
  refine tc tbk 5 (.mk ?_)
  refine sY (yv_len_sl rfl Tryz.underlying22 rfl (.sl rfl rfl)) ?_
  refine tr tbk 2 (.mk ?_)
  refine jn h2 [2, 3, 4, 5, 6, 30, 31] [2, 3, 4, 5, 6, 7, 9, 12] (fun (a : (List Int)) (k : Unit) => []) (fun a k => [(8, ⟨3, 1, true, true, v27, a.map fI⟩), (10, ⟨47, 8, true, true, v31, [[int 1, boo false, .sl 5 v18 0 (Int.toNat x15), .sl 6 v21 0 (Int.toNat 17), .sl 7 v24 0 (Int.toNat (a1.Weights.length : Int)), .sl 8 v27 0 a.length, .sl 9 v30 0 (Int.toNat (a1.Weights.length : Int)), .sc (.slice none 0 0)]]⟩)]) ⟨fun j32 h3 => ?_, ?_⟩
  refine tc tbk 1 (.mk ?_)
  refine lp (fun n (a : Int × (List Int)) => d_master_Start_L1 a1 n a.1 a.2) ((0 : Int), (x26 : List Int)) () h3 [2, 3, 4, 5, 6, 30, 31, 46] [2, 3, 4, 5, 6, 7, 9, 12] (fun (a : Int × (List Int)) (k : Unit) => [(47, int a.1)]) (fun a k => [(8, ⟨3, 1, true, true, v27, a.2.map fI⟩), (10, ⟨47, 8, true, true, v31, [[int 1, boo false, .sl 5 v18 0 (Int.toNat x15), .sl 6 v21 0 (Int.toNat 17), .sl 7 v24 0 (Int.toNat (a1.Weights.length : Int)), .sl 8 v27 0 a.2.length, .sl 9 v30 0 (Int.toNat (a1.Weights.length : Int)), .sc (.slice none 0 0)]]⟩)]) (fun _ => rfl) ⟨leH_kn ⟨⟨_, rfl, (.refl _)⟩, ⟨_, rfl, (.refl _)⟩, ⟨_, rfl, (.refl _)⟩, ⟨_, rfl, (.refl _)⟩, ⟨_, rfl, (.refl _)⟩, ⟨_, rfl, (.refl _)⟩, ⟨_, rfl, (.refl _)⟩, ⟨_, rfl, (.refl _)⟩, ⟨_, rfl, (.refl _)⟩, trivial⟩ ⟨⟨_, rfl, (.refl _)⟩, ⟨_, rfl, ⟨rfl, (.cons (.cons (.refl _) (.cons (.refl _) (.cons (.refl _) (.cons (.refl _) (.cons (.refl _) (.cons (cv_slen (Eq.symm lx26)) (.cons (.refl _) (.cons (.refl _) .nil)))))))) .nil)⟩⟩, ⟨_, rfl, (.refl _)⟩, ⟨_, rfl, (.refl _)⟩, ⟨_, rfl, (.refl _)⟩, ⟨_, rfl, (.refl _)⟩, ⟨_, rfl, (.refl _)⟩, ⟨_, rfl, (.refl _)⟩, ⟨_, rfl, (.refl _)⟩, ⟨_, rfl, (.refl _)⟩, trivial⟩, ?_⟩
  rintro n ⟨y1_1, y1_2⟩ _ hm h3
  replace h3 : d_master_Start_L1 a1 (n + 1) y1_1 y1_2 = some _ := h3
  rw [d_master_Start_L1] at h3
  refine tc tbk 2 (.mk ?_)
  refine nb tbk h3 fun x33 h3 => ?_
  refine tr tbk 2 (.mk ?_)
  cases x33
  replace h3 := cf h3
  refine tc tbk 2 (.mk ?_)
  exact lf h3 () leA
  replace h3 := ct h3
  refine tc tbk 13 (.mk ?_)
  obtain ⟨x34, e34, h3⟩ := bind_e h3
  refine sY (yv_ixO rfl Tryz.underlying22 sh3 rfl rfl rfl rfl rfl (Eq.symm rfl) (List.length_map _) e34) ?_
  obtain ⟨x35, e35, h3⟩ := bnd_e h3
  have fx35 := ix_set e34 e35; have lx35 := len_setV e35 (rfl : y1_2.length = y1_2.length)
  refine rsstore rfl rfl (yl_ob (ob' := (⟨3, 1, true, true, v27, x35.map fI⟩ : AObj)) (yl_store rfl sh3 rfl rfl rfl rfl rfl (ix_get e34) rfl rfl rfl) (ob_eq (map_setV e35))) ?_
  refine tr tbk 3 (.mk ?_)
  refine ni tbk h3 fun x36 h3 => ?_
  refine tr tbk 2 (.mk ?_)
  exact bk (x36, x35) () h3 (leH_kn ⟨⟨_, rfl, (.refl _)⟩, ⟨_, rfl, (.refl _)⟩, ⟨_, rfl, (.refl _)⟩, ⟨_, rfl, (.refl _)⟩, ⟨_, rfl, (.refl _)⟩, ⟨_, rfl, (.refl _)⟩, ⟨_, rfl, (.refl _)⟩, ⟨_, rfl, (.refl _)⟩, ⟨_, rfl, (.refl _)⟩, trivial⟩ ⟨⟨_, rfl, (.refl _)⟩, ⟨_, rfl, ⟨rfl, (.cons (.cons (.refl _) (.cons (.refl _) (.cons (.refl _) (.cons (.refl _) (.cons (.refl _) (.cons (cv_slen (Eq.symm lx35)) (.cons (.refl _) (.cons (.refl _) .nil)))))))) .nil)⟩⟩, ⟨_, rfl, (.refl _)⟩, ⟨_, rfl, (.refl _)⟩, ⟨_, rfl, (.refl _)⟩, ⟨_, rfl, (.refl _)⟩, ⟨_, rfl, (.refl _)⟩, ⟨_, rfl, (.refl _)⟩, ⟨_, rfl, (.refl _)⟩, ⟨_, rfl, (.refl _)⟩, trivial⟩)
  rintro y2_1 _ h2
  refine tc tbk 4 (.mk ?_)
  refine sY (yv_buildSlice (ps := [(0, _)]) (rows := [[int 1, boo false, .sl 5 v18 0 (Int.toNat x15), .sl 6 v21 0 (Int.toNat 17), .sl 7 v24 0 (Int.toNat (a1.Weights.length : Int)), .sl 8 v27 0 y2_1.length, .sl 9 v30 0 (Int.toNat (a1.Weights.length : Int)), .sc (.slice none 0 0)]]) rfl Tryz.underlying26 bz47 (.cons rfl .nil) (by kernel_rfl) rfl rfl rfl) ?_
  obtain ⟨x37, e37, h2⟩ := bnd_e h2
  obtain ⟨p38, h2⟩ := asrt_e h2
  refine rse rfl rfl rfl (Yield.frz 5 rfl (Yield.frz 6 rfl (Yield.frz 7 rfl (Yield.frz 8 rfl (Yield.frz 9 rfl (yl_appT (g := GEnt.av) (l := y0_3) (m := [(⟨1, false, x17, x20, x23, y2_1, x29, []⟩ : GEnt)]) .any rfl Tryz.underlying26 bz47 by47 rfl rfl rfl rfl rfl rfl rfl rfl rfl rfl (Eq.symm rfl) (CvLL.list (ys := [GEnt.av (⟨1, false, x17, x20, x23, y2_1, x29, []⟩ : GEnt)]) (.cons (cvl_to (.cons (.refl _) (.cons (.refl _) (.cons (cv_lst rfl rfl rfl rfl rfl (Eq.symm lx17)) (.cons (cv_lst rfl rfl rfl rfl rfl (Eq.symm lx20)) (.cons (cv_lst rfl rfl rfl rfl rfl (Eq.symm lx23)) (.cons (cv_lst rfl rfl rfl rfl rfl (Eq.symm rfl)) (.cons (cv_lst rfl rfl rfl rfl rfl (Eq.symm lx29)) (.cons (.nil _) .nil)))))))) (GEnt.av_eq _)) .nil)) GEnt.one e37 p38)))))) ?_; rintro _ _ ⟨v39, -, rfl, rfl⟩
  refine tr tbk 1 (.mk ?_)
  refine sS ⟨31, 10, true, true, v10, [[int a1.Entities, int a1.Periods, .sl 3 v7 0 a1.Weights.length, lst 1 (fL 1 fI) x8, lst 1 (fL 1 fI) x9, .sl 12 v39 0 x37.length, .sc (.slice none 0 0), .sc (.slice none 0 0), .sc (.slice none 0 0), int 0]]⟩ sh26 ?_
  refine tr tbk 2 (.mk ?_)
  exact lf h2 v39 leA
  rintro y3_2 w3_1 h1
  refine tc tbk 1 (.mk ?_)
  refine ni tbk h1 fun x40 h1 => ?_
  refine tr tbk 2 (.mk ?_)
  exact bk (x40, y3_2) w3_1 h1 leA
  rintro y4_2 w4_1 h0
  refine tc tbk 3 (.mk ?_)
  refine sS ⟨31, 10, true, true, v3, [[int a1.Entities, int a1.Periods, .sl 3 v7 0 a1.Weights.length, lst 1 (fL 1 fI) x8, lst 1 (fL 1 fI) x9, .sl 12 w4_1 0 y4_2.length, .sc (.slice none 0 0), .sc (.slice none 0 0), .sc (.slice none 0 0), int 0]]⟩ sh31 ?_
  refine tr tbk 2 (.mk ?_)
  obtain rfl := nxt_e h0
  refine wR hret (rC sh31 (rT .nil)) ?_
  exact CvL.tup (.cons (CvL.agg (.cons (.refl _) (.cons (.refl _) (.cons (cv_lst rfl rfl rfl rfl rfl (Eq.symm rfl)) (.cons (.refl _) (.cons (.refl _) (.cons (cv_lst rfl rfl rfl rfl rfl (Eq.symm rfl)) (.cons (.nil _) (.cons (.nil _) (.cons (.nil _) (.cons (.refl _) .nil))))))))))) (.cons (.refl _) .nil))
theorem each1_it (l : List GOp) : ItC Tryz.prog 121 [.pp [lst 9 GOp.av l]] ((l.take 400).map fun x => .agg (GOp.av x)) := by
  intro lp fn tmps p assign body D J s H vs hH hvs hJ hJ7 hn hY
  have ha : AllR s [.sc (.func (.yield lp) #[] #[]), .pp [lst 9 GOp.av l]] (#[.func (.yield lp) #[] #[]] ++ vs) := AllR.append (xs := [.sc (.func (.yield lp) #[] #[])]) ⟨rfl, fun i x v h1 h2 => by
    cases i with
    | zero => simp at h1 h2; subst h1 h2; exact .sc _
    | succ i => simp at h1⟩ hvs
  refine callsIn_wide.1 (callsIn_of_wp (n := 0) (c := _) Tryz.func121 rfl trivial ?_)
  have hs := sr0 (fn := Tryz.f121) hH ha rfl
  generalize ({ tmps := _, defers := [] } : Act) = a0 at hs ⊢
  refine wpIn_seq (tr_in (Q0 := fun e S' => e = .normal ∧ S'.hp = H ∧ KNe S'.sl [(0, .sc (.func (.yield lp) #[] #[])), (9, lst 9 GOp.av (l.take 400)), (10, int (l.take 400).length), (11, int 0)]) hs rfl ?_ ?_)
  · refine tc tbk 3 (.mk ?_)
    refine sY (yv_len_sl rfl Tryz.underlying58 rfl (lst_len _)) ?_
    refine sY (yv_min rfl rfl rfl rfl) ?_
    refine sY (yv_slT (i := 0) (j := (if (400 : Int) < (l.length : Int) then (400 : Int) else (l.length : Int)).toNat) rfl Tryz.underlying58 sh36 rfl .no (.yes rfl (by split <;> omega)) (by omega) (by split <;> omega) (take_min l 400)) ?_
    refine sY (yv_len_sl rfl Tryz.underlying58 rfl (lst_len _)) ?_
    refine tr tbk 2 (.mk ?_)
    refine g_nil ?_
    exact ⟨rfl, rfl, rfl, rfl, rfl, rfl, trivial⟩
  rintro e S1 s1 a1 ⟨rfl, e2, hk1⟩ hs1 hf1
  rw [e2] at hf1
  have hlen : (l.take 400).length ≤ 400 := by simp; omega
  generalize hL : l.take 400 = L at *
  refine wpIn_block (wpIn_loop (fun a w => ∃ i s2 H2, i ≤ L.length ∧ w = s2.w ∧ J i H2 ∧ SR ⟨20, false, []⟩ s2 ⟨kn [(0, .sc (.func (.yield lp) #[] #[])), (9, lst 9 GOp.av L), (10, int L.length), (11, int i)], H2⟩ a ∧ Fr s H s2 H2)
    (fun (a : Act) _ => match (a.tmps[11]? : Option Value) with | some (Value.int _ v) => L.length - v.toNat | _ => 0) ⟨0, s1, H, Nat.zero_le _, rfl, hJ, hs1.knw _ _ e2 (kn_le hk1), hf1⟩ ?_)
  rintro a w ⟨i, s2, H2, hi, rfl, hj, hs2, hf2⟩
  have hm2 : (match (a.tmps[11]? : Option Value) with | some (Value.int _ v) => L.length - v.toNat | _ => 0) = L.length - i := by
    obtain ⟨v, q1, q2⟩ := hs2.slot 11 (int i) rfl
    rw [q1, q2.sc_inv]; simp
  refine wpIn_seq (tr_in (Q0 := fun e S' => e = .normal ∧ S'.hp = H2 ∧ KNe S'.sl [(0, .sc (.func (.yield lp) #[] #[])), (9, lst 9 GOp.av L), (10, int L.length), (11, int i), (12, boo (decide ((i : Int) < (L.length : Int))))]) hs2 rfl ?_ ?_)
  · refine tc tbk 3 (.mk ?_)
    refine g_nil ?_
    exact ⟨rfl, rfl, rfl, rfl, rfl, rfl, rfl, trivial⟩
  rintro e S3 s3 a3 ⟨rfl, e3, hk3⟩ hs3 hf3
  rw [e3] at hf3
  have hs3 := hs3.knw _ _ e3 (kn_le hk3)
  refine wpIn_seq (wpIn_cond_split (t := decide ((i : Int) < (L.length : Int))) (eval_ev (o := .tmp 12) hs3 rfl).sc_inv (fun hc => ?_) (fun hc => ?_))
  · refine wpIn_skip ?_
    have hlt : i < L.length := by have := of_decide_eq_true hc; omega
    obtain ⟨x, hx⟩ : ∃ x, L[i]? = some x := ⟨L[i], by simp [hlt]⟩
    have hix : ix L (i : Int) = some x := by unfold ix; rw [if_neg (by omega)]; simpa using hx
    refine wpIn_seq (wpIn_block (wpIn_seq (tr_in (Q0 := fun e S' => e = .normal ∧ ∃ ver, S'.hp = upd H2 777 (some ⟨36, 9, true, true, ver, [GOp.av x]⟩) ∧ KNe S'.sl [(0, .sc (.func (.yield lp) #[] #[])), (9, lst 9 GOp.av L), (10, int L.length), (11, int i), (4, .pt 777 ver 0 0)]) hs3 rfl ?_ ?_)))
    · refine tc tbk 1 (.mk ?_)
      refine sY (yv_ixT rfl Tryz.underlying58 sh36 rfl rfl hix) ?_
      refine tr tbk 1 (.mk ?_)
      refine sA 777 z36 fun ver => ?_
      refine sS ⟨36, 9, true, true, ver, [GOp.av x]⟩ sh36 ?_
      refine tr tbk 1 (.mk ?_)
      refine g_nil ?_
      exact ⟨rfl, ver, upd_updV, rfl, rfl, rfl, rfl, rfl, trivial⟩
    rintro e S4 s4 a4 ⟨rfl, ver, e4, hk4⟩ hs4 hf4
    rw [e4] at hf4
    have hs4 := hs4.knw _ _ e4 (kn_le hk4)
    refine wpIn_seq (wpIn_region ?_)
    show wpOpsIn Fence.wide 0 Tryz.prog (List.toArray _) _ [0, 1, 2, 3] a4 s4.w
    refine go_in hs4 rfl rfl rfl rfl rfl (yv_move rfl rfl) ?_
    intro s5 a5 hs5 hf5
    refine go_in hs5 rfl rfl rfl rfl rfl (yv_load (cs := GOp.av x) (v := .agg (GOp.av x)) rfl sh36 rfl (.pt (row := 0) (o := ⟨36, 9, true, true, ver, [GOp.av x]⟩) rfl rfl rfl) rfl) ?_
    intro s6 a6 hs6 hf6
    have h7 := hJ7 i H2 hj
    have hf26 : Fr s2 H2 s6 H2 := fr_sub (((hf3.trans hf4).trans hf5).trans hf6) (upd_sub h7)
    have hs6' := (⟨hs6.size, hs6.defers, hs6.slot, hr_sub hs6.heap (upd_sub h7)⟩ : SR ⟨20, false, []⟩ s6 ⟨_, H2⟩ a6)
    have hfs6 := hf2.trans hf26
    have hn6 := hn.fr hH hfs6
    refine yield_in (J' := J (i + 1)) hs6' rfl rfl rfl rfl rfl rfl rfl hn6 (fun v hv => hY i (.agg (GOp.av x)) (by rw [List.getElem?_map, hx]; rfl) s6 H2 v hj hs6'.heap hv hn6 hfs6) ?_
    intro s7 a7 H7 hj7 hs7 hf7
    refine go_in hs7 rfl rfl rfl rfl rfl (yv_not (b := true) (r := false) rfl rfl rfl) ?_
    intro s8 a8 hs8 hf8
    refine nil_in ?_
    refine wpIn_cond_false (eval_ev (o := .tmp 18) hs8 rfl).sc_inv (wpIn_skip ?_)
    have hs8' := hs8.knw [(0, .sc (.func (.yield lp) #[] #[])), (9, lst 9 GOp.av L), (10, int L.length), (11, int i)] H7 rfl (kn_le ⟨rfl, rfl, rfl, rfl, trivial⟩)
    refine tr_in (Q0 := fun e S' => e = .normal ∧ S'.hp = H7 ∧ KNe S'.sl [(0, .sc (.func (.yield lp) #[] #[])), (9, lst 9 GOp.av L), (10, int L.length), (11, int (w64 ((i : Int) + 1)))]) hs8' rfl ?_ ?_
    · refine tc tbk 4 (.mk ?_)
      refine g_nil ?_
      exact ⟨rfl, rfl, rfl, rfl, rfl, rfl, trivial⟩
    rintro e S9 s9 a9 ⟨rfl, e9, hk9⟩ hs9 hf9
    rw [e9] at hf9
    have hs9 := hs9.knw _ _ e9 (kn_le hk9)
    have ew : w64 ((i : Int) + 1) = ((i + 1 : Nat) : Int) := (wrap64 (by omega)).trans (by omega)
    rw [ew] at hs9
    refine ⟨⟨i + 1, s9, H7, hlt, rfl, hj7, hs9, ((hfs6.trans hf7).trans hf8).trans hf9⟩, ?_⟩
    obtain ⟨v, q1, q2⟩ := hs9.slot 11 (int ((i + 1 : Nat) : Int)) rfl
    rw [hm2, q1, q2.sc_inv]
    simp
    omega
  · refine wpIn_exit ?_
    have hieq : i = L.length := by have := of_decide_eq_false hc; omega
    subst hieq
    refine ⟨hs3.defers, .tuple #[], res_nil rfl, s3, H2, .tuple #[], rfl, rfl, ?_, hs3.heap, hf2.trans hf3⟩
    rw [List.length_map]; exact hj
theorem each_c {l : List GOp} : PP Tryz.prog 67 [lst 9 GOp.av l] (fun y => y = .fn (.func 121) [] [.pp [lst 9 GOp.av l]]) := by
  refine pp_of_pc (R0 := fun y H => Cv (frzH H) y (.fn (.func 121) [] [.pp [lst 9 GOp.av l]])) ?_ (fun y H hc => ⟨_, rfl, .fn (by simp) (fun x hx => by
    simp only [List.mem_singleton] at hx; subst hx
    exact .pp fun x hx => by simp only [List.mem_singleton] at hx; subst hx; exact pvLs GOp.pvc l), hc⟩)
  refine pcw (c := _) Tryz.func67 rfl rfl ?_; intro Q hret hnorm
  refine tc tbk 2 (.mk ?_)
  refine sB 1 fun v1 => ?_
  refine tr tbk 7 (.mk ?_)
  refine wR hret (rT .nil) ?_
  exact CvL.fn .nil (.cons (Cv.pt (ob := ⟨58, 1, false, true, v1, [[lst 9 GOp.av l]]⟩) rfl rfl rfl rfl (.cons (.refl _) .nil)) .nil)
def d_run_steps_L (dS : GState → GOp → Option (GState × Int)) : List GOp → GState → List Int → Option (GState × (List Int))
  | [], s, e => some (s, e)
  | o :: r, s, e => (dS s o).bind fun x => d_run_steps_L dS r x.1 (e ++ [x.2])
theorem steps_c {dS : GState → GOp → Option (GState × Int)} (hS : ∀ {s o r}, dS s o = some r → PP Tryz.prog 7 [.agg (GState.av s), .agg (GOp.av o)] (fun y => y = .tup [.agg (GState.av r.1), int r.2]))
    {s : GState} {l : List GOp} {r : GState × (List Int)} (h0 : d_run_steps_L dS (l.take 400) s [] = some r) : PP Tryz.prog 36 [.agg (GState.av s), lst 9 GOp.av l] (fun y => y = .tup [.agg (GState.av r.1), lst 1 fI r.2]) := by
  refine pp_of_pc (R0 := fun y H => Cv (frzH H) y (.tup [.agg (GState.av r.1), lst 1 fI r.2])) ?_ (fun y H hc => ⟨_, rfl, .tup (fun x hx => by
    simp only [List.mem_cons, List.not_mem_nil, or_false] at hx
    rcases hx with rfl | rfl
    · exact .agg (GState.pvc r.1)
    · exact pvLs pvcI r.2), hc⟩)
  refine pc_marks (c := _) Tryz.func36 rfl rfl ?_
  intro s0 a0 hs0
  refine wpIn_seq (tr_in (Q0 := fun e S' => e = .normal ∧ ∃ v2 v4, HKe S'.hp [(2, ⟨31, 10, true, true, v2, [GState.av s]⟩), (4, ⟨31, 10, true, true, v4, [[int 0, int 0, .sc (.slice none 0 0), .sc (.slice none 0 0), .sc (.slice none 0 0), .sc (.slice none 0 0), .sc (.slice none 0 0), .sc (.slice none 0 0), .sc (.slice none 0 0), int 0]]⟩)] ∧ KNe S'.sl [(1, lst 9 GOp.av l), (2, .pt 2 v2 0 0), (4, .pt 4 v4 0 0)]) hs0 rfl ?_ ?_)
  · refine tc tbk 1 (.mk ?_)
    refine sB 2 fun v2 => ?_
    refine sA 4 z31 fun v4 => ?_
    refine tr tbk 2 (.mk ?_)
    refine g_nil ?_
    exact ⟨rfl, v2, v4, ⟨rfl, rfl, trivial⟩, rfl, rfl, rfl, trivial⟩
  rintro e S1 s1 a1 ⟨rfl, v2, v4, hh1, hk1⟩ hs1 hf1
  obtain ⟨hs1, hf1⟩ := hs1.kh hf1 _ _ hk1 hh1
  generalize hz : ([[int 0, int 0, .sc (.slice none 0 0), .sc (.slice none 0 0), .sc (.slice none 0 0), .sc (.slice none 0 0), .sc (.slice none 0 0), .sc (.slice none 0 0), .sc (.slice none 0 0), int 0]] : List (List AV)) = zr at *
  refine wpIn_seq (tr_in (Q0 := fun e S' => e = .normal ∧ ∃ v6, HKe S'.hp [(2, ⟨31, 10, true, true, v2, [GState.av s]⟩), (4, ⟨31, 10, true, true, v4, zr⟩), (6, ⟨55, 1, true, true, v6, [[.sc (.slice none 0 0)]]⟩)] ∧ KNe S'.sl [(1, lst 9 GOp.av l), (2, .pt 2 v2 0 0), (4, .pt 4 v4 0 0), (6, .pt 6 v6 0 0)]) hs1 rfl ?_ ?_)
  · refine tc tbk 1 (.mk ?_)
    refine sA 6 z55 fun v6 => ?_
    refine tr tbk 1 (.mk ?_)
    refine g_nil ?_
    exact ⟨rfl, v6, ⟨rfl, rfl, rfl, trivial⟩, rfl, rfl, rfl, rfl, trivial⟩
  rintro e S2 s2 a2 ⟨rfl, v6, hh2, hk2⟩ hs2 hf2
  obtain ⟨hs2, hf2⟩ := hs2.kh (hf1.trans hf2) _ _ hk2 hh2
  refine wpIn_seq (wpIn_seq (tr_in (Q0 := fun e S' => e = .normal ∧ HKe S'.hp [(2, ⟨31, 10, true, true, v2, [GState.av s]⟩), (4, ⟨31, 10, true, true, v4, zr⟩), (6, ⟨55, 1, true, true, v6, [[.sc (.slice none 0 0)]]⟩)] ∧ KNe S'.sl [(2, .pt 2 v2 0 0), (4, .pt 4 v4 0 0), (6, .pt 6 v6 0 0), (11, .fn (.func 121) [] [.pp [lst 9 GOp.av l]])]) hs2 rfl ?_ ?_))
  · refine tc tbk 2 (.mk ?_)
    refine sC cal67 each_c ?_
    refine tr tbk 1 (.mk ?_)
    refine g_nil ?_
    exact ⟨rfl, ⟨rfl, rfl, rfl, trivial⟩, rfl, rfl, rfl, rfl, trivial⟩
  rintro e S3 s3 a3 ⟨rfl, hh3, hk3⟩ hs3 hf3
  obtain ⟨hs3, hf3⟩ := hs3.kh (hf2.trans hf3) _ _ hk3 hh3
  obtain ⟨s4, vA, ew, hs4, hf4⟩ := sr_nilcell hs3 6 20 38 1 (ob := ⟨55, 1, true, true, v6, [[.sc (.slice none 0 0)]]⟩) rfl rfl rfl
  obtain ⟨hs4, hf4⟩ := hs4.kh (hf3.trans hf4) [(2, .pt 2 v2 0 0), (4, .pt 4 v4 0 0), (6, .pt 6 v6 0 0), (11, .fn (.func 121) [] [.pp [lst 9 GOp.av l]])] [(2, ⟨31, 10, true, true, v2, [GState.av s]⟩), (4, ⟨31, 10, true, true, v4, zr⟩), (6, ⟨55, 1, true, true, v6, [[.sl 20 vA 0 ([] : List Int).length]]⟩), (20, ⟨38, 1, true, true, vA, ([] : List Int).map fI⟩)] ⟨rfl, rfl, rfl, rfl, trivial⟩ ⟨rfl, rfl, rfl, rfl, trivial⟩
  rw [← ew]
  have hlen : (l.take 400).length ≤ 400 := by simp; omega
  have hit := each1_it l
  generalize hL : l.take 400 = L at *
  refine wpIn_block (range_in (n := ⟨26, false, []⟩) rfl hs4 rfl cal121 hit (fun i H => ∃ s' e' vA, e'.length = i ∧ d_run_steps_L dS (L.drop i) s' e' = some r ∧
    H = hk [(2, ⟨31, 10, true, true, v2, [GState.av s']⟩), (4, ⟨31, 10, true, true, v4, zr⟩), (6, ⟨55, 1, true, true, v6, [[.sl 20 vA 0 e'.length]]⟩), (20, ⟨38, 1, true, true, vA, e'.map fI⟩)])
    ⟨s, [], vA, rfl, h0, rfl⟩ (by rintro i H ⟨s', e', vA, _, _, rfl⟩; rfl) (by decide) ?_ ?_)
  · rintro i xv H hx ⟨s', e', vA, hi, hd, rfl⟩
    rw [List.getElem?_map] at hx
    obtain ⟨x, hx1, rfl⟩ := Option.map_eq_some_iff.1 hx
    have hiL := (List.getElem?_eq_some_iff.1 hx1).1
    have hdr : L.drop i = x :: L.drop (i + 1) := by
      rw [List.drop_eq_getElem_cons hiL, (List.getElem?_eq_some_iff.1 hx1).2]
    rw [hdr] at hd
    obtain ⟨y, hy, hd⟩ := bind_e hd
    have hfit : (e' ++ [y.2]).length ≤ 68719476736 := by simp; omega
    refine tr1 ?_
    refine tc tbk 1 (.mk ?_)
    refine sA 7 z36 fun v7 => ?_
    refine sS ⟨36, 9, true, true, v7, [GOp.av x]⟩ sh36 ?_
    refine tr tbk 1 (.mk ?_)
    refine g_nil ?_
    refine ⟨rfl, ?_⟩
    refine Tr.monoH (Q' := fun e S' => e = .normal ∧ ∃ S'', S'.leH S'' ∧ ∃ s' e' vA, e'.length = i + 1 ∧ d_run_steps_L dS (L.drop (i + 1)) s' e' = some r ∧
      S''.hp = hk [(2, ⟨31, 10, true, true, v2, [GState.av s']⟩), (4, ⟨31, 10, true, true, v4, zr⟩), (6, ⟨55, 1, true, true, v6, [[.sl 20 vA 0 e'.length]]⟩), (20, ⟨38, 1, true, true, vA, e'.map fI⟩)]) (tr1 ?_) (by
        rintro e S' ⟨rfl, S'', h1, h2⟩
        exact ⟨S'', h1, rfl, h2⟩)
    refine tc tbk 5 (.mk ?_)
    refine sC cal7 (hS hy) ?_
    refine tr tbk 3 (.mk ?_)
    refine sA 8 z31 fun v8 => ?_
    refine sS ⟨31, 10, true, true, v8, [GState.av y.1]⟩ sh31 ?_
    refine tr tbk 2 (.mk ?_)
    refine c_drawE [0, 0, 0, 4, 14, 31, 63] (rl [(0, [8]), (1, [6])] []) (rl [(4, [8]), (5, []), (6, [])] [6, 8]) (rl [(4, false), (5, false), (6, false)] true) [0, 1, 2, 3, 4, 5, 6] mixed (by kernel_rfl) ?_; intro K hK
    refine eL sh31 ?_
    refine eL sh55 ?_
    refine eM ?_
    refine eP (fun H hH => yv_to (y := lst 1 fI ([y.2] : List Int)) (yv_buildSlice (ps := [(0, _)]) (rows := [[int y.2]]) rfl Tryz.underlying55 bz38 (.cons rfl .nil) (by kernel_rfl) rfl rfl rfl) rfl) ?_
    refine de_eff rfl rfl rfl rfl (yl_appT (g := fI) (l := e') (m := ([y.2] : List Int)) .any rfl Tryz.underlying55 bz38 by38 rfl rfl rfl rfl rfl rfl rfl rfl rfl rfl (Eq.symm rfl) (.refl _) (fun _ => rfl) rfl hfit) (by rintro _ _ ⟨v, -, rfl, rfl⟩; exact ⟨rfl, trivial⟩) ?_; rintro _ _ ⟨vB, -, rfl, rfl⟩
    refine de_eff0 rfl rfl rfl rfl (Yield.weak (yl_ob (ob' := (⟨31, 10, true, true, v2, [GState.av y.1]⟩ : AObj)) (yl_store rfl sh31 rfl rfl rfl rfl rfl rfl rfl rfl rfl) rfl) (fun _ h => h) (fun _ _ => trivial)) (by rintro _ _ ⟨rfl, rfl⟩; exact trivial) ?_; rintro _ _ ⟨rfl, rfl⟩
    refine de_eff0 rfl rfl rfl rfl (Yield.weak (yl_ob (ob' := (⟨55, 1, true, true, v6, [[.sl 20 vB 0 (e' ++ [y.2]).length]]⟩ : AObj)) (yl_store rfl sh55 rfl rfl rfl rfl rfl rfl rfl rfl rfl) rfl) (fun _ h => h) (fun _ _ => trivial)) (by rintro _ _ ⟨rfl, rfl⟩; exact trivial) ?_; rintro _ _ ⟨rfl, rfl⟩
    refine de_nil (hK _ ?_)
    refine tc tbk 1 (.mk ?_)
    refine g_nil ?_
    exact ⟨rfl, ⟨kn [], hk [(2, ⟨31, 10, true, true, v2, [GState.av y.1]⟩), (4, ⟨31, 10, true, true, v4, zr⟩), (6, ⟨55, 1, true, true, v6, [[.sl 20 vB 0 (e' ++ [y.2]).length]]⟩), (20, ⟨38, 1, true, true, vB, (e' ++ [y.2]).map fI⟩)]⟩, leH_kn (l := []) trivial ⟨⟨_, rfl, .refl _⟩, ⟨_, rfl, .refl _⟩, ⟨_, rfl, .refl _⟩, ⟨_, rfl, .refl _⟩, trivial⟩, y.1, e' ++ [y.2], vB, by simp [hi], hd, rfl⟩
  · rintro D s5 H5 ⟨s', e', vA, hi, hd, rfl⟩ hs5 hf5 hD hn5
    rw [List.length_map] at hi
    have hd' : d_run_steps_L dS [] s' e' = some r := by rw [← hd, List.length_map, List.drop_length]
    obtain rfl : (s', e') = r := by simpa [d_run_steps_L] using hd'
    have hs5' : SR ⟨26, false, [mk D]⟩ s5 ⟨kn [(2, .pt 2 v2 0 0), (4, .pt 4 v4 0 0), (6, .pt 6 v6 0 0)], hk [(2, ⟨31, 10, true, true, v2, [GState.av s']⟩), (4, ⟨31, 10, true, true, v4, zr⟩), (6, ⟨55, 1, true, true, v6, [[.sl 20 vA 0 e'.length]]⟩), (20, ⟨38, 1, true, true, vA, e'.map fI⟩)]⟩ _ := hs5.knw _ _ rfl (kn_le ⟨rfl, rfl, rfl, trivial⟩)
    subst hz
    refine tr_in (Q0 := fun e S' => e = .ret ∧ ∃ vs H2, ResA Tryz.prog S' Tryz.f36.results.toList vs ∧ (∀ t v, H2 t = some v → S'.hp t = some v) ∧ Cv (frzH H2) (oneOrTup vs) (.tup [.agg (GState.av s'), lst 1 fI e'])) hs5' rfl ?_ ?_
    · refine tc tbk 1 (.mk ?_)
      refine c_drawE [0, 0, 1, 7] (rl [(0, [2]), (1, [6])] []) (rl [(2, [6])] [2, 6]) (rl [(2, false)] true) [0, 1, 2, 3] mixed (by kernel_rfl) ?_; intro K hK
      refine eL sh31 ?_
      refine eL sh55 ?_
      refine de_eff0 rfl rfl rfl rfl (Yield.weak (yl_ob (ob' := (⟨31, 10, true, true, v4, [GState.av s']⟩ : AObj)) (yl_store rfl sh31 rfl rfl rfl rfl rfl rfl rfl rfl rfl) rfl) (fun _ h => h) (fun _ _ => trivial)) (by rintro _ _ ⟨rfl, rfl⟩; exact ⟨rfl, trivial⟩) ?_; rintro _ _ ⟨rfl, rfl⟩
      refine eA ?_
      refine de_nil (hK _ ?_)
      refine w_ret ⟨rfl, _, _, rC sh31 (rT .nil), fun _ _ h => h, ?_⟩
      exact CvL.tup (.cons (.refl _) (.cons (cv_lst rfl rfl rfl rfl rfl (Eq.symm rfl)) .nil))
    · rintro e S6 s6 a6 ⟨rfl, vs, H2, q1, q2, q3⟩ hs6 hf6
      have hn6 := hn5.fr hs5'.heap hf6
      exact ⟨rfl, S6, s6, D, vs, H2, rfl, hs6, (hf4.trans hf5).trans hf6, Nat.le_trans (by rw [ew]; exact hf3.size) hD, hn6, q1, q2, q3⟩
def d_run_steps (n : Nat) (a1 : GState) (a2 : List GOp) : Option (GState × (List Int)) := d_run_steps_L (d_close_Step n) (a2.take 400) a1 []
theorem d_run_steps_c {n : Nat} {a1 : GState} {a2 : List GOp} {r : GState × (List Int)} (h0 : d_run_steps n a1 a2 = some r) : PP Tryz.prog 36 [.agg (GState.av a1), lst 9 GOp.av a2] (fun y => y = .tup [.agg (GState.av r.1), lst 1 fI r.2]) := steps_c d_close_Step_c h0
def d_run_Run (n : Nat) (a1 : GMaster) (a2 : List GOp) : Option (GState × (List Int) × Int) :=
(d_master_Start n a1).bind fun x5 =>
bnd (decide (x5.2 ≠ 0)) fun x7 =>
asrt (x7 = false) <|
(d_run_steps n x5.1 a2).bind fun x8 =>
some ((x8.1 : GState), (x8.2 : List Int), (0 : Int))
theorem d_run_Run_c {n : Nat} {a1 : GMaster} {a2 : List GOp} {r : GState × (List Int) × Int} (h0 : d_run_Run n a1 a2 = some r) : PP Tryz.prog 17 [.agg (GMaster.av a1), lst 9 GOp.av a2] (fun y => y = .tup [.agg (GState.av r.1), lst 1 fI r.2.1, int r.2.2]) := by
  unfold d_run_Run at h0
  refine pp_of_pc (R0 := fun y H => Cv (frzH H) y (.tup [.agg (GState.av r.1), lst 1 fI r.2.1, int r.2.2])) ?_ (fun y H hc => ⟨_, rfl, .tup (pvl3 ((fun (a : GState) => PV.agg (GState.pvc a)) (r.1)) ((pvLs pvcI) (r.2.1)) (pvI (r.2.2))), hc⟩)
  refine pcw (c := _) Tryz.func17 rfl rfl ?_; intro Q hret hnorm
  refine tc tbk 2 (.mk ?_)
  refine sB 1 fun v3 => ?_
  refine sA 2 z31 fun v4 => ?_
  refine tr tbk 6 (.mk ?_)
  obtain ⟨x5, e5, h0⟩ := bind_e h0
  refine sC cal35 (d_master_Start_c e5) ?_
  refine tr tbk 3 (.mk ?_)
  refine sA 3 z31 fun v6 => ?_
  refine sS ⟨31, 10, true, true, v6, [(GState.av x5.1)]⟩ sh31 ?_
  refine tr tbk 6 (.mk ?_)
  refine nb tbk h0 fun x7 h0 => ?_
  refine tr tbk 1 (.mk ?_)
  replace h0 := asrt_e h0
  obtain ⟨rfl, h0⟩ := h0
  refine tc tbk 6 (.mk ?_)
  obtain ⟨x8, e8, h0⟩ := bind_e h0
  refine sC cal36 (d_run_steps_c e8) ?_
  refine tr tbk 3 (.mk ?_)
  refine sS ⟨31, 10, true, true, v6, [(GState.av x8.1)]⟩ sh31 ?_
  refine tr tbk 6 (.mk ?_)
  refine sS ⟨31, 10, true, true, v4, [(GState.av x8.1)]⟩ sh31 ?_
  refine tr tbk 3 (.mk ?_)
  obtain rfl := nxt_e h0
  refine wR hret (rC sh31 (rT (rT .nil))) ?_
  exact .refl _
def d_stock_sums_L0 (a1 : Int) (a2 : List Int) : Nat → Int → Option ((Unit) ⊕ ((Int)))
  | 0, _ => none
  | n + 1, y0_1 =>
    bnd (decide (y0_1 < (a2.length : Int))) fun x7 =>
    cond x7 ((ix a2 y0_1).bind fun x8 =>
    (show Option ((Bool)) from
    (d_stock_in x8 a1 288230376151711744).bind fun x10 =>
    bnd (!x10) fun x11 =>
    some (x11 : Bool)).bind <| fun y2_1 =>
    cond y2_1 (esc (some (y0_1 : Int))) (bnd (w64 (y0_1 + 1)) fun x12 =>
    d_stock_sums_L0 a1 a2 n (x12 : Int))) (brk ())
def d_stock_sums (n : Nat) (a1 : Int) (a2 : List Int) : Option (Bool) :=
(show Option ((Bool)) from
(show Option ((Int)) from
(show Option ((Unit) ⊕ ((Int))) from
d_stock_sums_L0 a1 a2 n (0 : Int)).bind <| sel <| fun _ =>
some ((-1) : Int)).bind <| fun y5_1 =>
bnd (decide (y5_1 ≥ 0)) fun x14 =>
some (x14 : Bool)).bind <| fun y7_1 =>
bnd (!y7_1) fun x15 =>
some ((x15 : Bool))
theorem d_stock_sums_c {n : Nat} {a1 : Int} {a2 : List Int} {r : Bool} (h0 : d_stock_sums n a1 a2 = some r) : PP Tryz.prog 68 [int a1, lst 1 fI a2] (fun y => y = boo r) := by
  unfold d_stock_sums at h0
  refine pp_of_pc (R0 := fun y H => Cv (frzH H) y (boo r)) ?_ (fun y H hc => ⟨_, rfl, pvB r, hc⟩)
  refine pcw (c := _) Tryz.func68 rfl rfl ?_; intro Q hret hnorm
  refine tc tbk 2 (.mk ?_)
  refine sB 1 fun v3 => ?_
  refine tr tbk 6 (.mk ?_)
  obtain ⟨j4, h1, h0⟩ := bind_e h0
  refine rse (Out := fun y H' => (∃ (a : Bool) (k : Unit), a = j4 ∧ y = boo a ∧ H' = hk [(1, ⟨3, 1, true, true, v3, [[int a1]]⟩)])) rfl rfl rfl (yl_call rfl rfl (.cons rfl (.cons rfl .nil)) cal122 ?_) ?_
  refine pcw (c := _) Tryz.func122 rfl rfl ?_; intro Q hret hnorm
  refine tc tbk 8 (.mk ?_)
  obtain ⟨j5, h2, h1⟩ := bind_e h1
  refine rse (Out := fun y H' => (∃ (a : Int) (k : Unit), a = j5 ∧ y = int a ∧ H' = hk [(1, ⟨3, 1, true, true, v3, [[int a1]]⟩)])) rfl rfl rfl (yl_call rfl rfl (.cons rfl (.cons rfl .nil)) cal168 ?_) ?_
  refine pcw (c := _) Tryz.func168 rfl rfl ?_; intro Q hret hnorm
  refine tc tbk 8 (.mk ?_)
  refine sY (yv_len_sl rfl Tryz.underlying22 rfl (lst_len _)) ?_
  refine tr tbk 2 (.mk ?_)
  refine jnE h2 [4] [1] (fun (a : Unit) (k : Unit) => []) (fun a k => []) ⟨fun j6 h3 h2 => ?_, ?_⟩
  refine tc tbk 1 (.mk ?_)
  refine lp (fun n (a : Int) => d_stock_sums_L0 a1 a2 n a) (0 : Int) () h3 [0, 1, 4, 7] [1] (fun (a : Int) (k : Unit) => [(8, int a)]) (fun a k => []) (fun _ => rfl) ⟨leA, ?_⟩
  rintro n y0_1 _ hm h3
  replace h3 : d_stock_sums_L0 a1 a2 (n + 1) y0_1 = some _ := h3
  rw [d_stock_sums_L0] at h3
  refine tc tbk 2 (.mk ?_)
  refine nb tbk h3 fun x7 h3 => ?_
  refine tr tbk 2 (.mk ?_)
  cases x7
  replace h3 := cf h3
  refine tc tbk 2 (.mk ?_)
  exact lfE h3 () leA
  replace h3 := ct h3
  refine tc tbk 14 (.mk ?_)
  obtain ⟨x8, e8, h3⟩ := bind_e h3
  refine sY (yv_ixT rfl Tryz.underlying22 sh3 rfl rfl e8) ?_
  refine tr tbk 1 (.mk ?_)
  obtain ⟨j9, h4, h3⟩ := bind_e h3
  refine rse (Out := fun y H' => (∃ (a : Bool) (k : Unit), a = j9 ∧ y = boo a ∧ H' = hk [(1, ⟨3, 1, true, true, v3, [[int a1]]⟩)])) rfl rfl rfl (yl_call rfl rfl (.cons rfl .nil) cal123 ?_) ?_
  refine pcw (c := _) Tryz.func123 rfl rfl ?_; intro Q hret hnorm
  refine tc tbk 8 (.mk ?_)
  obtain ⟨x10, e10, h4⟩ := bind_e h4
  refine sC cal71 (d_stock_in_c e10) ?_
  refine nb tbk h4 fun x11 h4 => ?_
  refine tr tbk 2 (.mk ?_)
  obtain rfl := nxt_e h4
  refine w_ret (hret _ _ (hk [(1, ⟨3, 1, true, true, v3, [[int a1]]⟩)]) (.tmp rfl .nil) (HK.le ⟨rfl, trivial⟩) ?_)
  exact ⟨x11, (), rfl, rfl, rfl⟩
  rintro y _ ⟨y2_1, _, rfl, hc, rfl⟩
  subst hc
  refine tr tbk 1 (.mk ?_)
  cases y2_1
  replace h3 := cf h3
  refine tc tbk 4 (.mk ?_)
  refine ni tbk h3 fun x12 h3 => ?_
  refine tr tbk 2 (.mk ?_)
  exact bk x12 () h3 leA
  replace h3 := ct h3
  refine tc tbk 6 (.mk ?_)
  obtain ⟨c13, hX, hj⟩ := esc_e h3; subst hj; replace h2 := hX.trans (sel_r h2)
  obtain rfl := nxt_e h2
  refine w_ret (hret _ _ (hk [(1, ⟨3, 1, true, true, v3, [[int a1]]⟩)]) (.tmp rfl .nil) (HK.le ⟨rfl, trivial⟩) ?_)
  exact ⟨y0_1, (), rfl, rfl, rfl⟩
  rintro _ _ h2
  refine tc tbk 4 (.mk ?_)
  obtain rfl := nxt_e h2
  refine w_ret (hret _ _ (hk [(1, ⟨3, 1, true, true, v3, [[int a1]]⟩)]) (.tmp rfl .nil) (HK.le ⟨rfl, trivial⟩) ?_)
  exact ⟨(-1), (), rfl, rfl, rfl⟩
  rintro y _ ⟨y5_1, _, rfl, hc, rfl⟩
  subst hc
  refine nb tbk h1 fun x14 h1 => ?_
  refine tr tbk 2 (.mk ?_)
  obtain rfl := nxt_e h1
  refine w_ret (hret _ _ (hk [(1, ⟨3, 1, true, true, v3, [[int a1]]⟩)]) (.tmp rfl .nil) (HK.le ⟨rfl, trivial⟩) ?_)
  exact ⟨x14, (), rfl, rfl, rfl⟩
  rintro y _ ⟨y7_1, _, rfl, hc, rfl⟩
  subst hc
  refine nb tbk h0 fun x15 h0 => ?_
  refine tr tbk 2 (.mk ?_)
  obtain rfl := nxt_e h0
  refine wR hret (rT .nil) ?_
  exact .refl _
def d_pool_Total (n : Nat) (a1 : GPool) : Option (GLayer) :=
(d_fifo_Total n a1.Layers).bind fun x4 =>
some ((x4.1 : GLayer))
theorem d_pool_Total_c {n : Nat} {a1 : GPool} {r : GLayer} (h0 : d_pool_Total n a1 = some r) : PP Tryz.prog 160 [.agg (GPool.av a1)] (fun y => y = .agg (GLayer.av r)) := by
  unfold d_pool_Total at h0
  refine pp_of_pc (R0 := fun y H => Cv (frzH H) y (.agg (GLayer.av r))) ?_ (fun y H hc => ⟨_, rfl, (fun (a : GLayer) => PV.agg (GLayer.pvc a)) r, hc⟩)
  refine pcw (c := _) Tryz.func160 rfl rfl ?_; intro Q hret hnorm
  refine tc tbk 2 (.mk ?_)
  refine sB 1 fun v2 => ?_
  refine sA 2 z42 fun v3 => ?_
  refine tr tbk 5 (.mk ?_)
  obtain ⟨x4, e4, h0⟩ := bind_e h0
  refine sC cal32 (d_fifo_Total_c e4) ?_
  refine tr tbk 3 (.mk ?_)
  refine sA 3 z42 fun v5 => ?_
  refine sS ⟨42, 3, true, true, v5, [[int x4.1.Qty, int x4.1.Value, int x4.1.Profit]]⟩ sh42 ?_
  refine tr tbk 5 (.mk ?_)
  refine sS ⟨42, 3, true, true, v3, [[int x4.1.Qty, int x4.1.Value, int x4.1.Profit]]⟩ sh42 ?_
  refine tr tbk 1 (.mk ?_)
  obtain rfl := nxt_e h0
  refine wR hret (rC sh42 .nil) ?_
  exact .refl _
def d_pool_Right_L0 (a1 : Int) (a2 : GPool) : Nat → Int → Int → Option (Unit)
  | 0, _, _ => none
  | n + 1, y5_1, y5_2 =>
    bnd (decide (y5_2 < 3)) fun x16 =>
    cond x16 ((ix ([a2.Pend.a0, a2.Pend.a1, a2.Pend.a2] : List Int) y5_2).bind fun x17 =>
    (show Option (Bool) from
    bnd (decide (x17 < 0)) fun x19 =>
    cond x19 (some (true : Bool)) (bnd (decide (x17 > y5_1)) fun x20 =>
    cond x20 (some (true : Bool)) (bnd (decide (x17 > 0)) fun x21 =>
    cond x21 ((show Option ((Unit)) from
    some ()).bind <| fun _ =>
    some (true : Bool)) (some (false : Bool))))).bind <| fun y7_1 =>
    asrt (y7_1 = false) <|
    bnd (w64 (y5_1 - x17)) fun x24 =>
    bnd (w64 (y5_2 + 1)) fun x25 =>
    d_pool_Right_L0 a1 a2 n (x24 : Int) (x25 : Int)) (some ())
def d_pool_Right (n : Nat) (a1 : Int) (a2 : GPool) : Option (Bool) :=
(show Option ((Unit) ⊕ (Unit)) from
bnd (decide (a1 = 1)) fun x5 =>
cond x5 (some (.inr ())) (bnd (decide (a1 = 2)) fun x6 =>
asrt (x6 = false) <|
bnd (decide (a1 = 3)) fun x7 =>
asrt (x7 = false) <|
bnd (decide (a1 = 4)) fun x8 =>
asrt (x8 = false) <|
some (.inl ()))).bind <| selr (fun _ =>
some ((false : Bool))) <| fun _ =>
(show Option (Bool) from
(d_fifo_Right n a2.Layers).bind fun x10 =>
bnd (!x10) fun x11 =>
cond x11 (some (true : Bool)) (bnd (decide (a1 ≠ 1)) fun x12 =>
cond x12 (bnd (decide ((a2.Layers.length : Int) > 1)) fun x13 =>
some (x13 : Bool)) (some (false : Bool)))).bind <| fun y4_1 =>
asrt (y4_1 = false) <|
(d_pool_Total n a2).bind fun x14 =>
(show Option (Unit) from
d_pool_Right_L0 a1 a2 n (x14.Qty : Int) (0 : Int)).bind <| fun _ =>
some ((true : Bool))
theorem d_pool_Right_c {n : Nat} {a1 : Int} {a2 : GPool} {r : Bool} (h0 : d_pool_Right n a1 a2 = some r) : PP Tryz.prog 124 [int a1, .agg (GPool.av a2)] (fun y => y = boo r) := by
  unfold d_pool_Right at h0
  refine pp_of_pc (R0 := fun y H => Cv (frzH H) y (boo r)) ?_ (fun y H hc => ⟨_, rfl, pvB r, hc⟩)
  refine pcw (c := _) Tryz.func124 rfl rfl ?_; intro Q hret hnorm
  refine tc tbk 2 (.mk ?_)
  refine sB 1 fun v3 => ?_
  refine tr tbk 5 (.mk ?_)
  obtain ⟨j4, h1, h0⟩ := bind_e h0
  refine rse (Out := fun y H' => (∃ (a : Unit) (k : Unit), (.inl a) = j4 ∧ y = .sc .nilIface ∧ H' = hk [(1, ⟨74, 4, true, true, v3, [[lst 3 GLayer.av a2.Layers, int a2.Pend.a0, int a2.Pend.a1, int a2.Pend.a2]]⟩)]) ∨ (∃ (a : Unit) (k : Unit), (.inr a) = j4 ∧ y = .ifc 249 (.agg []) ∧ H' = hk [(1, ⟨74, 4, true, true, v3, [[lst 3 GLayer.av a2.Layers, int a2.Pend.a0, int a2.Pend.a1, int a2.Pend.a2]]⟩)])) rfl rfl rfl (yl_call rfl rfl (.cons rfl (.cons rfl .nil)) cal169 ?_) ?_
  refine pcw (c := _) Tryz.func169 rfl rfl ?_; intro Q hret hnorm
  refine tc tbk 12 (.mk ?_)
  refine nb tbk h1 fun x5 h1 => ?_
  refine tr tbk 2 (.mk ?_)
  cases x5
  replace h1 := cf h1
  refine tc tbk 3 (.mk ?_)
  refine nb tbk h1 fun x6 h1 => ?_
  refine tr tbk 2 (.mk ?_)
  replace h1 := asrt_e h1
  obtain ⟨rfl, h1⟩ := h1
  refine tc tbk 3 (.mk ?_)
  refine nb tbk h1 fun x7 h1 => ?_
  refine tr tbk 2 (.mk ?_)
  replace h1 := asrt_e h1
  obtain ⟨rfl, h1⟩ := h1
  refine tc tbk 3 (.mk ?_)
  refine nb tbk h1 fun x8 h1 => ?_
  refine tr tbk 2 (.mk ?_)
  replace h1 := asrt_e h1
  obtain ⟨rfl, h1⟩ := h1
  refine tc tbk 7 (.mk ?_)
  obtain rfl := nxt_e h1
  refine w_ret (hret _ _ (hk [(1, ⟨74, 4, true, true, v3, [[lst 3 GLayer.av a2.Layers, int a2.Pend.a0, int a2.Pend.a1, int a2.Pend.a2]]⟩)]) (.tmp rfl .nil) (HK.le ⟨rfl, trivial⟩) ?_)
  exact (.inl ⟨(), (), rfl, rfl, rfl⟩)
  replace h1 := ct h1
  refine tc tbk 4 (.mk ?_)
  refine sY (yv_makeIface rfl Tryz.underlying249 (by intro _ h; cases h) rfl) ?_
  refine tr tbk 2 (.mk ?_)
  obtain rfl := nxt_e h1
  refine w_ret (hret _ _ (hk [(1, ⟨74, 4, true, true, v3, [[lst 3 GLayer.av a2.Layers, int a2.Pend.a0, int a2.Pend.a1, int a2.Pend.a2]]⟩)]) (.tmp rfl .nil) (HK.le ⟨rfl, trivial⟩) ?_)
  exact (.inr ⟨(), (), rfl, rfl, rfl⟩)
  rintro y _ (⟨_, _, rfl, hc, rfl⟩ | ⟨_, _, rfl, hc, rfl⟩)
  replace h0 := selr_l h0
  subst hc
  refine tr tbk 6 (.mk ?_)
  refine sY (yv_ifeqN rfl Tryz.underlying228 rfl rfl) ?_
  refine tr tbk 22 (.mk ?_)
  obtain rfl := nxt_e h0
  refine wR hret (rT .nil) ?_
  exact .refl _
  replace h0 := selr_r h0
  subst hc
  refine tr tbk 4 (.mk ?_)
  refine jn h0 [3, 4, 5] [1] (fun (a : Bool) (k : Unit) => [(28, boo a)]) (fun a k => []) ⟨fun j9 h1 => ?_, ?_⟩
  refine tc tbk 2 (.mk ?_)
  refine sY (yv_ifeq rfl Tryz.underlying228 rfl rfl) ?_
  refine tr tbk 3 (.mk ?_)
  obtain ⟨x10, e10, h1⟩ := bind_e h1
  refine sC cal170 (d_fifo_Right_c e10) ?_
  refine nb tbk h1 fun x11 h1 => ?_
  refine tr tbk 2 (.mk ?_)
  cases x11
  replace h1 := cf h1
  refine tr tbk 1 (.mk ?_)
  refine nb tbk h1 fun x12 h1 => ?_
  refine tr tbk 1 (.mk ?_)
  cases x12
  replace h1 := cf h1
  refine tr tbk 7 (.mk ?_)
  exact lf h1 () leA
  replace h1 := ct h1
  refine tr tbk 2 (.mk ?_)
  refine sY (yv_len_sl rfl Tryz.underlying71 rfl (lst_len _)) ?_
  refine nb tbk h1 fun x13 h1 => ?_
  refine tr tbk 3 (.mk ?_)
  exact lf h1 () leA
  replace h1 := ct h1
  refine tr tbk 10 (.mk ?_)
  exact lf h1 () leA
  rintro y4_1 _ h0
  replace h0 := asrt_e h0
  obtain ⟨rfl, h0⟩ := h0
  refine tc tbk 5 (.mk ?_)
  obtain ⟨x14, e14, h0⟩ := bind_e h0
  refine sC cal160 (d_pool_Total_c e14) ?_
  refine tr tbk 10 (.mk ?_)
  refine jn h0 [4] [] (fun (a : Unit) (k : Unit) => []) (fun a k => []) ⟨fun j15 h1 => ?_, ?_⟩
  refine tc tbk 1 (.mk ?_)
  refine lp (fun n (a : Int × Int) => d_pool_Right_L0 a1 a2 n a.1 a.2) ((x14.Qty : Int), (0 : Int)) () h1 [4, 5, 33] [] (fun (a : Int × Int) (k : Unit) => [(6, int a.1), (34, int a.2)]) (fun a k => []) (fun _ => rfl) ⟨leA, ?_⟩
  rintro n ⟨y5_1, y5_2⟩ _ hm h1
  replace h1 : d_pool_Right_L0 a1 a2 (n + 1) y5_1 y5_2 = some _ := h1
  rw [d_pool_Right_L0] at h1
  refine tc tbk 2 (.mk ?_)
  refine nb tbk h1 fun x16 h1 => ?_
  refine tr tbk 2 (.mk ?_)
  cases x16
  replace h1 := cf h1
  refine tc tbk 2 (.mk ?_)
  exact lf h1 () leA
  replace h1 := ct h1
  refine tc tbk 6 (.mk ?_)
  obtain ⟨x17, e17, h1⟩ := bind_e h1
  refine sY (yv_indexAT (g := fI) (l := ([a2.Pend.a0, a2.Pend.a1, a2.Pend.a2] : List Int)) (v := x17) (w := int x17) rfl Tryz.underlying72 sh3 rfl rfl rfl e17 (fun _ => rfl) hw1) ?_
  refine tr tbk 4 (.mk ?_)
  refine jn h1 [4, 5, 6, 8, 33, 34] [] (fun (a : Bool) (k : Unit) => [(52, boo a)]) (fun a k => []) ⟨fun j18 h2 => ?_, ?_⟩
  refine tc tbk 2 (.mk ?_)
  refine nb tbk h2 fun x19 h2 => ?_
  refine tr tbk 1 (.mk ?_)
  cases x19
  replace h2 := cf h2
  refine tr tbk 2 (.mk ?_)
  refine nb tbk h2 fun x20 h2 => ?_
  refine tr tbk 2 (.mk ?_)
  cases x20
  replace h2 := cf h2
  refine tr tbk 1 (.mk ?_)
  refine nb tbk h2 fun x21 h2 => ?_
  refine tr tbk 1 (.mk ?_)
  cases x21
  replace h2 := cf h2
  refine tr tbk 6 (.mk ?_)
  exact lf h2 () leA
  replace h2 := ct h2
  refine tr tbk 1 (.mk ?_)
  obtain ⟨j22, h3, h2⟩ := bind_e h2
  refine rse (Out := fun y H' => (∃ (a : Unit) (k : Unit), a = j22 ∧ y = boo false ∧ H' = hk [])) rfl rfl rfl (yl_call rfl rfl (.cons rfl .nil) cal171 ?_) ?_
  refine pcw (c := _) Tryz.func171 rfl rfl ?_; intro Q hret hnorm
  refine tc tbk 7 (.mk ?_)
  refine sY (yv_tassF rfl Tryz.underlying251 rfl rfl rfl zag251) ?_
  refine tr tbk 3 (.mk ?_)
  refine sA 2 z251 fun v23 => ?_
  refine sS ⟨251, 0, true, true, v23, [[]]⟩ sh251 ?_
  refine tr tbk 7 (.mk ?_)
  obtain rfl := nxt_e h3
  refine w_ret (hret _ _ (hk []) (.tmp rfl .nil) (fun _ _ h => nomatch h) ?_)
  exact ⟨(), (), rfl, rfl, rfl⟩
  rintro y _ ⟨_, _, rfl, hc, rfl⟩
  subst hc
  refine tr tbk 4 (.mk ?_)
  exact lf h2 () leA
  replace h2 := ct h2
  refine tr tbk 9 (.mk ?_)
  exact lf h2 () leA
  replace h2 := ct h2
  refine tr tbk 14 (.mk ?_)
  exact lf h2 () leA
  rintro y7_1 _ h1
  replace h1 := asrt_e h1
  obtain ⟨rfl, h1⟩ := h1
  refine tc tbk 5 (.mk ?_)
  refine ni tbk h1 fun x24 h1 => ?_
  refine tr tbk 4 (.mk ?_)
  refine ni tbk h1 fun x25 h1 => ?_
  refine tr tbk 2 (.mk ?_)
  exact bk (x24, x25) () h1 leA
  rintro _ _ h0
  refine tc tbk 4 (.mk ?_)
  obtain rfl := nxt_e h0
  refine wR hret (rT .nil) ?_
  exact .refl _
end Go.Pv
