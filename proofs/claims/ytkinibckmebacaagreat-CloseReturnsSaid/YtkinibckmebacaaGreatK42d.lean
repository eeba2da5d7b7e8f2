import Derived.Test.YtkinibckmebacaaGreatK42c
set_option linter.unusedVariables false
namespace Go.Pv
open Go.Proofs
set_option maxRecDepth 10000
set_option maxHeartbeats 1000000
def d_close_settle (n : Nat) (a1 : GState) (a2 : Int) (a3 : Int) (a4 : Int) (a5 : GPool) : Option (GState × Int) :=
(d_pavg_Settle n a5).bind fun x9 =>
asrt (a1.Ents.length ≤ 68719476736) <|
(ix a1.Ents a2).bind fun x13 =>
asrt (x13.Pools.length ≤ 68719476736) <|
bnd (w64 (a3 * 2)) fun x16 =>
bnd (w64 (x16 + a4)) fun x17 =>
(ix x13.Pools x17).bind fun x18 =>
bnd (x13.Pools.set (Int.toNat x17) (x9.1 : GPool)) fun x19 =>
bnd (w64 (0 - x9.2.a0.Value)) fun x23 =>
bnd (w64 (x23 - x9.2.a1.Value)) fun x24 =>
bnd (w64 (x24 - x9.2.a2.Value)) fun x25 =>
(d_stock_Post n (⟨a1.Master, (a1.Ents.set (Int.toNat a2) (⟨x13.Now, x13.Closed, x19, x13.Bal, x13.Rolls, x13.Prices, x13.Down, x13.Ahead⟩ : GEnt)), a1.Receipts, a1.Sales, a1.Transits, a1.Done⟩ : GState) a2 ([(⟨5, x9.2.a0.Value⟩ : GLine), (⟨7, x9.2.a1.Value⟩ : GLine), (⟨8, x9.2.a2.Value⟩ : GLine), (⟨0, x25⟩ : GLine)] : List GLine)).bind fun x26 =>
bnd (decide (x26.2 ≠ 0)) fun x27 =>
asrt (x27 = false) <|
(d_stock_Turn x26.1 a2 a3 (⟨0, 0, 0, 0, 0, x9.2.a0.Value, 0, 0, x9.2.a1.Value, x9.2.a2.Value, 0⟩ : GRoll)).bind fun x28 =>
bnd (decide (x28.2 ≠ 0)) fun x29 =>
asrt (x29 = false) <|
(d_close_spread n x28.1 a2 a3 a4 x9.2.a0).bind fun x30 =>
some ((x30.1 : GState), (x30.2 : Int))
theorem d_close_settle_c {n : Nat} {a1 : GState} {a2 : Int} {a3 : Int} {a4 : Int} {a5 : GPool} {r : GState × Int} (h0 : d_close_settle n a1 a2 a3 a4 a5 = some r) : PP Tryz.prog 50 [.agg (GState.av a1), int a2, int a3, int a4, .agg (GPool.av a5)] (fun y => y = .tup [.agg (GState.av r.1), int r.2]) := by
  unfold d_close_settle at h0
  refine pp_of_pc (R0 := fun y H => Cv (frzH H) y (.tup [.agg (GState.av r.1), int r.2])) ?_ (fun y H hc => ⟨_, rfl, .tup (pvl2 ((fun (a : GState) => PV.agg (GState.pvc a)) (r.1)) (pvI (r.2))), hc⟩)
  refine pcw (c := _) Tryz.func50 rfl rfl ?_; intro Q hret hnorm
  refine tc tbk 2 (.mk ?_)
  refine sB 1 fun v6 => ?_
  refine sB 2 fun v7 => ?_
  refine sA 3 z31 fun v8 => ?_
  refine tr tbk 5 (.mk ?_)
  obtain ⟨x9, e9, h0⟩ := bind_e h0
  refine sC cal95 (d_pavg_Settle_c e9) ?_
  refine tr tbk 3 (.mk ?_)
  refine sA 4 z151 fun v10 => ?_
  refine sS ⟨98, 4, true, true, v7, [[lst 3 GLayer.av x9.1.Layers, int x9.1.Pend.a0, int x9.1.Pend.a1, int x9.1.Pend.a2]]⟩ sh98 ?_
  refine sS ⟨151, 9, true, true, v10, [[int x9.2.a0.Qty, int x9.2.a0.Value, int x9.2.a0.Profit, int x9.2.a1.Qty, int x9.2.a1.Value, int x9.2.a1.Profit, int x9.2.a2.Qty, int x9.2.a2.Value, int x9.2.a2.Profit]]⟩ sh151 ?_
  refine tr tbk 5 (.mk ?_)
  obtain ⟨p11, h0⟩ := asrt_e h0
  refine rse rfl rfl rfl (yl_call rfl rfl (.cons rfl .nil) cal52 (pc_cv (clone52_c (id := 5) (l := a1.Ents) rfl p11) (.cons (.refl _) .nil))) ?_; rintro _ _ ⟨v12, rfl, rfl⟩
  refine tr tbk 1 (.mk ?_)
  refine sS ⟨31, 10, true, true, v6, [[int a1.Master.Entities, int a1.Master.Periods, lst 1 fI a1.Master.Weights, lst 1 (fL 1 fI) a1.Master.Methods, lst 1 (fL 1 fI) a1.Master.Costs, .sl 5 v12 0 a1.Ents.length, lst 8 GReceipt.av a1.Receipts, lst 9 GSale.av a1.Sales, lst 6 GTransit.av a1.Transits, int a1.Done]]⟩ sh26 ?_
  refine tr tbk 2 (.mk ?_)
  refine c_drawE [0, 1, 0, 0, 8, 0, 56, 120, 248, 504, 1023, 2047, 4095] (rl [(0, [1]), (1, [1]), (3, [1]), (4, [1]), (6, [5]), (7, [5]), (8, [5]), (10, [5]), (11, [5])] []) (rl [(9, [1]), (12, [])] [1, 5]) (rl [(9, false), (12, false)] true) [0, 1, 2, 3, 4, 5, 6, 7, 8, 9, 10, 11, 12] mixed (by kernel_rfl) ?_; intro K hK
  refine eF fo31_1 ?_
  refine eL sh26 ?_
  refine eM ?_
  refine eF fo31_1 ?_
  refine eL sh26 ?_
  refine eM ?_
  obtain ⟨x13, e13, h0⟩ := bind_e h0
  refine de_pure rfl rfl rfl rfl (fun H hH => yv_ixO rfl Tryz.underlying26 sh46 rfl rfl ((hH _ (by decide)).trans rfl) rfl rfl (Eq.symm rfl) (List.length_map _) e13) ?_
  refine eF fo46_2 (hr := ix_get' e13 (GEnt.av_eq _)) ?_
  refine eL sh43 (hr := ix_get' e13 (GEnt.av_eq _)) ?_
  obtain ⟨p14, h0⟩ := asrt_e h0
  refine de_eff rfl rfl rfl rfl (yl_call rfl rfl (.cons rfl .nil) cal96 (pc_cv (clone96_c (id := 6) (l := x13.Pools) rfl p14) (.cons (.refl _) .nil))) (by rintro _ _ ⟨v15, rfl, rfl⟩; exact ⟨rfl, trivial⟩) ?_; rintro _ _ ⟨v15, rfl, rfl⟩
  refine de_pure rfl rfl rfl rfl (fun H hH => yv_ixO rfl Tryz.underlying26 sh46 rfl rfl ((hH _ (by decide)).trans rfl) rfl rfl (Eq.symm rfl) (List.length_map _) e13) ?_
  refine eF fo46_2 (hr := ix_get' e13 (GEnt.av_eq _)) ?_
  refine de_eff0 rfl rfl rfl rfl (Yield.weak (yl_ob (ob' := (⟨46, 8, true, true, v12, (a1.Ents.map GEnt.av).set (Int.toNat a2) [int x13.Now, boo x13.Closed, .sl 6 v15 0 x13.Pools.length, lst 1 fI x13.Bal, lst 11 GRoll.av x13.Rolls, lst 1 fI x13.Prices, lst 1 fI x13.Down, lst 8 GEnt.av x13.Ahead]⟩ : AObj)) (yl_store rfl sh43 rfl rfl rfl rfl rfl (ix_get' e13 (GEnt.av_eq _)) rfl rfl rfl) (ob_eq rfl)) (fun _ h => h) (fun _ _ => trivial)) (by rintro _ _ ⟨rfl, rfl⟩; exact trivial) ?_; rintro _ _ ⟨rfl, rfl⟩
  refine de_nil (hK _ ?_)
  refine tc tbk 1 (.mk ?_)
  refine c_drawE [0, 1, 0, 7, 15, 31, 0, 64, 0, 448, 0, 2047, 4095] (rl [(0, [1]), (1, [1]), (3, [5]), (4, [5]), (5, [5]), (10, [2]), (11, [6])] []) (rl [(12, [])] [1, 2, 5, 6]) (rl [(12, false)] true) [0, 1, 2, 3, 4, 5, 6, 7, 8, 9, 10, 11, 12] mixed (by kernel_rfl) ?_; intro K hK
  refine eF fo31_1 ?_
  refine eL sh26 ?_
  refine eM ?_
  refine de_pure rfl rfl rfl rfl (fun H hH => yv_ixO rfl Tryz.underlying26 sh46 rfl rfl ((hH _ (by decide)).trans rfl) rfl rfl (Eq.symm rfl) len_ov e13) ?_
  refine eF fo46_2 (hr := set_get e13) ?_
  refine eL sh43 (hr := set_get e13) ?_
  refine eM ?_
  obtain ⟨x16, e16, h0⟩ := bnd_e h0
  refine eP (fun H hH => yv_mul rfl rfl rfl e16) ?_
  refine eM ?_
  obtain ⟨x17, e17, h0⟩ := bnd_e h0
  refine eP (fun H hH => yv_add rfl rfl rfl e17) ?_
  refine eL sh98 ?_
  obtain ⟨x18, e18, h0⟩ := bind_e h0
  refine de_pure rfl rfl rfl rfl (fun H hH => yv_ixO rfl Tryz.underlying43 sh98 rfl rfl ((hH _ (by decide)).trans rfl) rfl rfl (Eq.symm rfl) (List.length_map _) e18) ?_
  obtain ⟨x19, e19, h0⟩ := bnd_e h0
  have fx19 := ix_set e18 e19; have lx19 := len_setV e19 (rfl : x13.Pools.length = x13.Pools.length)
  refine de_eff0 rfl rfl rfl rfl (Yield.weak (yl_ob (ob' := (⟨98, 4, true, true, v15, x19.map GPool.av⟩ : AObj)) (yl_store rfl sh98 rfl rfl rfl rfl rfl (ix_get e18) rfl rfl rfl) (ob_eq (map_setV e19))) (fun _ h => h) (fun _ _ => trivial)) (by rintro _ _ ⟨rfl, rfl⟩; exact trivial) ?_; rintro _ _ ⟨rfl, rfl⟩
  refine de_nil (hK _ ?_)
  refine tc tbk 1 (.mk ?_)
  refine c_draw [0, 1, 0, 4, 0, 16, 0, 0, 0, 451, 975, 2047] (fun i k => bif Nat.beq i 0 then (Nat.beq k 4) else bif Nat.beq i 1 then (Nat.beq k 4) else bif Nat.beq i 2 then (Nat.beq k 4) else bif Nat.beq i 3 then (Nat.beq k 4) else bif Nat.beq i 4 then (Nat.beq k 4) else bif Nat.beq i 5 then (Nat.beq k 4) else bif Nat.beq i 9 then (Nat.beq k 7) else bif Nat.beq i 10 then (Nat.beq k 8) else bif Nat.beq i 11 then (Nat.beq k 9) else false) (fun i => bif Nat.beq i 6 then (some 7) else bif Nat.beq i 7 then (some 8) else bif Nat.beq i 8 then (some 9) else bif Nat.beq i 9 then (some 7) else bif Nat.beq i 10 then (some 8) else bif Nat.beq i 11 then (some 9) else none) mixed (by kernel_rfl) ?_; intro C K hK
  refine dg_pure rfl (fun H hH => yv_to (y := .pt 4 v10 0 0) (yv_indexAddrA rfl Tryz.underlying151 sh57 rfl rfl ((hH _ rfl).trans rfl) rfl rfl (by decide)) rfl) ?_
  refine dg_pure rfl (fun H hH => yv_load rfl sh57 rfl (.pt ((hH _ rfl).trans rfl) rfl rfl) rfl) ?_
  refine dg_pure rfl (fun H hH => yv_to (y := .pt 4 v10 0 3) (yv_indexAddrA rfl Tryz.underlying151 sh57 rfl rfl ((hH _ rfl).trans rfl) rfl rfl (by decide)) rfl) ?_
  refine dg_pure rfl (fun H hH => yv_load rfl sh57 rfl (.pt ((hH _ rfl).trans rfl) rfl rfl) rfl) ?_
  refine dg_pure rfl (fun H hH => yv_to (y := .pt 4 v10 0 6) (yv_indexAddrA rfl Tryz.underlying151 sh57 rfl rfl ((hH _ rfl).trans rfl) rfl rfl (by decide)) rfl) ?_
  refine dg_pure rfl (fun H hH => yv_load rfl sh57 rfl (.pt ((hH _ rfl).trans rfl) rfl rfl) rfl) ?_
  refine dg_eff rfl rfl (fun H hH => yl_alloc1 7 rfl z57 rfl) ?_; generalize C + 6 = v20
  refine dg_eff rfl rfl (fun H hH => yl_alloc1 8 rfl z57 rfl) ?_; generalize C + 7 = v21
  refine dg_eff rfl rfl (fun H hH => yl_alloc1 9 rfl z57 rfl) ?_; generalize C + 8 = v22
  refine dg_store rfl rfl rfl (fun H hH => yl_ob (ob' := (⟨57, 3, true, true, v20, [[int x9.2.a0.Qty, int x9.2.a0.Value, int x9.2.a0.Profit]]⟩ : AObj)) (yl_store rfl sh57 rfl rfl ((hH _ rfl).trans rfl) rfl rfl rfl rfl rfl rfl) rfl) ?_
  refine dg_store rfl rfl rfl (fun H hH => yl_ob (ob' := (⟨57, 3, true, true, v21, [[int x9.2.a1.Qty, int x9.2.a1.Value, int x9.2.a1.Profit]]⟩ : AObj)) (yl_store rfl sh57 rfl rfl ((hH _ rfl).trans rfl) rfl rfl rfl rfl rfl rfl) rfl) ?_
  refine dg_store rfl rfl rfl (fun H hH => yl_ob (ob' := (⟨57, 3, true, true, v22, [[int x9.2.a2.Qty, int x9.2.a2.Value, int x9.2.a2.Profit]]⟩ : AObj)) (yl_store rfl sh57 rfl rfl ((hH _ rfl).trans rfl) rfl rfl rfl rfl rfl rfl) rfl) ?_
  refine dg_nil (hK _ ?_)
  refine tc tbk 15 (.mk ?_)
  refine ni tbk h0 fun x23 h0 => ?_
  refine tr tbk 2 (.mk ?_)
  refine ni tbk h0 fun x24 h0 => ?_
  refine tr tbk 2 (.mk ?_)
  refine ni tbk h0 fun x25 h0 => ?_
  refine tr tbk 1 (.mk ?_)
  refine sY (yv_to (y := lst 2 GLine.av ([(⟨5, x9.2.a0.Value⟩ : GLine), (⟨7, x9.2.a1.Value⟩ : GLine), (⟨8, x9.2.a2.Value⟩ : GLine), (⟨0, x25⟩ : GLine)] : List GLine)) (yv_buildSlice (ps := [(0, _), (1, _), (2, _), (3, _)]) (rows := [[int 5, int x9.2.a0.Value], [int 7, int x9.2.a1.Value], [int 8, int x9.2.a2.Value], [int 0, int x25]]) rfl Tryz.underlying126 bz125 (.cons rfl (.cons rfl (.cons rfl (.cons rfl .nil)))) (by kernel_rfl) rfl rfl rfl) rfl) ?_
  obtain ⟨x26, e26, h0⟩ := bind_e h0
  refine rse rfl rfl rfl (Yield.frz 5 rfl (Yield.frz 6 rfl (Yield.weak (yv_callP rfl rfl (.cons rfl (.cons rfl (.cons rfl .nil))) cal76 (.cons (CvL.agg (.cons (.refl _) (.cons (.refl _) (.cons (.refl _) (.cons (.refl _) (.cons (.refl _) (.cons (cv_ov rfl rfl rfl rfl rfl (Eq.symm rfl) e13 (cvl_to (.cons (.refl _) (.cons (.refl _) (.cons (cv_lst rfl rfl rfl rfl rfl (Eq.symm lx19)) (.cons (.refl _) (.cons (.refl _) (.cons (.refl _) (.cons (.refl _) (.cons (.refl _) .nil)))))))) (GEnt.av_eq _))) (.cons (.refl _) (.cons (.refl _) (.cons (.refl _) (.cons (.refl _) .nil))))))))))) (.cons (.refl _) (.cons (.refl _) .nil))) (d_stock_Post_c e26)) (fun _ h => h) (fun _ h => h.elim)))) ?_; rintro _ _ ⟨rfl, rfl⟩
  refine tr tbk 3 (.mk ?_)
  refine sS ⟨31, 10, true, true, v6, [(GState.av x26.1)]⟩ sh31 ?_
  refine tr tbk 6 (.mk ?_)
  refine nb tbk h0 fun x27 h0 => ?_
  refine tr tbk 1 (.mk ?_)
  replace h0 := asrt_e h0
  obtain ⟨rfl, h0⟩ := h0
  refine tc tbk 14 (.mk ?_)
  refine sY (yv_build (cs := [int 0, int 0, int 0, int 0, int 0, int x9.2.a0.Value, int 0, int 0, int x9.2.a1.Value, int x9.2.a2.Value, int 0]) (ps := [(5, _), (8, _), (9, _)]) rfl pl55 z55 rfl (.cons rfl (.cons rfl (.cons rfl .nil))) (by kernel_rfl)) ?_
  obtain ⟨x28, e28, h0⟩ := bind_e h0
  refine sC cal78 (d_stock_Turn_c e28) ?_
  refine tr tbk 3 (.mk ?_)
  refine sS ⟨31, 10, true, true, v6, [(GState.av x28.1)]⟩ sh31 ?_
  refine tr tbk 5 (.mk ?_)
  refine nb tbk h0 fun x29 h0 => ?_
  refine tr tbk 1 (.mk ?_)
  replace h0 := asrt_e h0
  obtain ⟨rfl, h0⟩ := h0
  refine tc tbk 9 (.mk ?_)
  obtain ⟨x30, e30, h0⟩ := bind_e h0
  refine sC cal97 (d_close_spread_c e30) ?_
  refine tr tbk 2 (.mk ?_)
  refine sS ⟨31, 10, true, true, v8, [(GState.av x30.1)]⟩ sh31 ?_
  refine tr tbk 2 (.mk ?_)
  obtain rfl := nxt_e h0
  refine wR hret (rC sh31 (rT .nil)) ?_
  exact .refl _
def d_nrv_Mark_L0 (x9 : GEnt) (x13 : Int) : Nat → Int → Option (Unit)
  | 0, _ => none
  | n + 1, y1_1 =>
    bnd (decide (y1_1 < x13)) fun x15 =>
    cond x15 ((ix x9.Prices y1_1).bind fun x16 =>
    bnd (decide (x16 ≥ 0)) fun x17 =>
    asrt (x17 = false) <|
    bnd (w64 (y1_1 + 1)) fun x18 =>
    d_nrv_Mark_L0 x9 x13 n (x18 : Int)) (some ())
def d_nrv_Mark (n : Nat) (a1 : GState) (a2 : Int) : Option (GState × Int) :=
(show Option (Bool) from
bnd (decide (a2 < 0)) fun x7 =>
cond x7 (some (true : Bool)) (bnd (decide (a2 ≥ (a1.Ents.length : Int))) fun x8 =>
some (x8 : Bool))).bind <| fun y0_1 =>
asrt (y0_1 = false) <|
(ix a1.Ents a2).bind fun x9 =>
asrt (x9.Down.length ≤ 68719476736) <|
bnd (if (x9.Prices.length : Int) < (x9.Down.length : Int) then (x9.Prices.length : Int) else (x9.Down.length : Int)) fun x13 =>
(show Option (Unit) from
d_nrv_Mark_L0 x9 x13 n (0 : Int)).bind <| fun _ =>
(d_stock_Post n a1 a2 []).bind fun x19 =>
bnd (decide (x19.2 ≠ 0)) fun x21 =>
asrt (x21 = false) <|
asrt (x19.1.Ents.length ≤ 68719476736) <|
(ix x19.1.Ents a2).bind fun x24 =>
some (((⟨x19.1.Master, (x19.1.Ents.set (Int.toNat a2) (⟨x24.Now, x24.Closed, x24.Pools, x24.Bal, x24.Rolls, x24.Prices, x9.Down, x24.Ahead⟩ : GEnt)), x19.1.Receipts, x19.1.Sales, x19.1.Transits, x19.1.Done⟩ : GState) : GState), (0 : Int))
theorem d_nrv_Mark_c {n : Nat} {a1 : GState} {a2 : Int} {r : GState × Int} (h0 : d_nrv_Mark n a1 a2 = some r) : PP Tryz.prog 51 [.agg (GState.av a1), int a2] (fun y => y = .tup [.agg (GState.av r.1), int r.2]) := by
  unfold d_nrv_Mark at h0
  refine pp_of_pc (R0 := fun y H => Cv (frzH H) y (.tup [.agg (GState.av r.1), int r.2])) ?_ (fun y H hc => ⟨_, rfl, .tup (pvl2 ((fun (a : GState) => PV.agg (GState.pvc a)) (r.1)) (pvI (r.2))), hc⟩)
  refine pcw (c := _) Tryz.func51 rfl rfl ?_; intro Q hret hnorm
  refine tc tbk 2 (.mk ?_)
  refine sB 1 fun v3 => ?_
  refine sB 2 fun v4 => ?_
  refine sA 3 z31 fun v5 => ?_
  refine tr tbk 4 (.mk ?_)
  refine jn h0 [2, 3, 4, 5] [1, 2, 3] (fun (a : Bool) (k : Unit) => [(23, boo a)]) (fun a k => []) ⟨fun j6 h1 => ?_, ?_⟩
  refine tc tbk 2 (.mk ?_)
  refine nb tbk h1 fun x7 h1 => ?_
  refine tr tbk 1 (.mk ?_)
  cases x7
  replace h1 := cf h1
  refine tr tbk 3 (.mk ?_)
  refine sY (yv_len_sl rfl Tryz.underlying26 rfl (lst_len _)) ?_
  refine nb tbk h1 fun x8 h1 => ?_
  refine tr tbk 2 (.mk ?_)
  exact lf h1 () leA
  replace h1 := ct h1
  refine tr tbk 7 (.mk ?_)
  exact lf h1 () leA
  rintro y0_1 _ h0
  replace h0 := asrt_e h0
  obtain ⟨rfl, h0⟩ := h0
  refine tc tbk 7 (.mk ?_)
  obtain ⟨x9, e9, h0⟩ := bind_e h0
  refine sY (yv_to (y := .pp [int x9.Now, boo x9.Closed, lst 4 GPool.av x9.Pools, lst 1 fI x9.Bal, lst 11 GRoll.av x9.Rolls, lst 1 fI x9.Prices, lst 1 fI x9.Down, lst 8 GEnt.av x9.Ahead]) (yv_ixT rfl Tryz.underlying26 sh46 rfl rfl e9) (congrArg AV.pp (GEnt.av_eq x9))) ?_
  refine tr tbk 1 (.mk ?_)
  refine sA 4 z46 fun v10 => ?_
  refine sS ⟨46, 8, true, true, v10, [[int x9.Now, boo x9.Closed, lst 4 GPool.av x9.Pools, lst 1 fI x9.Bal, lst 11 GRoll.av x9.Rolls, lst 1 fI x9.Prices, lst 1 fI x9.Down, lst 8 GEnt.av x9.Ahead]]⟩ sh46 ?_
  refine tr tbk 5 (.mk ?_)
  obtain ⟨p11, h0⟩ := asrt_e h0
  refine rse rfl rfl rfl (yl_call rfl rfl (.cons rfl .nil) cal93 (pc_cv (clone93_c (id := 5) (l := x9.Down) rfl p11) (.cons (.refl _) .nil))) ?_; rintro _ _ ⟨v12, rfl, rfl⟩
  refine tr tbk 15 (.mk ?_)
  refine sY (yv_len_sl rfl Tryz.underlying22 rfl (.sl rfl rfl)) ?_
  refine tr tbk 2 (.mk ?_)
  refine sY (yv_len_sl rfl Tryz.underlying22 rfl (lst_len _)) ?_
  obtain ⟨x13, e13, h0⟩ := bnd_e h0
  refine sY (yv_min rfl rfl rfl e13) ?_
  refine tr tbk 2 (.mk ?_)
  refine jn h0 [2, 3, 4, 5, 7, 8] [1, 2, 3, 5] (fun (a : Unit) (k : Unit) => []) (fun a k => []) ⟨fun j14 h1 => ?_, ?_⟩
  refine tc tbk 1 (.mk ?_)
  refine lp (fun n (a : Int) => d_nrv_Mark_L0 x9 x13 n a) (0 : Int) () h1 [2, 3, 4, 5, 6, 7, 8, 9, 39] [1, 2, 3, 4, 5] (fun (a : Int) (k : Unit) => [(40, int a)]) (fun a k => []) (fun _ => rfl) ⟨leA, ?_⟩
  rintro n y1_1 _ hm h1
  replace h1 : d_nrv_Mark_L0 x9 x13 (n + 1) y1_1 = some _ := h1
  rw [d_nrv_Mark_L0] at h1
  refine tc tbk 2 (.mk ?_)
  refine nb tbk h1 fun x15 h1 => ?_
  refine tr tbk 2 (.mk ?_)
  cases x15
  replace h1 := cf h1
  refine tc tbk 2 (.mk ?_)
  exact lf h1 () leA
  replace h1 := ct h1
  refine tc tbk 14 (.mk ?_)
  obtain ⟨x16, e16, h1⟩ := bind_e h1
  refine sY (yv_ixT rfl Tryz.underlying22 sh3 rfl rfl e16) ?_
  refine tr tbk 1 (.mk ?_)
  refine nb tbk h1 fun x17 h1 => ?_
  refine tr tbk 1 (.mk ?_)
  replace h1 := asrt_e h1
  obtain ⟨rfl, h1⟩ := h1
  refine tc tbk 4 (.mk ?_)
  refine ni tbk h1 fun x18 h1 => ?_
  refine tr tbk 2 (.mk ?_)
  exact bk x18 () h1 leA
  rintro _ _ h0
  refine tc tbk 5 (.mk ?_)
  obtain ⟨x19, e19, h0⟩ := bind_e h0
  refine sY (yv_callP rfl rfl (.cons rfl (.cons rfl (.cons rfl .nil))) cal76 (.cons (.refl _) (.cons (.refl _) (.cons (.nil _) .nil))) (d_stock_Post_c e19)) ?_
  refine tr tbk 3 (.mk ?_)
  refine sA 6 z31 fun v20 => ?_
  refine sS ⟨31, 10, true, true, v20, [(GState.av x19.1)]⟩ sh31 ?_
  refine tr tbk 6 (.mk ?_)
  refine nb tbk h0 fun x21 h0 => ?_
  refine tr tbk 1 (.mk ?_)
  replace h0 := asrt_e h0
  obtain ⟨rfl, h0⟩ := h0
  refine tc tbk 6 (.mk ?_)
  obtain ⟨p22, h0⟩ := asrt_e h0
  refine rse rfl rfl rfl (yl_call rfl rfl (.cons rfl .nil) cal52 (pc_cv (clone52_c (id := 7) (l := x19.1.Ents) rfl p22) (.cons (.refl _) .nil))) ?_; rintro _ _ ⟨v23, rfl, rfl⟩
  refine tr tbk 1 (.mk ?_)
  refine sS ⟨31, 10, true, true, v20, [[int x19.1.Master.Entities, int x19.1.Master.Periods, lst 1 fI x19.1.Master.Weights, lst 1 (fL 1 fI) x19.1.Master.Methods, lst 1 (fL 1 fI) x19.1.Master.Costs, .sl 7 v23 0 x19.1.Ents.length, lst 8 GReceipt.av x19.1.Receipts, lst 9 GSale.av x19.1.Sales, lst 6 GTransit.av x19.1.Transits, int x19.1.Done]]⟩ sh26 ?_
  refine tr tbk 7 (.mk ?_)
  obtain ⟨x24, e24, h0⟩ := bind_e h0
  refine sY (yv_ixO rfl Tryz.underlying26 sh46 rfl rfl rfl rfl rfl (Eq.symm rfl) (List.length_map _) e24) ?_
  refine sY (yv_fieldAddr rfl fo46_6 rfl (.pt rfl rfl (ix_get' e24 (GEnt.av_eq _))) (.pt _ _ _ _ _)) ?_
  refine rsstore rfl rfl (yl_ob (ob' := (⟨46, 8, true, true, v23, (x19.1.Ents.map GEnt.av).set (Int.toNat a2) [int x24.Now, boo x24.Closed, lst 4 GPool.av x24.Pools, lst 1 fI x24.Bal, lst 11 GRoll.av x24.Rolls, lst 1 fI x24.Prices, .sl 5 v12 0 x9.Down.length, lst 8 GEnt.av x24.Ahead]⟩ : AObj)) (yl_store rfl sh22 rfl rfl rfl rfl rfl (ix_get' e24 (GEnt.av_eq _)) rfl rfl rfl) (ob_eq rfl)) ?_
  refine tr tbk 4 (.mk ?_)
  refine sS ⟨31, 10, true, true, v5, [[int x19.1.Master.Entities, int x19.1.Master.Periods, lst 1 fI x19.1.Master.Weights, lst 1 (fL 1 fI) x19.1.Master.Methods, lst 1 (fL 1 fI) x19.1.Master.Costs, .sl 7 v23 0 x19.1.Ents.length, lst 8 GReceipt.av x19.1.Receipts, lst 9 GSale.av x19.1.Sales, lst 6 GTransit.av x19.1.Transits, int x19.1.Done]]⟩ sh31 ?_
  refine tr tbk 2 (.mk ?_)
  obtain rfl := nxt_e h0
  refine wR hret (rC sh31 (rT .nil)) ?_
  exact CvL.tup (.cons (CvL.agg (.cons (.refl _) (.cons (.refl _) (.cons (.refl _) (.cons (.refl _) (.cons (.refl _) (.cons (cv_ov rfl rfl rfl rfl rfl (Eq.symm rfl) e24 (cvl_to (.cons (.refl _) (.cons (.refl _) (.cons (.refl _) (.cons (.refl _) (.cons (.refl _) (.cons (.refl _) (.cons (cv_lst rfl rfl rfl rfl rfl (Eq.symm rfl)) (.cons (.refl _) .nil)))))))) (GEnt.av_eq _))) (.cons (.refl _) (.cons (.refl _) (.cons (.refl _) (.cons (.refl _) .nil))))))))))) (.cons (.refl _) .nil))
def d_close_Close_L1 (a2 : Int) (y0_1 : Int) (x28 : List GPool) : Nat → Int → GState → Option (GState)
  | 0, _, _ => none
  | n + 1, y2_1, y2_2 =>
    bnd (decide (y2_1 < (x28.length : Int))) fun x30 =>
    cond x30 ((show Option (GState) from
    (ix x28 y2_1).bind fun x32 =>
    bnd (decide ((x32.Pend : A3_Int) = ((⟨0, 0, 0⟩ : A3_Int) : A3_Int))) fun x34 =>
    cond x34 (some (y2_2 : GState)) ((d_close_settle n y2_2 a2 y0_1 y2_1 x32).bind fun x35 =>
    bnd (decide (x35.2 ≠ 0)) fun x36 =>
    asrt (x36 = false) <|
    some (x35.1 : GState))).bind <| fun y3_1 =>
    bnd (w64 (y2_1 + 1)) fun x37 =>
    d_close_Close_L1 a2 y0_1 x28 n (x37 : Int) (y3_1 : GState)) (some (y2_2 : GState))
def d_close_Close_L0 (a1 : GState) (a2 : Int) (x10 : List Int) : Nat → Int → GState → Option (GState)
  | 0, _, _ => none
  | n + 1, y0_1, y0_2 =>
    bnd (decide (y0_1 < (x10.length : Int))) fun x12 =>
    cond x12 ((show Option (GState) from
    (ix x10 y0_1).bind fun x14 =>
    (show Option (Bool) from
    bnd (decide (x14 ≠ 3)) fun x16 =>
    cond x16 (some (true : Bool)) (bnd (w64 (y0_1 + 1)) fun x17 =>
    bnd (w64 (x17 * 2)) fun x18 =>
    (ix a1.Ents a2).bind fun x19 =>
    bnd (decide (x18 > (x19.Pools.length : Int))) fun x20 =>
    some (x20 : Bool))).bind <| fun y1_1 =>
    cond y1_1 (some (y0_2 : GState)) ((ix a1.Ents a2).bind fun x21 =>
    bnd (w64 (y0_1 * 2)) fun x22 =>
    bnd (w64 (y0_1 + 1)) fun x23 =>
    bnd (w64 (x23 * 2)) fun x24 =>
    bnd (w64 (y0_1 + 1)) fun x25 =>
    bnd (w64 (x25 * 2)) fun x26 =>
    asrt ((0 : Int) ≤ x22 ∧ x22 ≤ x24 ∧ x24 ≤ (x21.Pools.length : Int) ∧ x26 = x24) <|
    bnd ((x21.Pools.take x24.toNat).drop x22.toNat) fun x28 =>
    (show Option (GState) from
    d_close_Close_L1 a2 y0_1 x28 n (0 : Int) (y0_2 : GState)).bind <| fun y4_1 =>
    some (y4_1 : GState))).bind <| fun y5_1 =>
    bnd (w64 (y0_1 + 1)) fun x38 =>
    d_close_Close_L0 a1 a2 x10 n (x38 : Int) (y5_1 : GState)) (some (y0_2 : GState))
def d_close_Close (n : Nat) (a1 : GState) (a2 : Int) : Option (GState × Int) :=
(d_close_is a1 a2).bind fun x5 =>
bnd (!x5) fun x6 =>
asrt (x6 = false) <|
(ix a1.Ents a2).bind fun x7 =>
bnd x7.Closed fun x8 =>
cond x8 (some ((a1 : GState), (7 : Int))) ((ix a1.Master.Methods a2).bind fun x10 =>
(show Option (GState) from
d_close_Close_L0 a1 a2 x10 n (0 : Int) (a1 : GState)).bind <| fun y6_1 =>
(d_nrv_Mark n y6_1 a2).bind fun x39 =>
bnd (decide (x39.2 ≠ 0)) fun x40 =>
asrt (x40 = false) <|
asrt (x39.1.Ents.length ≤ 68719476736) <|
(ix a1.Ents a2).bind fun x43 =>
(ix x39.1.Ents a2).bind fun x44 =>
bnd (x39.1.Ents.set (Int.toNat a2) ((⟨x44.Now, x44.Closed, x44.Pools, x44.Bal, x44.Rolls, x44.Prices, x44.Down, ([x43] : List GEnt)⟩ : GEnt) : GEnt)) fun x45 =>
bnd (x45.set (Int.toNat a2) ((⟨x44.Now, true, x44.Pools, x44.Bal, x44.Rolls, x44.Prices, x44.Down, ([x43] : List GEnt)⟩ : GEnt) : GEnt)) fun x46 =>
some (((⟨x39.1.Master, x46, x39.1.Receipts, x39.1.Sales, x39.1.Transits, x39.1.Done⟩ : GState) : GState), (0 : Int)))
theorem d_close_Close_c {n : Nat} {a1 : GState} {a2 : Int} {r : GState × Int} (h0 : d_close_Close n a1 a2 = some r) : PP Tryz.prog 23 [.agg (GState.av a1), int a2] (fun y => y = .tup [.agg (GState.av r.1), int r.2]) := by
  unfold d_close_Close at h0
  refine pp_of_pc (R0 := fun y H => Cv (frzH H) y (.tup [.agg (GState.av r.1), int r.2])) ?_ (fun y H hc => ⟨_, rfl, .tup (pvl2 ((fun (a : GState) => PV.agg (GState.pvc a)) (r.1)) (pvI (r.2))), hc⟩)
  refine pcw (c := _) Tryz.func23 rfl rfl ?_; intro Q hret hnorm
  refine tc tbk 2 (.mk ?_)
  refine sB 1 fun v3 => ?_
  refine sA 2 z31 fun v4 => ?_
  refine tr tbk 8 (.mk ?_)
  obtain ⟨x5, e5, h0⟩ := bind_e h0
  refine sC cal49 (d_close_is_c e5) ?_
  refine nb tbk h0 fun x6 h0 => ?_
  refine tr tbk 2 (.mk ?_)
  replace h0 := asrt_e h0
  obtain ⟨rfl, h0⟩ := h0
  refine tc tbk 6 (.mk ?_)
  obtain ⟨x7, e7, h0⟩ := bind_e h0
  refine sY (yv_to (y := .pp [int x7.Now, boo x7.Closed, lst 4 GPool.av x7.Pools, lst 1 fI x7.Bal, lst 11 GRoll.av x7.Rolls, lst 1 fI x7.Prices, lst 1 fI x7.Down, lst 8 GEnt.av x7.Ahead]) (yv_ixT rfl Tryz.underlying26 sh46 rfl rfl e7) (congrArg AV.pp (GEnt.av_eq x7))) ?_
  refine tr tbk 4 (.mk ?_)
  obtain ⟨x8, e8, h0⟩ := bnd_e h0
  refine c_as (t := 20) (boo x8) rfl (congrArg boo e8) ?_
  refine c_as (t := 26) (boo x8) rfl (congrArg boo e8) ?_
  cases x8
  replace h0 := cf h0
  refine tc tbk 6 (.mk ?_)
  refine sA 3 z31 fun v9 => ?_
  refine sS ⟨31, 10, true, true, v9, [(GState.av a1)]⟩ sh31 ?_
  refine tr tbk 8 (.mk ?_)
  obtain ⟨x10, e10, h0⟩ := bind_e h0
  refine sY (yv_ixT rfl Tryz.underlying23 sh22 rfl rfl e10) ?_
  refine tr tbk 1 (.mk ?_)
  refine sY (yv_len_sl rfl Tryz.underlying22 rfl (lst_len _)) ?_
  refine tr tbk 2 (.mk ?_)
  refine jn h0 [1, 2, 4, 5, 6] [1, 2] (fun (a : GState) (k : Unit) => []) (fun a k => [(3, ⟨31, 10, true, true, v9, [(GState.av a)]⟩)]) ⟨fun j11 h1 => ?_, ?_⟩
  refine tc tbk 1 (.mk ?_)
  refine lp (fun n (a : Int × GState) => d_close_Close_L0 a1 a2 x10 n a.1 a.2) ((0 : Int), (a1 : GState)) () h1 [1, 2, 4, 5, 6, 34, 35] [1, 2] (fun (a : Int × GState) (k : Unit) => [(36, int a.1)]) (fun a k => [(3, ⟨31, 10, true, true, v9, [(GState.av a.2)]⟩)]) (fun _ => rfl) ⟨leA, ?_⟩
  rintro n ⟨y0_1, y0_2⟩ _ hm h1
  replace h1 : d_close_Close_L0 a1 a2 x10 (n + 1) y0_1 y0_2 = some _ := h1
  rw [d_close_Close_L0] at h1
  refine tc tbk 2 (.mk ?_)
  refine nb tbk h1 fun x12 h1 => ?_
  refine tr tbk 2 (.mk ?_)
  cases x12
  replace h1 := cf h1
  refine tc tbk 2 (.mk ?_)
  exact lf h1 () leA
  replace h1 := ct h1
  refine tc tbk 3 (.mk ?_)
  refine jn h1 [1, 2, 4, 5, 6, 34, 35, 36] [1, 2] (fun (a : GState) (k : Unit) => []) (fun a k => [(3, ⟨31, 10, true, true, v9, [(GState.av a)]⟩)]) ⟨fun j13 h2 => ?_, ?_⟩
  refine tc tbk 4 (.mk ?_)
  obtain ⟨x14, e14, h2⟩ := bind_e h2
  refine sY (yv_ixT rfl Tryz.underlying22 sh3 rfl rfl e14) ?_
  refine tr tbk 6 (.mk ?_)
  refine jn h2 [1, 2, 4, 5, 6, 7, 34, 35, 36] [1, 2, 3] (fun (a : Bool) (k : Unit) => [(55, boo a)]) (fun a k => []) ⟨fun j15 h3 => ?_, ?_⟩
  refine tc tbk 2 (.mk ?_)
  refine nb tbk h3 fun x16 h3 => ?_
  refine tr tbk 1 (.mk ?_)
  cases x16
  replace h3 := cf h3
  refine tr tbk 1 (.mk ?_)
  refine ni tbk h3 fun x17 h3 => ?_
  refine ni tbk h3 fun x18 h3 => ?_
  refine tr tbk 3 (.mk ?_)
  obtain ⟨x19, e19, h3⟩ := bind_e h3
  refine sY (yv_to (y := .pp [int x19.Now, boo x19.Closed, lst 4 GPool.av x19.Pools, lst 1 fI x19.Bal, lst 11 GRoll.av x19.Rolls, lst 1 fI x19.Prices, lst 1 fI x19.Down, lst 8 GEnt.av x19.Ahead]) (yv_ixT rfl Tryz.underlying26 sh46 rfl rfl e19) (congrArg AV.pp (GEnt.av_eq x19))) ?_
  refine tr tbk 2 (.mk ?_)
  refine sY (yv_len_sl rfl Tryz.underlying43 rfl (lst_len _)) ?_
  refine nb tbk h3 fun x20 h3 => ?_
  refine tr tbk 2 (.mk ?_)
  exact lf h3 () leA
  replace h3 := ct h3
  refine tr tbk 13 (.mk ?_)
  exact lf h3 () leA
  rintro y1_1 _ h2
  cases y1_1
  replace h2 := cf h2
  refine tc tbk 7 (.mk ?_)
  obtain ⟨x21, e21, h2⟩ := bind_e h2
  refine sY (yv_to (y := .pp [int x21.Now, boo x21.Closed, lst 4 GPool.av x21.Pools, lst 1 fI x21.Bal, lst 11 GRoll.av x21.Rolls, lst 1 fI x21.Prices, lst 1 fI x21.Down, lst 8 GEnt.av x21.Ahead]) (yv_ixT rfl Tryz.underlying26 sh46 rfl rfl e21) (congrArg AV.pp (GEnt.av_eq x21))) ?_
  refine tr tbk 3 (.mk ?_)
  refine ni tbk h2 fun x22 h2 => ?_
  refine tr tbk 1 (.mk ?_)
  refine ni tbk h2 fun x23 h2 => ?_
  refine ni tbk h2 fun x24 h2 => ?_
  refine tr tbk 1 (.mk ?_)
  refine ni tbk h2 fun x25 h2 => ?_
  refine ni tbk h2 fun x26 h2 => ?_
  obtain ⟨p27, h2⟩ := asrt_e h2
  obtain ⟨x28, e28, h2⟩ := bnd_e h2
  refine sY (yv_slT3 (i := x22.toNat) (j := x24.toNat) rfl Tryz.underlying43 sh98 rfl (.yes rfl (by omega)) (.yes rfl (by omega)) (.yes rfl (by omega)) (by omega) (by omega) e28) ?_
  refine tr tbk 5 (.mk ?_)
  refine sY (yv_len_sl rfl Tryz.underlying43 rfl (lst_len _)) ?_
  refine tr tbk 2 (.mk ?_)
  refine jn h2 [1, 2, 4, 5, 6, 34, 35, 36] [1, 2] (fun (a : GState) (k : Unit) => []) (fun a k => [(3, ⟨31, 10, true, true, v9, [(GState.av a)]⟩)]) ⟨fun j29 h3 => ?_, ?_⟩
  refine tc tbk 1 (.mk ?_)
  refine lp (fun n (a : Int × GState) => d_close_Close_L1 a2 y0_1 x28 n a.1 a.2) ((0 : Int), (y0_2 : GState)) () h3 [1, 2, 4, 5, 6, 7, 34, 35, 36, 71, 72] [1, 2] (fun (a : Int × GState) (k : Unit) => [(73, int a.1)]) (fun a k => [(3, ⟨31, 10, true, true, v9, [(GState.av a.2)]⟩)]) (fun _ => rfl) ⟨leA, ?_⟩
  rintro n ⟨y2_1, y2_2⟩ _ hm h3
  replace h3 : d_close_Close_L1 a2 y0_1 x28 (n + 1) y2_1 y2_2 = some _ := h3
  rw [d_close_Close_L1] at h3
  refine tc tbk 2 (.mk ?_)
  refine nb tbk h3 fun x30 h3 => ?_
  refine tr tbk 2 (.mk ?_)
  cases x30
  replace h3 := cf h3
  refine tc tbk 2 (.mk ?_)
  exact lf h3 () leA
  replace h3 := ct h3
  refine tc tbk 3 (.mk ?_)
  refine jn h3 [1, 2, 4, 5, 6, 7, 34, 35, 36, 71, 72, 73] [1, 2] (fun (a : GState) (k : Unit) => []) (fun a k => [(3, ⟨31, 10, true, true, v9, [(GState.av a)]⟩)]) ⟨fun j31 h4 => ?_, ?_⟩
  refine tc tbk 4 (.mk ?_)
  obtain ⟨x32, e32, h4⟩ := bind_e h4
  refine sY (yv_ixT rfl Tryz.underlying43 sh98 rfl rfl e32) ?_
  refine tr tbk 1 (.mk ?_)
  refine sA 4 z98 fun v33 => ?_
  refine tr tbk 1 (.mk ?_)
  refine sS ⟨98, 4, true, true, v33, [[lst 3 GLayer.av x32.Layers, int x32.Pend.a0, int x32.Pend.a1, int x32.Pend.a2]]⟩ sh98 ?_
  refine tr tbk 6 (.mk ?_)
  refine sY (yv_buildA (cs := [int 0, int 0, int 0]) (ps := []) rfl Tryz.underlying96 sh3 z96 rfl .nil (by kernel_rfl)) ?_
  obtain ⟨x34, e34, h4⟩ := bnd_e h4
  refine sY (yv_areql (r' := x34) rfl Tryz.underlying96 sz3 c3 (by decide) rfl rfl (.cons (.int Tryz.underlying3) sh3 (.cons (.int Tryz.underlying3) sh3 (.cons (.int Tryz.underlying3) sh3 (.nil _)))) ((A3_Int.eqv (x32.Pend : A3_Int) ((⟨0, 0, 0⟩ : A3_Int) : A3_Int)).trans e34)) ?_
  refine tr tbk 1 (.mk ?_)
  cases x34
  replace h4 := cf h4
  refine tc tbk 13 (.mk ?_)
  obtain ⟨x35, e35, h4⟩ := bind_e h4
  refine sC cal50 (d_close_settle_c e35) ?_
  refine tr tbk 3 (.mk ?_)
  refine sS ⟨31, 10, true, true, v9, [(GState.av x35.1)]⟩ sh31 ?_
  refine tr tbk 5 (.mk ?_)
  refine nb tbk h4 fun x36 h4 => ?_
  refine tr tbk 1 (.mk ?_)
  replace h4 := asrt_e h4
  obtain ⟨rfl, h4⟩ := h4
  refine tc tbk 3 (.mk ?_)
  exact lf h4 () leA
  replace h4 := ct h4
  refine tc tbk 2 (.mk ?_)
  exact lf h4 () leA
  rintro y3_1 _ h3
  refine tc tbk 1 (.mk ?_)
  refine ni tbk h3 fun x37 h3 => ?_
  refine tr tbk 2 (.mk ?_)
  exact bk (x37, y3_1) () h3 leA
  rintro y4_1 _ h2
  refine tc tbk 1 (.mk ?_)
  exact lf h2 () leA
  replace h2 := ct h2
  refine tc tbk 2 (.mk ?_)
  exact lf h2 () leA
  rintro y5_1 _ h1
  refine tc tbk 1 (.mk ?_)
  refine ni tbk h1 fun x38 h1 => ?_
  refine tr tbk 2 (.mk ?_)
  exact bk (x38, y5_1) () h1 leA
  rintro y6_1 _ h0
  refine tc tbk 4 (.mk ?_)
  obtain ⟨x39, e39, h0⟩ := bind_e h0
  refine sC cal51 (d_nrv_Mark_c e39) ?_
  refine tr tbk 3 (.mk ?_)
  refine sS ⟨31, 10, true, true, v9, [(GState.av x39.1)]⟩ sh31 ?_
  refine tr tbk 6 (.mk ?_)
  refine nb tbk h0 fun x40 h0 => ?_
  refine tr tbk 1 (.mk ?_)
  replace h0 := asrt_e h0
  obtain ⟨rfl, h0⟩ := h0
  refine tc tbk 6 (.mk ?_)
  obtain ⟨p41, h0⟩ := asrt_e h0
  refine rse rfl rfl rfl (yl_call rfl rfl (.cons rfl .nil) cal52 (pc_cv (clone52_c (id := 5) (l := x39.1.Ents) rfl p41) (.cons (.refl _) .nil))) ?_; rintro _ _ ⟨v42, rfl, rfl⟩
  refine tr tbk 1 (.mk ?_)
  refine sS ⟨31, 10, true, true, v9, [[int x39.1.Master.Entities, int x39.1.Master.Periods, lst 1 fI x39.1.Master.Weights, lst 1 (fL 1 fI) x39.1.Master.Methods, lst 1 (fL 1 fI) x39.1.Master.Costs, .sl 5 v42 0 x39.1.Ents.length, lst 8 GReceipt.av x39.1.Receipts, lst 9 GSale.av x39.1.Sales, lst 6 GTransit.av x39.1.Transits, int x39.1.Done]]⟩ sh26 ?_
  refine tr tbk 2 (.mk ?_)
  refine c_drawE [0, 1, 0, 0, 8, 0, 0, 64, 0, 448, 960, 1984, 4039, 8135, 16327, 32767, 65535, 131071] (rl [(0, [3]), (1, [3]), (3, [3]), (4, [3]), (6, [1]), (7, [1]), (12, [5]), (13, [5]), (15, [5]), (16, [5])] []) (rl [(14, [3]), (17, [])] [1, 3, 5]) (rl [(14, false), (17, false)] true) [0, 1, 2, 3, 4, 5, 6, 7, 8, 9, 10, 11, 12, 13, 14, 15, 16, 17] mixed (by kernel_rfl) ?_; intro K hK
  refine eF fo31_1 ?_
  refine eL sh26 ?_
  refine eM ?_
  refine eF fo31_1 ?_
  refine eL sh26 ?_
  refine eM ?_
  refine eF fo31_1 ?_
  refine eL sh26 ?_
  refine eM ?_
  obtain ⟨x43, e43, h0⟩ := bind_e h0
  refine eP (fun H hH => yv_to (y := .pp [int x43.Now, boo x43.Closed, lst 4 GPool.av x43.Pools, lst 1 fI x43.Bal, lst 11 GRoll.av x43.Rolls, lst 1 fI x43.Prices, lst 1 fI x43.Down, lst 8 GEnt.av x43.Ahead]) (yv_ixT rfl Tryz.underlying26 sh46 rfl rfl e43) (congrArg AV.pp (GEnt.av_eq x43))) ?_
  refine eP (fun H hH => yv_load rfl sh46 rfl (.pp _) rfl) ?_
  refine eP (fun H hH => yv_to (y := lst 8 GEnt.av ([x43] : List GEnt)) (yv_buildSlice (ps := [(0, _)]) (rows := [[int x43.Now, boo x43.Closed, lst 4 GPool.av x43.Pools, lst 1 fI x43.Bal, lst 11 GRoll.av x43.Rolls, lst 1 fI x43.Prices, lst 1 fI x43.Down, lst 8 GEnt.av x43.Ahead]]) rfl Tryz.underlying26 bz46 (.cons rfl .nil) (by kernel_rfl) rfl rfl rfl) (congrArg (AV.list 8) (by simp only [List.map_cons, List.map_nil, GEnt.av_eq]))) ?_
  obtain ⟨x44, e44, h0⟩ := bind_e h0
  refine de_pure rfl rfl rfl rfl (fun H hH => yv_ixO rfl Tryz.underlying26 sh46 rfl rfl ((hH _ (by decide)).trans rfl) rfl rfl (Eq.symm rfl) (List.length_map _) e44) ?_
  refine eF fo46_7 (hr := ix_get' e44 (GEnt.av_eq _)) ?_
  obtain ⟨x45, e45, h0⟩ := bnd_e h0
  have fx45 := ix_set e44 e45; have lx45 := len_setV e45 (rfl : x39.1.Ents.length = x39.1.Ents.length)
  refine de_eff0 rfl rfl rfl rfl (Yield.weak (yl_ob (ob' := (⟨46, 8, true, true, v42, x45.map GEnt.av⟩ : AObj)) (yl_store rfl sh26 rfl rfl rfl rfl rfl (ix_get' e44 (GEnt.av_eq _)) rfl rfl rfl) (ob_eq (map_setR e45 (GEnt.av_eq _)))) (fun _ h => h) (fun _ _ => trivial)) (by rintro _ _ ⟨rfl, rfl⟩; exact ⟨rfl, trivial⟩) ?_; rintro _ _ ⟨rfl, rfl⟩
  refine de_pure rfl rfl rfl rfl (fun H hH => yv_ixO rfl Tryz.underlying26 sh46 rfl rfl ((hH _ (by decide)).trans rfl) rfl rfl (Eq.symm lx45) (List.length_map _) fx45) ?_
  refine eF fo46_1 (hr := ix_get' fx45 (GEnt.av_eq _)) ?_
  obtain ⟨x46, e46, h0⟩ := bnd_e h0
  have fx46 := ix_set fx45 e46; have lx46 := len_setV e46 lx45
  refine de_eff0 rfl rfl rfl rfl (Yield.weak (yl_ob (ob' := (⟨46, 8, true, true, v42, x46.map GEnt.av⟩ : AObj)) (yl_store rfl sh4 rfl rfl rfl rfl rfl (ix_get' fx45 (GEnt.av_eq _)) rfl rfl rfl) (ob_eq (map_setR e46 (GEnt.av_eq _)))) (fun _ h => h) (fun _ _ => trivial)) (by rintro _ _ ⟨rfl, rfl⟩; exact trivial) ?_; rintro _ _ ⟨rfl, rfl⟩
  refine de_nil (hK _ ?_)
  refine tc tbk 3 (.mk ?_)
  refine sS ⟨31, 10, true, true, v4, [[int x39.1.Master.Entities, int x39.1.Master.Periods, lst 1 fI x39.1.Master.Weights, lst 1 (fL 1 fI) x39.1.Master.Methods, lst 1 (fL 1 fI) x39.1.Master.Costs, .sl 5 v42 0 x39.1.Ents.length, lst 8 GReceipt.av x39.1.Receipts, lst 9 GSale.av x39.1.Sales, lst 6 GTransit.av x39.1.Transits, int x39.1.Done]]⟩ sh31 ?_
  refine tr tbk 2 (.mk ?_)
  obtain rfl := nxt_e h0
  refine wR hret (rC sh31 (rT .nil)) ?_
  exact CvL.tup (.cons (CvL.agg (.cons (.refl _) (.cons (.refl _) (.cons (.refl _) (.cons (.refl _) (.cons (.refl _) (.cons (cv_lst rfl rfl rfl rfl rfl (Eq.symm lx46)) (.cons (.refl _) (.cons (.refl _) (.cons (.refl _) (.cons (.refl _) .nil))))))))))) (.cons (.refl _) .nil))
  replace h0 := ct h0
  refine tc tbk 4 (.mk ?_)
  refine sS ⟨31, 10, true, true, v4, [(GState.av a1)]⟩ sh31 ?_
  refine tr tbk 2 (.mk ?_)
  obtain rfl := nxt_e h0
  refine wR hret (rC sh31 (rT .nil)) ?_
  exact .refl _
def d_close_Step (n : Nat) (a1 : GState) (a2 : GOp) : Option (GState × Int) :=
(d_ops_Check a2).bind fun x6 =>
bnd (!x6) fun x7 =>
asrt (x7 = false) <|
(show Option ((Int × GState) ⊕ (GState × Int)) from
bnd (decide (a2.Kind = 14)) fun x10 =>
cond x10 ((d_close_Close n a1 a2.E).bind fun x16 =>
brk ((x16.2 : Int), (x16.1 : GState))) (bnd (decide (a2.Kind = 15)) fun x11 =>
asrt (x11 = false) <|
bnd (decide (a2.Kind = 16)) fun x12 =>
cond x12 ((d_close_Next n a1 a2.E).bind fun x15 =>
brk ((x15.2 : Int), (x15.1 : GState))) ((d_apply_Do n a1 a2).bind fun x13 =>
esc (some ((x13.1 : GState), (x13.2 : Int)))))).bind <| sel <| p2 fun (y0_1 : Int) (y0_2 : GState) =>
bnd (decide (y0_1 ≠ 0)) fun x17 =>
asrt (x17 = false) <|
bnd (w64 (y0_2.Done + 1)) fun x18 =>
some (((⟨y0_2.Master, y0_2.Ents, y0_2.Receipts, y0_2.Sales, y0_2.Transits, x18⟩ : GState) : GState), (0 : Int))
theorem d_close_Step_c {n : Nat} {a1 : GState} {a2 : GOp} {r : GState × Int} (h0 : d_close_Step n a1 a2 = some r) : PP Tryz.prog 12 [.agg (GState.av a1), .agg (GOp.av a2)] (fun y => y = .tup [.agg (GState.av r.1), int r.2]) := by
  unfold d_close_Step at h0
  refine pp_of_pc (R0 := fun y H => Cv (frzH H) y (.tup [.agg (GState.av r.1), int r.2])) ?_ (fun y H hc => ⟨_, rfl, .tup (pvl2 ((fun (a : GState) => PV.agg (GState.pvc a)) (r.1)) (pvI (r.2))), hc⟩)
  refine pcw (c := _) Tryz.func12 rfl rfl ?_; intro Q hret hnorm
  refine tc tbk 2 (.mk ?_)
  refine sB 1 fun v3 => ?_
  refine sB 2 fun v4 => ?_
  refine sA 3 z31 fun v5 => ?_
  refine tr tbk 6 (.mk ?_)
  obtain ⟨x6, e6, h0⟩ := bind_e h0
  refine sC cal19 (d_ops_Check_c e6) ?_
  refine nb tbk h0 fun x7 h0 => ?_
  refine tr tbk 1 (.mk ?_)
  replace h0 := asrt_e h0
  obtain ⟨rfl, h0⟩ := h0
  refine tc tbk 5 (.mk ?_)
  refine sA 4 z31 fun v8 => ?_
  refine sS ⟨31, 10, true, true, v8, [(GState.av a1)]⟩ sh31 ?_
  refine tr tbk 8 (.mk ?_)
  refine jnE h0 [2, 4, 5, 6] [1, 3] (fun (a : Int × GState) (k : Unit) => [(7, int a.1)]) (fun a k => [(4, ⟨31, 10, true, true, v8, [(GState.av a.2)]⟩)]) ⟨fun j9 h1 h0 => ?_, ?_⟩
  refine tc tbk 3 (.mk ?_)
  refine nb tbk h1 fun x10 h1 => ?_
  refine tr tbk 2 (.mk ?_)
  cases x10
  replace h1 := cf h1
  refine tc tbk 3 (.mk ?_)
  refine nb tbk h1 fun x11 h1 => ?_
  refine tr tbk 2 (.mk ?_)
  replace h1 := asrt_e h1
  obtain ⟨rfl, h1⟩ := h1
  refine tc tbk 3 (.mk ?_)
  refine nb tbk h1 fun x12 h1 => ?_
  refine tr tbk 2 (.mk ?_)
  cases x12
  replace h1 := cf h1
  refine tc tbk 5 (.mk ?_)
  obtain ⟨x13, e13, h1⟩ := bind_e h1
  refine sC cal8 (d_apply_Do_c e13) ?_
  refine tr tbk 2 (.mk ?_)
  refine sS ⟨31, 10, true, true, v5, [(GState.av x13.1)]⟩ sh31 ?_
  refine tr tbk 2 (.mk ?_)
  obtain ⟨c14, hX, hj⟩ := esc_e h1; subst hj; replace h0 := hX.trans (sel_r h0)
  obtain rfl := nxt_e h0
  refine wR hret (rC sh31 (rT .nil)) ?_
  exact .refl _
  replace h1 := ct h1
  refine tc tbk 5 (.mk ?_)
  obtain ⟨x15, e15, h1⟩ := bind_e h1
  refine sC cal25 (d_close_Next_c e15) ?_
  refine tr tbk 3 (.mk ?_)
  refine sS ⟨31, 10, true, true, v8, [(GState.av x15.1)]⟩ sh31 ?_
  refine tr tbk 3 (.mk ?_)
  exact lfE h1 () leA
  replace h1 := ct h1
  refine tc tbk 5 (.mk ?_)
  obtain ⟨x16, e16, h1⟩ := bind_e h1
  refine sC cal23 (d_close_Close_c e16) ?_
  refine tr tbk 3 (.mk ?_)
  refine sS ⟨31, 10, true, true, v8, [(GState.av x16.1)]⟩ sh31 ?_
  refine tr tbk 3 (.mk ?_)
  exact lfE h1 () leA
  rintro ⟨y0_1, y0_2⟩ _ h0
  replace h0 := p2_e h0
  refine tc tbk 4 (.mk ?_)
  refine nb tbk h0 fun x17 h0 => ?_
  refine tr tbk 1 (.mk ?_)
  replace h0 := asrt_e h0
  obtain ⟨rfl, h0⟩ := h0
  refine tc tbk 6 (.mk ?_)
  refine ni tbk h0 fun x18 h0 => ?_
  refine tr tbk 1 (.mk ?_)
  refine sS ⟨31, 10, true, true, v8, [[int y0_2.Master.Entities, int y0_2.Master.Periods, lst 1 fI y0_2.Master.Weights, lst 1 (fL 1 fI) y0_2.Master.Methods, lst 1 (fL 1 fI) y0_2.Master.Costs, lst 8 GEnt.av y0_2.Ents, lst 8 GReceipt.av y0_2.Receipts, lst 9 GSale.av y0_2.Sales, lst 6 GTransit.av y0_2.Transits, int x18]]⟩ sh3 ?_
  refine tr tbk 4 (.mk ?_)
  refine sS ⟨31, 10, true, true, v5, [[int y0_2.Master.Entities, int y0_2.Master.Periods, lst 1 fI y0_2.Master.Weights, lst 1 (fL 1 fI) y0_2.Master.Methods, lst 1 (fL 1 fI) y0_2.Master.Costs, lst 8 GEnt.av y0_2.Ents, lst 8 GReceipt.av y0_2.Receipts, lst 9 GSale.av y0_2.Sales, lst 6 GTransit.av y0_2.Transits, int x18]]⟩ sh31 ?_
  refine tr tbk 2 (.mk ?_)
  obtain rfl := nxt_e h0
  refine wR hret (rC sh31 (rT .nil)) ?_
  exact .refl _
def d_ref14_to (a1 : Int) (a2 : Int) : Option (Bool) :=
(show Option (Bool) from
bnd (decide (a1 ≥ 0)) fun x4 =>
cond x4 (bnd (decide (a1 ≤ a2)) fun x5 =>
some (x5 : Bool)) (some (false : Bool))).bind <| fun y0_1 =>
some ((y0_1 : Bool))
theorem d_ref14_to_c {a1 : Int} {a2 : Int} {r : Bool} (h0 : d_ref14_to a1 a2 = some r) : PP Tryz.prog 104 [int a1, int a2] (fun y => y = boo r) := by
  unfold d_ref14_to at h0
  refine pp_of_pc (R0 := fun y H => Cv (frzH H) y (boo r)) ?_ (fun y H hc => ⟨_, rfl, pvB r, hc⟩)
  refine pcw (c := _) Tryz.func104 rfl rfl ?_; intro Q hret hnorm
  refine tc tbk 5 (.mk ?_)
  refine jn h0 [] [] (fun (a : Bool) (k : Unit) => [(4, boo a)]) (fun a k => []) ⟨fun j3 h1 => ?_, ?_⟩
  refine tc tbk 2 (.mk ?_)
  refine nb tbk h1 fun x4 h1 => ?_
  refine tr tbk 1 (.mk ?_)
  cases x4
  replace h1 := cf h1
  refine tr tbk 6 (.mk ?_)
  exact lf h1 () leA
  replace h1 := ct h1
  refine tr tbk 2 (.mk ?_)
  refine nb tbk h1 fun x5 h1 => ?_
  refine tr tbk 3 (.mk ?_)
  exact lf h1 () leA
  rintro y0_1 _ h0
  obtain rfl := nxt_e h0
  refine wR hret (rT .nil) ?_
  exact .refl _
def d_ref14_there (a1 : GState) (a2 : Int) (a3 : Int) : Option (Bool) :=
(show Option (Bool) from
bnd (w64 ((a1.Ents.length : Int) - 1)) fun x6 =>
(d_ref14_to a2 x6).bind fun x7 =>
cond x7 (bnd (w64 ((a1.Master.Weights.length : Int) - 1)) fun x8 =>
(d_ref14_to a3 x8).bind fun x9 =>
some (x9 : Bool)) (some (false : Bool))).bind <| fun y0_1 =>
some ((y0_1 : Bool))
theorem d_ref14_there_c {a1 : GState} {a2 : Int} {a3 : Int} {r : Bool} (h0 : d_ref14_there a1 a2 a3 = some r) : PP Tryz.prog 103 [.agg (GState.av a1), int a2, int a3] (fun y => y = boo r) := by
  unfold d_ref14_there at h0
  refine pp_of_pc (R0 := fun y H => Cv (frzH H) y (boo r)) ?_ (fun y H hc => ⟨_, rfl, pvB r, hc⟩)
  refine pcw (c := _) Tryz.func103 rfl rfl ?_; intro Q hret hnorm
  refine tc tbk 2 (.mk ?_)
  refine sB 1 fun v4 => ?_
  refine tr tbk 3 (.mk ?_)
  refine jn h0 [] [] (fun (a : Bool) (k : Unit) => [(6, boo a)]) (fun a k => []) ⟨fun j5 h1 => ?_, ?_⟩
  refine tc tbk 4 (.mk ?_)
  refine sY (yv_len_sl rfl Tryz.underlying26 rfl (lst_len _)) ?_
  refine ni tbk h1 fun x6 h1 => ?_
  obtain ⟨x7, e7, h1⟩ := bind_e h1
  refine sC cal104 (d_ref14_to_c e7) ?_
  refine tr tbk 1 (.mk ?_)
  cases x7
  replace h1 := cf h1
  refine tr tbk 10 (.mk ?_)
  exact lf h1 () leA
  replace h1 := ct h1
  refine tr tbk 4 (.mk ?_)
  refine sY (yv_len_sl rfl Tryz.underlying22 rfl (lst_len _)) ?_
  refine ni tbk h1 fun x8 h1 => ?_
  obtain ⟨x9, e9, h1⟩ := bind_e h1
  refine sC cal104 (d_ref14_to_c e9) ?_
  refine tr tbk 3 (.mk ?_)
  exact lf h1 () leA
  rintro y0_1 _ h0
  obtain rfl := nxt_e h0
  refine wR hret (rT .nil) ?_
  exact .refl _
def d_ref14_At (a1 : GState) (a2 : Int) (a3 : Int) (a4 : Int) : Option (GPool) :=
(show Option (Bool) from
(d_ref14_there a1 a2 a3).bind fun x8 =>
bnd (!x8) fun x9 =>
cond x9 (some (true : Bool)) ((d_ref14_to a4 1).bind fun x10 =>
bnd (!x10) fun x11 =>
cond x11 (some (true : Bool)) (bnd (w64 (a3 * 2)) fun x12 =>
bnd (w64 (x12 + a4)) fun x13 =>
(ix a1.Ents a2).bind fun x14 =>
bnd (decide (x13 ≥ (x14.Pools.length : Int))) fun x15 =>
some (x15 : Bool)))).bind <| fun y0_1 =>
asrt (y0_1 = false) <|
(ix a1.Ents a2).bind fun x16 =>
bnd (w64 (a3 * 2)) fun x17 =>
bnd (w64 (x17 + a4)) fun x18 =>
(ix x16.Pools x18).bind fun x19 =>
some ((x19 : GPool))
theorem d_ref14_At_c {a1 : GState} {a2 : Int} {a3 : Int} {a4 : Int} {r : GPool} (h0 : d_ref14_At a1 a2 a3 a4 = some r) : PP Tryz.prog 59 [.agg (GState.av a1), int a2, int a3, int a4] (fun y => y = .agg (GPool.av r)) := by
  unfold d_ref14_At at h0
  refine pp_of_pc (R0 := fun y H => Cv (frzH H) y (.agg (GPool.av r))) ?_ (fun y H hc => ⟨_, rfl, (fun (a : GPool) => PV.agg (GPool.pvc a)) r, hc⟩)
  refine pcw (c := _) Tryz.func59 rfl rfl ?_; intro Q hret hnorm
  refine tc tbk 2 (.mk ?_)
  refine sB 1 fun v5 => ?_
  refine sA 2 z98 fun v6 => ?_
  refine tr tbk 3 (.mk ?_)
  refine jn h0 [1, 2, 3, 4, 8] [1, 2] (fun (a : Bool) (k : Unit) => [(32, boo a)]) (fun a k => []) ⟨fun j7 h1 => ?_, ?_⟩
  refine tc tbk 4 (.mk ?_)
  obtain ⟨x8, e8, h1⟩ := bind_e h1
  refine sC cal103 (d_ref14_there_c e8) ?_
  refine nb tbk h1 fun x9 h1 => ?_
  refine tr tbk 1 (.mk ?_)
  cases x9
  replace h1 := cf h1
  refine tr tbk 1 (.mk ?_)
  obtain ⟨x10, e10, h1⟩ := bind_e h1
  refine sC cal104 (d_ref14_to_c e10) ?_
  refine nb tbk h1 fun x11 h1 => ?_
  refine tr tbk 2 (.mk ?_)
  cases x11
  replace h1 := cf h1
  refine tr tbk 1 (.mk ?_)
  refine ni tbk h1 fun x12 h1 => ?_
  refine tr tbk 1 (.mk ?_)
  refine ni tbk h1 fun x13 h1 => ?_
  refine tr tbk 3 (.mk ?_)
  obtain ⟨x14, e14, h1⟩ := bind_e h1
  refine sY (yv_to (y := .pp [int x14.Now, boo x14.Closed, lst 4 GPool.av x14.Pools, lst 1 fI x14.Bal, lst 11 GRoll.av x14.Rolls, lst 1 fI x14.Prices, lst 1 fI x14.Down, lst 8 GEnt.av x14.Ahead]) (yv_ixT rfl Tryz.underlying26 sh46 rfl rfl e14) (congrArg AV.pp (GEnt.av_eq x14))) ?_
  refine tr tbk 2 (.mk ?_)
  refine sY (yv_len_sl rfl Tryz.underlying43 rfl (lst_len _)) ?_
  refine nb tbk h1 fun x15 h1 => ?_
  refine tr tbk 2 (.mk ?_)
  exact lf h1 () leA
  replace h1 := ct h1
  refine tr tbk 14 (.mk ?_)
  exact lf h1 () leA
  replace h1 := ct h1
  refine tr tbk 19 (.mk ?_)
  exact lf h1 () leA
  rintro y0_1 _ h0
  replace h0 := asrt_e h0
  obtain ⟨rfl, h0⟩ := h0
  refine tc tbk 7 (.mk ?_)
  obtain ⟨x16, e16, h0⟩ := bind_e h0
  refine sY (yv_to (y := .pp [int x16.Now, boo x16.Closed, lst 4 GPool.av x16.Pools, lst 1 fI x16.Bal, lst 11 GRoll.av x16.Rolls, lst 1 fI x16.Prices, lst 1 fI x16.Down, lst 8 GEnt.av x16.Ahead]) (yv_ixT rfl Tryz.underlying26 sh46 rfl rfl e16) (congrArg AV.pp (GEnt.av_eq x16))) ?_
  refine tr tbk 3 (.mk ?_)
  refine ni tbk h0 fun x17 h0 => ?_
  refine tr tbk 1 (.mk ?_)
  refine ni tbk h0 fun x18 h0 => ?_
  obtain ⟨x19, e19, h0⟩ := bind_e h0
  refine sY (yv_ixT rfl Tryz.underlying43 sh98 rfl rfl e19) ?_
  refine tr tbk 1 (.mk ?_)
  refine sS ⟨98, 4, true, true, v6, [[lst 3 GLayer.av x19.Layers, int x19.Pend.a0, int x19.Pend.a1, int x19.Pend.a2]]⟩ sh98 ?_
  refine tr tbk 1 (.mk ?_)
  obtain rfl := nxt_e h0
  refine wR hret (rC sh98 .nil) ?_
  exact .refl _
def d_ref01_In (a1 : Int) : Option (Bool) :=
(show Option (Bool) from
bnd (decide (a1 ≥ (-288230376151711744))) fun x3 =>
cond x3 (bnd (decide (a1 ≤ 288230376151711744)) fun x4 =>
some (x4 : Bool)) (some (false : Bool))).bind <| fun y0_1 =>
some ((y0_1 : Bool))
theorem d_ref01_In_c {a1 : Int} {r : Bool} (h0 : d_ref01_In a1 = some r) : PP Tryz.prog 101 [int a1] (fun y => y = boo r) := by
  unfold d_ref01_In at h0
  refine pp_of_pc (R0 := fun y H => Cv (frzH H) y (boo r)) ?_ (fun y H hc => ⟨_, rfl, pvB r, hc⟩)
  refine pcw (c := _) Tryz.func101 rfl rfl ?_; intro Q hret hnorm
  refine tc tbk 5 (.mk ?_)
  refine jn h0 [] [] (fun (a : Bool) (k : Unit) => [(2, boo a)]) (fun a k => []) ⟨fun j2 h1 => ?_, ?_⟩
  refine tc tbk 2 (.mk ?_)
  refine nb tbk h1 fun x3 h1 => ?_
  refine tr tbk 1 (.mk ?_)
  cases x3
  replace h1 := cf h1
  refine tr tbk 5 (.mk ?_)
  exact lf h1 () leA
  replace h1 := ct h1
  refine tr tbk 1 (.mk ?_)
  refine nb tbk h1 fun x4 h1 => ?_
  refine tr tbk 3 (.mk ?_)
  exact lf h1 () leA
  rintro y0_1 _ h0
  obtain rfl := nxt_e h0
  refine wR hret (rT .nil) ?_
  exact .refl _
def d_ref01_Add (a1 : Int) (a2 : Int) : Option (Int × Int) :=
(show Option (Bool) from
(d_ref01_In a1).bind fun x4 =>
bnd (!x4) fun x5 =>
cond x5 (some (true : Bool)) ((d_ref01_In a2).bind fun x6 =>
bnd (!x6) fun x7 =>
cond x7 (some (true : Bool)) (bnd (w64 (a1 + a2)) fun x8 =>
(d_ref01_In x8).bind fun x9 =>
bnd (!x9) fun x10 =>
some (x10 : Bool)))).bind <| fun y0_1 =>
asrt (y0_1 = false) <|
bnd (w64 (a1 + a2)) fun x11 =>
some ((x11 : Int), (0 : Int))
theorem d_ref01_Add_c {a1 : Int} {a2 : Int} {r : Int × Int} (h0 : d_ref01_Add a1 a2 = some r) : PP Tryz.prog 56 [int a1, int a2] (fun y => y = .tup [int r.1, int r.2]) := by
  unfold d_ref01_Add at h0
  refine pp_of_pc (R0 := fun y H => Cv (frzH H) y (.tup [int r.1, int r.2])) ?_ (fun y H hc => ⟨_, rfl, .tup (pvl2 (pvI (r.1)) (pvI (r.2))), hc⟩)
  refine pcw (c := _) Tryz.func56 rfl rfl ?_; intro Q hret hnorm
  refine tc tbk 7 (.mk ?_)
  refine jn h0 [0, 1, 4, 5] [] (fun (a : Bool) (k : Unit) => [(20, boo a)]) (fun a k => []) ⟨fun j3 h1 => ?_, ?_⟩
  refine tc tbk 2 (.mk ?_)
  obtain ⟨x4, e4, h1⟩ := bind_e h1
  refine sC cal101 (d_ref01_In_c e4) ?_
  refine nb tbk h1 fun x5 h1 => ?_
  refine tr tbk 1 (.mk ?_)
  cases x5
  replace h1 := cf h1
  refine tr tbk 1 (.mk ?_)
  obtain ⟨x6, e6, h1⟩ := bind_e h1
  refine sC cal101 (d_ref01_In_c e6) ?_
  refine nb tbk h1 fun x7 h1 => ?_
  refine tr tbk 2 (.mk ?_)
  cases x7
  replace h1 := cf h1
  refine tr tbk 2 (.mk ?_)
  refine ni tbk h1 fun x8 h1 => ?_
  obtain ⟨x9, e9, h1⟩ := bind_e h1
  refine sC cal101 (d_ref01_In_c e9) ?_
  refine nb tbk h1 fun x10 h1 => ?_
  refine tr tbk 2 (.mk ?_)
  exact lf h1 () leA
  replace h1 := ct h1
  refine tr tbk 7 (.mk ?_)
  exact lf h1 () leA
  replace h1 := ct h1
  refine tr tbk 12 (.mk ?_)
  exact lf h1 () leA
  rintro y0_1 _ h0
  replace h0 := asrt_e h0
  obtain ⟨rfl, h0⟩ := h0
  refine tc tbk 6 (.mk ?_)
  refine ni tbk h0 fun x11 h0 => ?_
  refine tr tbk 3 (.mk ?_)
  obtain rfl := nxt_e h0
  refine wR hret (rT (rT .nil)) ?_
  exact .refl _
def d_ref09_Total_L0 (a1 : List GLayer) : Nat → Int → GLayer → Option (GLayer)
  | 0, _, _ => none
  | n + 1, y0_1, y0_2 =>
    bnd (decide (y0_1 < (a1.length : Int))) fun x5 =>
    cond x5 ((ix a1 y0_1).bind fun x6 =>
    (d_ref01_Add y0_2.Qty x6.Qty).bind fun x7 =>
    (ix a1 y0_1).bind fun x8 =>
    (d_ref01_Add y0_2.Value x8.Value).bind fun x9 =>
    (ix a1 y0_1).bind fun x10 =>
    (d_ref01_Add y0_2.Profit x10.Profit).bind fun x11 =>
    (show Option (Bool) from
    bnd (decide (x7.2 ≠ 0)) fun x13 =>
    cond x13 (some (true : Bool)) (bnd (decide (x9.2 ≠ 0)) fun x14 =>
    cond x14 (some (true : Bool)) (bnd (decide (x11.2 ≠ 0)) fun x15 =>
    some (x15 : Bool)))).bind <| fun y1_1 =>
    asrt (y1_1 = false) <|
    bnd (w64 (y0_1 + 1)) fun x16 =>
    d_ref09_Total_L0 a1 n (x16 : Int) ((⟨x7.1, x9.1, x11.1⟩ : GLayer) : GLayer)) (some (y0_2 : GLayer))
def d_ref09_Total (n : Nat) (a1 : List GLayer) : Option (GLayer × Int) :=
(show Option (GLayer) from
d_ref09_Total_L0 a1 n (0 : Int) ((⟨0, 0, 0⟩ : GLayer) : GLayer)).bind <| fun y2_1 =>
some ((y2_1 : GLayer), (0 : Int))
theorem d_ref09_Total_c {n : Nat} {a1 : List GLayer} {r : GLayer × Int} (h0 : d_ref09_Total n a1 = some r) : PP Tryz.prog 102 [lst 3 GLayer.av a1] (fun y => y = .tup [.agg (GLayer.av r.1), int r.2]) := by
  unfold d_ref09_Total at h0
  refine pp_of_pc (R0 := fun y H => Cv (frzH H) y (.tup [.agg (GLayer.av r.1), int r.2])) ?_ (fun y H hc => ⟨_, rfl, .tup (pvl2 ((fun (a : GLayer) => PV.agg (GLayer.pvc a)) (r.1)) (pvI (r.2))), hc⟩)
  refine pcw (c := _) Tryz.func102 rfl rfl ?_; intro Q hret hnorm
  refine tc tbk 2 (.mk ?_)
  refine sA 1 z57 fun v2 => ?_
  refine tr tbk 4 (.mk ?_)
  refine sA 2 z57 fun v3 => ?_
  refine tr tbk 6 (.mk ?_)
  refine jn h0 [2, 3, 4] [1] (fun (a : GLayer) (k : Unit) => []) (fun a k => [(2, ⟨57, 3, true, true, v3, [[int a.Qty, int a.Value, int a.Profit]]⟩)]) ⟨fun j4 h1 => ?_, ?_⟩
  refine tc tbk 1 (.mk ?_)
  refine lp (fun n (a : Int × GLayer) => d_ref09_Total_L0 a1 n a.1 a.2) ((0 : Int), ((⟨0, 0, 0⟩ : GLayer) : GLayer)) () h1 [0, 2, 3, 4] [1] (fun (a : Int × GLayer) (k : Unit) => [(5, int a.1)]) (fun a k => [(2, ⟨57, 3, true, true, v3, [[int a.2.Qty, int a.2.Value, int a.2.Profit]]⟩)]) (fun _ => rfl) ⟨leA, ?_⟩
  rintro n ⟨y0_1, y0_2⟩ _ hm h1
  replace h1 : d_ref09_Total_L0 a1 (n + 1) y0_1 y0_2 = some _ := h1
  rw [d_ref09_Total_L0] at h1
  refine tc tbk 5 (.mk ?_)
  refine sY (yv_len_sl rfl Tryz.underlying95 rfl (lst_len _)) ?_
  refine nb tbk h1 fun x5 h1 => ?_
  refine tr tbk 1 (.mk ?_)
  cases x5
  replace h1 := cf h1
  refine tc tbk 2 (.mk ?_)
  exact lf h1 () leA
  replace h1 := ct h1
  refine tc tbk 5 (.mk ?_)
  refine c_drawE [0, 1, 0, 0, 12, 28, 60, 127, 255, 511, 511, 1023, 4095] (rl [(0, [2]), (1, [2])] []) (fun i => [2]) (fun i => true) [0, 1, 2, 3, 4, 5, 6, 7, 8, 9, 10, 11, 12] mixed (by kernel_rfl) ?_; intro K hK
  refine eF fo57_0 ?_
  refine eL sh3 ?_
  iterate 2 refine eM ?_
  obtain ⟨x6, e6, h1⟩ := bind_e h1
  refine eP (fun H hH => yv_ixT rfl Tryz.underlying95 sh57 rfl rfl e6) ?_
  refine eP (fun H hH => yv_fieldAddr rfl fo57_0 rfl (.pp _) (.pp _ _)) ?_
  refine eP (fun H hH => yv_load rfl sh3 rfl (.pp _) rfl) ?_
  obtain ⟨x7, e7, h1⟩ := bind_e h1
  refine eP (fun H hH => yv_callP rfl rfl (.cons rfl (.cons rfl .nil)) cal56 (CvL.refl _) (d_ref01_Add_c e7)) ?_
  refine eM ?_
  iterate 2 refine eX ?_
  iterate 2 refine eA ?_
  refine de_nil (hK _ ?_)
  refine tc tbk 1 (.mk ?_)
  refine c_drawE [0, 1, 0, 0, 12, 28, 60, 127, 255, 511, 511, 1023, 4095] (rl [(0, [2]), (1, [2])] []) (fun i => [2]) (fun i => true) [0, 1, 2, 3, 4, 5, 6, 7, 8, 9, 10, 11, 12] mixed (by kernel_rfl) ?_; intro K hK
  refine eF fo57_1 ?_
  refine eL sh3 ?_
  iterate 2 refine eM ?_
  obtain ⟨x8, e8, h1⟩ := bind_e h1
  refine eP (fun H hH => yv_ixT rfl Tryz.underlying95 sh57 rfl rfl e8) ?_
  refine eP (fun H hH => yv_fieldAddr rfl fo57_1 rfl (.pp _) (.pp _ _)) ?_
  refine eP (fun H hH => yv_load rfl sh3 rfl (.pp _) rfl) ?_
  obtain ⟨x9, e9, h1⟩ := bind_e h1
  refine eP (fun H hH => yv_callP rfl rfl (.cons rfl (.cons rfl .nil)) cal56 (CvL.refl _) (d_ref01_Add_c e9)) ?_
  refine eM ?_
  iterate 2 refine eX ?_
  iterate 2 refine eA ?_
  refine de_nil (hK _ ?_)
  refine tc tbk 1 (.mk ?_)
  refine c_drawE [0, 1, 0, 0, 12, 28, 60, 127, 255, 511, 511, 1023, 4095] (rl [(0, [2]), (1, [2])] []) (fun i => [2]) (fun i => true) [0, 1, 2, 3, 4, 5, 6, 7, 8, 9, 10, 11, 12] mixed (by kernel_rfl) ?_; intro K hK
  refine eF fo57_2 ?_
  refine eL sh3 ?_
  iterate 2 refine eM ?_
  obtain ⟨x10, e10, h1⟩ := bind_e h1
  refine eP (fun H hH => yv_ixT rfl Tryz.underlying95 sh57 rfl rfl e10) ?_
  refine eP (fun H hH => yv_fieldAddr rfl fo57_2 rfl (.pp _) (.pp _ _)) ?_
  refine eP (fun H hH => yv_load rfl sh3 rfl (.pp _) rfl) ?_
  obtain ⟨x11, e11, h1⟩ := bind_e h1
  refine eP (fun H hH => yv_callP rfl rfl (.cons rfl (.cons rfl .nil)) cal56 (CvL.refl _) (d_ref01_Add_c e11)) ?_
  refine eM ?_
  iterate 2 refine eX ?_
  iterate 2 refine eA ?_
  refine de_nil (hK _ ?_)
  refine tc tbk 2 (.mk ?_)
  refine jn h1 [0, 2, 3, 4, 5, 6, 8, 10] [1, 2] (fun (a : Bool) (k : Unit) => [(60, boo a)]) (fun a k => []) ⟨fun j12 h2 => ?_, ?_⟩
  refine tc tbk 2 (.mk ?_)
  refine nb tbk h2 fun x13 h2 => ?_
  refine tr tbk 1 (.mk ?_)
  cases x13
  replace h2 := cf h2
  refine tr tbk 1 (.mk ?_)
  refine nb tbk h2 fun x14 h2 => ?_
  refine tr tbk 2 (.mk ?_)
  cases x14
  replace h2 := cf h2
  refine tr tbk 1 (.mk ?_)
  refine nb tbk h2 fun x15 h2 => ?_
  refine tr tbk 2 (.mk ?_)
  exact lf h2 () leA
  replace h2 := ct h2
  refine tr tbk 4 (.mk ?_)
  exact lf h2 () leA
  replace h2 := ct h2
  refine tr tbk 8 (.mk ?_)
  exact lf h2 () leA
  rintro y1_1 _ h1
  replace h1 := asrt_e h1
  obtain ⟨rfl, h1⟩ := h1
  refine tc tbk 7 (.mk ?_)
  refine sS ⟨57, 3, true, true, v3, [[int x7.1, int x9.1, int x11.1]]⟩ sh57 ?_
  refine tr tbk 4 (.mk ?_)
  refine ni tbk h1 fun x16 h1 => ?_
  refine tr tbk 2 (.mk ?_)
  exact bk (x16, (⟨x7.1, x9.1, x11.1⟩ : GLayer)) () h1 leA
  rintro y2_1 _ h0
  refine tc tbk 3 (.mk ?_)
  refine sS ⟨57, 3, true, true, v2, [[int y2_1.Qty, int y2_1.Value, int y2_1.Profit]]⟩ sh57 ?_
  refine tr tbk 2 (.mk ?_)
  obtain rfl := nxt_e h0
  refine wR hret (rC sh57 (rT .nil)) ?_
  exact .refl _
def d_ref13_Total (n : Nat) (a1 : GPool) : Option (GLayer) :=
(d_ref09_Total n a1.Layers).bind fun x4 =>
some ((x4.1 : GLayer))
theorem d_ref13_Total_c {n : Nat} {a1 : GPool} {r : GLayer} (h0 : d_ref13_Total n a1 = some r) : PP Tryz.prog 58 [.agg (GPool.av a1)] (fun y => y = .agg (GLayer.av r)) := by
  unfold d_ref13_Total at h0
  refine pp_of_pc (R0 := fun y H => Cv (frzH H) y (.agg (GLayer.av r))) ?_ (fun y H hc => ⟨_, rfl, (fun (a : GLayer) => PV.agg (GLayer.pvc a)) r, hc⟩)
  refine pcw (c := _) Tryz.func58 rfl rfl ?_; intro Q hret hnorm
  refine tc tbk 2 (.mk ?_)
  refine sB 1 fun v2 => ?_
  refine sA 2 z57 fun v3 => ?_
  refine tr tbk 5 (.mk ?_)
  obtain ⟨x4, e4, h0⟩ := bind_e h0
  refine sC cal102 (d_ref09_Total_c e4) ?_
  refine tr tbk 3 (.mk ?_)
  refine sA 3 z57 fun v5 => ?_
  refine sS ⟨57, 3, true, true, v5, [[int x4.1.Qty, int x4.1.Value, int x4.1.Profit]]⟩ sh57 ?_
  refine tr tbk 5 (.mk ?_)
  refine sS ⟨57, 3, true, true, v3, [[int x4.1.Qty, int x4.1.Value, int x4.1.Profit]]⟩ sh57 ?_
  refine tr tbk 1 (.mk ?_)
  obtain rfl := nxt_e h0
  refine wR hret (rC sh57 .nil) ?_
  exact .refl _
def d_ref01_Sum_L0 (a1 : List Int) : Nat → Int → Int → Option (Int)
  | 0, _, _ => none
  | n + 1, y0_1, y0_2 =>
    bnd (decide (y0_2 < (a1.length : Int))) fun x3 =>
    cond x3 ((ix a1 y0_2).bind fun x4 =>
    (d_ref01_Add y0_1 x4).bind fun x5 =>
    bnd (decide (x5.2 ≠ 0)) fun x6 =>
    asrt (x6 = false) <|
    bnd (w64 (y0_2 + 1)) fun x7 =>
    d_ref01_Sum_L0 a1 n (x5.1 : Int) (x7 : Int)) (some (y0_1 : Int))
def d_ref01_Sum (n : Nat) (a1 : List Int) : Option (Int × Int) :=
(show Option (Int) from
d_ref01_Sum_L0 a1 n (0 : Int) (0 : Int)).bind <| fun y1_1 =>
some ((y1_1 : Int), (0 : Int))
theorem d_ref01_Sum_c {n : Nat} {a1 : List Int} {r : Int × Int} (h0 : d_ref01_Sum n a1 = some r) : PP Tryz.prog 26 [lst 1 fI a1] (fun y => y = .tup [int r.1, int r.2]) := by
  unfold d_ref01_Sum at h0
  refine pp_of_pc (R0 := fun y H => Cv (frzH H) y (.tup [int r.1, int r.2])) ?_ (fun y H hc => ⟨_, rfl, .tup (pvl2 (pvI (r.1)) (pvI (r.2))), hc⟩)
  refine pcw (c := _) Tryz.func26 rfl rfl ?_; intro Q hret hnorm
  refine tc tbk 14 (.mk ?_)
  refine jn h0 [2, 3] [] (fun (a : Int) (k : Unit) => [(4, int a)]) (fun a k => []) ⟨fun j2 h1 => ?_, ?_⟩
  refine tc tbk 1 (.mk ?_)
  refine lp (fun n (a : Int × Int) => d_ref01_Sum_L0 a1 n a.1 a.2) ((0 : Int), (0 : Int)) () h1 [0, 2, 3] [] (fun (a : Int × Int) (k : Unit) => [(4, int a.1), (5, int a.2)]) (fun a k => []) (fun _ => rfl) ⟨leA, ?_⟩
  rintro n ⟨y0_1, y0_2⟩ _ hm h1
  replace h1 : d_ref01_Sum_L0 a1 (n + 1) y0_1 y0_2 = some _ := h1
  rw [d_ref01_Sum_L0] at h1
  refine tc tbk 5 (.mk ?_)
  refine sY (yv_len_sl rfl Tryz.underlying22 rfl (lst_len _)) ?_
  refine nb tbk h1 fun x3 h1 => ?_
  refine tr tbk 1 (.mk ?_)
  cases x3
  replace h1 := cf h1
  refine tc tbk 2 (.mk ?_)
  exact lf h1 () leA
  replace h1 := ct h1
  refine tc tbk 9 (.mk ?_)
  obtain ⟨x4, e4, h1⟩ := bind_e h1
  refine sY (yv_ixT rfl Tryz.underlying22 sh3 rfl rfl e4) ?_
  refine tr tbk 1 (.mk ?_)
  obtain ⟨x5, e5, h1⟩ := bind_e h1
  refine sC cal56 (d_ref01_Add_c e5) ?_
  refine tr tbk 10 (.mk ?_)
  refine nb tbk h1 fun x6 h1 => ?_
  refine tr tbk 1 (.mk ?_)
  replace h1 := asrt_e h1
  obtain ⟨rfl, h1⟩ := h1
  refine tc tbk 9 (.mk ?_)
  refine ni tbk h1 fun x7 h1 => ?_
  refine tr tbk 2 (.mk ?_)
  exact bk (x5.1, x7) () h1 leA
  rintro y1_1 _ h0
  refine tc tbk 6 (.mk ?_)
  obtain rfl := nxt_e h0
  refine wR hret (rT (rT .nil)) ?_
  exact .refl _
def d_ref14_worth_L0 (a1 : GState) (a2 : Int) (a3 : Int) : Nat → Int → (List Int) → (List Int) → (List Int) → Option ((List Int) × (List Int) × (List Int))
  | 0, _, _, _, _ => none
  | n + 1, y0_4, y0_5, y0_6, y0_7 =>
    bnd (decide (y0_4 < 2)) fun x10 =>
    cond x10 ((d_ref14_At a1 a2 a3 y0_4).bind fun x11 =>
    (d_ref13_Total n x11).bind fun x12 =>
    bnd (y0_5 ++ ([x12.Qty] : List Int)) fun x14 =>
    asrt (x14.length ≤ 68719476736) <|
    bnd (y0_6 ++ ([x12.Value] : List Int)) fun x17 =>
    asrt (x17.length ≤ 68719476736) <|
    bnd (y0_7 ++ ([x12.Profit] : List Int)) fun x20 =>
    asrt (x20.length ≤ 68719476736) <|
    bnd (w64 (y0_4 + 1)) fun x23 =>
    d_ref14_worth_L0 a1 a2 a3 n (x23 : Int) (x14 : List Int) (x17 : List Int) (x20 : List Int)) (some ((y0_5 : List Int), (y0_6 : List Int), (y0_7 : List Int)))
def d_ref14_worth (n : Nat) (a1 : GState) (a2 : Int) (a3 : Int) : Option (GLayer × Int) :=
(show Option ((List Int) × (List Int) × (List Int)) from
d_ref14_worth_L0 a1 a2 a3 n (0 : Int) (([] : List Int) : List Int) (([] : List Int) : List Int) (([] : List Int) : List Int)).bind <| p2 fun (y1_4 : List Int) (q0 : (List Int) × (List Int)) => (p2 fun (y1_5 : List Int) (y1_6 : List Int) =>
(d_ref01_Sum n y1_4).bind fun x24 =>
(d_ref01_Sum n y1_5).bind fun x25 =>
(d_ref01_Sum n y1_6).bind fun x26 =>
bnd (if x26.2 > (if x25.2 > x24.2 then x25.2 else x24.2) then x26.2 else (if x25.2 > x24.2 then x25.2 else x24.2)) fun x27 =>
some (((⟨x24.1, x25.1, x26.1⟩ : GLayer) : GLayer), (x27 : Int))) q0
theorem d_ref14_worth_c {n : Nat} {a1 : GState} {a2 : Int} {a3 : Int} {r : GLayer × Int} (h0 : d_ref14_worth n a1 a2 a3 = some r) : PP Tryz.prog 28 [.agg (GState.av a1), int a2, int a3] (fun y => y = .tup [.agg (GLayer.av r.1), int r.2]) := by
  unfold d_ref14_worth at h0
  refine pp_of_pc (R0 := fun y H => Cv (frzH H) y (.tup [.agg (GLayer.av r.1), int r.2])) ?_ (fun y H hc => ⟨_, rfl, .tup (pvl2 ((fun (a : GLayer) => PV.agg (GLayer.pvc a)) (r.1)) (pvI (r.2))), hc⟩)
  refine pcw (c := _) Tryz.func28 rfl rfl ?_; intro Q hret hnorm
  refine tc tbk 2 (.mk ?_)
  refine sB 1 fun v4 => ?_
  refine sA 2 z57 fun v5 => ?_
  refine tr tbk 13 (.mk ?_)
  refine jn h0 [6, 7] [2] (fun (a : (List Int) × (List Int) × (List Int)) (k : Nat × Nat × Nat) => [(8, .sl 7 k.1 0 a.1.length), (9, .sl 8 k.2.1 0 a.2.1.length), (10, .sl 9 k.2.2 0 a.2.2.length)]) (fun a k => [(7, ⟨3, 1, true, true, k.1, a.1.map fI⟩), (8, ⟨3, 1, true, true, k.2.1, a.2.1.map fI⟩), (9, ⟨3, 1, true, true, k.2.2, a.2.2.map fI⟩)]) ⟨fun j6 h1 => ?_, ?_⟩
  refine tc tbk 1 (.mk ?_)
  refine c_nilobj 8 7 3 1 rfl rfl ?_; intro v7
  refine c_nilobj 9 8 3 1 rfl rfl ?_; intro v8
  refine c_nilobj 10 9 3 1 rfl rfl ?_; intro v9
  refine lp (fun n (a : Int × (List Int) × (List Int) × (List Int)) => d_ref14_worth_L0 a1 a2 a3 n a.1 a.2.1 a.2.2.1 a.2.2.2) ((0 : Int), (([] : List Int) : List Int), (([] : List Int) : List Int), (([] : List Int) : List Int)) (v7, v8, v9) h1 [1, 2, 3, 6, 7] [1, 2] (fun (a : Int × (List Int) × (List Int) × (List Int)) (k : Nat × Nat × Nat) => [(8, .sl 7 k.1 0 a.2.1.length), (9, .sl 8 k.2.1 0 a.2.2.1.length), (10, .sl 9 k.2.2 0 a.2.2.2.length), (11, int a.1)]) (fun a k => [(7, ⟨3, 1, true, true, k.1, a.2.1.map fI⟩), (8, ⟨3, 1, true, true, k.2.1, a.2.2.1.map fI⟩), (9, ⟨3, 1, true, true, k.2.2, a.2.2.2.map fI⟩)]) (fun _ => rfl) ⟨leA, ?_⟩
  rintro n ⟨y0_4, y0_5, y0_6, y0_7⟩ ⟨w0_1, w0_2, w0_3⟩ hm h1
  replace h1 : d_ref14_worth_L0 a1 a2 a3 (n + 1) y0_4 y0_5 y0_6 y0_7 = some _ := h1
  rw [d_ref14_worth_L0] at h1
  refine tc tbk 4 (.mk ?_)
  refine nb tbk h1 fun x10 h1 => ?_
  refine tr tbk 1 (.mk ?_)
  cases x10
  replace h1 := cf h1
  refine tc tbk 2 (.mk ?_)
  exact lf h1 (w0_1, w0_2, w0_3) leA
  replace h1 := ct h1
  refine tc tbk 10 (.mk ?_)
  obtain ⟨x11, e11, h1⟩ := bind_e h1
  refine sC cal59 (d_ref14_At_c e11) ?_
  obtain ⟨x12, e12, h1⟩ := bind_e h1
  refine sC cal58 (d_ref13_Total_c e12) ?_
  refine sA 3 z57 fun v13 => ?_
  refine sS ⟨57, 3, true, true, v13, [[int x12.Qty, int x12.Value, int x12.Profit]]⟩ sh57 ?_
  refine tr tbk 1 (.mk ?_)
  refine c_drawE [0, 0, 2, 6, 15, 0, 0, 64, 192, 511, 0, 0, 2048, 6144, 16383, 32767, 65535, 131071] (rl [(1, [3]), (2, [3]), (6, [3]), (7, [3]), (11, [3]), (12, [3])] []) (rl [(14, [])] [3]) (rl [(4, false), (9, false), (14, false)] true) [0, 1, 2, 3, 5, 6, 7, 8, 10, 11, 12, 13, 4, 9, 14, 15, 16, 17] mixed (by kernel_rfl) ?_; intro K hK
  refine eM ?_
  refine eF fo57_0 ?_
  refine eL sh3 ?_
  refine eP (fun H hH => yv_to (y := lst 1 fI ([x12.Qty] : List Int)) (yv_buildSlice (ps := [(0, _)]) (rows := [[int x12.Qty]]) rfl Tryz.underlying22 bz3 (.cons rfl .nil) (by kernel_rfl) rfl rfl rfl) rfl) ?_
  refine eM ?_
  refine eF fo57_1 ?_
  refine eL sh3 ?_
  refine eP (fun H hH => yv_to (y := lst 1 fI ([x12.Value] : List Int)) (yv_buildSlice (ps := [(0, _)]) (rows := [[int x12.Value]]) rfl Tryz.underlying22 bz3 (.cons rfl .nil) (by kernel_rfl) rfl rfl rfl) rfl) ?_
  refine eM ?_
  refine eF fo57_2 ?_
  refine eL sh3 ?_
  refine eP (fun H hH => yv_to (y := lst 1 fI ([x12.Profit] : List Int)) (yv_buildSlice (ps := [(0, _)]) (rows := [[int x12.Profit]]) rfl Tryz.underlying22 bz3 (.cons rfl .nil) (by kernel_rfl) rfl rfl rfl) rfl) ?_
  obtain ⟨x14, e14, h1⟩ := bnd_e h1
  obtain ⟨p15, h1⟩ := asrt_e h1
  refine de_eff rfl rfl rfl rfl (yl_appT (g := fI) (l := y0_5) (m := ([x12.Qty] : List Int)) .any rfl Tryz.underlying22 bz3 by3 rfl rfl rfl rfl rfl rfl rfl rfl rfl rfl (Eq.symm rfl) (.refl _) (fun _ => rfl) e14 p15) (by rintro _ _ ⟨v16, -, rfl, rfl⟩; exact ⟨rfl, trivial⟩) ?_; rintro _ _ ⟨v16, -, rfl, rfl⟩
  obtain ⟨x17, e17, h1⟩ := bnd_e h1
  obtain ⟨p18, h1⟩ := asrt_e h1
  refine de_eff rfl rfl rfl rfl (yl_appT (g := fI) (l := y0_6) (m := ([x12.Value] : List Int)) .any rfl Tryz.underlying22 bz3 by3 rfl rfl rfl rfl rfl rfl rfl rfl rfl rfl (Eq.symm rfl) (.refl _) (fun _ => rfl) e17 p18) (by rintro _ _ ⟨v19, -, rfl, rfl⟩; exact ⟨rfl, trivial⟩) ?_; rintro _ _ ⟨v19, -, rfl, rfl⟩
  obtain ⟨x20, e20, h1⟩ := bnd_e h1
  obtain ⟨p21, h1⟩ := asrt_e h1
  refine de_eff rfl rfl rfl rfl (yl_appT (g := fI) (l := y0_7) (m := ([x12.Profit] : List Int)) .any rfl Tryz.underlying22 bz3 by3 rfl rfl rfl rfl rfl rfl rfl rfl rfl rfl (Eq.symm rfl) (.refl _) (fun _ => rfl) e20 p21) (by rintro _ _ ⟨v22, -, rfl, rfl⟩; exact trivial) ?_; rintro _ _ ⟨v22, -, rfl, rfl⟩
  iterate 3 refine eA ?_
  refine de_nil (hK _ ?_)
  refine tc tbk 3 (.mk ?_)
  refine ni tbk h1 fun x23 h1 => ?_
  refine tr tbk 2 (.mk ?_)
  exact bk (x23, x14, x17, x20) (v16, v19, v22) h1 leA
  rintro ⟨y1_4, y1_5, y1_6⟩ ⟨w1_1, w1_2, w1_3⟩ h0
  replace h0 := p2_e h0
  replace h0 := p2_e h0
  refine tc tbk 3 (.mk ?_)
  obtain ⟨x24, e24, h0⟩ := bind_e h0
  refine sY (yv_callT (v := .tup [int x24.1, int x24.2]) rfl rfl (.cons rfl .nil) cal26 (.cons (cv_lst rfl rfl rfl rfl rfl (Eq.symm rfl)) .nil) (d_ref01_Sum_c e24) rfl) ?_
  refine tr tbk 9 (.mk ?_)
  obtain ⟨x25, e25, h0⟩ := bind_e h0
  refine sY (yv_callT (v := .tup [int x25.1, int x25.2]) rfl rfl (.cons rfl .nil) cal26 (.cons (cv_lst rfl rfl rfl rfl rfl (Eq.symm rfl)) .nil) (d_ref01_Sum_c e25) rfl) ?_
  refine tr tbk 9 (.mk ?_)
  obtain ⟨x26, e26, h0⟩ := bind_e h0
  refine sY (yv_callT (v := .tup [int x26.1, int x26.2]) rfl rfl (.cons rfl .nil) cal26 (.cons (cv_lst rfl rfl rfl rfl rfl (Eq.symm rfl)) .nil) (d_ref01_Sum_c e26) rfl) ?_
  refine tr tbk 15 (.mk ?_)
  obtain ⟨x27, e27, h0⟩ := bnd_e h0
  refine sY (yv_max3 rfl rfl rfl rfl e27) ?_
  refine sS ⟨57, 3, true, true, v5, [[int x24.1, int x25.1, int x26.1]]⟩ sh57 ?_
  refine tr tbk 2 (.mk ?_)
  obtain rfl := nxt_e h0
  refine wR hret (rC sh57 (rT .nil)) ?_
  exact .refl _
def d_ref14_Worth (n : Nat) (a1 : GState) (a2 : Int) (a3 : Int) : Option (GLayer) :=
(d_ref14_worth n a1 a2 a3).bind fun x6 =>
some ((x6.1 : GLayer))
theorem d_ref14_Worth_c {n : Nat} {a1 : GState} {a2 : Int} {a3 : Int} {r : GLayer} (h0 : d_ref14_Worth n a1 a2 a3 = some r) : PP Tryz.prog 14 [.agg (GState.av a1), int a2, int a3] (fun y => y = .agg (GLayer.av r)) := by
  unfold d_ref14_Worth at h0
  refine pp_of_pc (R0 := fun y H => Cv (frzH H) y (.agg (GLayer.av r))) ?_ (fun y H hc => ⟨_, rfl, (fun (a : GLayer) => PV.agg (GLayer.pvc a)) r, hc⟩)
  refine pcw (c := _) Tryz.func14 rfl rfl ?_; intro Q hret hnorm
  refine tc tbk 2 (.mk ?_)
  refine sB 1 fun v4 => ?_
  refine sA 2 z57 fun v5 => ?_
  refine tr tbk 6 (.mk ?_)
  obtain ⟨x6, e6, h0⟩ := bind_e h0
  refine sC cal28 (d_ref14_worth_c e6) ?_
  refine tr tbk 3 (.mk ?_)
  refine sA 3 z57 fun v7 => ?_
  refine sS ⟨57, 3, true, true, v7, [[int x6.1.Qty, int x6.1.Value, int x6.1.Profit]]⟩ sh57 ?_
  refine tr tbk 5 (.mk ?_)
  refine sS ⟨57, 3, true, true, v5, [[int x6.1.Qty, int x6.1.Value, int x6.1.Profit]]⟩ sh57 ?_
  refine tr tbk 1 (.mk ?_)
  obtain rfl := nxt_e h0
  refine wR hret (rC sh57 .nil) ?_
  exact .refl _
def d_law00_Master_L0 (x3 : Int) (x8 : Int) : Nat → Int → (List Int) → Option ((List Int))
  | 0, _, _ => none
  | n + 1, y0_1, y0_3 =>
    bnd (decide (y0_1 < x8)) fun x15 =>
    cond x15 (bnd (w64 (x3.tdiv 24)) fun x16 =>
    bnd (x16.tmod 7) fun x17 =>
    bnd (w64 (x17 + y0_1)) fun x18 =>
    bnd (y0_3 ++ ([x18] : List Int)) fun x19 =>
    asrt (x19.length ≤ 68719476736) <|
    bnd (w64 (y0_1 + 1)) fun x22 =>
    d_law00_Master_L0 x3 x8 n (x22 : Int) (x19 : List Int)) (some (y0_3 : List Int))
def d_law00_Master_L2 (x3 : Int) (x8 : Int) (y2_1 : Int) : Nat → Int → (List Int) → (List Int) → Option ((List Int) × (List Int))
  | 0, _, _, _ => none
  | n + 1, y3_3, y3_4, y3_5 =>
    bnd (decide (y3_3 < x8)) fun x31 =>
    cond x31 (bnd (w64 (x3.tdiv 168)) fun x32 =>
    bnd (w64 (x32 + y3_3)) fun x33 =>
    bnd (w64 (x3.tdiv 672)) fun x34 =>
    bnd (x34.tmod 4) fun x35 =>
    bnd (w64 (y2_1 * x35)) fun x36 =>
    bnd (w64 (x33 + x36)) fun x37 =>
    bnd (x37.tmod 4) fun x38 =>
    bnd (w64 (1 + x38)) fun x39 =>
    bnd (y3_4 ++ ([x39] : List Int)) fun x40 =>
    asrt (x40.length ≤ 68719476736) <|
    bnd (w64 (x3.tdiv 2688)) fun x43 =>
    bnd (w64 (7 * y3_3)) fun x44 =>
    bnd (w64 (x43 + x44)) fun x45 =>
    bnd (w64 (x45 + y2_1)) fun x46 =>
    bnd (x46.tmod 40) fun x47 =>
    bnd (y3_5 ++ ([x47] : List Int)) fun x48 =>
    asrt (x48.length ≤ 68719476736) <|
    bnd (w64 (y3_3 + 1)) fun x51 =>
    d_law00_Master_L2 x3 x8 y2_1 n (x51 : Int) (x40 : List Int) (x48 : List Int)) (some ((y3_4 : List Int), (y3_5 : List Int)))
def d_law00_Master_L1 (x3 : Int) (x5 : Int) (x8 : Int) : Nat → Int → (List (List Int)) → (List (List Int)) → Option ((List (List Int)) × (List (List Int)))
  | 0, _, _, _ => none
  | n + 1, y2_1, y2_4, y2_5 =>
    bnd (decide (y2_1 < x5)) fun x26 =>
    cond x26 ((show Option ((List (List Int)) × (List (List Int))) from
    (show Option ((List Int) × (List Int)) from
    d_law00_Master_L2 x3 x8 y2_1 n (0 : Int) (([] : List Int) : List Int) (([] : List Int) : List Int)).bind <| p2 fun (y4_3 : List Int) (y4_4 : List Int) =>
    bnd (y2_4 ++ [y4_3]) fun x52 =>
    asrt (x52.length ≤ 68719476736) <|
    bnd (y2_5 ++ [y4_4]) fun x55 =>
    asrt (x55.length ≤ 68719476736) <|
    some ((x52 : List (List Int)), (x55 : List (List Int)))).bind <| p2 fun (y5_3 : List (List Int)) (y5_4 : List (List Int)) =>
    bnd (w64 (y2_1 + 1)) fun x58 =>
    d_law00_Master_L1 x3 x5 x8 n (x58 : Int) (y5_3 : List (List Int)) (y5_4 : List (List Int))) (some ((y2_4 : List (List Int)), (y2_5 : List (List Int))))
def d_law00_Master (n : Nat) (a1 : Int) : Option (GMaster) :=
(d_law00_Place a1 1073741824).bind fun x3 =>
bnd (x3.tmod 2) fun x4 =>
bnd (w64 (2 + x4)) fun x5 =>
bnd (w64 (x3.tdiv 2)) fun x6 =>
bnd (x6.tmod 3) fun x7 =>
bnd (w64 (2 + x7)) fun x8 =>
bnd (w64 (x3.tdiv 6)) fun x9 =>
bnd (x9.tmod 4) fun x10 =>
bnd (w64 (1 + x10)) fun x11 =>
(show Option ((List Int)) from
d_law00_Master_L0 x3 x8 n (0 : Int) (([] : List Int) : List Int)).bind <| fun y1_2 =>
(show Option ((List (List Int)) × (List (List Int))) from
d_law00_Master_L1 x3 x5 x8 n (0 : Int) (([] : List (List Int)) : List (List Int)) (([] : List (List Int)) : List (List Int))).bind <| p2 fun (y6_3 : List (List Int)) (y6_4 : List (List Int)) =>
some (((⟨x5, x11, y1_2, y6_3, y6_4⟩ : GMaster) : GMaster))
theorem d_law00_Master_c {n : Nat} {a1 : Int} {r : GMaster} (h0 : d_law00_Master n a1 = some r) : PP Tryz.prog 20 [int a1] (fun y => y = .agg (GMaster.av r)) := by
  unfold d_law00_Master at h0
  refine pp_of_pc (R0 := fun y H => Cv (frzH H) y (.agg (GMaster.av r))) ?_ (fun y H hc => ⟨_, rfl, (fun (a : GMaster) => PV.agg (GMaster.pvc a)) r, hc⟩)
  refine pcw (c := _) Tryz.func20 rfl rfl ?_; intro Q hret hnorm
  refine tc tbk 2 (.mk ?_)
  refine sA 1 z25 fun v2 => ?_
  refine tr tbk 4 (.mk ?_)
  obtain ⟨x3, e3, h0⟩ := bind_e h0
  refine sC cal9 (d_law00_Place_c e3) ?_
  refine tr tbk 5 (.mk ?_)
  refine ni tbk h0 fun x4 h0 => ?_
  refine ni tbk h0 fun x5 h0 => ?_
  refine tr tbk 1 (.mk ?_)
  refine ni tbk h0 fun x6 h0 => ?_
  refine ni tbk h0 fun x7 h0 => ?_
  refine ni tbk h0 fun x8 h0 => ?_
  refine tr tbk 7 (.mk ?_)
  refine ni tbk h0 fun x9 h0 => ?_
  refine ni tbk h0 fun x10 h0 => ?_
  refine ni tbk h0 fun x11 h0 => ?_
  refine tr tbk 1 (.mk ?_)
  refine sA 2 z25 fun v12 => ?_
  refine sS ⟨25, 5, true, true, v12, [[int x5, int x11, .sc (.slice none 0 0), .sc (.slice none 0 0), .sc (.slice none 0 0)]]⟩ sh25 ?_
  refine tr tbk 6 (.mk ?_)
  refine jn h0 [2, 3, 4, 5, 6] [1] (fun (a : (List Int)) (k : Nat) => []) (fun a k => [(2, ⟨25, 5, true, true, v12, [[int x5, int x11, .sl 4 k 0 a.length, .sc (.slice none 0 0), .sc (.slice none 0 0)]]⟩), (4, ⟨3, 1, true, true, k, a.map fI⟩)]) ⟨fun j13 h1 => ?_, ?_⟩
  refine tc tbk 1 (.mk ?_)
  refine c_nilcell 2 0 2 4 3 1 (rows := fun v14 => [[int x5, int x11, .sl 4 v14 0 0, .sc (.slice none 0 0), .sc (.slice none 0 0)]]) rfl rfl rfl rfl (fun _ => rfl) ?_; intro v14
  refine lp (fun n (a : Int × (List Int)) => d_law00_Master_L0 x3 x8 n a.1 a.2) ((0 : Int), (([] : List Int) : List Int)) v14 h1 [2, 3, 4, 5, 6] [1] (fun (a : Int × (List Int)) (k : Nat) => [(7, int a.1)]) (fun a k => [(2, ⟨25, 5, true, true, v12, [[int x5, int x11, .sl 4 k 0 a.2.length, .sc (.slice none 0 0), .sc (.slice none 0 0)]]⟩), (4, ⟨3, 1, true, true, k, a.2.map fI⟩)]) (fun _ => rfl) ⟨leA, ?_⟩
  rintro n ⟨y0_1, y0_3⟩ w0_2 hm h1
  replace h1 : d_law00_Master_L0 x3 x8 (n + 1) y0_1 y0_3 = some _ := h1
  rw [d_law00_Master_L0] at h1
  refine tc tbk 5 (.mk ?_)
  refine nb tbk h1 fun x15 h1 => ?_
  refine tr tbk 1 (.mk ?_)
  cases x15
  replace h1 := cf h1
  refine tc tbk 2 (.mk ?_)
  exact lf h1 w0_2 leA
  replace h1 := ct h1
  refine tc tbk 8 (.mk ?_)
  refine ni tbk h1 fun x16 h1 => ?_
  refine ni tbk h1 fun x17 h1 => ?_
  refine tr tbk 1 (.mk ?_)
  refine ni tbk h1 fun x18 h1 => ?_
  refine sY (yv_to (y := lst 1 fI ([x18] : List Int)) (yv_buildSlice (ps := [(0, _)]) (rows := [[int x18]]) rfl Tryz.underlying22 bz3 (.cons rfl .nil) (by kernel_rfl) rfl rfl rfl) rfl) ?_
  obtain ⟨x19, e19, h1⟩ := bnd_e h1
  obtain ⟨p20, h1⟩ := asrt_e h1
  refine rse rfl rfl rfl (yl_appT (g := fI) (l := y0_3) (m := ([x18] : List Int)) .any rfl Tryz.underlying22 bz3 by3 rfl rfl rfl rfl rfl rfl rfl rfl rfl rfl (Eq.symm rfl) (.refl _) (fun _ => rfl) e19 p20) ?_; rintro _ _ ⟨v21, -, rfl, rfl⟩
  refine tr tbk 1 (.mk ?_)
  refine sS ⟨25, 5, true, true, v12, [[int x5, int x11, .sl 4 v21 0 x19.length, .sc (.slice none 0 0), .sc (.slice none 0 0)]]⟩ sh22 ?_
  refine tr tbk 4 (.mk ?_)
  refine ni tbk h1 fun x22 h1 => ?_
  refine tr tbk 2 (.mk ?_)
  exact bk (x22, x19) v21 h1 leA
  rintro y1_2 w1_1 h0
  refine tc tbk 5 (.mk ?_)
  refine jn h0 [2, 6] [1, 4] (fun (a : (List (List Int)) × (List (List Int))) (k : Nat × Nat) => []) (fun a k => [(2, ⟨25, 5, true, true, v12, [[int x5, int x11, .sl 4 w1_1 0 y1_2.length, .sl 11 k.1 0 a.1.length, .sl 12 k.2 0 a.2.length]]⟩), (11, ⟨22, 1, true, true, k.1, a.1.map (fL 1 fI)⟩), (12, ⟨22, 1, true, true, k.2, a.2.map (fL 1 fI)⟩)]) ⟨fun j23 h1 => ?_, ?_⟩
  refine tc tbk 1 (.mk ?_)
  refine c_nilcell 2 0 3 11 22 1 (rows := fun v24 => [[int x5, int x11, .sl 4 w1_1 0 y1_2.length, .sl 11 v24 0 0, .sc (.slice none 0 0)]]) rfl rfl rfl rfl (fun _ => rfl) ?_; intro v24
  refine c_nilcell 2 0 4 12 22 1 (rows := fun v25 => [[int x5, int x11, .sl 4 w1_1 0 y1_2.length, .sl 11 v24 0 0, .sl 12 v25 0 0]]) rfl rfl rfl rfl (fun _ => rfl) ?_; intro v25
  refine lp (fun n (a : Int × (List (List Int)) × (List (List Int))) => d_law00_Master_L1 x3 x5 x8 n a.1 a.2.1 a.2.2) ((0 : Int), (([] : List (List Int)) : List (List Int)), (([] : List (List Int)) : List (List Int))) (v24, v25) h1 [2, 3, 4, 5, 6] [1, 4] (fun (a : Int × (List (List Int)) × (List (List Int))) (k : Nat × Nat) => [(8, int a.1)]) (fun a k => [(2, ⟨25, 5, true, true, v12, [[int x5, int x11, .sl 4 w1_1 0 y1_2.length, .sl 11 k.1 0 a.2.1.length, .sl 12 k.2 0 a.2.2.length]]⟩), (11, ⟨22, 1, true, true, k.1, a.2.1.map (fL 1 fI)⟩), (12, ⟨22, 1, true, true, k.2, a.2.2.map (fL 1 fI)⟩)]) (fun _ => rfl) ⟨leA, ?_⟩
  rintro n ⟨y2_1, y2_4, y2_5⟩ ⟨w2_2, w2_3⟩ hm h1
  replace h1 : d_law00_Master_L1 x3 x5 x8 (n + 1) y2_1 y2_4 y2_5 = some _ := h1
  rw [d_law00_Master_L1] at h1
  refine tc tbk 5 (.mk ?_)
  refine nb tbk h1 fun x26 h1 => ?_
  refine tr tbk 1 (.mk ?_)
  cases x26
  replace h1 := cf h1
  refine tc tbk 2 (.mk ?_)
  exact lf h1 (w2_2, w2_3) leA
  replace h1 := ct h1
  refine tc tbk 3 (.mk ?_)
  refine jn h1 [2, 3, 4, 5, 6, 8] [1, 4] (fun (a : (List (List Int)) × (List (List Int))) (k : Nat × Nat) => []) (fun a k => [(2, ⟨25, 5, true, true, v12, [[int x5, int x11, .sl 4 w1_1 0 y1_2.length, .sl 11 k.1 0 a.1.length, .sl 12 k.2 0 a.2.length]]⟩), (11, ⟨22, 1, true, true, k.1, a.1.map (fL 1 fI)⟩), (12, ⟨22, 1, true, true, k.2, a.2.map (fL 1 fI)⟩)]) ⟨fun j27 h2 => ?_, ?_⟩
  refine tc tbk 11 (.mk ?_)
  refine jn h2 [2, 3, 4, 5, 6, 8] [1, 2, 4, 11, 12] (fun (a : (List Int) × (List Int)) (k : Nat × Nat) => [(9, .sl 7 k.1 0 a.1.length), (10, .sl 8 k.2 0 a.2.length)]) (fun a k => [(7, ⟨3, 1, true, true, k.1, a.1.map fI⟩), (8, ⟨3, 1, true, true, k.2, a.2.map fI⟩)]) ⟨fun j28 h3 => ?_, ?_⟩
  refine tc tbk 1 (.mk ?_)
  refine c_nilobj 9 7 3 1 rfl rfl ?_; intro v29
  refine c_nilobj 10 8 3 1 rfl rfl ?_; intro v30
  refine lp (fun n (a : Int × (List Int) × (List Int)) => d_law00_Master_L2 x3 x8 y2_1 n a.1 a.2.1 a.2.2) ((0 : Int), (([] : List Int) : List Int), (([] : List Int) : List Int)) (v29, v30) h3 [2, 3, 4, 5, 6, 8] [1, 2, 4, 11, 12] (fun (a : Int × (List Int) × (List Int)) (k : Nat × Nat) => [(9, .sl 7 k.1 0 a.2.1.length), (10, .sl 8 k.2 0 a.2.2.length), (11, int a.1)]) (fun a k => [(7, ⟨3, 1, true, true, k.1, a.2.1.map fI⟩), (8, ⟨3, 1, true, true, k.2, a.2.2.map fI⟩)]) (fun _ => rfl) ⟨leA, ?_⟩
  rintro n ⟨y3_3, y3_4, y3_5⟩ ⟨w3_1, w3_2⟩ hm h3
  replace h3 : d_law00_Master_L2 x3 x8 y2_1 (n + 1) y3_3 y3_4 y3_5 = some _ := h3
  rw [d_law00_Master_L2] at h3
  refine tc tbk 5 (.mk ?_)
  refine nb tbk h3 fun x31 h3 => ?_
  refine tr tbk 1 (.mk ?_)
  cases x31
  replace h3 := cf h3
  refine tc tbk 2 (.mk ?_)
  exact lf h3 (w3_1, w3_2) leA
  replace h3 := ct h3
  refine tc tbk 7 (.mk ?_)
  refine ni tbk h3 fun x32 h3 => ?_
  refine tr tbk 1 (.mk ?_)
  refine ni tbk h3 fun x33 h3 => ?_
  refine tr tbk 2 (.mk ?_)
  refine ni tbk h3 fun x34 h3 => ?_
  refine ni tbk h3 fun x35 h3 => ?_
  refine ni tbk h3 fun x36 h3 => ?_
  refine ni tbk h3 fun x37 h3 => ?_
  refine ni tbk h3 fun x38 h3 => ?_
  refine ni tbk h3 fun x39 h3 => ?_
  refine sY (yv_to (y := lst 1 fI ([x39] : List Int)) (yv_buildSlice (ps := [(0, _)]) (rows := [[int x39]]) rfl Tryz.underlying22 bz3 (.cons rfl .nil) (by kernel_rfl) rfl rfl rfl) rfl) ?_
  obtain ⟨x40, e40, h3⟩ := bnd_e h3
  obtain ⟨p41, h3⟩ := asrt_e h3
  refine rse rfl rfl rfl (yl_appT (g := fI) (l := y3_4) (m := ([x39] : List Int)) .any rfl Tryz.underlying22 bz3 by3 rfl rfl rfl rfl rfl rfl rfl rfl rfl rfl (Eq.symm rfl) (.refl _) (fun _ => rfl) e40 p41) ?_; rintro _ _ ⟨v42, -, rfl, rfl⟩
  refine tr tbk 2 (.mk ?_)
  refine ni tbk h3 fun x43 h3 => ?_
  refine tr tbk 1 (.mk ?_)
  refine ni tbk h3 fun x44 h3 => ?_
  refine ni tbk h3 fun x45 h3 => ?_
  refine tr tbk 1 (.mk ?_)
  refine ni tbk h3 fun x46 h3 => ?_
  refine ni tbk h3 fun x47 h3 => ?_
  refine sY (yv_to (y := lst 1 fI ([x47] : List Int)) (yv_buildSlice (ps := [(0, _)]) (rows := [[int x47]]) rfl Tryz.underlying22 bz3 (.cons rfl .nil) (by kernel_rfl) rfl rfl rfl) rfl) ?_
  obtain ⟨x48, e48, h3⟩ := bnd_e h3
  obtain ⟨p49, h3⟩ := asrt_e h3
  refine rse rfl rfl rfl (yl_appT (g := fI) (l := y3_5) (m := ([x47] : List Int)) .any rfl Tryz.underlying22 bz3 by3 rfl rfl rfl rfl rfl rfl rfl rfl rfl rfl (Eq.symm rfl) (.refl _) (fun _ => rfl) e48 p49) ?_; rintro _ _ ⟨v50, -, rfl, rfl⟩
  refine tr tbk 6 (.mk ?_)
  refine ni tbk h3 fun x51 h3 => ?_
  refine tr tbk 2 (.mk ?_)
  exact bk (x51, x40, x48) (v42, v50) h3 leA
  rintro ⟨y4_3, y4_4⟩ ⟨w4_1, w4_2⟩ h2
  replace h2 := p2_e h2
  refine c_drawE [0, 1, 0, 4, 15, 0, 32, 0, 128, 511, 127, 2047, 4095, 8191] (rl [(0, [2]), (1, [2]), (5, [2]), (6, [2]), (10, [2]), (12, [2])] []) (rl [(11, []), (13, [])] [2]) (rl [(4, false), (9, false), (11, false), (13, false)] true) [0, 1, 2, 3, 5, 6, 7, 8, 4, 10, 9, 11, 12, 13] mixed (by kernel_rfl) ?_; intro K hK
  refine eF fo25_3 ?_
  refine eL sh23 ?_
  refine eM ?_
  refine eP (fun H hH => yv_buildSlice (ps := [(0, _)]) (rows := [[.sl 7 w4_1 0 y4_3.length]]) rfl Tryz.underlying23 bz22 (.cons rfl .nil) (by kernel_rfl) rfl rfl rfl) ?_
  refine eF fo25_4 ?_
  refine eL sh23 ?_
  refine eM ?_
  refine eP (fun H hH => yv_buildSlice (ps := [(0, _)]) (rows := [[.sl 8 w4_2 0 y4_4.length]]) rfl Tryz.underlying23 bz22 (.cons rfl .nil) (by kernel_rfl) rfl rfl rfl) ?_
  obtain ⟨x52, e52, h2⟩ := bnd_e h2
  obtain ⟨p53, h2⟩ := asrt_e h2
  refine de_eff rfl rfl rfl rfl (Yield.frz 7 rfl (yl_appT (g := (fL 1 fI)) (l := y2_4) (m := [y4_3]) .any rfl Tryz.underlying23 bz22 by22 rfl rfl rfl rfl rfl rfl rfl rfl rfl rfl (Eq.symm rfl) (CvLL.list (.cons (.cons (cv_lst rfl rfl rfl rfl rfl (Eq.symm rfl)) .nil) .nil)) (fun _ => rfl) e52 p53)) (by rintro _ _ ⟨v54, -, rfl, rfl⟩; exact ⟨rfl, trivial⟩) ?_; rintro _ _ ⟨v54, -, rfl, rfl⟩
  refine eF fo25_3 ?_
  obtain ⟨x55, e55, h2⟩ := bnd_e h2
  obtain ⟨p56, h2⟩ := asrt_e h2
  refine de_eff rfl rfl rfl rfl (Yield.frz 8 rfl (yl_appT (g := (fL 1 fI)) (l := y2_5) (m := [y4_4]) .any rfl Tryz.underlying23 bz22 by22 rfl rfl rfl rfl rfl rfl rfl rfl rfl rfl (Eq.symm rfl) (CvLL.list (.cons (.cons (cv_lst rfl rfl rfl rfl rfl (Eq.symm rfl)) .nil) .nil)) (fun _ => rfl) e55 p56)) (by rintro _ _ ⟨v57, -, rfl, rfl⟩; exact ⟨rfl, trivial⟩) ?_; rintro _ _ ⟨v57, -, rfl, rfl⟩
  refine de_eff0 rfl rfl rfl rfl (Yield.weak (yl_ob (ob' := (⟨25, 5, true, true, v12, [[int x5, int x11, .sl 4 w1_1 0 y1_2.length, .sl 11 v54 0 x52.length, .sl 12 w2_3 0 y2_5.length]]⟩ : AObj)) (yl_store rfl sh23 rfl rfl rfl rfl rfl rfl rfl rfl rfl) rfl) (fun _ h => h) (fun _ _ => trivial)) (by rintro _ _ ⟨rfl, rfl⟩; exact trivial) ?_; rintro _ _ ⟨rfl, rfl⟩
  refine eF fo25_4 ?_
  refine de_eff0 rfl rfl rfl rfl (Yield.weak (yl_ob (ob' := (⟨25, 5, true, true, v12, [[int x5, int x11, .sl 4 w1_1 0 y1_2.length, .sl 11 v54 0 x52.length, .sl 12 v57 0 x55.length]]⟩ : AObj)) (yl_store rfl sh23 rfl rfl rfl rfl rfl rfl rfl rfl rfl) rfl) (fun _ h => h) (fun _ _ => trivial)) (by rintro _ _ ⟨rfl, rfl⟩; exact trivial) ?_; rintro _ _ ⟨rfl, rfl⟩
  refine de_nil (hK _ ?_)
  refine tc tbk 1 (.mk ?_)
  exact lf h2 (v54, v57) leA
  rintro ⟨y5_3, y5_4⟩ ⟨w5_1, w5_2⟩ h1
  replace h1 := p2_e h1
  refine tc tbk 2 (.mk ?_)
  refine ni tbk h1 fun x58 h1 => ?_
  refine tr tbk 2 (.mk ?_)
  exact bk (x58, y5_3, y5_4) (w5_1, w5_2) h1 leA
  rintro ⟨y6_3, y6_4⟩ ⟨w6_1, w6_2⟩ h0
  replace h0 := p2_e h0
  refine tc tbk 3 (.mk ?_)
  refine sS ⟨25, 5, true, true, v2, [[int x5, int x11, .sl 4 w1_1 0 y1_2.length, .sl 11 w6_1 0 y6_3.length, .sl 12 w6_2 0 y6_4.length]]⟩ sh25 ?_
  refine tr tbk 1 (.mk ?_)
  obtain rfl := nxt_e h0
  refine wR hret (rC sh25 .nil) ?_
  exact (CvL.agg (.cons (.refl _) (.cons (.refl _) (.cons (cv_lst rfl rfl rfl rfl rfl (Eq.symm rfl)) (.cons (cv_lst rfl rfl rfl rfl rfl (Eq.symm rfl)) (.cons (cv_lst rfl rfl rfl rfl rfl (Eq.symm rfl)) .nil))))))
def d_law00_Ops_L0 (a2 : List Int) : Nat → Option (Unit)
  | 0 => none
  | n + 1 =>
    (show Option (Bool) from
    bnd (decide (0 < (a2.length : Int))) fun x6 =>
    cond x6 (some (true : Bool)) (some (false : Bool))).bind <| fun y1_1 =>
    asrt (y1_1 = false) <|
    some ()
def d_law00_Ops (n : Nat) (a1 : GMaster) (a2 : List Int) : Option ((List GOp)) :=
(show Option (Unit) from
d_law00_Ops_L0 a2 n).bind <| fun _ =>
some (([] : List GOp))
theorem d_law00_Ops_c {n : Nat} {a1 : GMaster} {a2 : List Int} {r : (List GOp)} (h0 : d_law00_Ops n a1 a2 = some r) : PP Tryz.prog 16 [.agg (GMaster.av a1), lst 1 fI a2] (fun y => y = lst 9 GOp.av r) := by
  unfold d_law00_Ops at h0
  refine pp_of_pc (R0 := fun y H => Cv (frzH H) y (lst 9 GOp.av r)) ?_ (fun y H hc => ⟨_, rfl, (pvLs GOp.pvc) r, hc⟩)
  refine pcw (c := _) Tryz.func16 rfl rfl ?_; intro Q hret hnorm
  refine tc tbk 2 (.mk ?_)
  refine sB 1 fun v3 => ?_
  refine tr tbk 11 (.mk ?_)
  refine jn h0 [4, 5] [] (fun (a : Unit) (k : Unit) => []) (fun a k => []) ⟨fun j4 h1 => ?_, ?_⟩
  refine tc tbk 1 (.mk ?_)
  refine lp (fun n (a : Unit) => d_law00_Ops_L0 a2 n) () () h1 [1, 2, 4, 5, 6] [1] (fun (a : Unit) (k : Unit) => []) (fun a k => []) (fun _ => rfl) ⟨leA, ?_⟩
  rintro n _ _ hm h1
  replace h1 : d_law00_Ops_L0 a2 (n + 1) = some _ := h1
  rw [d_law00_Ops_L0] at h1
  refine tc tbk 2 (.mk ?_)
  refine jn h1 [1, 2, 4, 5, 6] [1] (fun (a : Bool) (k : Unit) => [(14, boo a)]) (fun a k => []) ⟨fun j5 h2 => ?_, ?_⟩
  refine tc tbk 3 (.mk ?_)
  refine sY (yv_len_sl rfl Tryz.underlying22 rfl (lst_len _)) ?_
  refine nb tbk h2 fun x6 h2 => ?_
  refine tr tbk 1 (.mk ?_)
  cases x6
  replace h2 := cf h2
  refine tr tbk 4 (.mk ?_)
  exact lf h2 () leA
  replace h2 := ct h2
  refine tr tbk 1 (.mk ?_)
  refine sY (yv_to (y := boo true) (yv_lss rfl rfl rfl) (congrArg boo (by decide))) ?_
  refine tr tbk 2 (.mk ?_)
  exact lf h2 () leA
  rintro y1_1 _ h1
  replace h1 := asrt_e h1
  obtain ⟨rfl, h1⟩ := h1
  refine tc tbk 2 (.mk ?_)
  exact lf h1 () leA
  rintro _ _ h0
  refine tc tbk 5 (.mk ?_)
  obtain rfl := nxt_e h0
  refine wR hret (rT .nil) ?_
  exact (.nil _)
def d_law00_State_L0 (x7 : (List GOp)) : Nat → Option (Unit)
  | 0 => none
  | n + 1 =>
    bnd (decide (0 < (x7.length : Int))) fun x9 =>
    asrt (x9 = false) <|
    some ()
def d_law00_State (n : Nat) (a1 : GMaster) (a2 : List Int) : Option (GState) :=
(d_ref04_Start n a1).bind fun x5 =>
(d_law00_Ops n a1 a2).bind fun x7 =>
(show Option (Unit) from
d_law00_State_L0 x7 n).bind <| fun _ =>
some ((x5.1 : GState))
theorem d_law00_State_c {n : Nat} {a1 : GMaster} {a2 : List Int} {r : GState} (h0 : d_law00_State n a1 a2 = some r) : PP Tryz.prog 7 [.agg (GMaster.av a1), lst 1 fI a2] (fun y => y = .agg (GState.av r)) := by
  unfold d_law00_State at h0
  refine pp_of_pc (R0 := fun y H => Cv (frzH H) y (.agg (GState.av r))) ?_ (fun y H hc => ⟨_, rfl, (fun (a : GState) => PV.agg (GState.pvc a)) r, hc⟩)
  refine pcw (c := _) Tryz.func7 rfl rfl ?_; intro Q hret hnorm
  refine tc tbk 2 (.mk ?_)
  refine sB 1 fun v3 => ?_
  refine sA 2 z31 fun v4 => ?_
  refine tr tbk 4 (.mk ?_)
  obtain ⟨x5, e5, h0⟩ := bind_e h0
  refine sC cal11 (d_ref04_Start_c e5) ?_
  refine tr tbk 3 (.mk ?_)
  refine sA 3 z31 fun v6 => ?_
  refine sS ⟨31, 10, true, true, v6, [(GState.av x5.1)]⟩ sh31 ?_
  refine tr tbk 6 (.mk ?_)
  obtain ⟨x7, e7, h0⟩ := bind_e h0
  refine sC cal16 (d_law00_Ops_c e7) ?_
  refine tr tbk 7 (.mk ?_)
  refine jn h0 [4, 5] [2, 3] (fun (a : Unit) (k : Unit) => []) (fun a k => []) ⟨fun j8 h1 => ?_, ?_⟩
  refine tc tbk 1 (.mk ?_)
  refine lp (fun n (a : Unit) => d_law00_State_L0 x7 n) () () h1 [4, 5, 7, 8] [2, 3] (fun (a : Unit) (k : Unit) => []) (fun a k => []) (fun _ => rfl) ⟨leA, ?_⟩
  rintro n _ _ hm h1
  replace h1 : d_law00_State_L0 x7 (n + 1) = some _ := h1
  rw [d_law00_State_L0] at h1
  refine tc tbk 5 (.mk ?_)
  refine sY (yv_len_sl rfl Tryz.underlying62 rfl (lst_len _)) ?_
  refine nb tbk h1 fun x9 h1 => ?_
  refine tr tbk 1 (.mk ?_)
  replace h1 := asrt_e h1
  obtain ⟨rfl, h1⟩ := h1
  refine tc tbk 2 (.mk ?_)
  exact lf h1 () leA
  rintro _ _ h0
  refine tc tbk 3 (.mk ?_)
  refine sS ⟨31, 10, true, true, v4, [(GState.av x5.1)]⟩ sh31 ?_
  refine tr tbk 1 (.mk ?_)
  obtain rfl := nxt_e h0
  refine wR hret (rC sh31 .nil) ?_
  exact .refl _
def d_close_Reopen_L0 (a1 : GState) (a2 : Int) (x17 : GEnt) : Nat → Int → Option (Unit)
  | 0, _ => none
  | n + 1, y1_1 =>
    bnd (decide (y1_1 < (a1.Sales.length : Int))) fun x20 =>
    cond x20 ((ix a1.Sales y1_1).bind fun x21 =>
    (d_close_waits x21 a2 ((x17 : GEnt).Now)).bind fun x23 =>
    asrt (x23 = false) <|
    bnd (w64 (y1_1 + 1)) fun x24 =>
    d_close_Reopen_L0 a1 a2 x17 n (x24 : Int)) (some ())
def d_close_Reopen (n : Nat) (a1 : GState) (a2 : Int) : Option (GState × Int) :=
(d_close_is a1 a2).bind fun x5 =>
bnd (!x5) fun x6 =>
asrt (x6 = false) <|
(show Option (Bool) from
(ix a1.Ents a2).bind fun x8 =>
bnd (!x8.Closed) fun x9 =>
cond x9 (some (true : Bool)) ((ix a1.Ents a2).bind fun x10 =>
bnd (decide ((x10.Ahead.length : Int) ≠ 1)) fun x11 =>
some (x11 : Bool))).bind <| fun y0_1 =>
asrt (y0_1 = false) <|
asrt (a1.Ents.length ≤ 68719476736) <|
asrt (a1.Sales.length ≤ 68719476736) <|
(ix a1.Ents a2).bind fun x16 =>
(ix x16.Ahead 0).bind fun x17 =>
bnd (a1.Ents.set (Int.toNat a2) (x17 : GEnt)) fun x18 =>
(show Option (Unit) from
d_close_Reopen_L0 a1 a2 x17 n (0 : Int)).bind <| fun _ =>
some (((⟨a1.Master, x18, a1.Receipts, a1.Sales, a1.Transits, a1.Done⟩ : GState) : GState), (0 : Int))
theorem d_close_Reopen_c {n : Nat} {a1 : GState} {a2 : Int} {r : GState × Int} (h0 : d_close_Reopen n a1 a2 = some r) : PP Tryz.prog 24 [.agg (GState.av a1), int a2] (fun y => y = .tup [.agg (GState.av r.1), int r.2]) := by
  unfold d_close_Reopen at h0
  refine pp_of_pc (R0 := fun y H => Cv (frzH H) y (.tup [.agg (GState.av r.1), int r.2])) ?_ (fun y H hc => ⟨_, rfl, .tup (pvl2 ((fun (a : GState) => PV.agg (GState.pvc a)) (r.1)) (pvI (r.2))), hc⟩)
  refine pcw (c := _) Tryz.func24 rfl rfl ?_; intro Q hret hnorm
  refine tc tbk 2 (.mk ?_)
  refine sB 1 fun v3 => ?_
  refine sA 2 z31 fun v4 => ?_
  refine tr tbk 8 (.mk ?_)
  obtain ⟨x5, e5, h0⟩ := bind_e h0
  refine sC cal49 (d_close_is_c e5) ?_
  refine nb tbk h0 fun x6 h0 => ?_
  refine tr tbk 2 (.mk ?_)
  replace h0 := asrt_e h0
  obtain ⟨rfl, h0⟩ := h0
  refine tc tbk 2 (.mk ?_)
  refine jn h0 [1, 2, 4, 5] [1, 2] (fun (a : Bool) (k : Unit) => [(14, boo a)]) (fun a k => []) ⟨fun j7 h1 => ?_, ?_⟩
  refine tc tbk 4 (.mk ?_)
  obtain ⟨x8, e8, h1⟩ := bind_e h1
  refine sY (yv_to (y := .pp [int x8.Now, boo x8.Closed, lst 4 GPool.av x8.Pools, lst 1 fI x8.Bal, lst 11 GRoll.av x8.Rolls, lst 1 fI x8.Prices, lst 1 fI x8.Down, lst 8 GEnt.av x8.Ahead]) (yv_ixT rfl Tryz.underlying26 sh46 rfl rfl e8) (congrArg AV.pp (GEnt.av_eq x8))) ?_
  refine tr tbk 2 (.mk ?_)
  refine nb tbk h1 fun x9 h1 => ?_
  refine tr tbk 1 (.mk ?_)
  cases x9
  replace h1 := cf h1
  refine tr tbk 3 (.mk ?_)
  obtain ⟨x10, e10, h1⟩ := bind_e h1
  refine sY (yv_to (y := .pp [int x10.Now, boo x10.Closed, lst 4 GPool.av x10.Pools, lst 1 fI x10.Bal, lst 11 GRoll.av x10.Rolls, lst 1 fI x10.Prices, lst 1 fI x10.Down, lst 8 GEnt.av x10.Ahead]) (yv_ixT rfl Tryz.underlying26 sh46 rfl rfl e10) (congrArg AV.pp (GEnt.av_eq x10))) ?_
  refine tr tbk 2 (.mk ?_)
  refine sY (yv_len_sl rfl Tryz.underlying26 rfl (lst_len _)) ?_
  refine nb tbk h1 fun x11 h1 => ?_
  refine tr tbk 3 (.mk ?_)
  exact lf h1 () leA
  replace h1 := ct h1
  refine tr tbk 11 (.mk ?_)
  exact lf h1 () leA
  rintro y0_1 _ h0
  replace h0 := asrt_e h0
  obtain ⟨rfl, h0⟩ := h0
  refine tc tbk 4 (.mk ?_)
  refine c_drawE [0, 1, 3, 0, 8, 31, 31, 127, 255, 511] (rl [(0, [1]), (1, [1]), (3, [1]), (4, [1]), (6, [1]), (8, [1])] []) (rl [(7, []), (9, [])] [1]) (rl [(2, false), (5, false), (7, false), (9, false)] true) [0, 1, 3, 4, 2, 6, 5, 7, 8, 9] mixed (by kernel_rfl) ?_; intro K hK
  refine eF fo31_1 ?_
  refine eL sh26 ?_
  refine eF fo31_3 ?_
  refine eL sh28 ?_
  obtain ⟨p12, h0⟩ := asrt_e h0
  refine de_eff rfl rfl rfl rfl (yl_call rfl rfl (.cons rfl .nil) cal52 (pc_cv (clone52_c (id := 3) (l := a1.Ents) rfl p12) (.cons (.refl _) .nil))) (by rintro _ _ ⟨v13, rfl, rfl⟩; exact ⟨rfl, trivial⟩) ?_; rintro _ _ ⟨v13, rfl, rfl⟩
  refine eF fo31_1 ?_
  obtain ⟨p14, h0⟩ := asrt_e h0
  refine de_eff rfl rfl rfl rfl (yl_call rfl rfl (.cons rfl .nil) cal53 (pc_cv (clone53_c (id := 4) (l := a1.Sales) rfl p14) (.cons (.refl _) .nil))) (by rintro _ _ ⟨v15, rfl, rfl⟩; exact ⟨rfl, trivial⟩) ?_; rintro _ _ ⟨v15, rfl, rfl⟩
  refine de_eff0 rfl rfl rfl rfl (Yield.weak (yl_ob (ob' := (⟨31, 10, true, true, v3, [[int a1.Master.Entities, int a1.Master.Periods, lst 1 fI a1.Master.Weights, lst 1 (fL 1 fI) a1.Master.Methods, lst 1 (fL 1 fI) a1.Master.Costs, .sl 3 v13 0 a1.Ents.length, lst 8 GReceipt.av a1.Receipts, lst 9 GSale.av a1.Sales, lst 6 GTransit.av a1.Transits, int a1.Done]]⟩ : AObj)) (yl_store rfl sh26 rfl rfl rfl rfl rfl rfl rfl rfl rfl) rfl) (fun _ h => h) (fun _ _ => trivial)) (by rintro _ _ ⟨rfl, rfl⟩; exact trivial) ?_; rintro _ _ ⟨rfl, rfl⟩
  refine eF fo31_3 ?_
  refine de_eff0 rfl rfl rfl rfl (Yield.weak (yl_ob (ob' := (⟨31, 10, true, true, v3, [[int a1.Master.Entities, int a1.Master.Periods, lst 1 fI a1.Master.Weights, lst 1 (fL 1 fI) a1.Master.Methods, lst 1 (fL 1 fI) a1.Master.Costs, .sl 3 v13 0 a1.Ents.length, lst 8 GReceipt.av a1.Receipts, .sl 4 v15 0 a1.Sales.length, lst 6 GTransit.av a1.Transits, int a1.Done]]⟩ : AObj)) (yl_store rfl sh28 rfl rfl rfl rfl rfl rfl rfl rfl rfl) rfl) (fun _ h => h) (fun _ _ => trivial)) (by rintro _ _ ⟨rfl, rfl⟩; exact trivial) ?_; rintro _ _ ⟨rfl, rfl⟩
  refine de_nil (hK _ ?_)
  refine tc tbk 1 (.mk ?_)
  refine c_drawE [0, 1, 0, 0, 8, 0, 56, 120, 248, 504, 1016, 2047, 4095] (rl [(0, [1]), (1, [1]), (3, [1]), (4, [1]), (6, [3]), (7, [3]), (8, [3]), (11, [3])] []) (rl [(12, [])] [1, 3]) (rl [(12, false)] true) [0, 1, 2, 3, 4, 5, 6, 7, 8, 9, 10, 11, 12] mixed (by kernel_rfl) ?_; intro K hK
  refine eF fo31_1 ?_
  refine eL sh26 ?_
  refine eM ?_
  refine eF fo31_1 ?_
  refine eL sh26 ?_
  refine eM ?_
  obtain ⟨x16, e16, h0⟩ := bind_e h0
  refine de_pure rfl rfl rfl rfl (fun H hH => yv_ixO rfl Tryz.underlying26 sh46 rfl rfl ((hH _ (by decide)).trans rfl) rfl rfl (Eq.symm rfl) (List.length_map _) e16) ?_
  refine eF fo46_7 (hr := ix_get' e16 (GEnt.av_eq _)) ?_
  refine eL sh26 (hr := ix_get' e16 (GEnt.av_eq _)) ?_
  obtain ⟨x17, e17, h0⟩ := bind_e h0
  refine eP (fun H hH => yv_to (y := .pp [int x17.Now, boo x17.Closed, lst 4 GPool.av x17.Pools, lst 1 fI x17.Bal, lst 11 GRoll.av x17.Rolls, lst 1 fI x17.Prices, lst 1 fI x17.Down, lst 8 GEnt.av x17.Ahead]) (yv_ixT rfl Tryz.underlying26 sh46 rfl rfl e17) (congrArg AV.pp (GEnt.av_eq x17))) ?_
  refine eP (fun H hH => yv_load rfl sh46 rfl (.pp _) rfl) ?_
  refine de_pure rfl rfl rfl rfl (fun H hH => yv_ixO rfl Tryz.underlying26 sh46 rfl rfl ((hH _ (by decide)).trans rfl) rfl rfl (Eq.symm rfl) (List.length_map _) e16) ?_
  obtain ⟨x18, e18, h0⟩ := bnd_e h0
  have fx18 := ix_set e16 e18; have lx18 := len_setV e18 (rfl : a1.Ents.length = a1.Ents.length)
  refine de_eff0 rfl rfl rfl rfl (Yield.weak (yl_ob (ob' := (⟨46, 8, true, true, v13, x18.map GEnt.av⟩ : AObj)) (yl_store rfl sh46 rfl rfl rfl rfl rfl (ix_get' e16 (GEnt.av_eq _)) rfl rfl rfl) (ob_eq (map_setR e18 (GEnt.av_eq _)))) (fun _ h => h) (fun _ _ => trivial)) (by rintro _ _ ⟨rfl, rfl⟩; exact trivial) ?_; rintro _ _ ⟨rfl, rfl⟩
  refine de_nil (hK _ ?_)
  refine tc tbk 5 (.mk ?_)
  refine sY (yv_len_sl rfl Tryz.underlying28 rfl (.sl rfl rfl)) ?_
  refine tr tbk 2 (.mk ?_)
  refine jn h0 [2, 4, 5] [1, 2, 3, 4] (fun (a : Unit) (k : Unit) => []) (fun a k => []) ⟨fun j19 h1 => ?_, ?_⟩
  refine tc tbk 1 (.mk ?_)
  refine lp (fun n (a : Int) => d_close_Reopen_L0 a1 a2 x17 n a) (0 : Int) () h1 [1, 2, 4, 5, 54, 55] [1, 2, 3, 4] (fun (a : Int) (k : Unit) => [(56, int a)]) (fun a k => []) (fun _ => rfl) ⟨leA, ?_⟩
  rintro n y1_1 _ hm h1
  replace h1 : d_close_Reopen_L0 a1 a2 x17 (n + 1) y1_1 = some _ := h1
  rw [d_close_Reopen_L0] at h1
  refine tc tbk 2 (.mk ?_)
  refine nb tbk h1 fun x20 h1 => ?_
  refine tr tbk 2 (.mk ?_)
  cases x20
  replace h1 := cf h1
  refine tc tbk 2 (.mk ?_)
  exact lf h1 () leA
  replace h1 := ct h1
  refine tc tbk 7 (.mk ?_)
  obtain ⟨x21, e21, h1⟩ := bind_e h1
  refine sY (yv_ixO rfl Tryz.underlying28 sh53 rfl rfl rfl rfl rfl (Eq.symm rfl) (List.length_map _) e21) ?_
  refine sY (yv_load rfl sh53 rfl (.pt rfl rfl (ix_get e21)) rfl) ?_
  refine sA 5 z53 fun v22 => ?_
  refine tr tbk 1 (.mk ?_)
  refine sS ⟨53, 9, true, true, v22, [[int x21.Entity, int x21.Item, int x21.Loc, int x21.Qty, int x21.Back, int x21.Cost, int x21.Profit, int x21.Period, boo x21.Waits]]⟩ sh53 ?_
  refine tr tbk 2 (.mk ?_)
  refine c_drawE [0, 0, 0, 4, 0, 28, 60, 124, 255] (rl [(0, [5]), (2, [1]), (3, [1]), (5, [3]), (6, [3]), (7, [3])] []) (fun i => [1, 3, 5]) (fun i => true) [0, 1, 2, 3, 4, 5, 6, 7, 8] mixed (by kernel_rfl) ?_; intro K hK
  refine eL sh53 ?_
  refine eM ?_
  refine eF fo31_1 ?_
  refine eL sh26 ?_
  refine eM ?_
  refine de_pure rfl rfl rfl rfl (fun H hH => yv_ixO rfl Tryz.underlying26 sh46 rfl rfl ((hH _ (by decide)).trans rfl) rfl rfl (Eq.symm lx18) (List.length_map _) fx18) ?_
  refine eF fo46_0 (hr := ix_get' fx18 (GEnt.av_eq _)) ?_
  refine eL sh3 (hr := ix_get' fx18 (GEnt.av_eq _)) ?_
  obtain ⟨x23, e23, h1⟩ := bind_e h1
  refine eP (fun H hH => yv_callP rfl rfl (.cons rfl (.cons rfl (.cons rfl .nil))) cal54 (CvL.refl _) (d_close_waits_c e23)) ?_
  refine de_nil (hK _ ?_)
  replace h1 := asrt_e h1
  obtain ⟨rfl, h1⟩ := h1
  refine tc tbk 4 (.mk ?_)
  refine ni tbk h1 fun x24 h1 => ?_
  refine tr tbk 2 (.mk ?_)
  exact bk x24 () h1 leA
  rintro _ _ h0
  refine tc tbk 3 (.mk ?_)
  refine sS ⟨31, 10, true, true, v4, [[int a1.Master.Entities, int a1.Master.Periods, lst 1 fI a1.Master.Weights, lst 1 (fL 1 fI) a1.Master.Methods, lst 1 (fL 1 fI) a1.Master.Costs, .sl 3 v13 0 a1.Ents.length, lst 8 GReceipt.av a1.Receipts, .sl 4 v15 0 a1.Sales.length, lst 6 GTransit.av a1.Transits, int a1.Done]]⟩ sh31 ?_
  refine tr tbk 2 (.mk ?_)
  obtain rfl := nxt_e h0
  refine wR hret (rC sh31 (rT .nil)) ?_
  exact CvL.tup (.cons (CvL.agg (.cons (.refl _) (.cons (.refl _) (.cons (.refl _) (.cons (.refl _) (.cons (.refl _) (.cons (cv_lst rfl rfl rfl rfl rfl (Eq.symm lx18)) (.cons (.refl _) (.cons (cv_lst rfl rfl rfl rfl rfl (Eq.symm rfl)) (.cons (.refl _) (.cons (.refl _) .nil))))))))))) (.cons (.refl _) .nil))
def d_ref04_SameInts_L0 (a1 : List Int) (a2 : List Int) : Nat → Int → Option (Unit)
  | 0, _ => none
  | n + 1, y0_1 =>
    bnd (decide (y0_1 < (a1.length : Int))) fun x5 =>
    cond x5 ((ix a1 y0_1).bind fun x6 =>
    (ix a2 y0_1).bind fun x7 =>
    bnd (decide (x6 ≠ x7)) fun x8 =>
    asrt (x8 = false) <|
    bnd (w64 (y0_1 + 1)) fun x9 =>
    d_ref04_SameInts_L0 a1 a2 n (x9 : Int)) (some ())
def d_ref04_SameInts (n : Nat) (a1 : List Int) (a2 : List Int) : Option (Bool) :=
bnd (decide ((a1.length : Int) ≠ (a2.length : Int))) fun x3 =>
asrt (x3 = false) <|
(show Option (Unit) from
d_ref04_SameInts_L0 a1 a2 n (0 : Int)).bind <| fun _ =>
some ((true : Bool))
theorem d_ref04_SameInts_c {n : Nat} {a1 : List Int} {a2 : List Int} {r : Bool} (h0 : d_ref04_SameInts n a1 a2 = some r) : PP Tryz.prog 105 [lst 1 fI a1, lst 1 fI a2] (fun y => y = boo r) := by
  unfold d_ref04_SameInts at h0
  refine pp_of_pc (R0 := fun y H => Cv (frzH H) y (boo r)) ?_ (fun y H hc => ⟨_, rfl, pvB r, hc⟩)
  refine pcw (c := _) Tryz.func105 rfl rfl ?_; intro Q hret hnorm
  refine tc tbk 8 (.mk ?_)
  refine sY (yv_len_sl rfl Tryz.underlying22 rfl (lst_len _)) ?_
  refine tr tbk 1 (.mk ?_)
  refine sY (yv_len_sl rfl Tryz.underlying22 rfl (lst_len _)) ?_
  refine nb tbk h0 fun x3 h0 => ?_
  refine tr tbk 1 (.mk ?_)
  replace h0 := asrt_e h0
  obtain ⟨rfl, h0⟩ := h0
  refine tc tbk 7 (.mk ?_)
  refine jn h0 [4] [] (fun (a : Unit) (k : Unit) => []) (fun a k => []) ⟨fun j4 h1 => ?_, ?_⟩
  refine tc tbk 1 (.mk ?_)
  refine lp (fun n (a : Int) => d_ref04_SameInts_L0 a1 a2 n a) (0 : Int) () h1 [0, 1, 4] [] (fun (a : Int) (k : Unit) => [(5, int a)]) (fun a k => []) (fun _ => rfl) ⟨leA, ?_⟩
  rintro n y0_1 _ hm h1
  replace h1 : d_ref04_SameInts_L0 a1 a2 (n + 1) y0_1 = some _ := h1
  rw [d_ref04_SameInts_L0] at h1
  refine tc tbk 5 (.mk ?_)
  refine sY (yv_len_sl rfl Tryz.underlying22 rfl (lst_len _)) ?_
  refine nb tbk h1 fun x5 h1 => ?_
  refine tr tbk 1 (.mk ?_)
  cases x5
  replace h1 := cf h1
  refine tc tbk 2 (.mk ?_)
  exact lf h1 () leA
  replace h1 := ct h1
  refine tc tbk 5 (.mk ?_)
  refine c_drawE [0, 0, 3, 7, 0, 0, 48, 112, 255] (fun i => []) (fun i => []) (fun i => true) [0, 1, 2, 3, 4, 5, 6, 7, 8] mixed (by kernel_rfl) ?_; intro K hK
  iterate 2 refine eM ?_
  obtain ⟨x6, e6, h1⟩ := bind_e h1
  refine eP (fun H hH => yv_ixT rfl Tryz.underlying22 sh3 rfl rfl e6) ?_
  refine eP (fun H hH => yv_load rfl sh3 rfl (.pp _) rfl) ?_
  iterate 2 refine eM ?_
  obtain ⟨x7, e7, h1⟩ := bind_e h1
  refine eP (fun H hH => yv_ixT rfl Tryz.underlying22 sh3 rfl rfl e7) ?_
  refine eP (fun H hH => yv_load rfl sh3 rfl (.pp _) rfl) ?_
  obtain ⟨x8, e8, h1⟩ := bnd_e h1
  refine eP (fun H hH => yv_to (y := boo x8) (yv_neq rfl rfl rfl) (congrArg boo e8)) ?_
  refine de_nil (hK _ ?_)
  replace h1 := asrt_e h1
  obtain ⟨rfl, h1⟩ := h1
  refine tc tbk 5 (.mk ?_)
  refine ni tbk h1 fun x9 h1 => ?_
  refine tr tbk 2 (.mk ?_)
  exact bk x9 () h1 leA
  rintro _ _ h0
  refine tc tbk 4 (.mk ?_)
  obtain rfl := nxt_e h0
  refine wR hret (rT .nil) ?_
  exact .refl _
def d_ref04_sameLists_L0 (a1 : List (List Int)) (a2 : List (List Int)) : Nat → Int → Option (Unit)
  | 0, _ => none
  | n + 1, y0_1 =>
    bnd (decide (y0_1 < (a1.length : Int))) fun x5 =>
    cond x5 ((ix a1 y0_1).bind fun x6 =>
    (ix a2 y0_1).bind fun x7 =>
    (d_ref04_SameInts n x6 x7).bind fun x8 =>
    bnd (!x8) fun x9 =>
    asrt (x9 = false) <|
    bnd (w64 (y0_1 + 1)) fun x10 =>
    d_ref04_sameLists_L0 a1 a2 n (x10 : Int)) (some ())
def d_ref04_sameLists (n : Nat) (a1 : List (List Int)) (a2 : List (List Int)) : Option (Bool) :=
bnd (decide ((a1.length : Int) ≠ (a2.length : Int))) fun x3 =>
asrt (x3 = false) <|
(show Option (Unit) from
d_ref04_sameLists_L0 a1 a2 n (0 : Int)).bind <| fun _ =>
some ((true : Bool))
theorem d_ref04_sameLists_c {n : Nat} {a1 : List (List Int)} {a2 : List (List Int)} {r : Bool} (h0 : d_ref04_sameLists n a1 a2 = some r) : PP Tryz.prog 106 [lst 1 (fL 1 fI) a1, lst 1 (fL 1 fI) a2] (fun y => y = boo r) := by
  unfold d_ref04_sameLists at h0
  refine pp_of_pc (R0 := fun y H => Cv (frzH H) y (boo r)) ?_ (fun y H hc => ⟨_, rfl, pvB r, hc⟩)
  refine pcw (c := _) Tryz.func106 rfl rfl ?_; intro Q hret hnorm
  refine tc tbk 8 (.mk ?_)
  refine sY (yv_len_sl rfl Tryz.underlying23 rfl (lst_len _)) ?_
  refine tr tbk 1 (.mk ?_)
  refine sY (yv_len_sl rfl Tryz.underlying23 rfl (lst_len _)) ?_
  refine nb tbk h0 fun x3 h0 => ?_
  refine tr tbk 1 (.mk ?_)
  replace h0 := asrt_e h0
  obtain ⟨rfl, h0⟩ := h0
  refine tc tbk 7 (.mk ?_)
  refine jn h0 [4] [] (fun (a : Unit) (k : Unit) => []) (fun a k => []) ⟨fun j4 h1 => ?_, ?_⟩
  refine tc tbk 1 (.mk ?_)
  refine lp (fun n (a : Int) => d_ref04_sameLists_L0 a1 a2 n a) (0 : Int) () h1 [0, 1, 4] [] (fun (a : Int) (k : Unit) => [(5, int a)]) (fun a k => []) (fun _ => rfl) ⟨leA, ?_⟩
  rintro n y0_1 _ hm h1
  replace h1 : d_ref04_sameLists_L0 a1 a2 (n + 1) y0_1 = some _ := h1
  rw [d_ref04_sameLists_L0] at h1
  refine tc tbk 5 (.mk ?_)
  refine sY (yv_len_sl rfl Tryz.underlying23 rfl (lst_len _)) ?_
  refine nb tbk h1 fun x5 h1 => ?_
  refine tr tbk 1 (.mk ?_)
  cases x5
  replace h1 := cf h1
  refine tc tbk 2 (.mk ?_)
  exact lf h1 () leA
  replace h1 := ct h1
  refine tc tbk 5 (.mk ?_)
  refine c_drawE [0, 0, 3, 7, 0, 0, 48, 112, 255, 511] (fun i => []) (fun i => []) (fun i => true) [0, 1, 2, 3, 4, 5, 6, 7, 8, 9] mixed (by kernel_rfl) ?_; intro K hK
  iterate 2 refine eM ?_
  obtain ⟨x6, e6, h1⟩ := bind_e h1
  refine eP (fun H hH => yv_ixT rfl Tryz.underlying23 sh22 rfl rfl e6) ?_
  refine eP (fun H hH => yv_load rfl sh22 rfl (.pp _) rfl) ?_
  iterate 2 refine eM ?_
  obtain ⟨x7, e7, h1⟩ := bind_e h1
  refine eP (fun H hH => yv_ixT rfl Tryz.underlying23 sh22 rfl rfl e7) ?_
  refine eP (fun H hH => yv_load rfl sh22 rfl (.pp _) rfl) ?_
  obtain ⟨x8, e8, h1⟩ := bind_e h1
  refine eP (fun H hH => yv_callP rfl rfl (.cons rfl (.cons rfl .nil)) cal105 (CvL.refl _) (d_ref04_SameInts_c e8)) ?_
  obtain ⟨x9, e9, h1⟩ := bnd_e h1
  refine eP (fun H hH => yv_not rfl rfl e9) ?_
  refine de_nil (hK _ ?_)
  replace h1 := asrt_e h1
  obtain ⟨rfl, h1⟩ := h1
  refine tc tbk 5 (.mk ?_)
  refine ni tbk h1 fun x10 h1 => ?_
  refine tr tbk 2 (.mk ?_)
  exact bk x10 () h1 leA
  rintro _ _ h0
  refine tc tbk 4 (.mk ?_)
  obtain rfl := nxt_e h0
  refine wR hret (rT .nil) ?_
  exact .refl _
def d_ref04_Same (n : Nat) (a1 : GMaster) (a2 : GMaster) : Option (Bool) :=
(show Option (Bool) from
bnd (decide (a1.Entities = a2.Entities)) fun x6 =>
cond x6 (bnd (decide (a1.Periods = a2.Periods)) fun x7 =>
cond x7 ((d_ref04_SameInts n a1.Weights a2.Weights).bind fun x8 =>
cond x8 ((d_ref04_sameLists n a1.Methods a2.Methods).bind fun x9 =>
cond x9 ((d_ref04_sameLists n a1.Costs a2.Costs).bind fun x10 =>
some (x10 : Bool)) (some (false : Bool))) (some (false : Bool))) (some (false : Bool))) (some (false : Bool))).bind <| fun y0_1 =>
some ((y0_1 : Bool))
theorem d_ref04_Same_c {n : Nat} {a1 : GMaster} {a2 : GMaster} {r : Bool} (h0 : d_ref04_Same n a1 a2 = some r) : PP Tryz.prog 60 [.agg (GMaster.av a1), .agg (GMaster.av a2)] (fun y => y = boo r) := by
  unfold d_ref04_Same at h0
  refine pp_of_pc (R0 := fun y H => Cv (frzH H) y (boo r)) ?_ (fun y H hc => ⟨_, rfl, pvB r, hc⟩)
  refine pcw (c := _) Tryz.func60 rfl rfl ?_; intro Q hret hnorm
  refine tc tbk 2 (.mk ?_)
  refine sB 1 fun v3 => ?_
  refine sB 2 fun v4 => ?_
  refine tr tbk 3 (.mk ?_)
  refine jn h0 [] [] (fun (a : Bool) (k : Unit) => [(4, boo a)]) (fun a k => []) ⟨fun j5 h1 => ?_, ?_⟩
  refine tc tbk 5 (.mk ?_)
  refine nb tbk h1 fun x6 h1 => ?_
  refine tr tbk 1 (.mk ?_)
  cases x6
  replace h1 := cf h1
  refine tr tbk 29 (.mk ?_)
  exact lf h1 () leA
  replace h1 := ct h1
  refine tr tbk 4 (.mk ?_)
  refine nb tbk h1 fun x7 h1 => ?_
  refine tr tbk 2 (.mk ?_)
  cases x7
  replace h1 := cf h1
  refine tr tbk 22 (.mk ?_)
  exact lf h1 () leA
  replace h1 := ct h1
  refine tr tbk 4 (.mk ?_)
  obtain ⟨x8, e8, h1⟩ := bind_e h1
  refine sC cal105 (d_ref04_SameInts_c e8) ?_
  refine tr tbk 2 (.mk ?_)
  cases x8
  replace h1 := cf h1
  refine tr tbk 15 (.mk ?_)
  exact lf h1 () leA
  replace h1 := ct h1
  refine tr tbk 4 (.mk ?_)
  obtain ⟨x9, e9, h1⟩ := bind_e h1
  refine sC cal106 (d_ref04_sameLists_c e9) ?_
  refine tr tbk 2 (.mk ?_)
  cases x9
  replace h1 := cf h1
  refine tr tbk 8 (.mk ?_)
  exact lf h1 () leA
  replace h1 := ct h1
  refine tr tbk 4 (.mk ?_)
  obtain ⟨x10, e10, h1⟩ := bind_e h1
  refine sC cal106 (d_ref04_sameLists_c e10) ?_
  refine tr tbk 3 (.mk ?_)
  exact lf h1 () leA
  rintro y0_1 _ h0
  obtain rfl := nxt_e h0
  refine wR hret (rT .nil) ?_
  exact .refl _
def d_ref14_samePapers_L0 (a1 : GState) : Nat → Option (Unit)
  | 0 => none
  | n + 1 =>
    bnd (decide (0 < (a1.Receipts.length : Int))) fun x10 =>
    asrt (x10 = false) <|
    some ()
def d_ref14_samePapers_L1 (a1 : GState) : Nat → Option (Unit)
  | 0 => none
  | n + 1 =>
    bnd (decide (0 < (a1.Sales.length : Int))) fun x12 =>
    asrt (x12 = false) <|
    some ()
def d_ref14_samePapers_L2 (a1 : GState) : Nat → Option (Unit)
  | 0 => none
  | n + 1 =>
    bnd (decide (0 < (a1.Transits.length : Int))) fun x14 =>
    asrt (x14 = false) <|
    some ()
def d_ref14_samePapers (n : Nat) (a1 : GState) (a2 : GState) : Option (Bool) :=
(show Option (Bool) from
bnd (decide ((a1.Receipts.length : Int) ≠ (a2.Receipts.length : Int))) fun x6 =>
cond x6 (some (true : Bool)) (bnd (decide ((a1.Sales.length : Int) ≠ (a2.Sales.length : Int))) fun x7 =>
cond x7 (some (true : Bool)) (bnd (decide ((a1.Transits.length : Int) ≠ (a2.Transits.length : Int))) fun x8 =>
some (x8 : Bool)))).bind <| fun y0_1 =>
asrt (y0_1 = false) <|
(show Option (Unit) from
d_ref14_samePapers_L0 a1 n).bind <| fun _ =>
(show Option (Unit) from
d_ref14_samePapers_L1 a1 n).bind <| fun _ =>
(show Option (Unit) from
d_ref14_samePapers_L2 a1 n).bind <| fun _ =>
some ((true : Bool))
theorem d_ref14_samePapers_c {n : Nat} {a1 : GState} {a2 : GState} {r : Bool} (h0 : d_ref14_samePapers n a1 a2 = some r) : PP Tryz.prog 61 [.agg (GState.av a1), .agg (GState.av a2)] (fun y => y = boo r) := by
  unfold d_ref14_samePapers at h0
  refine pp_of_pc (R0 := fun y H => Cv (frzH H) y (boo r)) ?_ (fun y H hc => ⟨_, rfl, pvB r, hc⟩)
  refine pcw (c := _) Tryz.func61 rfl rfl ?_; intro Q hret hnorm
  refine tc tbk 2 (.mk ?_)
  refine sB 1 fun v3 => ?_
  refine sB 2 fun v4 => ?_
  refine tr tbk 4 (.mk ?_)
  refine jn h0 [2, 3, 4] [1, 2] (fun (a : Bool) (k : Unit) => [(32, boo a)]) (fun a k => []) ⟨fun j5 h1 => ?_, ?_⟩
  refine tc tbk 3 (.mk ?_)
  refine sY (yv_len_sl rfl Tryz.underlying27 rfl (lst_len _)) ?_
  refine tr tbk 2 (.mk ?_)
  refine sY (yv_len_sl rfl Tryz.underlying27 rfl (lst_len _)) ?_
  refine nb tbk h1 fun x6 h1 => ?_
  refine tr tbk 1 (.mk ?_)
  cases x6
  replace h1 := cf h1
  refine tr tbk 2 (.mk ?_)
  refine sY (yv_len_sl rfl Tryz.underlying28 rfl (lst_len _)) ?_
  refine tr tbk 2 (.mk ?_)
  refine sY (yv_len_sl rfl Tryz.underlying28 rfl (lst_len _)) ?_
  refine nb tbk h1 fun x7 h1 => ?_
  refine tr tbk 2 (.mk ?_)
  cases x7
  replace h1 := cf h1
  refine tr tbk 2 (.mk ?_)
  refine sY (yv_len_sl rfl Tryz.underlying29 rfl (lst_len _)) ?_
  refine tr tbk 2 (.mk ?_)
  refine sY (yv_len_sl rfl Tryz.underlying29 rfl (lst_len _)) ?_
  refine nb tbk h1 fun x8 h1 => ?_
  refine tr tbk 2 (.mk ?_)
  exact lf h1 () leA
  replace h1 := ct h1
  refine tr tbk 9 (.mk ?_)
  exact lf h1 () leA
  replace h1 := ct h1
  refine tr tbk 18 (.mk ?_)
  exact lf h1 () leA
  rintro y0_1 _ h0
  replace h0 := asrt_e h0
  obtain ⟨rfl, h0⟩ := h0
  refine tc tbk 7 (.mk ?_)
  refine jn h0 [2, 3, 4] [1, 2] (fun (a : Unit) (k : Unit) => []) (fun a k => []) ⟨fun j9 h1 => ?_, ?_⟩
  refine tc tbk 1 (.mk ?_)
  refine lp (fun n (a : Unit) => d_ref14_samePapers_L0 a1 n) () () h1 [2, 3, 4, 5] [1, 2] (fun (a : Unit) (k : Unit) => []) (fun a k => []) (fun _ => rfl) ⟨leA, ?_⟩
  rintro n _ _ hm h1
  replace h1 : d_ref14_samePapers_L0 a1 (n + 1) = some _ := h1
  rw [d_ref14_samePapers_L0] at h1
  refine tc tbk 6 (.mk ?_)
  refine sY (yv_len_sl rfl Tryz.underlying27 rfl (lst_len _)) ?_
  refine nb tbk h1 fun x10 h1 => ?_
  refine tr tbk 1 (.mk ?_)
  replace h1 := asrt_e h1
  obtain ⟨rfl, h1⟩ := h1
  refine tc tbk 2 (.mk ?_)
  exact lf h1 () leA
  rintro _ _ h0
  refine tc tbk 5 (.mk ?_)
  refine jn h0 [2, 3, 4] [1, 2] (fun (a : Unit) (k : Unit) => []) (fun a k => []) ⟨fun j11 h1 => ?_, ?_⟩
  refine tc tbk 1 (.mk ?_)
  refine lp (fun n (a : Unit) => d_ref14_samePapers_L1 a1 n) () () h1 [2, 3, 4, 6] [1, 2] (fun (a : Unit) (k : Unit) => []) (fun a k => []) (fun _ => rfl) ⟨leA, ?_⟩
  rintro n _ _ hm h1
  replace h1 : d_ref14_samePapers_L1 a1 (n + 1) = some _ := h1
  rw [d_ref14_samePapers_L1] at h1
  refine tc tbk 6 (.mk ?_)
  refine sY (yv_len_sl rfl Tryz.underlying28 rfl (lst_len _)) ?_
  refine nb tbk h1 fun x12 h1 => ?_
  refine tr tbk 1 (.mk ?_)
  replace h1 := asrt_e h1
  obtain ⟨rfl, h1⟩ := h1
  refine tc tbk 2 (.mk ?_)
  exact lf h1 () leA
  rintro _ _ h0
  refine tc tbk 5 (.mk ?_)
  refine jn h0 [4] [] (fun (a : Unit) (k : Unit) => []) (fun a k => []) ⟨fun j13 h1 => ?_, ?_⟩
  refine tc tbk 1 (.mk ?_)
  refine lp (fun n (a : Unit) => d_ref14_samePapers_L2 a1 n) () () h1 [2, 3, 4, 7] [1, 2] (fun (a : Unit) (k : Unit) => []) (fun a k => []) (fun _ => rfl) ⟨leA, ?_⟩
  rintro n _ _ hm h1
  replace h1 : d_ref14_samePapers_L2 a1 (n + 1) = some _ := h1
  rw [d_ref14_samePapers_L2] at h1
  refine tc tbk 6 (.mk ?_)
  refine sY (yv_len_sl rfl Tryz.underlying29 rfl (lst_len _)) ?_
  refine nb tbk h1 fun x14 h1 => ?_
  refine tr tbk 1 (.mk ?_)
  replace h1 := asrt_e h1
  obtain ⟨rfl, h1⟩ := h1
  refine tc tbk 2 (.mk ?_)
  exact lf h1 () leA
  rintro _ _ h0
  refine tc tbk 4 (.mk ?_)
  obtain rfl := nxt_e h0
  refine wR hret (rT .nil) ?_
  exact .refl _
def d_ref09_Same_L0 (a1 : List GLayer) : Nat → Option (Unit)
  | 0 => none
  | n + 1 =>
    bnd (decide (0 < (a1.length : Int))) fun x5 =>
    asrt (x5 = false) <|
    some ()
def d_ref09_Same (n : Nat) (a1 : List GLayer) (a2 : List GLayer) : Option (Bool) :=
bnd (decide ((a1.length : Int) ≠ (a2.length : Int))) fun x3 =>
asrt (x3 = false) <|
(show Option (Unit) from
d_ref09_Same_L0 a1 n).bind <| fun _ =>
some ((true : Bool))
theorem d_ref09_Same_c {n : Nat} {a1 : List GLayer} {a2 : List GLayer} {r : Bool} (h0 : d_ref09_Same n a1 a2 = some r) : PP Tryz.prog 172 [lst 3 GLayer.av a1, lst 3 GLayer.av a2] (fun y => y = boo r) := by
  unfold d_ref09_Same at h0
  refine pp_of_pc (R0 := fun y H => Cv (frzH H) y (boo r)) ?_ (fun y H hc => ⟨_, rfl, pvB r, hc⟩)
  refine pcw (c := _) Tryz.func172 rfl rfl ?_; intro Q hret hnorm
  refine tc tbk 8 (.mk ?_)
  refine sY (yv_len_sl rfl Tryz.underlying95 rfl (lst_len _)) ?_
  refine tr tbk 1 (.mk ?_)
  refine sY (yv_len_sl rfl Tryz.underlying95 rfl (lst_len _)) ?_
  refine nb tbk h0 fun x3 h0 => ?_
  refine tr tbk 1 (.mk ?_)
  replace h0 := asrt_e h0
  obtain ⟨rfl, h0⟩ := h0
  refine tc tbk 7 (.mk ?_)
  refine jn h0 [4] [] (fun (a : Unit) (k : Unit) => []) (fun a k => []) ⟨fun j4 h1 => ?_, ?_⟩
  refine tc tbk 1 (.mk ?_)
  refine lp (fun n (a : Unit) => d_ref09_Same_L0 a1 n) () () h1 [0, 1, 4, 5] [] (fun (a : Unit) (k : Unit) => []) (fun a k => []) (fun _ => rfl) ⟨leA, ?_⟩
  rintro n _ _ hm h1
  replace h1 : d_ref09_Same_L0 a1 (n + 1) = some _ := h1
  rw [d_ref09_Same_L0] at h1
  refine tc tbk 5 (.mk ?_)
  refine sY (yv_len_sl rfl Tryz.underlying95 rfl (lst_len _)) ?_
  refine nb tbk h1 fun x5 h1 => ?_
  refine tr tbk 1 (.mk ?_)
  replace h1 := asrt_e h1
  obtain ⟨rfl, h1⟩ := h1
  refine tc tbk 2 (.mk ?_)
  exact lf h1 () leA
  rintro _ _ h0
  refine tc tbk 4 (.mk ?_)
  obtain rfl := nxt_e h0
  refine wR hret (rT .nil) ?_
  exact .refl _
def d_ref11_Same (n : Nat) (a1 : GPool) (a2 : GPool) : Option (Bool) :=
(show Option (Bool) from
(d_ref09_Same n a1.Layers a2.Layers).bind fun x6 =>
cond x6 (bnd (decide (a1.Pend.a0 = a2.Pend.a0)) fun x7 =>
cond x7 (bnd (decide (a1.Pend.a1 = a2.Pend.a1)) fun x8 =>
cond x8 (bnd (decide (a1.Pend.a2 = a2.Pend.a2)) fun x9 =>
some (x9 : Bool)) (some (false : Bool))) (some (false : Bool))) (some (false : Bool))).bind <| fun y0_1 =>
some ((y0_1 : Bool))
theorem d_ref11_Same_c {n : Nat} {a1 : GPool} {a2 : GPool} {r : Bool} (h0 : d_ref11_Same n a1 a2 = some r) : PP Tryz.prog 107 [.agg (GPool.av a1), .agg (GPool.av a2)] (fun y => y = boo r) := by
  unfold d_ref11_Same at h0
  refine pp_of_pc (R0 := fun y H => Cv (frzH H) y (boo r)) ?_ (fun y H hc => ⟨_, rfl, pvB r, hc⟩)
  refine pcw (c := _) Tryz.func107 rfl rfl ?_; intro Q hret hnorm
  refine tc tbk 2 (.mk ?_)
  refine sB 1 fun v3 => ?_
  refine sB 2 fun v4 => ?_
  refine tr tbk 3 (.mk ?_)
  refine jn h0 [] [] (fun (a : Bool) (k : Unit) => [(4, boo a)]) (fun a k => []) ⟨fun j5 h1 => ?_, ?_⟩
  refine tc tbk 5 (.mk ?_)
  obtain ⟨x6, e6, h1⟩ := bind_e h1
  refine sC cal172 (d_ref09_Same_c e6) ?_
  refine tr tbk 1 (.mk ?_)
  cases x6
  replace h1 := cf h1
  refine tr tbk 28 (.mk ?_)
  exact lf h1 () leA
  replace h1 := ct h1
  refine tr tbk 1 (.mk ?_)
  refine sY (yv_to (y := .pt 1 v3 0 1) (yv_indexAddrA rfl Tryz.underlying96 sh3 rfl rfl rfl rfl rfl (by decide)) rfl) ?_
  refine tr tbk 2 (.mk ?_)
  refine sY (yv_to (y := .pt 2 v4 0 1) (yv_indexAddrA rfl Tryz.underlying96 sh3 rfl rfl rfl rfl rfl (by decide)) rfl) ?_
  refine tr tbk 1 (.mk ?_)
  refine nb tbk h1 fun x7 h1 => ?_
  refine tr tbk 2 (.mk ?_)
  cases x7
  replace h1 := cf h1
  refine tr tbk 19 (.mk ?_)
  exact lf h1 () leA
  replace h1 := ct h1
  refine tr tbk 1 (.mk ?_)
  refine sY (yv_to (y := .pt 1 v3 0 2) (yv_indexAddrA rfl Tryz.underlying96 sh3 rfl rfl rfl rfl rfl (by decide)) rfl) ?_
  refine tr tbk 2 (.mk ?_)
  refine sY (yv_to (y := .pt 2 v4 0 2) (yv_indexAddrA rfl Tryz.underlying96 sh3 rfl rfl rfl rfl rfl (by decide)) rfl) ?_
  refine tr tbk 1 (.mk ?_)
  refine nb tbk h1 fun x8 h1 => ?_
  refine tr tbk 2 (.mk ?_)
  cases x8
  replace h1 := cf h1
  refine tr tbk 10 (.mk ?_)
  exact lf h1 () leA
  replace h1 := ct h1
  refine tr tbk 1 (.mk ?_)
  refine sY (yv_to (y := .pt 1 v3 0 3) (yv_indexAddrA rfl Tryz.underlying96 sh3 rfl rfl rfl rfl rfl (by decide)) rfl) ?_
  refine tr tbk 2 (.mk ?_)
  refine sY (yv_to (y := .pt 2 v4 0 3) (yv_indexAddrA rfl Tryz.underlying96 sh3 rfl rfl rfl rfl rfl (by decide)) rfl) ?_
  refine tr tbk 1 (.mk ?_)
  refine nb tbk h1 fun x9 h1 => ?_
  refine tr tbk 3 (.mk ?_)
  exact lf h1 () leA
  rintro y0_1 _ h0
  obtain rfl := nxt_e h0
  refine wR hret (rT .nil) ?_
  exact .refl _
def d_ref14_Numbers (a1 : GRoll) : Option (A11_Int) :=
some (((⟨a1.Open, a1.Bought, a1.Landed, a1.Arrived, a1.Returned, a1.Sold, a1.Shipped, a1.SentBack, a1.Scrapped, a1.Lost, a1.Revalued⟩ : A11_Int) : A11_Int))
theorem d_ref14_Numbers_c {a1 : GRoll} {r : A11_Int} (h0 : d_ref14_Numbers a1 = some r) : PP Tryz.prog 108 [.agg (GRoll.av a1)] (fun y => y = .agg (A11_Int.av r)) := by
  unfold d_ref14_Numbers at h0
  refine pp_of_pc (R0 := fun y H => Cv (frzH H) y (.agg (A11_Int.av r))) ?_ (fun y H hc => ⟨_, rfl, (fun (a : A11_Int) => PV.agg (A11_Int.pvc a)) r, hc⟩)
  refine pcw (c := _) Tryz.func108 rfl rfl ?_; intro Q hret hnorm
  refine tc tbk 2 (.mk ?_)
  refine sB 1 fun v2 => ?_
  refine sA 2 z166 fun v3 => ?_
  refine tr tbk 25 (.mk ?_)
  refine sY (yv_buildA (cs := [int a1.Open, int a1.Bought, int a1.Landed, int a1.Arrived, int a1.Returned, int a1.Sold, int a1.Shipped, int a1.SentBack, int a1.Scrapped, int a1.Lost, int a1.Revalued]) (ps := [(0, _), (1, _), (2, _), (3, _), (4, _), (5, _), (6, _), (7, _), (8, _), (9, _), (10, _)]) rfl Tryz.underlying166 sh3 z166 rfl (.cons rfl (.cons rfl (.cons rfl (.cons rfl (.cons rfl (.cons rfl (.cons rfl (.cons rfl (.cons rfl (.cons rfl (.cons rfl .nil))))))))))) (by kernel_rfl)) ?_
  refine sS ⟨166, 11, true, true, v3, [[int a1.Open, int a1.Bought, int a1.Landed, int a1.Arrived, int a1.Returned, int a1.Sold, int a1.Shipped, int a1.SentBack, int a1.Scrapped, int a1.Lost, int a1.Revalued]]⟩ sh166 ?_
  refine tr tbk 1 (.mk ?_)
  obtain rfl := nxt_e h0
  refine wR hret (rC sh166 .nil) ?_
  exact .refl _
mutual
def d_ref14_sameEnt_L0 (a1 : GEnt) (a2 : GEnt) : Nat → Int → Option (Unit)
  | 0, _ => none
  | n + 1, y1_1 =>
    bnd (decide (y1_1 < (a1.Pools.length : Int))) fun x12 =>
    cond x12 ((ix a1.Pools y1_1).bind fun x13 =>
    (ix a2.Pools y1_1).bind fun x14 =>
    (d_ref11_Same n x13 x14).bind fun x15 =>
    bnd (!x15) fun x16 =>
    asrt (x16 = false) <|
    bnd (w64 (y1_1 + 1)) fun x17 =>
    d_ref14_sameEnt_L0 a1 a2 n (x17 : Int)) (some ())
def d_ref14_sameEnt_L1 (a1 : GEnt) (a2 : GEnt) : Nat → Int → Option (Unit)
  | 0, _ => none
  | n + 1, y3_1 =>
    bnd (decide (y3_1 < (a1.Rolls.length : Int))) fun x19 =>
    cond x19 ((ix a1.Rolls y3_1).bind fun x20 =>
    (d_ref14_Numbers x20).bind fun x21 =>
    (ix a2.Rolls y3_1).bind fun x22 =>
    (d_ref14_Numbers x22).bind fun x23 =>
    bnd (!decide ((x21 : A11_Int) = (x23 : A11_Int))) fun x24 =>
    asrt (x24 = false) <|
    bnd (w64 (y3_1 + 1)) fun x25 =>
    d_ref14_sameEnt_L1 a1 a2 n (x25 : Int)) (some ())
def d_ref14_sameEnt_L2 (a1 : GEnt) : Nat → Option (Unit)
  | 0 => none
  | n + 1 =>
    bnd (decide (0 < (a1.Ahead.length : Int))) fun x27 =>
    asrt (x27 = false) <|
    some ()
def d_ref14_sameEnt : Nat → GEnt → GEnt → Option (Bool)
  | 0, _, _ => none
  | n + 1, a1, a2 =>
    (show Option (Bool) from
    bnd (decide (a1.Now ≠ a2.Now)) fun x6 =>
    cond x6 (some (true : Bool)) (bnd (decide (a1.Closed ≠ a2.Closed)) fun x7 =>
    cond x7 (some (true : Bool)) (bnd (decide ((a1.Pools.length : Int) ≠ (a2.Pools.length : Int))) fun x8 =>
    cond x8 (some (true : Bool)) (bnd (decide ((a1.Rolls.length : Int) ≠ (a2.Rolls.length : Int))) fun x9 =>
    cond x9 (some (true : Bool)) (bnd (decide ((a1.Ahead.length : Int) ≠ (a2.Ahead.length : Int))) fun x10 =>
    some (x10 : Bool)))))).bind <| fun y0_1 =>
    asrt (y0_1 = false) <|
    (show Option (Unit) from
    d_ref14_sameEnt_L0 a1 a2 n (0 : Int)).bind <| fun _ =>
    (show Option (Unit) from
    d_ref14_sameEnt_L1 a1 a2 n (0 : Int)).bind <| fun _ =>
    (show Option (Unit) from
    d_ref14_sameEnt_L2 a1 n).bind <| fun _ =>
    (show Option (Bool) from
    (d_ref04_SameInts n a1.Bal a2.Bal).bind fun x29 =>
    cond x29 ((d_ref04_SameInts n a1.Prices a2.Prices).bind fun x30 =>
    cond x30 ((d_ref04_SameInts n a1.Down a2.Down).bind fun x31 =>
    some (x31 : Bool)) (some (false : Bool))) (some (false : Bool))).bind <| fun y7_1 =>
    some ((y7_1 : Bool))
end
theorem d_ref14_sameEnt_c {n : Nat} {a1 : GEnt} {a2 : GEnt} {r : Bool} (h0 : d_ref14_sameEnt n a1 a2 = some r) : PP Tryz.prog 62 [.agg [int a1.Now, boo a1.Closed, lst 4 GPool.av a1.Pools, lst 1 fI a1.Bal, lst 11 GRoll.av a1.Rolls, lst 1 fI a1.Prices, lst 1 fI a1.Down, lst 8 GEnt.av a1.Ahead], .agg [int a2.Now, boo a2.Closed, lst 4 GPool.av a2.Pools, lst 1 fI a2.Bal, lst 11 GRoll.av a2.Rolls, lst 1 fI a2.Prices, lst 1 fI a2.Down, lst 8 GEnt.av a2.Ahead]] (fun y => y = boo r) := by
  induction n using Nat.strongRecOn generalizing a1 a2 r with
  | ind n ih =>
    cases n with
    | zero => rw [d_ref14_sameEnt] at h0; cases h0
    | succ n =>
    have hN : n < n + 1 := Nat.lt_succ_self n
    rw [d_ref14_sameEnt] at h0
    refine pp_of_pc (R0 := fun y H => Cv (frzH H) y (boo r)) ?_ (fun y H hc => ⟨_, rfl, pvB r, hc⟩)
    refine pcw (c := _) Tryz.func62 rfl rfl ?_; intro Q hret hnorm
    refine tc tbk 2 (.mk ?_)
    refine sB 1 fun v3 => ?_
    refine sB 2 fun v4 => ?_
    refine tr tbk 4 (.mk ?_)
    refine jn h0 [2, 3, 4] [1, 2] (fun (a : Bool) (k : Unit) => [(46, boo a)]) (fun a k => []) ⟨fun j5 h1 => ?_, ?_⟩
    refine tc tbk 5 (.mk ?_)
    refine nb tbk h1 fun x6 h1 => ?_
    refine tr tbk 1 (.mk ?_)
    cases x6
    replace h1 := cf h1
    refine tr tbk 4 (.mk ?_)
    obtain ⟨x7, e7, h1⟩ := bnd_e h1
    refine sY (yv_to (y := boo x7) (yv_bneq rfl Tryz.underlying4 rfl rfl) (congrArg boo e7)) ?_
    refine tr tbk 2 (.mk ?_)
    cases x7
    replace h1 := cf h1
    refine tr tbk 2 (.mk ?_)
    refine sY (yv_len_sl rfl Tryz.underlying43 rfl (lst_len _)) ?_
    refine tr tbk 2 (.mk ?_)
    refine sY (yv_len_sl rfl Tryz.underlying43 rfl (lst_len _)) ?_
    refine nb tbk h1 fun x8 h1 => ?_
    refine tr tbk 2 (.mk ?_)
    cases x8
    replace h1 := cf h1
    refine tr tbk 2 (.mk ?_)
    refine sY (yv_len_sl rfl Tryz.underlying44 rfl (lst_len _)) ?_
    refine tr tbk 2 (.mk ?_)
    refine sY (yv_len_sl rfl Tryz.underlying44 rfl (lst_len _)) ?_
    refine nb tbk h1 fun x9 h1 => ?_
    refine tr tbk 2 (.mk ?_)
    cases x9
    replace h1 := cf h1
    refine tr tbk 2 (.mk ?_)
    refine sY (yv_len_sl rfl Tryz.underlying26 rfl (lst_len _)) ?_
    refine tr tbk 2 (.mk ?_)
    refine sY (yv_len_sl rfl Tryz.underlying26 rfl (lst_len _)) ?_
    refine nb tbk h1 fun x10 h1 => ?_
    refine tr tbk 2 (.mk ?_)
    exact lf h1 () leA
    replace h1 := ct h1
    refine tr tbk 9 (.mk ?_)
    exact lf h1 () leA
    replace h1 := ct h1
    refine tr tbk 18 (.mk ?_)
    exact lf h1 () leA
    replace h1 := ct h1
    refine tr tbk 27 (.mk ?_)
    exact lf h1 () leA
    replace h1 := ct h1
    refine tr tbk 34 (.mk ?_)
    exact lf h1 () leA
    rintro y0_1 _ h0
    replace h0 := asrt_e h0
    obtain ⟨rfl, h0⟩ := h0
    refine tc tbk 7 (.mk ?_)
    refine jn h0 [2, 3, 4] [1, 2] (fun (a : Unit) (k : Unit) => []) (fun a k => []) ⟨fun j11 h1 => ?_, ?_⟩
    refine tc tbk 1 (.mk ?_)
    refine lp (fun n (a : Int) => d_ref14_sameEnt_L0 a1 a2 n a) (0 : Int) () h1 [2, 3, 4] [1, 2] (fun (a : Int) (k : Unit) => [(5, int a)]) (fun a k => []) (fun _ => rfl) ⟨leA, ?_⟩
    rintro n y1_1 _ hm h1
    replace h1 : d_ref14_sameEnt_L0 a1 a2 (n + 1) y1_1 = some _ := h1
    replace hN := Nat.lt_trans (Nat.lt_of_succ_le hm) hN
    rw [d_ref14_sameEnt_L0] at h1
    refine tc tbk 6 (.mk ?_)
    refine sY (yv_len_sl rfl Tryz.underlying43 rfl (lst_len _)) ?_
    refine nb tbk h1 fun x12 h1 => ?_
    refine tr tbk 1 (.mk ?_)
    cases x12
    replace h1 := cf h1
    refine tc tbk 2 (.mk ?_)
    exact lf h1 () leA
    replace h1 := ct h1
    refine tc tbk 5 (.mk ?_)
    refine c_drawE [0, 1, 0, 7, 15, 0, 32, 0, 224, 480, 1023, 2047] (fun i => bif Nat.beq i 0 then ([1]) else bif Nat.beq i 1 then ([1]) else bif Nat.beq i 5 then ([2]) else bif Nat.beq i 6 then ([2]) else []) (fun i => [1, 2]) (fun i => true) [0, 1, 2, 3, 4, 5, 6, 7, 8, 9, 10, 11] mixed (by kernel_rfl) ?_; intro K hK
    refine de_pure rfl rfl rfl rfl (fun H hH => yv_fieldAddr rfl fo46_2 rfl (.pt ((hH _ (by decide)).trans rfl) rfl rfl) (.pt _ _ _ _ _)) ?_
    refine de_pure rfl rfl rfl rfl (fun H hH => yv_load rfl sh43 rfl (.pt ((hH _ (by decide)).trans rfl) rfl rfl) rfl) ?_
    refine de_pure rfl rfl rfl rfl (fun H hH => yv_move rfl rfl) ?_
    obtain ⟨x13, e13, h1⟩ := bind_e h1
    refine de_pure rfl rfl rfl rfl (fun H hH => yv_ixT rfl Tryz.underlying43 sh98 rfl rfl e13) ?_
    refine de_pure rfl rfl rfl rfl (fun H hH => yv_load rfl sh98 rfl (.pp _) rfl) ?_
    refine de_pure rfl rfl rfl rfl (fun H hH => yv_fieldAddr rfl fo46_2 rfl (.pt ((hH _ (by decide)).trans rfl) rfl rfl) (.pt _ _ _ _ _)) ?_
    refine de_pure rfl rfl rfl rfl (fun H hH => yv_load rfl sh43 rfl (.pt ((hH _ (by decide)).trans rfl) rfl rfl) rfl) ?_
    refine de_pure rfl rfl rfl rfl (fun H hH => yv_move rfl rfl) ?_
    obtain ⟨x14, e14, h1⟩ := bind_e h1
    refine de_pure rfl rfl rfl rfl (fun H hH => yv_ixT rfl Tryz.underlying43 sh98 rfl rfl e14) ?_
    refine de_pure rfl rfl rfl rfl (fun H hH => yv_load rfl sh98 rfl (.pp _) rfl) ?_
    obtain ⟨x15, e15, h1⟩ := bind_e h1
    refine de_pure rfl rfl rfl rfl (fun H hH => yv_callP rfl rfl (.cons rfl (.cons rfl .nil)) cal107 (CvL.refl _) (d_ref11_Same_c e15)) ?_
    obtain ⟨x16, e16, h1⟩ := bnd_e h1
    refine de_pure rfl rfl rfl rfl (fun H hH => yv_not rfl rfl e16) ?_
    refine de_nil (hK _ ?_)
    replace h1 := asrt_e h1
    obtain ⟨rfl, h1⟩ := h1
    refine tc tbk 5 (.mk ?_)
    refine ni tbk h1 fun x17 h1 => ?_
    refine tr tbk 2 (.mk ?_)
    exact bk x17 () h1 leA
    rintro _ _ h0
    refine tc tbk 5 (.mk ?_)
    refine jn h0 [2, 3, 4] [1, 2] (fun (a : Unit) (k : Unit) => []) (fun a k => []) ⟨fun j18 h1 => ?_, ?_⟩
    refine tc tbk 1 (.mk ?_)
    refine lp (fun n (a : Int) => d_ref14_sameEnt_L1 a1 a2 n a) (0 : Int) () h1 [2, 3, 4] [1, 2] (fun (a : Int) (k : Unit) => [(6, int a)]) (fun a k => []) (fun _ => rfl) ⟨leA, ?_⟩
    rintro n y3_1 _ hm h1
    replace h1 : d_ref14_sameEnt_L1 a1 a2 (n + 1) y3_1 = some _ := h1
    replace hN := Nat.lt_trans (Nat.lt_of_succ_le hm) hN
    rw [d_ref14_sameEnt_L1] at h1
    refine tc tbk 6 (.mk ?_)
    refine sY (yv_len_sl rfl Tryz.underlying44 rfl (lst_len _)) ?_
    refine nb tbk h1 fun x19 h1 => ?_
    refine tr tbk 1 (.mk ?_)
    cases x19
    replace h1 := cf h1
    refine tc tbk 2 (.mk ?_)
    exact lf h1 () leA
    replace h1 := ct h1
    refine tc tbk 5 (.mk ?_)
    refine c_drawE [0, 1, 0, 7, 15, 31, 0, 64, 0, 448, 960, 2047, 4095] (fun i => bif Nat.beq i 0 then ([1]) else bif Nat.beq i 1 then ([1]) else bif Nat.beq i 6 then ([2]) else bif Nat.beq i 7 then ([2]) else []) (fun i => [1, 2]) (fun i => true) [0, 1, 2, 3, 4, 5, 6, 7, 8, 9, 10, 11, 12] mixed (by kernel_rfl) ?_; intro K hK
    refine de_pure rfl rfl rfl rfl (fun H hH => yv_fieldAddr rfl fo46_4 rfl (.pt ((hH _ (by decide)).trans rfl) rfl rfl) (.pt _ _ _ _ _)) ?_
    refine de_pure rfl rfl rfl rfl (fun H hH => yv_load rfl sh44 rfl (.pt ((hH _ (by decide)).trans rfl) rfl rfl) rfl) ?_
    refine de_pure rfl rfl rfl rfl (fun H hH => yv_move rfl rfl) ?_
    obtain ⟨x20, e20, h1⟩ := bind_e h1
    refine de_pure rfl rfl rfl rfl (fun H hH => yv_ixT rfl Tryz.underlying44 sh55 rfl rfl e20) ?_
    refine de_pure rfl rfl rfl rfl (fun H hH => yv_load rfl sh55 rfl (.pp _) rfl) ?_
    obtain ⟨x21, e21, h1⟩ := bind_e h1
    refine de_pure rfl rfl rfl rfl (fun H hH => yv_callP rfl rfl (.cons rfl .nil) cal108 (CvL.refl _) (d_ref14_Numbers_c e21)) ?_
    refine de_pure rfl rfl rfl rfl (fun H hH => yv_fieldAddr rfl fo46_4 rfl (.pt ((hH _ (by decide)).trans rfl) rfl rfl) (.pt _ _ _ _ _)) ?_
    refine de_pure rfl rfl rfl rfl (fun H hH => yv_load rfl sh44 rfl (.pt ((hH _ (by decide)).trans rfl) rfl rfl) rfl) ?_
    refine de_pure rfl rfl rfl rfl (fun H hH => yv_move rfl rfl) ?_
    obtain ⟨x22, e22, h1⟩ := bind_e h1
    refine de_pure rfl rfl rfl rfl (fun H hH => yv_ixT rfl Tryz.underlying44 sh55 rfl rfl e22) ?_
    refine de_pure rfl rfl rfl rfl (fun H hH => yv_load rfl sh55 rfl (.pp _) rfl) ?_
    obtain ⟨x23, e23, h1⟩ := bind_e h1
    refine de_pure rfl rfl rfl rfl (fun H hH => yv_callP rfl rfl (.cons rfl .nil) cal108 (CvL.refl _) (d_ref14_Numbers_c e23)) ?_
    obtain ⟨x24, e24, h1⟩ := bnd_e h1
    refine de_pure rfl rfl rfl rfl (fun H hH => yv_arneq (r' := x24) rfl Tryz.underlying166 sz3 c3 (by decide) rfl rfl (.cons (.int Tryz.underlying3) sh3 (.cons (.int Tryz.underlying3) sh3 (.cons (.int Tryz.underlying3) sh3 (.cons (.int Tryz.underlying3) sh3 (.cons (.int Tryz.underlying3) sh3 (.cons (.int Tryz.underlying3) sh3 (.cons (.int Tryz.underlying3) sh3 (.cons (.int Tryz.underlying3) sh3 (.cons (.int Tryz.underlying3) sh3 (.cons (.int Tryz.underlying3) sh3 (.cons (.int Tryz.underlying3) sh3 (.nil _)))))))))))) ((congrArg Bool.not (A11_Int.eqv (x21 : A11_Int) (x23 : A11_Int))).trans e24)) ?_
    refine de_nil (hK _ ?_)
    replace h1 := asrt_e h1
    obtain ⟨rfl, h1⟩ := h1
    refine tc tbk 5 (.mk ?_)
    refine ni tbk h1 fun x25 h1 => ?_
    refine tr tbk 2 (.mk ?_)
    exact bk x25 () h1 leA
    rintro _ _ h0
    refine tc tbk 5 (.mk ?_)
    refine jn h0 [2, 3, 4] [1, 2] (fun (a : Unit) (k : Unit) => []) (fun a k => []) ⟨fun j26 h1 => ?_, ?_⟩
    refine tc tbk 1 (.mk ?_)
    refine lp (fun n (a : Unit) => d_ref14_sameEnt_L2 a1 n) () () h1 [2, 3, 4, 7] [1, 2] (fun (a : Unit) (k : Unit) => []) (fun a k => []) (fun _ => rfl) ⟨leA, ?_⟩
    rintro n _ _ hm h1
    replace h1 : d_ref14_sameEnt_L2 a1 (n + 1) = some _ := h1
    replace hN := Nat.lt_trans (Nat.lt_of_succ_le hm) hN
    rw [d_ref14_sameEnt_L2] at h1
    refine tc tbk 6 (.mk ?_)
    refine sY (yv_len_sl rfl Tryz.underlying26 rfl (lst_len _)) ?_
    refine nb tbk h1 fun x27 h1 => ?_
    refine tr tbk 1 (.mk ?_)
    replace h1 := asrt_e h1
    obtain ⟨rfl, h1⟩ := h1
    refine tc tbk 2 (.mk ?_)
    exact lf h1 () leA
    rintro _ _ h0
    refine tc tbk 1 (.mk ?_)
    refine jn h0 [] [] (fun (a : Bool) (k : Unit) => [(4, boo a)]) (fun a k => []) ⟨fun j28 h1 => ?_, ?_⟩
    refine tc tbk 5 (.mk ?_)
    obtain ⟨x29, e29, h1⟩ := bind_e h1
    refine sC cal105 (d_ref04_SameInts_c e29) ?_
    refine tr tbk 1 (.mk ?_)
    cases x29
    replace h1 := cf h1
    refine tr tbk 15 (.mk ?_)
    exact lf h1 () leA
    replace h1 := ct h1
    refine tr tbk 4 (.mk ?_)
    obtain ⟨x30, e30, h1⟩ := bind_e h1
    refine sC cal105 (d_ref04_SameInts_c e30) ?_
    refine tr tbk 2 (.mk ?_)
    cases x30
    replace h1 := cf h1
    refine tr tbk 8 (.mk ?_)
    exact lf h1 () leA
    replace h1 := ct h1
    refine tr tbk 4 (.mk ?_)
    obtain ⟨x31, e31, h1⟩ := bind_e h1
    refine sC cal105 (d_ref04_SameInts_c e31) ?_
    refine tr tbk 3 (.mk ?_)
    exact lf h1 () leA
    rintro y7_1 _ h0
    obtain rfl := nxt_e h0
    refine wR hret (rT .nil) ?_
    exact .refl _
def d_ref14_Same_L0 (a1 : GState) (a2 : GState) : Nat → Int → Option (Unit)
  | 0, _ => none
  | n + 1, y1_1 =>
    bnd (decide (y1_1 < (a1.Ents.length : Int))) fun x13 =>
    cond x13 ((ix a1.Ents y1_1).bind fun x14 =>
    (ix a2.Ents y1_1).bind fun x15 =>
    (d_ref14_sameEnt n x14 x15).bind fun x16 =>
    bnd (!x16) fun x17 =>
    asrt (x17 = false) <|
    bnd (w64 (y1_1 + 1)) fun x18 =>
    d_ref14_Same_L0 a1 a2 n (x18 : Int)) (some ())
def d_ref14_Same (n : Nat) (a1 : GState) (a2 : GState) : Option (Bool) :=
(show Option (Bool) from
(d_ref04_Same n a1.Master a2.Master).bind fun x6 =>
bnd (!x6) fun x7 =>
cond x7 (some (true : Bool)) (bnd (decide ((a1.Ents.length : Int) ≠ (a2.Ents.length : Int))) fun x8 =>
cond x8 (some (true : Bool)) (bnd (decide (a1.Done ≠ a2.Done)) fun x9 =>
cond x9 (some (true : Bool)) ((d_ref14_samePapers n a1 a2).bind fun x10 =>
bnd (!x10) fun x11 =>
some (x11 : Bool))))).bind <| fun y0_1 =>
asrt (y0_1 = false) <|
(show Option (Unit) from
d_ref14_Same_L0 a1 a2 n (0 : Int)).bind <| fun _ =>
some ((true : Bool))
theorem d_ref14_Same_c {n : Nat} {a1 : GState} {a2 : GState} {r : Bool} (h0 : d_ref14_Same n a1 a2 = some r) : PP Tryz.prog 29 [.agg (GState.av a1), .agg (GState.av a2)] (fun y => y = boo r) := by
  unfold d_ref14_Same at h0
  refine pp_of_pc (R0 := fun y H => Cv (frzH H) y (boo r)) ?_ (fun y H hc => ⟨_, rfl, pvB r, hc⟩)
  refine pcw (c := _) Tryz.func29 rfl rfl ?_; intro Q hret hnorm
  refine tc tbk 2 (.mk ?_)
  refine sB 1 fun v3 => ?_
  refine sB 2 fun v4 => ?_
  refine tr tbk 4 (.mk ?_)
  refine jn h0 [2, 3, 4] [1, 2] (fun (a : Bool) (k : Unit) => [(33, boo a)]) (fun a k => []) ⟨fun j5 h1 => ?_, ?_⟩
  refine tc tbk 5 (.mk ?_)
  obtain ⟨x6, e6, h1⟩ := bind_e h1
  refine sC cal60 (d_ref04_Same_c e6) ?_
  refine nb tbk h1 fun x7 h1 => ?_
  refine tr tbk 1 (.mk ?_)
  cases x7
  replace h1 := cf h1
  refine tr tbk 2 (.mk ?_)
  refine sY (yv_len_sl rfl Tryz.underlying26 rfl (lst_len _)) ?_
  refine tr tbk 2 (.mk ?_)
  refine sY (yv_len_sl rfl Tryz.underlying26 rfl (lst_len _)) ?_
  refine nb tbk h1 fun x8 h1 => ?_
  refine tr tbk 2 (.mk ?_)
  cases x8
  replace h1 := cf h1
  refine tr tbk 4 (.mk ?_)
  refine nb tbk h1 fun x9 h1 => ?_
  refine tr tbk 2 (.mk ?_)
  cases x9
  replace h1 := cf h1
  refine tr tbk 2 (.mk ?_)
  obtain ⟨x10, e10, h1⟩ := bind_e h1
  refine sC cal61 (d_ref14_samePapers_c e10) ?_
  refine nb tbk h1 fun x11 h1 => ?_
  refine tr tbk 2 (.mk ?_)
  exact lf h1 () leA
  replace h1 := ct h1
  refine tr tbk 6 (.mk ?_)
  exact lf h1 () leA
  replace h1 := ct h1
  refine tr tbk 13 (.mk ?_)
  exact lf h1 () leA
  replace h1 := ct h1
  refine tr tbk 22 (.mk ?_)
  exact lf h1 () leA
  rintro y0_1 _ h0
  replace h0 := asrt_e h0
  obtain ⟨rfl, h0⟩ := h0
  refine tc tbk 7 (.mk ?_)
  refine jn h0 [4] [] (fun (a : Unit) (k : Unit) => []) (fun a k => []) ⟨fun j12 h1 => ?_, ?_⟩
  refine tc tbk 1 (.mk ?_)
  refine lp (fun n (a : Int) => d_ref14_Same_L0 a1 a2 n a) (0 : Int) () h1 [2, 3, 4] [1, 2] (fun (a : Int) (k : Unit) => [(5, int a)]) (fun a k => []) (fun _ => rfl) ⟨leA, ?_⟩
  rintro n y1_1 _ hm h1
  replace h1 : d_ref14_Same_L0 a1 a2 (n + 1) y1_1 = some _ := h1
  rw [d_ref14_Same_L0] at h1
  refine tc tbk 6 (.mk ?_)
  refine sY (yv_len_sl rfl Tryz.underlying26 rfl (lst_len _)) ?_
  refine nb tbk h1 fun x13 h1 => ?_
  refine tr tbk 1 (.mk ?_)
  cases x13
  replace h1 := cf h1
  refine tc tbk 2 (.mk ?_)
  exact lf h1 () leA
  replace h1 := ct h1
  refine tc tbk 5 (.mk ?_)
  refine c_drawE [0, 1, 0, 7, 15, 0, 32, 0, 224, 480, 1023, 2047] (rl [(0, [1]), (1, [1]), (5, [2]), (6, [2])] []) (fun i => [1, 2]) (fun i => true) [0, 1, 2, 3, 4, 5, 6, 7, 8, 9, 10, 11] mixed (by kernel_rfl) ?_; intro K hK
  refine eF fo31_1 ?_
  refine eL sh26 ?_
  refine eM ?_
  obtain ⟨x14, e14, h1⟩ := bind_e h1
  refine eP (fun H hH => yv_to (y := .pp [int x14.Now, boo x14.Closed, lst 4 GPool.av x14.Pools, lst 1 fI x14.Bal, lst 11 GRoll.av x14.Rolls, lst 1 fI x14.Prices, lst 1 fI x14.Down, lst 8 GEnt.av x14.Ahead]) (yv_ixT rfl Tryz.underlying26 sh46 rfl rfl e14) (congrArg AV.pp (GEnt.av_eq x14))) ?_
  refine eP (fun H hH => yv_load rfl sh46 rfl (.pp _) rfl) ?_
  refine eF fo31_1 ?_
  refine eL sh26 ?_
  refine eM ?_
  obtain ⟨x15, e15, h1⟩ := bind_e h1
  refine eP (fun H hH => yv_to (y := .pp [int x15.Now, boo x15.Closed, lst 4 GPool.av x15.Pools, lst 1 fI x15.Bal, lst 11 GRoll.av x15.Rolls, lst 1 fI x15.Prices, lst 1 fI x15.Down, lst 8 GEnt.av x15.Ahead]) (yv_ixT rfl Tryz.underlying26 sh46 rfl rfl e15) (congrArg AV.pp (GEnt.av_eq x15))) ?_
  refine eP (fun H hH => yv_load rfl sh46 rfl (.pp _) rfl) ?_
  obtain ⟨x16, e16, h1⟩ := bind_e h1
  refine eP (fun H hH => yv_callP rfl rfl (.cons rfl (.cons rfl .nil)) cal62 (CvL.refl _) (d_ref14_sameEnt_c e16)) ?_
  obtain ⟨x17, e17, h1⟩ := bnd_e h1
  refine eP (fun H hH => yv_not rfl rfl e17) ?_
  refine de_nil (hK _ ?_)
  replace h1 := asrt_e h1
  obtain ⟨rfl, h1⟩ := h1
  refine tc tbk 5 (.mk ?_)
  refine ni tbk h1 fun x18 h1 => ?_
  refine tr tbk 2 (.mk ?_)
  exact bk x18 () h1 leA
  rintro _ _ h0
  refine tc tbk 4 (.mk ?_)
  obtain rfl := nxt_e h0
  refine wR hret (rT .nil) ?_
  exact .refl _
def d_law23_awake (n : Nat)  : Option (Bool) :=
(d_law00_Master n 6).bind fun x1 =>
(d_law00_State n x1 []).bind fun x2 =>
(d_close_Close n x2 0).bind fun x4 =>
(d_close_Close n x4.1 0).bind fun x6 =>
(d_close_Reopen n x4.1 0).bind fun x8 =>
(d_close_Next n x4.1 0).bind fun x10 =>
(d_close_Next n x8.1 0).bind fun x12 =>
(show Option (Bool) from
bnd (decide (x4.2 = 0)) fun x15 =>
cond x15 (bnd (decide (x6.2 = 7)) fun x16 =>
cond x16 (bnd (decide (x8.2 = 0)) fun x17 =>
cond x17 ((d_ref14_Same n x8.1 x2).bind fun x18 =>
cond x18 (bnd (decide (x10.2 = 0)) fun x19 =>
cond x19 (bnd (decide ((x10.1.Ents.length : Int) = 2)) fun x20 =>
cond x20 ((ix x10.1.Ents 0).bind fun x21 =>
bnd (decide (x21.Now = 2)) fun x22 =>
cond x22 ((ix x10.1.Ents 0).bind fun x23 =>
bnd (!x23.Closed) fun x24 =>
cond x24 (bnd (decide (x12.2 = 8)) fun x25 =>
some (x25 : Bool)) (some (false : Bool))) (some (false : Bool))) (some (false : Bool))) (some (false : Bool))) (some (false : Bool))) (some (false : Bool))) (some (false : Bool))) (some (false : Bool))).bind <| fun y0_1 =>
some ((y0_1 : Bool))
theorem d_law23_awake_c {n : Nat}  {r : Bool} (h0 : d_law23_awake n  = some r) : PP Tryz.prog 15 [] (fun y => y = boo r) := by
  unfold d_law23_awake at h0
  refine pp_of_pc (R0 := fun y H => Cv (frzH H) y (boo r)) ?_ (fun y H hc => ⟨_, rfl, pvB r, hc⟩)
  refine pcw (c := _) Tryz.func15 rfl rfl ?_; intro Q hret hnorm
  refine tc tbk 6 (.mk ?_)
  obtain ⟨x1, e1, h0⟩ := bind_e h0
  refine sC cal20 (d_law00_Master_c e1) ?_
  obtain ⟨x2, e2, h0⟩ := bind_e h0
  refine sY (yv_callP rfl rfl (.cons rfl (.cons rfl .nil)) cal7 (.cons (.refl _) (.cons (.nil _) .nil)) (d_law00_State_c e2)) ?_
  refine sA 1 z31 fun v3 => ?_
  refine sS ⟨31, 10, true, true, v3, [(GState.av x2)]⟩ sh31 ?_
  refine tr tbk 4 (.mk ?_)
  obtain ⟨x4, e4, h0⟩ := bind_e h0
  refine sC cal23 (d_close_Close_c e4) ?_
  refine tr tbk 3 (.mk ?_)
  refine sA 2 z31 fun v5 => ?_
  refine sS ⟨31, 10, true, true, v5, [(GState.av x4.1)]⟩ sh31 ?_
  refine tr tbk 5 (.mk ?_)
  obtain ⟨x6, e6, h0⟩ := bind_e h0
  refine sC cal23 (d_close_Close_c e6) ?_
  refine tr tbk 3 (.mk ?_)
  refine sA 3 z31 fun v7 => ?_
  refine sS ⟨31, 10, true, true, v7, [(GState.av x6.1)]⟩ sh31 ?_
  refine tr tbk 5 (.mk ?_)
  obtain ⟨x8, e8, h0⟩ := bind_e h0
  refine sC cal24 (d_close_Reopen_c e8) ?_
  refine tr tbk 3 (.mk ?_)
  refine sA 4 z31 fun v9 => ?_
  refine sS ⟨31, 10, true, true, v9, [(GState.av x8.1)]⟩ sh31 ?_
  refine tr tbk 5 (.mk ?_)
  obtain ⟨x10, e10, h0⟩ := bind_e h0
  refine sC cal25 (d_close_Next_c e10) ?_
  refine tr tbk 3 (.mk ?_)
  refine sA 5 z31 fun v11 => ?_
  refine sS ⟨31, 10, true, true, v11, [(GState.av x10.1)]⟩ sh31 ?_
  refine tr tbk 5 (.mk ?_)
  obtain ⟨x12, e12, h0⟩ := bind_e h0
  refine sC cal25 (d_close_Next_c e12) ?_
  refine tr tbk 3 (.mk ?_)
  refine sA 6 z31 fun v13 => ?_
  refine sS ⟨31, 10, true, true, v13, [(GState.av x12.1)]⟩ sh31 ?_
  refine tr tbk 3 (.mk ?_)
  refine jn h0 [] [] (fun (a : Bool) (k : Unit) => [(0, boo a)]) (fun a k => []) ⟨fun j14 h1 => ?_, ?_⟩
  refine tc tbk 2 (.mk ?_)
  refine nb tbk h1 fun x15 h1 => ?_
  refine tr tbk 1 (.mk ?_)
  cases x15
  replace h1 := cf h1
  refine tr tbk 44 (.mk ?_)
  exact lf h1 () leA
  replace h1 := ct h1
  refine tr tbk 1 (.mk ?_)
  refine nb tbk h1 fun x16 h1 => ?_
  refine tr tbk 2 (.mk ?_)
  cases x16
  replace h1 := cf h1
  refine tr tbk 40 (.mk ?_)
  exact lf h1 () leA
  replace h1 := ct h1
  refine tr tbk 1 (.mk ?_)
  refine nb tbk h1 fun x17 h1 => ?_
  refine tr tbk 2 (.mk ?_)
  cases x17
  replace h1 := cf h1
  refine tr tbk 36 (.mk ?_)
  exact lf h1 () leA
  replace h1 := ct h1
  refine tr tbk 2 (.mk ?_)
  obtain ⟨x18, e18, h1⟩ := bind_e h1
  refine sC cal29 (d_ref14_Same_c e18) ?_
  refine tr tbk 2 (.mk ?_)
  cases x18
  replace h1 := cf h1
  refine tr tbk 31 (.mk ?_)
  exact lf h1 () leA
  replace h1 := ct h1
  refine tr tbk 1 (.mk ?_)
  refine nb tbk h1 fun x19 h1 => ?_
  refine tr tbk 2 (.mk ?_)
  cases x19
  replace h1 := cf h1
  refine tr tbk 27 (.mk ?_)
  exact lf h1 () leA
  replace h1 := ct h1
  refine tr tbk 2 (.mk ?_)
  refine sY (yv_len_sl rfl Tryz.underlying26 rfl (lst_len _)) ?_
  refine nb tbk h1 fun x20 h1 => ?_
  refine tr tbk 2 (.mk ?_)
  cases x20
  replace h1 := cf h1
  refine tr tbk 21 (.mk ?_)
  exact lf h1 () leA
  replace h1 := ct h1
  refine tr tbk 2 (.mk ?_)
  obtain ⟨x21, e21, h1⟩ := bind_e h1
  refine sY (yv_to (y := .pp [int x21.Now, boo x21.Closed, lst 4 GPool.av x21.Pools, lst 1 fI x21.Bal, lst 11 GRoll.av x21.Rolls, lst 1 fI x21.Prices, lst 1 fI x21.Down, lst 8 GEnt.av x21.Ahead]) (yv_ixT rfl Tryz.underlying26 sh46 rfl rfl e21) (congrArg AV.pp (GEnt.av_eq x21))) ?_
  refine tr tbk 2 (.mk ?_)
  refine nb tbk h1 fun x22 h1 => ?_
  refine tr tbk 2 (.mk ?_)
  cases x22
  replace h1 := cf h1
  refine tr tbk 13 (.mk ?_)
  exact lf h1 () leA
  replace h1 := ct h1
  refine tr tbk 2 (.mk ?_)
  obtain ⟨x23, e23, h1⟩ := bind_e h1
  refine sY (yv_to (y := .pp [int x23.Now, boo x23.Closed, lst 4 GPool.av x23.Pools, lst 1 fI x23.Bal, lst 11 GRoll.av x23.Rolls, lst 1 fI x23.Prices, lst 1 fI x23.Down, lst 8 GEnt.av x23.Ahead]) (yv_ixT rfl Tryz.underlying26 sh46 rfl rfl e23) (congrArg AV.pp (GEnt.av_eq x23))) ?_
  refine tr tbk 2 (.mk ?_)
  refine nb tbk h1 fun x24 h1 => ?_
  refine tr tbk 2 (.mk ?_)
  cases x24
  replace h1 := cf h1
  refine tr tbk 5 (.mk ?_)
  exact lf h1 () leA
  replace h1 := ct h1
  refine tr tbk 1 (.mk ?_)
  refine nb tbk h1 fun x25 h1 => ?_
  refine tr tbk 3 (.mk ?_)
  exact lf h1 () leA
  rintro y0_1 _ h0
  obtain rfl := nxt_e h0
  refine wR hret (rT .nil) ?_
  exact .refl _
def d_law23_CloseReturns_L0 (x4 : Int) (x5 : Int) (x7 : Int) : Nat → Int → GState → Option (GState)
  | 0, _, _ => none
  | n + 1, y0_1, y0_2 =>
    bnd (decide (y0_1 < 6)) fun x12 =>
    cond x12 ((ix ([(⟨1, 0, 0, 0, 0, 10, x4, 0, []⟩ : GOp), (⟨1, 0, 0, 0, 0, 10, x5, 0, []⟩ : GOp), (⟨4, 0, 0, 0, 0, x7, 5, 0, []⟩ : GOp), (⟨14, 0, 0, 0, 0, 0, 0, 0, []⟩ : GOp), (⟨16, 0, 0, 0, 0, 0, 0, 0, []⟩ : GOp), (⟨5, 0, 0, 0, 0, x7, 5, 0, []⟩ : GOp)] : List GOp) y0_1).bind fun x13 =>
    (d_close_Step n y0_2 x13).bind fun x15 =>
    bnd (decide (x15.2 ≠ 0)) fun x17 =>
    asrt (x17 = false) <|
    bnd (w64 (y0_1 + 1)) fun x18 =>
    d_law23_CloseReturns_L0 x4 x5 x7 n (x18 : Int) (x15.1 : GState)) (some (y0_2 : GState))
def d_law23_CloseReturns (n : Nat) (a1 : Int) (a2 : Int) (a3 : Int) : Option (Bool) :=
(d_law00_Place a1 1000).bind fun x4 =>
(d_law00_Place a2 1000).bind fun x5 =>
(d_law00_Place a3 20).bind fun x6 =>
bnd (w64 (1 + x6)) fun x7 =>
(d_ref04_Start n (⟨1, 2, ([1] : List Int), ([([3] : List Int)] : List (List Int)), ([([0] : List Int)] : List (List Int))⟩ : GMaster)).bind fun x9 =>
(show Option (GState) from
d_law23_CloseReturns_L0 x4 x5 x7 n (0 : Int) (x9.1 : GState)).bind <| fun y1_1 =>
(d_ref14_Worth n y1_1 0 0).bind fun x19 =>
(show Option (Bool) from
bnd (decide ((y1_1.Ents.length : Int) = 1)) fun x22 =>
cond x22 (bnd (decide (x19.Qty = 20)) fun x23 =>
cond x23 (bnd (w64 (x4 + x5)) fun x24 =>
bnd (decide (x19.Value = x24)) fun x25 =>
cond x25 ((ix y1_1.Ents 0).bind fun x26 =>
(ix x26.Bal 5).bind fun x27 =>
bnd (decide (x27 = 0)) fun x28 =>
cond x28 ((ix y1_1.Ents 0).bind fun x29 =>
(ix x29.Rolls 0).bind fun x30 =>
bnd (w64 (x4 + x5)) fun x31 =>
bnd (w64 (x31 * x7)) fun x32 =>
bnd (w64 (x32.tdiv 20)) fun x33 =>
bnd (decide (x30.Returned = x33)) fun x34 =>
cond x34 ((ix y1_1.Ents 0).bind fun x35 =>
(ix x35.Rolls 0).bind fun x36 =>
bnd (w64 (x4 + x5)) fun x37 =>
bnd (w64 (x4 + x5)) fun x38 =>
bnd (w64 (x38 * x7)) fun x39 =>
bnd (w64 (x39.tdiv 20)) fun x40 =>
bnd (w64 (x37 - x40)) fun x41 =>
bnd (decide (x36.Open = x41)) fun x42 =>
cond x42 ((d_law23_awake n).bind fun x43 =>
some (x43 : Bool)) (some (false : Bool))) (some (false : Bool))) (some (false : Bool))) (some (false : Bool))) (some (false : Bool))) (some (false : Bool))).bind <| fun y2_1 =>
some ((y2_1 : Bool))
theorem d_law23_CloseReturns_c {n : Nat} {a1 : Int} {a2 : Int} {a3 : Int} {r : Bool} (h0 : d_law23_CloseReturns n a1 a2 a3 = some r) : PP Tryz.prog 6 [int a1, int a2, int a3] (fun y => y = boo r) := by
  unfold d_law23_CloseReturns at h0
  refine pp_of_pc (R0 := fun y H => Cv (frzH H) y (boo r)) ?_ (fun y H hc => ⟨_, rfl, pvB r, hc⟩)
  refine pcw (c := _) Tryz.func6 rfl rfl ?_; intro Q hret hnorm
  refine tc tbk 7 (.mk ?_)
  obtain ⟨x4, e4, h0⟩ := bind_e h0
  refine sC cal9 (d_law00_Place_c e4) ?_
  refine tr tbk 1 (.mk ?_)
  obtain ⟨x5, e5, h0⟩ := bind_e h0
  refine sC cal9 (d_law00_Place_c e5) ?_
  refine tr tbk 6 (.mk ?_)
  obtain ⟨x6, e6, h0⟩ := bind_e h0
  refine sC cal9 (d_law00_Place_c e6) ?_
  refine ni tbk h0 fun x7 h0 => ?_
  refine tr tbk 4 (.mk ?_)
  refine sY (yv_to (y := lst 1 fI ([1] : List Int)) (yv_buildSlice (ps := [(0, _)]) (rows := [[int 1]]) rfl Tryz.underlying22 bz3 (.cons rfl .nil) (by kernel_rfl) rfl rfl rfl) rfl) ?_
  refine sY (yv_to (y := lst 1 fI ([3] : List Int)) (yv_buildSlice (ps := [(0, _)]) (rows := [[int 3]]) rfl Tryz.underlying22 bz3 (.cons rfl .nil) (by kernel_rfl) rfl rfl rfl) rfl) ?_
  refine sY (yv_to (y := lst 1 (fL 1 fI) ([([3] : List Int)] : List (List Int))) (yv_buildSlice (ps := [(0, _)]) (rows := [[lst 1 fI ([3] : List Int)]]) rfl Tryz.underlying23 bz22 (.cons rfl .nil) (by kernel_rfl) rfl rfl rfl) rfl) ?_
  refine sY (yv_to (y := lst 1 fI ([0] : List Int)) (yv_buildSlice (ps := [(0, _)]) (rows := [[int 0]]) rfl Tryz.underlying22 bz3 (.cons rfl .nil) (by kernel_rfl) rfl rfl rfl) rfl) ?_
  refine sY (yv_to (y := lst 1 (fL 1 fI) ([([0] : List Int)] : List (List Int))) (yv_buildSlice (ps := [(0, _)]) (rows := [[lst 1 fI ([0] : List Int)]]) rfl Tryz.underlying23 bz22 (.cons rfl .nil) (by kernel_rfl) rfl rfl rfl) rfl) ?_
  refine sY (yv_build (cs := [int 1, int 2, lst 1 fI ([1] : List Int), lst 1 (fL 1 fI) ([([3] : List Int)] : List (List Int)), lst 1 (fL 1 fI) ([([0] : List Int)] : List (List Int))]) (ps := [(0, _), (1, _), (2, _), (3, _), (4, _)]) rfl pl25 z25 rfl (.cons rfl (.cons rfl (.cons rfl (.cons rfl (.cons rfl .nil))))) (by kernel_rfl)) ?_
  refine sA 1 z25 fun v8 => ?_
  refine sS ⟨25, 5, true, true, v8, [[int 1, int 2, lst 1 fI ([1] : List Int), lst 1 (fL 1 fI) ([([3] : List Int)] : List (List Int)), lst 1 (fL 1 fI) ([([0] : List Int)] : List (List Int))]]⟩ sh25 ?_
  refine tr tbk 4 (.mk ?_)
  obtain ⟨x9, e9, h0⟩ := bind_e h0
  refine sC cal11 (d_ref04_Start_c e9) ?_
  refine tr tbk 3 (.mk ?_)
  refine sA 2 z31 fun v10 => ?_
  refine sS ⟨31, 10, true, true, v10, [(GState.av x9.1)]⟩ sh31 ?_
  refine tr tbk 6 (.mk ?_)
  refine sY (yv_build (cs := [int 1, int 0, int 0, int 0, int 0, int 10, int x4, int 0, .sc (.slice none 0 0)]) (ps := [(0, _), (5, _), (6, _)]) rfl pl37 z37 rfl (.cons rfl (.cons rfl (.cons rfl .nil))) (by kernel_rfl)) ?_
  refine tr tbk 1 (.mk ?_)
  refine sY (yv_build (cs := [int 1, int 0, int 0, int 0, int 0, int 10, int x5, int 0, .sc (.slice none 0 0)]) (ps := [(0, _), (5, _), (6, _)]) rfl pl37 z37 rfl (.cons rfl (.cons rfl (.cons rfl .nil))) (by kernel_rfl)) ?_
  refine tr tbk 1 (.mk ?_)
  refine sY (yv_build (cs := [int 4, int 0, int 0, int 0, int 0, int x7, int 5, int 0, .sc (.slice none 0 0)]) (ps := [(0, _), (5, _), (6, _)]) rfl pl37 z37 rfl (.cons rfl (.cons rfl (.cons rfl .nil))) (by kernel_rfl)) ?_
  refine sY (yv_build (cs := [int 14, int 0, int 0, int 0, int 0, int 0, int 0, int 0, .sc (.slice none 0 0)]) (ps := [(0, _)]) rfl pl37 z37 rfl (.cons rfl .nil) (by kernel_rfl)) ?_
  refine sY (yv_build (cs := [int 16, int 0, int 0, int 0, int 0, int 0, int 0, int 0, .sc (.slice none 0 0)]) (ps := [(0, _)]) rfl pl37 z37 rfl (.cons rfl .nil) (by kernel_rfl)) ?_
  refine tr tbk 1 (.mk ?_)
  refine sY (yv_build (cs := [int 5, int 0, int 0, int 0, int 0, int x7, int 5, int 0, .sc (.slice none 0 0)]) (ps := [(0, _), (5, _), (6, _)]) rfl pl37 z37 rfl (.cons rfl (.cons rfl (.cons rfl .nil))) (by kernel_rfl)) ?_
  refine sY (yv_buildA (cs := [int 1, int 0, int 0, int 0, int 0, int 10, int x4, int 0, .sc (.slice none 0 0), int 1, int 0, int 0, int 0, int 0, int 10, int x5, int 0, .sc (.slice none 0 0), int 4, int 0, int 0, int 0, int 0, int x7, int 5, int 0, .sc (.slice none 0 0), int 14, int 0, int 0, int 0, int 0, int 0, int 0, int 0, .sc (.slice none 0 0), int 16, int 0, int 0, int 0, int 0, int 0, int 0, int 0, .sc (.slice none 0 0), int 5, int 0, int 0, int 0, int 0, int x7, int 5, int 0, .sc (.slice none 0 0)]) (ps := [(0, _), (1, _), (2, _), (3, _), (4, _), (5, _)]) rfl Tryz.underlying60 sh37 z60 rfl (.cons rfl (.cons rfl (.cons rfl (.cons rfl (.cons rfl (.cons rfl .nil)))))) (by kernel_rfl)) ?_
  refine tr tbk 2 (.mk ?_)
  refine jn h0 [6, 7, 8, 9, 11] [] (fun (a : GState) (k : Unit) => []) (fun a k => [(2, ⟨31, 10, true, true, v10, [(GState.av a)]⟩)]) ⟨fun j11 h1 => ?_, ?_⟩
  refine tc tbk 1 (.mk ?_)
  refine lp (fun n (a : Int × GState) => d_law23_CloseReturns_L0 x4 x5 x7 n a.1 a.2) ((0 : Int), (x9.1 : GState)) () h1 [6, 7, 8, 9, 11] [] (fun (a : Int × GState) (k : Unit) => [(46, .agg [int 1, int 0, int 0, int 0, int 0, int 10, int x4, int 0, lst 1 fI [], int 1, int 0, int 0, int 0, int 0, int 10, int x5, int 0, lst 1 fI [], int 4, int 0, int 0, int 0, int 0, int x7, int 5, int 0, lst 1 fI [], int 14, int 0, int 0, int 0, int 0, int 0, int 0, int 0, lst 1 fI [], int 16, int 0, int 0, int 0, int 0, int 0, int 0, int 0, lst 1 fI [], int 5, int 0, int 0, int 0, int 0, int x7, int 5, int 0, lst 1 fI []]), (47, int a.1)]) (fun a k => [(2, ⟨31, 10, true, true, v10, [(GState.av a.2)]⟩)]) (fun _ => rfl) ⟨leH_kn ⟨⟨_, rfl, (CvL.agg (.cons (.refl _) (.cons (.refl _) (.cons (.refl _) (.cons (.refl _) (.cons (.refl _) (.cons (.refl _) (.cons (.refl _) (.cons (.refl _) (.cons (.nil _) (.cons (.refl _) (.cons (.refl _) (.cons (.refl _) (.cons (.refl _) (.cons (.refl _) (.cons (.refl _) (.cons (.refl _) (.cons (.refl _) (.cons (.nil _) (.cons (.refl _) (.cons (.refl _) (.cons (.refl _) (.cons (.refl _) (.cons (.refl _) (.cons (.refl _) (.cons (.refl _) (.cons (.refl _) (.cons (.nil _) (.cons (.refl _) (.cons (.refl _) (.cons (.refl _) (.cons (.refl _) (.cons (.refl _) (.cons (.refl _) (.cons (.refl _) (.cons (.refl _) (.cons (.nil _) (.cons (.refl _) (.cons (.refl _) (.cons (.refl _) (.cons (.refl _) (.cons (.refl _) (.cons (.refl _) (.cons (.refl _) (.cons (.refl _) (.cons (.nil _) (.cons (.refl _) (.cons (.refl _) (.cons (.refl _) (.cons (.refl _) (.cons (.refl _) (.cons (.refl _) (.cons (.refl _) (.cons (.refl _) (.cons (.nil _) .nil)))))))))))))))))))))))))))))))))))))))))))))))))))))))⟩, ⟨_, rfl, (.refl _)⟩, ⟨_, rfl, (.refl _)⟩, ⟨_, rfl, (.refl _)⟩, ⟨_, rfl, (.refl _)⟩, ⟨_, rfl, (.refl _)⟩, ⟨_, rfl, (.refl _)⟩, trivial⟩ ⟨⟨_, rfl, (.refl _)⟩, trivial⟩, ?_⟩
  rintro n ⟨y0_1, y0_2⟩ _ hm h1
  replace h1 : d_law23_CloseReturns_L0 x4 x5 x7 (n + 1) y0_1 y0_2 = some _ := h1
  rw [d_law23_CloseReturns_L0] at h1
  refine tc tbk 2 (.mk ?_)
  refine nb tbk h1 fun x12 h1 => ?_
  refine tr tbk 2 (.mk ?_)
  cases x12
  replace h1 := cf h1
  refine tc tbk 2 (.mk ?_)
  exact lf h1 () leA
  replace h1 := ct h1
  refine tc tbk 6 (.mk ?_)
  obtain ⟨x13, e13, h1⟩ := bind_e h1
  refine sY (yv_indexAT (g := GOp.av) (l := ([(⟨1, 0, 0, 0, 0, 10, x4, 0, []⟩ : GOp), (⟨1, 0, 0, 0, 0, 10, x5, 0, []⟩ : GOp), (⟨4, 0, 0, 0, 0, x7, 5, 0, []⟩ : GOp), (⟨14, 0, 0, 0, 0, 0, 0, 0, []⟩ : GOp), (⟨16, 0, 0, 0, 0, 0, 0, 0, []⟩ : GOp), (⟨5, 0, 0, 0, 0, x7, 5, 0, []⟩ : GOp)] : List GOp)) (v := x13) (w := .agg [int x13.Kind, int x13.E, int x13.Item, int x13.Loc, int x13.To, int x13.Qty, int x13.Amount, int x13.Ref, lst 1 fI x13.Refs]) rfl Tryz.underlying60 sh37 rfl rfl rfl e13 (fun _ => rfl) (hwn rfl)) ?_
  refine sA 3 z37 fun v14 => ?_
  refine sS ⟨37, 9, true, true, v14, [[int x13.Kind, int x13.E, int x13.Item, int x13.Loc, int x13.To, int x13.Qty, int x13.Amount, int x13.Ref, lst 1 fI x13.Refs]]⟩ sh37 ?_
  refine tr tbk 5 (.mk ?_)
  obtain ⟨x15, e15, h1⟩ := bind_e h1
  refine sC cal12 (d_close_Step_c e15) ?_
  refine tr tbk 3 (.mk ?_)
  refine sA 4 z31 fun v16 => ?_
  refine sS ⟨31, 10, true, true, v16, [(GState.av x15.1)]⟩ sh31 ?_
  refine tr tbk 6 (.mk ?_)
  refine nb tbk h1 fun x17 h1 => ?_
  refine tr tbk 1 (.mk ?_)
  replace h1 := asrt_e h1
  obtain ⟨rfl, h1⟩ := h1
  refine tc tbk 4 (.mk ?_)
  refine sS ⟨31, 10, true, true, v10, [(GState.av x15.1)]⟩ sh31 ?_
  refine tr tbk 3 (.mk ?_)
  refine ni tbk h1 fun x18 h1 => ?_
  refine tr tbk 2 (.mk ?_)
  exact bk (x18, x15.1) () h1 leA
  rintro y1_1 _ h0
  refine tc tbk 3 (.mk ?_)
  obtain ⟨x19, e19, h0⟩ := bind_e h0
  refine sC cal14 (d_ref14_Worth_c e19) ?_
  refine sA 5 z57 fun v20 => ?_
  refine sS ⟨57, 3, true, true, v20, [[int x19.Qty, int x19.Value, int x19.Profit]]⟩ sh57 ?_
  refine tr tbk 2 (.mk ?_)
  refine jn h0 [] [] (fun (a : Bool) (k : Unit) => [(6, boo a)]) (fun a k => []) ⟨fun j21 h1 => ?_, ?_⟩
  refine tc tbk 3 (.mk ?_)
  refine sY (yv_len_sl rfl Tryz.underlying26 rfl (lst_len _)) ?_
  refine nb tbk h1 fun x22 h1 => ?_
  refine tr tbk 1 (.mk ?_)
  cases x22
  replace h1 := cf h1
  refine tr tbk 65 (.mk ?_)
  exact lf h1 () leA
  replace h1 := ct h1
  refine tr tbk 2 (.mk ?_)
  refine nb tbk h1 fun x23 h1 => ?_
  refine tr tbk 2 (.mk ?_)
  cases x23
  replace h1 := cf h1
  refine tr tbk 60 (.mk ?_)
  exact lf h1 () leA
  replace h1 := ct h1
  refine tr tbk 4 (.mk ?_)
  refine ni tbk h1 fun x24 h1 => ?_
  refine nb tbk h1 fun x25 h1 => ?_
  refine tr tbk 2 (.mk ?_)
  cases x25
  replace h1 := cf h1
  refine tr tbk 52 (.mk ?_)
  exact lf h1 () leA
  replace h1 := ct h1
  refine tr tbk 2 (.mk ?_)
  obtain ⟨x26, e26, h1⟩ := bind_e h1
  refine sY (yv_to (y := .pp [int x26.Now, boo x26.Closed, lst 4 GPool.av x26.Pools, lst 1 fI x26.Bal, lst 11 GRoll.av x26.Rolls, lst 1 fI x26.Prices, lst 1 fI x26.Down, lst 8 GEnt.av x26.Ahead]) (yv_ixT rfl Tryz.underlying26 sh46 rfl rfl e26) (congrArg AV.pp (GEnt.av_eq x26))) ?_
  refine tr tbk 2 (.mk ?_)
  obtain ⟨x27, e27, h1⟩ := bind_e h1
  refine sY (yv_ixT rfl Tryz.underlying22 sh3 rfl rfl e27) ?_
  refine tr tbk 1 (.mk ?_)
  refine nb tbk h1 fun x28 h1 => ?_
  refine tr tbk 2 (.mk ?_)
  cases x28
  replace h1 := cf h1
  refine tr tbk 42 (.mk ?_)
  exact lf h1 () leA
  replace h1 := ct h1
  refine tr tbk 2 (.mk ?_)
  obtain ⟨x29, e29, h1⟩ := bind_e h1
  refine sY (yv_to (y := .pp [int x29.Now, boo x29.Closed, lst 4 GPool.av x29.Pools, lst 1 fI x29.Bal, lst 11 GRoll.av x29.Rolls, lst 1 fI x29.Prices, lst 1 fI x29.Down, lst 8 GEnt.av x29.Ahead]) (yv_ixT rfl Tryz.underlying26 sh46 rfl rfl e29) (congrArg AV.pp (GEnt.av_eq x29))) ?_
  refine tr tbk 2 (.mk ?_)
  obtain ⟨x30, e30, h1⟩ := bind_e h1
  refine sY (yv_ixT rfl Tryz.underlying44 sh55 rfl rfl e30) ?_
  refine tr tbk 4 (.mk ?_)
  refine ni tbk h1 fun x31 h1 => ?_
  refine tr tbk 1 (.mk ?_)
  refine ni tbk h1 fun x32 h1 => ?_
  refine ni tbk h1 fun x33 h1 => ?_
  refine nb tbk h1 fun x34 h1 => ?_
  refine tr tbk 2 (.mk ?_)
  cases x34
  replace h1 := cf h1
  refine tr tbk 25 (.mk ?_)
  exact lf h1 () leA
  replace h1 := ct h1
  refine tr tbk 2 (.mk ?_)
  obtain ⟨x35, e35, h1⟩ := bind_e h1
  refine sY (yv_to (y := .pp [int x35.Now, boo x35.Closed, lst 4 GPool.av x35.Pools, lst 1 fI x35.Bal, lst 11 GRoll.av x35.Rolls, lst 1 fI x35.Prices, lst 1 fI x35.Down, lst 8 GEnt.av x35.Ahead]) (yv_ixT rfl Tryz.underlying26 sh46 rfl rfl e35) (congrArg AV.pp (GEnt.av_eq x35))) ?_
  refine tr tbk 2 (.mk ?_)
  obtain ⟨x36, e36, h1⟩ := bind_e h1
  refine sY (yv_ixT rfl Tryz.underlying44 sh55 rfl rfl e36) ?_
  refine tr tbk 4 (.mk ?_)
  refine ni tbk h1 fun x37 h1 => ?_
  refine tr tbk 2 (.mk ?_)
  refine ni tbk h1 fun x38 h1 => ?_
  refine tr tbk 1 (.mk ?_)
  refine ni tbk h1 fun x39 h1 => ?_
  refine ni tbk h1 fun x40 h1 => ?_
  refine ni tbk h1 fun x41 h1 => ?_
  refine nb tbk h1 fun x42 h1 => ?_
  refine tr tbk 2 (.mk ?_)
  cases x42
  replace h1 := cf h1
  refine tr tbk 4 (.mk ?_)
  exact lf h1 () leA
  replace h1 := ct h1
  obtain ⟨x43, e43, h1⟩ := bind_e h1
  refine sC cal15 (d_law23_awake_c e43) ?_
  refine tr tbk 3 (.mk ?_)
  exact lf h1 () leA
  rintro y2_1 _ h0
  obtain rfl := nxt_e h0
  refine wR hret (rT .nil) ?_
  exact .refl _
end Go.Pv
