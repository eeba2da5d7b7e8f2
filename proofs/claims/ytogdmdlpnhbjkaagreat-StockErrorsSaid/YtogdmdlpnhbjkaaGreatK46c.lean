import Derived.Test.YtogdmdlpnhbjkaaGreatK46b
set_option linter.unusedVariables false
namespace Go.Pv
open Go.Proofs
set_option maxRecDepth 10000
set_option maxHeartbeats 1000000
mutual
def d_stock_entity_L0 (a1 : GMaster) (a2 : Int) (a3 : GEnt) : Nat → Int → Option (Unit)
  | 0, _ => none
  | n + 1, y1_1 =>
    bnd (decide (y1_1 < (a3.Pools.length : Int))) fun x16 =>
    cond x16 ((ix a3.Pools y1_1).bind fun x17 =>
    (ix a1.Methods a2).bind fun x19 =>
    bnd (w64 (y1_1.tdiv 2)) fun x20 =>
    (ix x19 x20).bind fun x21 =>
    (d_pool_Right n x21 x17).bind fun x22 =>
    bnd (!x22) fun x23 =>
    asrt (x23 = false) <|
    bnd (w64 (y1_1 + 1)) fun x24 =>
    d_stock_entity_L0 a1 a2 a3 n (x24 : Int)) (some ())
def d_stock_entity_L1 (a3 : GEnt) : Nat → Int → Option (Unit)
  | 0, _ => none
  | n + 1, y3_1 =>
    bnd (decide (y3_1 < (a3.Rolls.length : Int))) fun x26 =>
    cond x26 ((ix a3.Rolls y3_1).bind fun x27 =>
    (show Option ((Unit)) from
    some ()).bind <| fun _ =>
    (d_stock_sums n (-288230376151711744) ([x27.Open, x27.Bought, x27.Landed, x27.Arrived, x27.Returned, x27.Sold, x27.Shipped, x27.SentBack, x27.Scrapped, x27.Lost, x27.Revalued] : List Int)).bind fun x31 =>
    bnd (!x31) fun x32 =>
    asrt (x32 = false) <|
    bnd (w64 (y3_1 + 1)) fun x33 =>
    d_stock_entity_L1 a3 n (x33 : Int)) (some ())
def d_stock_entity : Nat → GMaster → Int → GEnt → Option (Bool)
  | 0, _, _, _ => none
  | n + 1, a1, a2, a3 =>
    (show Option (Bool) from
    (d_stock_in a3.Now 1 a1.Periods).bind fun x7 =>
    bnd (!x7) fun x8 =>
    cond x8 (some (true : Bool)) (bnd (w64 ((a1.Weights.length : Int) * 2)) fun x9 =>
    bnd (decide ((a3.Pools.length : Int) ≠ x9)) fun x10 =>
    cond x10 (some (true : Bool)) (bnd (decide ((a3.Bal.length : Int) ≠ 17)) fun x11 =>
    cond x11 (some (true : Bool)) (bnd (decide ((a3.Rolls.length : Int) ≠ (a1.Weights.length : Int))) fun x12 =>
    cond x12 (some (true : Bool)) (bnd (decide ((a3.Prices.length : Int) ≠ (a1.Weights.length : Int))) fun x13 =>
    cond x13 (some (true : Bool)) (bnd (decide ((a3.Down.length : Int) ≠ (a1.Weights.length : Int))) fun x14 =>
    some (x14 : Bool))))))).bind <| fun y0_1 =>
    asrt (y0_1 = false) <|
    (show Option (Unit) from
    d_stock_entity_L0 a1 a2 a3 n (0 : Int)).bind <| fun _ =>
    (show Option (Unit) from
    d_stock_entity_L1 a3 n (0 : Int)).bind <| fun _ =>
    (show Option (Bool) from
    (d_stock_sums n (-288230376151711744) a3.Bal).bind fun x35 =>
    bnd (!x35) fun x36 =>
    cond x36 (some (true : Bool)) ((d_stock_sums n (-1) a3.Prices).bind fun x37 =>
    bnd (!x37) fun x38 =>
    cond x38 (some (true : Bool)) ((d_stock_sums n 0 a3.Down).bind fun x39 =>
    bnd (!x39) fun x40 =>
    cond x40 (some (true : Bool)) (bnd (decide ((a3.Ahead.length : Int) > 1)) fun x41 =>
    cond x41 (some (true : Bool)) (bnd (decide ((a3.Ahead.length : Int) = 1)) fun x42 =>
    bnd (decide (a3.Closed ≠ x42)) fun x43 =>
    some (x43 : Bool)))))).bind <| fun y7_1 =>
    asrt (y7_1 = false) <|
    (show Option (Bool) from
    bnd (!a3.Closed) fun x45 =>
    cond x45 (some (true : Bool)) ((ix a3.Ahead 0).bind fun x46 =>
    bnd (decide ((x46.Ahead.length : Int) = 0)) fun x47 =>
    cond x47 ((ix a3.Ahead 0).bind fun x48 =>
    (d_stock_entity n a1 a2 x48).bind fun x49 =>
    some (x49 : Bool)) (some (false : Bool)))).bind <| fun y8_1 =>
    some ((y8_1 : Bool))
end
theorem d_stock_entity_c {n : Nat} {a1 : GMaster} {a2 : Int} {a3 : GEnt} {r : Bool} (h0 : d_stock_entity n a1 a2 a3 = some r) : PP Tryz.prog 59 [.agg (GMaster.av a1), int a2, .agg [int a3.Now, boo a3.Closed, lst 4 GPool.av a3.Pools, lst 1 fI a3.Bal, lst 11 GRoll.av a3.Rolls, lst 1 fI a3.Prices, lst 1 fI a3.Down, lst 8 GEnt.av a3.Ahead]] (fun y => y = boo r) := by
  induction n using Nat.strongRecOn generalizing a1 a2 a3 r with
  | ind n ih =>
    cases n with
    | zero => rw [d_stock_entity] at h0; cases h0
    | succ n =>
    have hN : n < n + 1 := Nat.lt_succ_self n
    rw [d_stock_entity] at h0
    refine pp_of_pc (R0 := fun y H => Cv (frzH H) y (boo r)) ?_ (fun y H hc => ⟨_, rfl, pvB r, hc⟩)
    refine pcw (c := _) Tryz.func59 rfl rfl ?_; intro Q hret hnorm
    refine tc tbk 2 (.mk ?_)
    refine sB 1 fun v4 => ?_
    refine sB 2 fun v5 => ?_
    refine tr tbk 6 (.mk ?_)
    refine sY (yv_len_sl rfl Tryz.underlying22 rfl (lst_len _)) ?_
    refine tr tbk 4 (.mk ?_)
    refine jn h0 [1, 3, 5, 6] [1, 2] (fun (a : Bool) (k : Unit) => [(55, boo a)]) (fun a k => []) ⟨fun j6 h1 => ?_, ?_⟩
    refine tc tbk 5 (.mk ?_)
    obtain ⟨x7, e7, h1⟩ := bind_e h1
    refine sC cal41 (d_stock_in_c e7) ?_
    refine nb tbk h1 fun x8 h1 => ?_
    refine tr tbk 1 (.mk ?_)
    cases x8
    replace h1 := cf h1
    refine tr tbk 2 (.mk ?_)
    refine sY (yv_len_sl rfl Tryz.underlying61 rfl (lst_len _)) ?_
    refine tr tbk 1 (.mk ?_)
    refine ni tbk h1 fun x9 h1 => ?_
    refine nb tbk h1 fun x10 h1 => ?_
    refine tr tbk 2 (.mk ?_)
    cases x10
    replace h1 := cf h1
    refine tr tbk 2 (.mk ?_)
    refine sY (yv_len_sl rfl Tryz.underlying22 rfl (lst_len _)) ?_
    refine nb tbk h1 fun x11 h1 => ?_
    refine tr tbk 2 (.mk ?_)
    cases x11
    replace h1 := cf h1
    refine tr tbk 2 (.mk ?_)
    refine sY (yv_len_sl rfl Tryz.underlying62 rfl (lst_len _)) ?_
    refine tr tbk 1 (.mk ?_)
    refine nb tbk h1 fun x12 h1 => ?_
    refine tr tbk 2 (.mk ?_)
    cases x12
    replace h1 := cf h1
    refine tr tbk 2 (.mk ?_)
    refine sY (yv_len_sl rfl Tryz.underlying22 rfl (lst_len _)) ?_
    refine tr tbk 1 (.mk ?_)
    refine nb tbk h1 fun x13 h1 => ?_
    refine tr tbk 2 (.mk ?_)
    cases x13
    replace h1 := cf h1
    refine tr tbk 2 (.mk ?_)
    refine sY (yv_len_sl rfl Tryz.underlying22 rfl (lst_len _)) ?_
    refine tr tbk 1 (.mk ?_)
    refine nb tbk h1 fun x14 h1 => ?_
    refine tr tbk 2 (.mk ?_)
    exact lf h1 () leA
    replace h1 := ct h1
    refine tr tbk 7 (.mk ?_)
    exact lf h1 () leA
    replace h1 := ct h1
    refine tr tbk 14 (.mk ?_)
    exact lf h1 () leA
    replace h1 := ct h1
    refine tr tbk 21 (.mk ?_)
    exact lf h1 () leA
    replace h1 := ct h1
    refine tr tbk 27 (.mk ?_)
    exact lf h1 () leA
    replace h1 := ct h1
    refine tr tbk 35 (.mk ?_)
    exact lf h1 () leA
    rintro y0_1 _ h0
    replace h0 := asrt_e h0
    obtain ⟨rfl, h0⟩ := h0
    refine tc tbk 7 (.mk ?_)
    refine sY (yv_len_sl rfl Tryz.underlying61 rfl (lst_len _)) ?_
    refine tr tbk 2 (.mk ?_)
    refine jn h0 [1, 3, 5, 6] [1, 2] (fun (a : Unit) (k : Unit) => []) (fun a k => []) ⟨fun j15 h1 => ?_, ?_⟩
    refine tc tbk 1 (.mk ?_)
    refine lp (fun n (a : Int) => d_stock_entity_L0 a1 a2 a3 n a) (0 : Int) () h1 [1, 3, 5, 6, 57, 58] [1, 2] (fun (a : Int) (k : Unit) => [(59, int a)]) (fun a k => []) (fun _ => rfl) ⟨leA, ?_⟩
    rintro n y1_1 _ hm h1
    replace h1 : d_stock_entity_L0 a1 a2 a3 (n + 1) y1_1 = some _ := h1
    replace hN := Nat.lt_trans (Nat.lt_of_succ_le hm) hN
    rw [d_stock_entity_L0] at h1
    refine tc tbk 2 (.mk ?_)
    refine nb tbk h1 fun x16 h1 => ?_
    refine tr tbk 2 (.mk ?_)
    cases x16
    replace h1 := cf h1
    refine tc tbk 2 (.mk ?_)
    exact lf h1 () leA
    replace h1 := ct h1
    refine tc tbk 7 (.mk ?_)
    obtain ⟨x17, e17, h1⟩ := bind_e h1
    refine sY (yv_ixT rfl Tryz.underlying61 sh46 rfl rfl e17) ?_
    refine tr tbk 1 (.mk ?_)
    refine sA 3 z46 fun v18 => ?_
    refine tr tbk 1 (.mk ?_)
    refine rsstore rfl rfl (yl_ob (ob' := (⟨46, 4, true, true, v18, [[lst 3 GLayer.av x17.Layers, int x17.Pend.a0, int x17.Pend.a1, int x17.Pend.a2]]⟩ : AObj)) (yl_store rfl sh46 rfl rfl rfl rfl rfl rfl rfl rfl rfl) rfl) ?_
    refine tr tbk 2 (.mk ?_)
    refine c_drawE [0, 1, 0, 7, 15, 0, 32, 127, 255, 0, 1023, 2047] (fun i => bif Nat.beq i 0 then ([1]) else bif Nat.beq i 1 then ([1]) else bif Nat.beq i 9 then ([3]) else []) (fun i => [1, 3]) (fun i => true) [0, 1, 2, 3, 4, 5, 6, 7, 8, 9, 10, 11] mixed (by kernel_rfl) ?_; intro K hK
    refine de_pure rfl rfl rfl rfl (fun H hH => yv_fieldAddr rfl fo25_3 rfl (.pt ((hH _ (by decide)).trans rfl) rfl rfl) (.pt _ _ _ _ _)) ?_
    refine de_pure rfl rfl rfl rfl (fun H hH => yv_load rfl sh23 rfl (.pt ((hH _ (by decide)).trans rfl) rfl rfl) rfl) ?_
    refine de_pure rfl rfl rfl rfl (fun H hH => yv_move rfl rfl) ?_
    obtain ⟨x19, e19, h1⟩ := bind_e h1
    refine de_pure rfl rfl rfl rfl (fun H hH => yv_ixT rfl Tryz.underlying23 sh22 rfl rfl e19) ?_
    refine de_pure rfl rfl rfl rfl (fun H hH => yv_load rfl sh22 rfl (.pp _) rfl) ?_
    refine de_pure rfl rfl rfl rfl (fun H hH => yv_move rfl rfl) ?_
    obtain ⟨x20, e20, h1⟩ := bnd_e h1
    refine de_pure rfl rfl rfl rfl (fun H hH => yv_quo rfl rfl rfl (by decide) e20) ?_
    obtain ⟨x21, e21, h1⟩ := bind_e h1
    refine de_pure rfl rfl rfl rfl (fun H hH => yv_ixT rfl Tryz.underlying22 sh3 rfl rfl e21) ?_
    refine de_pure rfl rfl rfl rfl (fun H hH => yv_load rfl sh3 rfl (.pp _) rfl) ?_
    refine de_pure rfl rfl rfl rfl (fun H hH => yv_load rfl sh46 rfl (.pt ((hH _ (by decide)).trans rfl) rfl rfl) rfl) ?_
    obtain ⟨x22, e22, h1⟩ := bind_e h1
    refine de_pure rfl rfl rfl rfl (fun H hH => yv_callP rfl rfl (.cons rfl (.cons rfl .nil)) cal98 (CvL.refl _) (d_pool_Right_c e22)) ?_
    obtain ⟨x23, e23, h1⟩ := bnd_e h1
    refine de_pure rfl rfl rfl rfl (fun H hH => yv_not rfl rfl e23) ?_
    refine de_nil (hK _ ?_)
    replace h1 := asrt_e h1
    obtain ⟨rfl, h1⟩ := h1
    refine tc tbk 4 (.mk ?_)
    refine ni tbk h1 fun x24 h1 => ?_
    refine tr tbk 2 (.mk ?_)
    exact bk x24 () h1 leA
    rintro _ _ h0
    refine tc tbk 5 (.mk ?_)
    refine sY (yv_len_sl rfl Tryz.underlying62 rfl (lst_len _)) ?_
    refine tr tbk 2 (.mk ?_)
    refine jn h0 [1, 3, 5, 6] [1, 2] (fun (a : Unit) (k : Unit) => []) (fun a k => []) ⟨fun j25 h1 => ?_, ?_⟩
    refine tc tbk 1 (.mk ?_)
    refine lp (fun n (a : Int) => d_stock_entity_L1 a3 n a) (0 : Int) () h1 [1, 3, 5, 6, 78, 79] [1, 2] (fun (a : Int) (k : Unit) => [(80, int a)]) (fun a k => []) (fun _ => rfl) ⟨leA, ?_⟩
    rintro n y3_1 _ hm h1
    replace h1 : d_stock_entity_L1 a3 (n + 1) y3_1 = some _ := h1
    replace hN := Nat.lt_trans (Nat.lt_of_succ_le hm) hN
    rw [d_stock_entity_L1] at h1
    refine tc tbk 2 (.mk ?_)
    refine nb tbk h1 fun x26 h1 => ?_
    refine tr tbk 2 (.mk ?_)
    cases x26
    replace h1 := cf h1
    refine tc tbk 2 (.mk ?_)
    exact lf h1 () leA
    replace h1 := ct h1
    refine tc tbk 6 (.mk ?_)
    obtain ⟨x27, e27, h1⟩ := bind_e h1
    refine sY (yv_ixT rfl Tryz.underlying62 sh119 rfl rfl e27) ?_
    refine tr tbk 1 (.mk ?_)
    refine sA 4 z119 fun v28 => ?_
    refine rsstore rfl rfl (yl_ob (ob' := (⟨119, 11, true, true, v28, [[int x27.Open, int x27.Bought, int x27.Landed, int x27.Arrived, int x27.Returned, int x27.Sold, int x27.Shipped, int x27.SentBack, int x27.Scrapped, int x27.Lost, int x27.Revalued]]⟩ : AObj)) (yl_store rfl sh119 rfl rfl rfl rfl rfl rfl rfl rfl rfl) rfl) ?_
    refine tr tbk 4 (.mk ?_)
    obtain ⟨j29, h2, h1⟩ := bind_e h1
    refine rse (Out := fun y H' => (∃ (a : Unit) (k : Unit), a = j29 ∧ y = lst 1 fI ([x27.Open, x27.Bought, x27.Landed, x27.Arrived, x27.Returned, x27.Sold, x27.Shipped, x27.SentBack, x27.Scrapped, x27.Lost, x27.Revalued] : List Int) ∧ H' = hk [(1, ⟨25, 5, true, true, v4, [[int a1.Entities, int a1.Periods, lst 1 fI a1.Weights, lst 1 (fL 1 fI) a1.Methods, lst 1 (fL 1 fI) a1.Costs]]⟩), (2, ⟨64, 8, true, true, v5, [[int a3.Now, boo a3.Closed, lst 4 GPool.av a3.Pools, lst 1 fI a3.Bal, lst 11 GRoll.av a3.Rolls, lst 1 fI a3.Prices, lst 1 fI a3.Down, lst 8 GEnt.av a3.Ahead]]⟩), (4, ⟨119, 11, true, true, v28, [[int x27.Open, int x27.Bought, int x27.Landed, int x27.Arrived, int x27.Returned, int x27.Sold, int x27.Shipped, int x27.SentBack, int x27.Scrapped, int x27.Lost, int x27.Revalued]]⟩)])) rfl rfl rfl (yl_call rfl rfl (.cons rfl .nil) cal99 ?_) ?_
    refine pcw (c := _) Tryz.func99 rfl rfl ?_; intro Q hret hnorm
    refine tc tbk 2 (.mk ?_)
    refine sB 5 fun v30 => ?_
    refine tr tbk 26 (.mk ?_)
    refine sY (yv_to (y := lst 1 fI ([x27.Open, x27.Bought, x27.Landed, x27.Arrived, x27.Returned, x27.Sold, x27.Shipped, x27.SentBack, x27.Scrapped, x27.Lost, x27.Revalued] : List Int)) (yv_buildSlice (ps := [(0, _), (1, _), (2, _), (3, _), (4, _), (5, _), (6, _), (7, _), (8, _), (9, _), (10, _)]) (rows := [[int x27.Open], [int x27.Bought], [int x27.Landed], [int x27.Arrived], [int x27.Returned], [int x27.Sold], [int x27.Shipped], [int x27.SentBack], [int x27.Scrapped], [int x27.Lost], [int x27.Revalued]]) rfl Tryz.underlying22 bz3 (.cons rfl (.cons rfl (.cons rfl (.cons rfl (.cons rfl (.cons rfl (.cons rfl (.cons rfl (.cons rfl (.cons rfl (.cons rfl .nil))))))))))) (by kernel_rfl) rfl rfl rfl) rfl) ?_
    refine tr tbk 2 (.mk ?_)
    obtain rfl := nxt_e h2
    refine w_ret (hret _ _ (hk [(1, ⟨25, 5, true, true, v4, [[int a1.Entities, int a1.Periods, lst 1 fI a1.Weights, lst 1 (fL 1 fI) a1.Methods, lst 1 (fL 1 fI) a1.Costs]]⟩), (2, ⟨64, 8, true, true, v5, [[int a3.Now, boo a3.Closed, lst 4 GPool.av a3.Pools, lst 1 fI a3.Bal, lst 11 GRoll.av a3.Rolls, lst 1 fI a3.Prices, lst 1 fI a3.Down, lst 8 GEnt.av a3.Ahead]]⟩), (4, ⟨119, 11, true, true, v28, [[int x27.Open, int x27.Bought, int x27.Landed, int x27.Arrived, int x27.Returned, int x27.Sold, int x27.Shipped, int x27.SentBack, int x27.Scrapped, int x27.Lost, int x27.Revalued]]⟩)]) (.tmp rfl .nil) (HK.le ⟨rfl, rfl, rfl, trivial⟩) ?_)
    exact ⟨(), (), rfl, rfl, rfl⟩
    rintro y _ ⟨_, _, rfl, hc, rfl⟩
    subst hc
    obtain ⟨x31, e31, h1⟩ := bind_e h1
    refine sC cal58 (d_stock_sums_c e31) ?_
    refine nb tbk h1 fun x32 h1 => ?_
    refine tr tbk 1 (.mk ?_)
    replace h1 := asrt_e h1
    obtain ⟨rfl, h1⟩ := h1
    refine tc tbk 4 (.mk ?_)
    refine ni tbk h1 fun x33 h1 => ?_
    refine tr tbk 2 (.mk ?_)
    exact bk x33 () h1 leA
    rintro _ _ h0
    refine tc tbk 2 (.mk ?_)
    refine jn h0 [1, 3, 5, 6] [1, 2] (fun (a : Bool) (k : Unit) => [(119, boo a)]) (fun a k => []) ⟨fun j34 h1 => ?_, ?_⟩
    refine tc tbk 3 (.mk ?_)
    obtain ⟨x35, e35, h1⟩ := bind_e h1
    refine sC cal58 (d_stock_sums_c e35) ?_
    refine nb tbk h1 fun x36 h1 => ?_
    refine tr tbk 1 (.mk ?_)
    cases x36
    replace h1 := cf h1
    refine tr tbk 2 (.mk ?_)
    obtain ⟨x37, e37, h1⟩ := bind_e h1
    refine sC cal58 (d_stock_sums_c e37) ?_
    refine nb tbk h1 fun x38 h1 => ?_
    refine tr tbk 2 (.mk ?_)
    cases x38
    replace h1 := cf h1
    refine tr tbk 2 (.mk ?_)
    obtain ⟨x39, e39, h1⟩ := bind_e h1
    refine sC cal58 (d_stock_sums_c e39) ?_
    refine nb tbk h1 fun x40 h1 => ?_
    refine tr tbk 2 (.mk ?_)
    cases x40
    replace h1 := cf h1
    refine tr tbk 2 (.mk ?_)
    refine sY (yv_len_sl rfl Tryz.underlying27 rfl (lst_len _)) ?_
    refine nb tbk h1 fun x41 h1 => ?_
    refine tr tbk 2 (.mk ?_)
    cases x41
    replace h1 := cf h1
    refine tr tbk 4 (.mk ?_)
    refine sY (yv_len_sl rfl Tryz.underlying27 rfl (lst_len _)) ?_
    refine nb tbk h1 fun x42 h1 => ?_
    obtain ⟨x43, e43, h1⟩ := bnd_e h1
    refine sY (yv_to (y := boo x43) (yv_bneq rfl Tryz.underlying4 rfl rfl) (congrArg boo e43)) ?_
    refine tr tbk 2 (.mk ?_)
    exact lf h1 () leA
    replace h1 := ct h1
    refine tr tbk 9 (.mk ?_)
    exact lf h1 () leA
    replace h1 := ct h1
    refine tr tbk 15 (.mk ?_)
    exact lf h1 () leA
    replace h1 := ct h1
    refine tr tbk 21 (.mk ?_)
    exact lf h1 () leA
    replace h1 := ct h1
    refine tr tbk 27 (.mk ?_)
    exact lf h1 () leA
    rintro y7_1 _ h0
    replace h0 := asrt_e h0
    obtain ⟨rfl, h0⟩ := h0
    refine tc tbk 3 (.mk ?_)
    refine jn h0 [] [] (fun (a : Bool) (k : Unit) => [(6, boo a)]) (fun a k => []) ⟨fun j44 h1 => ?_, ?_⟩
    refine c_drawE [0, 1, 3, 7, 15, 31, 63, 127, 255, 511, 1023, 2047, 4095, 4095, 4095, 20479, 53247, 118783, 262143, 524287, 1048575, 2097151] (fun i => bif Nat.beq i 0 then ([2]) else bif Nat.beq i 1 then ([2]) else bif Nat.beq i 4 then ([2]) else bif Nat.beq i 5 then ([2]) else bif Nat.beq i 12 then ([1]) else bif Nat.beq i 14 then ([2]) else bif Nat.beq i 15 then ([2]) else []) (fun i => [1, 2]) (fun i => true) [0, 1, 2, 3, 4, 5, 6, 7, 8, 9, 10, 11, 12, 13, 14, 15, 16, 17, 18, 19, 20, 21] mixed (by kernel_rfl) ?_; intro K hK
    refine de_pure rfl rfl rfl rfl (fun H hH => yv_fieldAddr rfl fo64_1 rfl (.pt ((hH _ (by decide)).trans rfl) rfl rfl) (.pt _ _ _ _ _)) ?_
    refine de_pure rfl rfl rfl rfl (fun H hH => yv_load rfl sh4 rfl (.pt ((hH _ (by decide)).trans rfl) rfl rfl) rfl) ?_
    obtain ⟨x45, e45, h1⟩ := bnd_e h1
    refine de_pure rfl rfl rfl rfl (fun H hH => yv_not rfl rfl e45) ?_
    refine de_pure rfl rfl rfl rfl (fun H hH => yv_move rfl rfl) ?_
    cases x45
    replace h1 := cf h1
    refine de_pure rfl rfl rfl rfl (fun H hH => yv_fieldAddr rfl fo64_7 rfl (.pt ((hH _ (by decide)).trans rfl) rfl rfl) (.pt _ _ _ _ _)) ?_
    refine de_pure rfl rfl rfl rfl (fun H hH => yv_load rfl sh27 rfl (.pt ((hH _ (by decide)).trans rfl) rfl rfl) rfl) ?_
    obtain ⟨x46, e46, h1⟩ := bind_e h1
    refine de_pure rfl rfl rfl rfl (fun H hH => yv_to (y := .pp [int x46.Now, boo x46.Closed, lst 4 GPool.av x46.Pools, lst 1 fI x46.Bal, lst 11 GRoll.av x46.Rolls, lst 1 fI x46.Prices, lst 1 fI x46.Down, lst 8 GEnt.av x46.Ahead]) (yv_ixT rfl Tryz.underlying27 sh64 rfl rfl e46) (congrArg AV.pp (GEnt.av_eq x46))) ?_
    refine de_pure rfl rfl rfl rfl (fun H hH => yv_fieldAddr rfl fo64_7 rfl (.pp _) (.pp _ _)) ?_
    refine de_pure rfl rfl rfl rfl (fun H hH => yv_load rfl sh27 rfl (.pp _) rfl) ?_
    refine de_pure rfl rfl rfl rfl (fun H hH => yv_len_sl rfl Tryz.underlying27 rfl (lst_len _)) ?_
    obtain ⟨x47, e47, h1⟩ := bnd_e h1
    refine de_pure rfl rfl rfl rfl (fun H hH => yv_to (y := boo x47) (yv_eql rfl rfl rfl) (congrArg boo e47)) ?_
    refine de_pure rfl rfl rfl rfl (fun H hH => yv_move rfl rfl) ?_
    cases x47
    replace h1 := cf h1
    refine de_skip rfl rfl rfl ?_
    refine de_skip rfl rfl rfl ?_
    refine de_skip rfl rfl rfl ?_
    refine de_skip rfl rfl rfl ?_
    refine de_skip rfl rfl rfl ?_
    refine de_skip rfl rfl rfl ?_
    refine de_skip rfl rfl rfl ?_
    refine de_pure rfl rfl rfl rfl (fun H hH => yv_pick rfl rfl (fun _ => rfl) (fun _ => rfl) rfl) ?_
    refine de_pure rfl rfl rfl rfl (fun H hH => yv_pick rfl rfl (fun _ => rfl) (fun _ => rfl) rfl) ?_
    refine de_pure rfl rfl rfl rfl (fun H hH => yv_assign rfl rfl) ?_
    refine de_nil (hK _ ?_)
    exact lf h1 () leA
    replace h1 := ct h1
    refine de_pure rfl rfl rfl rfl (fun H hH => yv_load rfl sh25 rfl (.pt ((hH _ (by decide)).trans rfl) rfl rfl) rfl) ?_
    refine de_pure rfl rfl rfl rfl (fun H hH => yv_move rfl rfl) ?_
    refine de_pure rfl rfl rfl rfl (fun H hH => yv_fieldAddr rfl fo64_7 rfl (.pt ((hH _ (by decide)).trans rfl) rfl rfl) (.pt _ _ _ _ _)) ?_
    refine de_pure rfl rfl rfl rfl (fun H hH => yv_load rfl sh27 rfl (.pt ((hH _ (by decide)).trans rfl) rfl rfl) rfl) ?_
    obtain ⟨x48, e48, h1⟩ := bind_e h1
    refine de_pure rfl rfl rfl rfl (fun H hH => yv_to (y := .pp [int x48.Now, boo x48.Closed, lst 4 GPool.av x48.Pools, lst 1 fI x48.Bal, lst 11 GRoll.av x48.Rolls, lst 1 fI x48.Prices, lst 1 fI x48.Down, lst 8 GEnt.av x48.Ahead]) (yv_ixT rfl Tryz.underlying27 sh64 rfl rfl e48) (congrArg AV.pp (GEnt.av_eq x48))) ?_
    refine de_pure rfl rfl rfl rfl (fun H hH => yv_load rfl sh64 rfl (.pp _) rfl) ?_
    obtain ⟨x49, e49, h1⟩ := bind_e h1
    refine de_pure rfl rfl rfl rfl (fun H hH => yv_callP rfl rfl (.cons rfl (.cons rfl (.cons rfl .nil))) cal59 (CvL.refl _) (ih _ hN e49)) ?_
    refine de_pure rfl rfl rfl rfl (fun H hH => yv_pick rfl rfl (fun _ => rfl) (fun _ => rfl) rfl) ?_
    refine de_pure rfl rfl rfl rfl (fun H hH => yv_pick rfl rfl (fun _ => rfl) (fun _ => rfl) rfl) ?_
    refine de_pure rfl rfl rfl rfl (fun H hH => yv_assign rfl rfl) ?_
    refine de_nil (hK _ ?_)
    exact lf h1 () leA
    replace h1 := ct h1
    refine de_skip rfl rfl rfl ?_
    refine de_skip rfl rfl rfl ?_
    refine de_skip rfl rfl rfl ?_
    refine de_skip rfl rfl rfl ?_
    refine de_skip rfl rfl rfl ?_
    refine de_skip rfl rfl rfl ?_
    refine de_skip rfl rfl rfl ?_
    refine de_skip rfl rfl rfl ?_
    refine de_skip rfl rfl rfl ?_
    refine de_skip rfl rfl rfl ?_
    refine de_skip rfl rfl rfl ?_
    refine de_skip rfl rfl rfl ?_
    refine de_skip rfl rfl rfl ?_
    refine de_skip rfl rfl rfl ?_
    refine de_skip rfl rfl rfl ?_
    refine de_skip rfl rfl rfl ?_
    refine de_pure rfl rfl rfl rfl (fun H hH => yv_pick rfl rfl (fun _ => rfl) (fun _ => rfl) rfl) ?_
    refine de_pure rfl rfl rfl rfl (fun H hH => yv_assign rfl rfl) ?_
    refine de_nil (hK _ ?_)
    exact lf h1 () leA
    rintro y8_1 _ h0
    obtain rfl := nxt_e h0
    refine wR hret (rT .nil) ?_
    exact .refl _
def d_stock_Check_L0 (a1 : GState) : Nat → Int → Option (Unit)
  | 0, _ => none
  | n + 1, y1_1 =>
    bnd (decide (y1_1 < (a1.Ents.length : Int))) fun x13 =>
    cond x13 ((ix a1.Ents y1_1).bind fun x14 =>
    (d_stock_entity n a1.Master y1_1 x14).bind fun x16 =>
    bnd (!x16) fun x17 =>
    asrt (x17 = false) <|
    bnd (w64 (y1_1 + 1)) fun x18 =>
    d_stock_Check_L0 a1 n (x18 : Int)) (some ())
def d_stock_Check_L1 (a1 : GState) : Nat → Int → Option (Unit)
  | 0, _ => none
  | n + 1, y3_1 =>
    bnd (decide (y3_1 < (a1.Receipts.length : Int))) fun x20 =>
    cond x20 ((ix a1.Receipts y3_1).bind fun x21 =>
    (show Option (Bool) from
    (show Option ((Bool)) from
    (show Option (Bool) from
    bnd (w64 (a1.Master.Entities - 1)) fun x26 =>
    (d_stock_in x21.Entity 0 x26).bind fun x27 =>
    cond x27 (bnd (w64 ((a1.Master.Weights.length : Int) - 1)) fun x28 =>
    (d_stock_in x21.Item 0 x28).bind fun x29 =>
    cond x29 ((d_stock_in x21.Loc 0 1).bind fun x30 =>
    some (x30 : Bool)) (some (false : Bool))) (some (false : Bool))).bind <| fun y4_1 =>
    some (y4_1 : Bool)).bind <| fun y5_1 =>
    bnd (!y5_1) fun x31 =>
    cond x31 (some (true : Bool)) ((d_stock_sums n 0 ([x21.Qty, x21.Value, x21.Accrued] : List Int)).bind fun x32 =>
    bnd (!x32) fun x33 =>
    cond x33 (some (true : Bool)) ((d_stock_in x21.Open 0 x21.Qty).bind fun x34 =>
    bnd (!x34) fun x35 =>
    cond x35 (some (true : Bool)) ((d_stock_in x21.Back 0 x21.Qty).bind fun x36 =>
    bnd (!x36) fun x37 =>
    some (x37 : Bool))))).bind <| fun y6_1 =>
    asrt (y6_1 = false) <|
    bnd (w64 (y3_1 + 1)) fun x38 =>
    d_stock_Check_L1 a1 n (x38 : Int)) (some ())
def d_stock_Check_L2 (a1 : GState) : Nat → Int → Option (Unit)
  | 0, _ => none
  | n + 1, y8_1 =>
    bnd (decide (y8_1 < (a1.Sales.length : Int))) fun x40 =>
    cond x40 ((ix a1.Sales y8_1).bind fun x41 =>
    (show Option (Bool) from
    (show Option ((Bool)) from
    (show Option (Bool) from
    bnd (w64 (a1.Master.Entities - 1)) fun x46 =>
    (d_stock_in x41.Entity 0 x46).bind fun x47 =>
    cond x47 (bnd (w64 ((a1.Master.Weights.length : Int) - 1)) fun x48 =>
    (d_stock_in x41.Item 0 x48).bind fun x49 =>
    cond x49 ((d_stock_in x41.Loc 0 1).bind fun x50 =>
    some (x50 : Bool)) (some (false : Bool))) (some (false : Bool))).bind <| fun y9_1 =>
    some (y9_1 : Bool)).bind <| fun y10_1 =>
    bnd (!y10_1) fun x51 =>
    cond x51 (some (true : Bool)) ((d_stock_sums n 0 ([x41.Qty, x41.Cost] : List Int)).bind fun x52 =>
    bnd (!x52) fun x53 =>
    cond x53 (some (true : Bool)) ((d_stock_in x41.Back 0 x41.Qty).bind fun x54 =>
    bnd (!x54) fun x55 =>
    cond x55 (some (true : Bool)) ((d_stock_sums n (-288230376151711744) ([x41.Profit] : List Int)).bind fun x56 =>
    bnd (!x56) fun x57 =>
    cond x57 (some (true : Bool)) ((d_stock_in x41.Period 1 12).bind fun x58 =>
    bnd (!x58) fun x59 =>
    some (x59 : Bool)))))).bind <| fun y11_1 =>
    asrt (y11_1 = false) <|
    bnd (w64 (y8_1 + 1)) fun x60 =>
    d_stock_Check_L2 a1 n (x60 : Int)) (some ())
def d_stock_Check_L3 (a1 : GState) : Nat → Int → Option (Unit)
  | 0, _ => none
  | n + 1, y13_1 =>
    bnd (decide (y13_1 < (a1.Transits.length : Int))) fun x62 =>
    cond x62 ((ix a1.Transits y13_1).bind fun x63 =>
    (show Option (Bool) from
    (show Option ((Bool)) from
    (show Option (Bool) from
    bnd (w64 (a1.Master.Entities - 1)) fun x68 =>
    (d_stock_in x63.From 0 x68).bind fun x69 =>
    cond x69 (bnd (w64 ((a1.Master.Weights.length : Int) - 1)) fun x70 =>
    (d_stock_in x63.Item 0 x70).bind fun x71 =>
    cond x71 ((d_stock_in 0 0 1).bind fun x72 =>
    some (x72 : Bool)) (some (false : Bool))) (some (false : Bool))).bind <| fun y14_1 =>
    some (y14_1 : Bool)).bind <| fun y15_1 =>
    bnd (!y15_1) fun x73 =>
    cond x73 (some (true : Bool)) ((show Option ((Bool)) from
    (show Option (Bool) from
    bnd (w64 (a1.Master.Entities - 1)) fun x76 =>
    (d_stock_in x63.To 0 x76).bind fun x77 =>
    cond x77 (bnd (w64 ((a1.Master.Weights.length : Int) - 1)) fun x78 =>
    (d_stock_in x63.Item 0 x78).bind fun x79 =>
    cond x79 ((d_stock_in 0 0 1).bind fun x80 =>
    some (x80 : Bool)) (some (false : Bool))) (some (false : Bool))).bind <| fun y16_1 =>
    some (y16_1 : Bool)).bind <| fun y17_1 =>
    bnd (!y17_1) fun x81 =>
    cond x81 (some (true : Bool)) ((d_stock_sums n 0 ([x63.Qty, x63.Value] : List Int)).bind fun x82 =>
    bnd (!x82) fun x83 =>
    cond x83 (some (true : Bool)) ((d_stock_sums n (-288230376151711744) ([x63.Profit] : List Int)).bind fun x84 =>
    bnd (!x84) fun x85 =>
    some (x85 : Bool))))).bind <| fun y18_1 =>
    asrt (y18_1 = false) <|
    bnd (w64 (y13_1 + 1)) fun x86 =>
    d_stock_Check_L3 a1 n (x86 : Int)) (some ())
def d_stock_Check (n : Nat) (a1 : GState) : Option (Bool) :=
(show Option (Bool) from
(d_master_Check n a1.Master).bind fun x5 =>
bnd (!x5) fun x6 =>
cond x6 (some (true : Bool)) (bnd (decide ((a1.Ents.length : Int) ≠ a1.Master.Entities)) fun x7 =>
cond x7 (some (true : Bool)) (bnd (if (a1.Transits.length : Int) > (if (a1.Sales.length : Int) > (a1.Receipts.length : Int) then (a1.Sales.length : Int) else (a1.Receipts.length : Int)) then (a1.Transits.length : Int) else (if (a1.Sales.length : Int) > (a1.Receipts.length : Int) then (a1.Sales.length : Int) else (a1.Receipts.length : Int))) fun x8 =>
bnd (decide (x8 > 40)) fun x9 =>
cond x9 (some (true : Bool)) ((d_stock_sums n 0 ([a1.Done] : List Int)).bind fun x10 =>
bnd (!x10) fun x11 =>
some (x11 : Bool))))).bind <| fun y0_1 =>
asrt (y0_1 = false) <|
(show Option (Unit) from
d_stock_Check_L0 a1 n (0 : Int)).bind <| fun _ =>
(show Option (Unit) from
d_stock_Check_L1 a1 n (0 : Int)).bind <| fun _ =>
(show Option (Unit) from
d_stock_Check_L2 a1 n (0 : Int)).bind <| fun _ =>
(show Option (Unit) from
d_stock_Check_L3 a1 n (0 : Int)).bind <| fun _ =>
some ((true : Bool))
theorem d_stock_Check_c {n : Nat} {a1 : GState} {r : Bool} (h0 : d_stock_Check n a1 = some r) : PP Tryz.prog 31 [.agg (GState.av a1)] (fun y => y = boo r) := by
  unfold d_stock_Check at h0
  refine pp_of_pc (R0 := fun y H => Cv (frzH H) y (boo r)) ?_ (fun y H hc => ⟨_, rfl, pvB r, hc⟩)
  refine pcw (c := _) Tryz.func31 rfl rfl ?_; intro Q hret hnorm
  refine tc tbk 2 (.mk ?_)
  refine sB 1 fun v2 => ?_
  refine tr tbk 6 (.mk ?_)
  refine sA 2 z25 fun v3 => ?_
  refine sS ⟨25, 5, true, true, v3, [[int a1.Master.Entities, int a1.Master.Periods, lst 1 fI a1.Master.Weights, lst 1 (fL 1 fI) a1.Master.Methods, lst 1 (fL 1 fI) a1.Master.Costs]]⟩ sh25 ?_
  refine tr tbk 3 (.mk ?_)
  refine jn h0 [1, 2, 3] [1, 2] (fun (a : Bool) (k : Unit) => [(45, boo a)]) (fun a k => []) ⟨fun j4 h1 => ?_, ?_⟩
  refine tc tbk 2 (.mk ?_)
  obtain ⟨x5, e5, h1⟩ := bind_e h1
  refine sC cal57 (d_master_Check_c e5) ?_
  refine nb tbk h1 fun x6 h1 => ?_
  refine tr tbk 1 (.mk ?_)
  cases x6
  replace h1 := cf h1
  refine tr tbk 2 (.mk ?_)
  refine sY (yv_len_sl rfl Tryz.underlying27 rfl (lst_len _)) ?_
  refine tr tbk 2 (.mk ?_)
  refine nb tbk h1 fun x7 h1 => ?_
  refine tr tbk 2 (.mk ?_)
  cases x7
  replace h1 := cf h1
  refine tr tbk 2 (.mk ?_)
  refine sY (yv_len_sl rfl Tryz.underlying28 rfl (lst_len _)) ?_
  refine tr tbk 2 (.mk ?_)
  refine sY (yv_len_sl rfl Tryz.underlying29 rfl (lst_len _)) ?_
  refine tr tbk 2 (.mk ?_)
  refine sY (yv_len_sl rfl Tryz.underlying30 rfl (lst_len _)) ?_
  obtain ⟨x8, e8, h1⟩ := bnd_e h1
  refine sY (yv_max3 rfl rfl rfl rfl e8) ?_
  refine nb tbk h1 fun x9 h1 => ?_
  refine tr tbk 2 (.mk ?_)
  cases x9
  replace h1 := cf h1
  refine tr tbk 2 (.mk ?_)
  refine sY (yv_to (y := lst 1 fI ([a1.Done] : List Int)) (yv_buildSlice (ps := [(0, _)]) (rows := [[int a1.Done]]) rfl Tryz.underlying22 bz3 (.cons rfl .nil) (by kernel_rfl) rfl rfl rfl) rfl) ?_
  obtain ⟨x10, e10, h1⟩ := bind_e h1
  refine sC cal58 (d_stock_sums_c e10) ?_
  refine nb tbk h1 fun x11 h1 => ?_
  refine tr tbk 2 (.mk ?_)
  exact lf h1 () leA
  replace h1 := ct h1
  refine tr tbk 7 (.mk ?_)
  exact lf h1 () leA
  replace h1 := ct h1
  refine tr tbk 20 (.mk ?_)
  exact lf h1 () leA
  replace h1 := ct h1
  refine tr tbk 28 (.mk ?_)
  exact lf h1 () leA
  rintro y0_1 _ h0
  replace h0 := asrt_e h0
  obtain ⟨rfl, h0⟩ := h0
  refine tc tbk 7 (.mk ?_)
  refine sY (yv_len_sl rfl Tryz.underlying27 rfl (lst_len _)) ?_
  refine tr tbk 2 (.mk ?_)
  refine jn h0 [1, 2, 3] [1, 2] (fun (a : Unit) (k : Unit) => []) (fun a k => []) ⟨fun j12 h1 => ?_, ?_⟩
  refine tc tbk 1 (.mk ?_)
  refine lp (fun n (a : Int) => d_stock_Check_L0 a1 n a) (0 : Int) () h1 [1, 2, 3, 47, 48] [1, 2] (fun (a : Int) (k : Unit) => [(49, int a)]) (fun a k => []) (fun _ => rfl) ⟨leA, ?_⟩
  rintro n y1_1 _ hm h1
  replace h1 : d_stock_Check_L0 a1 (n + 1) y1_1 = some _ := h1
  rw [d_stock_Check_L0] at h1
  refine tc tbk 2 (.mk ?_)
  refine nb tbk h1 fun x13 h1 => ?_
  refine tr tbk 2 (.mk ?_)
  cases x13
  replace h1 := cf h1
  refine tc tbk 2 (.mk ?_)
  exact lf h1 () leA
  replace h1 := ct h1
  refine tc tbk 7 (.mk ?_)
  obtain ⟨x14, e14, h1⟩ := bind_e h1
  refine sY (yv_to (y := .pp [int x14.Now, boo x14.Closed, lst 4 GPool.av x14.Pools, lst 1 fI x14.Bal, lst 11 GRoll.av x14.Rolls, lst 1 fI x14.Prices, lst 1 fI x14.Down, lst 8 GEnt.av x14.Ahead]) (yv_ixT rfl Tryz.underlying27 sh64 rfl rfl e14) (congrArg AV.pp (GEnt.av_eq x14))) ?_
  refine tr tbk 1 (.mk ?_)
  refine sA 3 z64 fun v15 => ?_
  refine tr tbk 1 (.mk ?_)
  refine sS ⟨64, 8, true, true, v15, [[int x14.Now, boo x14.Closed, lst 4 GPool.av x14.Pools, lst 1 fI x14.Bal, lst 11 GRoll.av x14.Rolls, lst 1 fI x14.Prices, lst 1 fI x14.Down, lst 8 GEnt.av x14.Ahead]]⟩ sh64 ?_
  refine tr tbk 6 (.mk ?_)
  obtain ⟨x16, e16, h1⟩ := bind_e h1
  refine sC cal59 (d_stock_entity_c e16) ?_
  refine nb tbk h1 fun x17 h1 => ?_
  refine tr tbk 1 (.mk ?_)
  replace h1 := asrt_e h1
  obtain ⟨rfl, h1⟩ := h1
  refine tc tbk 4 (.mk ?_)
  refine ni tbk h1 fun x18 h1 => ?_
  refine tr tbk 2 (.mk ?_)
  exact bk x18 () h1 leA
  rintro _ _ h0
  refine tc tbk 10 (.mk ?_)
  refine sY (yv_len_sl rfl Tryz.underlying28 rfl (lst_len _)) ?_
  refine tr tbk 2 (.mk ?_)
  refine jn h0 [1, 2, 6] [1, 2] (fun (a : Unit) (k : Unit) => []) (fun a k => []) ⟨fun j19 h1 => ?_, ?_⟩
  refine tc tbk 1 (.mk ?_)
  refine lp (fun n (a : Int) => d_stock_Check_L1 a1 n a) (0 : Int) () h1 [1, 2, 6, 62, 63] [1, 2] (fun (a : Int) (k : Unit) => [(64, int a)]) (fun a k => []) (fun _ => rfl) ⟨leA, ?_⟩
  rintro n y3_1 _ hm h1
  replace h1 : d_stock_Check_L1 a1 (n + 1) y3_1 = some _ := h1
  rw [d_stock_Check_L1] at h1
  refine tc tbk 2 (.mk ?_)
  refine nb tbk h1 fun x20 h1 => ?_
  refine tr tbk 2 (.mk ?_)
  cases x20
  replace h1 := cf h1
  refine tc tbk 2 (.mk ?_)
  exact lf h1 () leA
  replace h1 := ct h1
  refine tc tbk 6 (.mk ?_)
  obtain ⟨x21, e21, h1⟩ := bind_e h1
  refine sY (yv_ixT rfl Tryz.underlying28 sh78 rfl rfl e21) ?_
  refine tr tbk 1 (.mk ?_)
  refine sA 4 z78 fun v22 => ?_
  refine sS ⟨78, 8, true, true, v22, [[int x21.Entity, int x21.Item, int x21.Loc, int x21.Qty, int x21.Value, int x21.Open, int x21.Accrued, int x21.Back]]⟩ sh78 ?_
  refine tr tbk 2 (.mk ?_)
  refine jn h1 [1, 2, 6, 62, 63, 64] [1, 2] (fun (a : Bool) (k : Unit) => [(103, boo a)]) (fun a k => []) ⟨fun j23 h2 => ?_, ?_⟩
  refine tc tbk 8 (.mk ?_)
  obtain ⟨j24, h3, h2⟩ := bind_e h2
  refine rse (Out := fun y H' => (∃ (a : Bool) (k : Unit), a = j24 ∧ y = boo a ∧ H' = hk [(1, ⟨32, 10, true, true, v2, [(GState.av a1)]⟩), (2, ⟨25, 5, true, true, v3, [[int a1.Master.Entities, int a1.Master.Periods, lst 1 fI a1.Master.Weights, lst 1 (fL 1 fI) a1.Master.Methods, lst 1 (fL 1 fI) a1.Master.Costs]]⟩), (4, ⟨78, 8, true, true, v22, [[int x21.Entity, int x21.Item, int x21.Loc, int x21.Qty, int x21.Value, int x21.Open, int x21.Accrued, int x21.Back]]⟩)])) rfl rfl rfl (yl_call rfl rfl (.cons rfl (.cons rfl (.cons rfl .nil))) cal60 ?_) ?_
  refine pcw (c := _) Tryz.func60 rfl rfl ?_; intro Q hret hnorm
  refine tc tbk 5 (.mk ?_)
  refine jn h3 [] [1, 2, 4] (fun (a : Bool) (k : Unit) => [(7, boo a)]) (fun a k => []) ⟨fun j25 h4 => ?_, ?_⟩
  refine tc tbk 4 (.mk ?_)
  refine ni tbk h4 fun x26 h4 => ?_
  obtain ⟨x27, e27, h4⟩ := bind_e h4
  refine sC cal41 (d_stock_in_c e27) ?_
  refine tr tbk 1 (.mk ?_)
  cases x27
  replace h4 := cf h4
  refine tr tbk 13 (.mk ?_)
  exact lf h4 () leA
  replace h4 := ct h4
  refine tr tbk 3 (.mk ?_)
  refine sY (yv_len_sl rfl Tryz.underlying22 rfl (lst_len _)) ?_
  refine ni tbk h4 fun x28 h4 => ?_
  obtain ⟨x29, e29, h4⟩ := bind_e h4
  refine sC cal41 (d_stock_in_c e29) ?_
  refine tr tbk 2 (.mk ?_)
  cases x29
  replace h4 := cf h4
  refine tr tbk 5 (.mk ?_)
  exact lf h4 () leA
  replace h4 := ct h4
  refine tr tbk 1 (.mk ?_)
  obtain ⟨x30, e30, h4⟩ := bind_e h4
  refine sC cal41 (d_stock_in_c e30) ?_
  refine tr tbk 3 (.mk ?_)
  exact lf h4 () leA
  rintro y4_1 _ h3
  obtain rfl := nxt_e h3
  refine w_ret (hret _ _ (hk [(1, ⟨32, 10, true, true, v2, [(GState.av a1)]⟩), (2, ⟨25, 5, true, true, v3, [[int a1.Master.Entities, int a1.Master.Periods, lst 1 fI a1.Master.Weights, lst 1 (fL 1 fI) a1.Master.Methods, lst 1 (fL 1 fI) a1.Master.Costs]]⟩), (4, ⟨78, 8, true, true, v22, [[int x21.Entity, int x21.Item, int x21.Loc, int x21.Qty, int x21.Value, int x21.Open, int x21.Accrued, int x21.Back]]⟩)]) (.tmp rfl .nil) (HK.le ⟨rfl, rfl, rfl, trivial⟩) ?_)
  exact ⟨y4_1, (), rfl, rfl, rfl⟩
  rintro y _ ⟨y5_1, _, rfl, hc, rfl⟩
  subst hc
  refine nb tbk h2 fun x31 h2 => ?_
  refine tr tbk 1 (.mk ?_)
  cases x31
  replace h2 := cf h2
  refine tr tbk 6 (.mk ?_)
  refine sY (yv_to (y := lst 1 fI ([x21.Qty, x21.Value, x21.Accrued] : List Int)) (yv_buildSlice (ps := [(0, _), (1, _), (2, _)]) (rows := [[int x21.Qty], [int x21.Value], [int x21.Accrued]]) rfl Tryz.underlying22 bz3 (.cons rfl (.cons rfl (.cons rfl .nil))) (by kernel_rfl) rfl rfl rfl) rfl) ?_
  obtain ⟨x32, e32, h2⟩ := bind_e h2
  refine sC cal58 (d_stock_sums_c e32) ?_
  refine nb tbk h2 fun x33 h2 => ?_
  refine tr tbk 2 (.mk ?_)
  cases x33
  replace h2 := cf h2
  refine tr tbk 4 (.mk ?_)
  obtain ⟨x34, e34, h2⟩ := bind_e h2
  refine sC cal41 (d_stock_in_c e34) ?_
  refine nb tbk h2 fun x35 h2 => ?_
  refine tr tbk 2 (.mk ?_)
  cases x35
  replace h2 := cf h2
  refine tr tbk 4 (.mk ?_)
  obtain ⟨x36, e36, h2⟩ := bind_e h2
  refine sC cal41 (d_stock_in_c e36) ?_
  refine nb tbk h2 fun x37 h2 => ?_
  refine tr tbk 2 (.mk ?_)
  exact lf h2 () leA
  replace h2 := ct h2
  refine tr tbk 8 (.mk ?_)
  exact lf h2 () leA
  replace h2 := ct h2
  refine tr tbk 16 (.mk ?_)
  exact lf h2 () leA
  replace h2 := ct h2
  refine tr tbk 27 (.mk ?_)
  exact lf h2 () leA
  rintro y6_1 _ h1
  replace h1 := asrt_e h1
  obtain ⟨rfl, h1⟩ := h1
  refine tc tbk 4 (.mk ?_)
  refine ni tbk h1 fun x38 h1 => ?_
  refine tr tbk 2 (.mk ?_)
  exact bk x38 () h1 leA
  rintro _ _ h0
  refine tc tbk 5 (.mk ?_)
  refine sY (yv_len_sl rfl Tryz.underlying29 rfl (lst_len _)) ?_
  refine tr tbk 2 (.mk ?_)
  refine jn h0 [1, 2, 6] [1, 2] (fun (a : Unit) (k : Unit) => []) (fun a k => []) ⟨fun j39 h1 => ?_, ?_⟩
  refine tc tbk 1 (.mk ?_)
  refine lp (fun n (a : Int) => d_stock_Check_L2 a1 n a) (0 : Int) () h1 [1, 2, 6, 106, 107] [1, 2] (fun (a : Int) (k : Unit) => [(108, int a)]) (fun a k => []) (fun _ => rfl) ⟨leA, ?_⟩
  rintro n y8_1 _ hm h1
  replace h1 : d_stock_Check_L2 a1 (n + 1) y8_1 = some _ := h1
  rw [d_stock_Check_L2] at h1
  refine tc tbk 2 (.mk ?_)
  refine nb tbk h1 fun x40 h1 => ?_
  refine tr tbk 2 (.mk ?_)
  cases x40
  replace h1 := cf h1
  refine tc tbk 2 (.mk ?_)
  exact lf h1 () leA
  replace h1 := ct h1
  refine tc tbk 6 (.mk ?_)
  obtain ⟨x41, e41, h1⟩ := bind_e h1
  refine sY (yv_ixT rfl Tryz.underlying29 sh81 rfl rfl e41) ?_
  refine tr tbk 1 (.mk ?_)
  refine sA 5 z81 fun v42 => ?_
  refine sS ⟨81, 9, true, true, v42, [[int x41.Entity, int x41.Item, int x41.Loc, int x41.Qty, int x41.Back, int x41.Cost, int x41.Profit, int x41.Period, boo x41.Waits]]⟩ sh81 ?_
  refine tr tbk 2 (.mk ?_)
  refine jn h1 [1, 2, 6, 106, 107, 108] [1, 2] (fun (a : Bool) (k : Unit) => [(150, boo a)]) (fun a k => []) ⟨fun j43 h2 => ?_, ?_⟩
  refine tc tbk 8 (.mk ?_)
  obtain ⟨j44, h3, h2⟩ := bind_e h2
  refine rse (Out := fun y H' => (∃ (a : Bool) (k : Unit), a = j44 ∧ y = boo a ∧ H' = hk [(1, ⟨32, 10, true, true, v2, [(GState.av a1)]⟩), (2, ⟨25, 5, true, true, v3, [[int a1.Master.Entities, int a1.Master.Periods, lst 1 fI a1.Master.Weights, lst 1 (fL 1 fI) a1.Master.Methods, lst 1 (fL 1 fI) a1.Master.Costs]]⟩), (5, ⟨81, 9, true, true, v42, [[int x41.Entity, int x41.Item, int x41.Loc, int x41.Qty, int x41.Back, int x41.Cost, int x41.Profit, int x41.Period, boo x41.Waits]]⟩)])) rfl rfl rfl (yl_call rfl rfl (.cons rfl (.cons rfl (.cons rfl .nil))) cal60 ?_) ?_
  refine pcw (c := _) Tryz.func60 rfl rfl ?_; intro Q hret hnorm
  refine tc tbk 5 (.mk ?_)
  refine jn h3 [] [1, 2, 5] (fun (a : Bool) (k : Unit) => [(7, boo a)]) (fun a k => []) ⟨fun j45 h4 => ?_, ?_⟩
  refine tc tbk 4 (.mk ?_)
  refine ni tbk h4 fun x46 h4 => ?_
  obtain ⟨x47, e47, h4⟩ := bind_e h4
  refine sC cal41 (d_stock_in_c e47) ?_
  refine tr tbk 1 (.mk ?_)
  cases x47
  replace h4 := cf h4
  refine tr tbk 13 (.mk ?_)
  exact lf h4 () leA
  replace h4 := ct h4
  refine tr tbk 3 (.mk ?_)
  refine sY (yv_len_sl rfl Tryz.underlying22 rfl (lst_len _)) ?_
  refine ni tbk h4 fun x48 h4 => ?_
  obtain ⟨x49, e49, h4⟩ := bind_e h4
  refine sC cal41 (d_stock_in_c e49) ?_
  refine tr tbk 2 (.mk ?_)
  cases x49
  replace h4 := cf h4
  refine tr tbk 5 (.mk ?_)
  exact lf h4 () leA
  replace h4 := ct h4
  refine tr tbk 1 (.mk ?_)
  obtain ⟨x50, e50, h4⟩ := bind_e h4
  refine sC cal41 (d_stock_in_c e50) ?_
  refine tr tbk 3 (.mk ?_)
  exact lf h4 () leA
  rintro y9_1 _ h3
  obtain rfl := nxt_e h3
  refine w_ret (hret _ _ (hk [(1, ⟨32, 10, true, true, v2, [(GState.av a1)]⟩), (2, ⟨25, 5, true, true, v3, [[int a1.Master.Entities, int a1.Master.Periods, lst 1 fI a1.Master.Weights, lst 1 (fL 1 fI) a1.Master.Methods, lst 1 (fL 1 fI) a1.Master.Costs]]⟩), (5, ⟨81, 9, true, true, v42, [[int x41.Entity, int x41.Item, int x41.Loc, int x41.Qty, int x41.Back, int x41.Cost, int x41.Profit, int x41.Period, boo x41.Waits]]⟩)]) (.tmp rfl .nil) (HK.le ⟨rfl, rfl, rfl, trivial⟩) ?_)
  exact ⟨y9_1, (), rfl, rfl, rfl⟩
  rintro y _ ⟨y10_1, _, rfl, hc, rfl⟩
  subst hc
  refine nb tbk h2 fun x51 h2 => ?_
  refine tr tbk 1 (.mk ?_)
  cases x51
  replace h2 := cf h2
  refine tr tbk 4 (.mk ?_)
  refine sY (yv_to (y := lst 1 fI ([x41.Qty, x41.Cost] : List Int)) (yv_buildSlice (ps := [(0, _), (1, _)]) (rows := [[int x41.Qty], [int x41.Cost]]) rfl Tryz.underlying22 bz3 (.cons rfl (.cons rfl .nil)) (by kernel_rfl) rfl rfl rfl) rfl) ?_
  obtain ⟨x52, e52, h2⟩ := bind_e h2
  refine sC cal58 (d_stock_sums_c e52) ?_
  refine nb tbk h2 fun x53 h2 => ?_
  refine tr tbk 2 (.mk ?_)
  cases x53
  replace h2 := cf h2
  refine tr tbk 4 (.mk ?_)
  obtain ⟨x54, e54, h2⟩ := bind_e h2
  refine sC cal41 (d_stock_in_c e54) ?_
  refine nb tbk h2 fun x55 h2 => ?_
  refine tr tbk 2 (.mk ?_)
  cases x55
  replace h2 := cf h2
  refine tr tbk 2 (.mk ?_)
  refine sY (yv_to (y := lst 1 fI ([x41.Profit] : List Int)) (yv_buildSlice (ps := [(0, _)]) (rows := [[int x41.Profit]]) rfl Tryz.underlying22 bz3 (.cons rfl .nil) (by kernel_rfl) rfl rfl rfl) rfl) ?_
  obtain ⟨x56, e56, h2⟩ := bind_e h2
  refine sC cal58 (d_stock_sums_c e56) ?_
  refine nb tbk h2 fun x57 h2 => ?_
  refine tr tbk 2 (.mk ?_)
  cases x57
  replace h2 := cf h2
  refine tr tbk 2 (.mk ?_)
  obtain ⟨x58, e58, h2⟩ := bind_e h2
  refine sC cal41 (d_stock_in_c e58) ?_
  refine nb tbk h2 fun x59 h2 => ?_
  refine tr tbk 2 (.mk ?_)
  exact lf h2 () leA
  replace h2 := ct h2
  refine tr tbk 6 (.mk ?_)
  exact lf h2 () leA
  replace h2 := ct h2
  refine tr tbk 13 (.mk ?_)
  exact lf h2 () leA
  replace h2 := ct h2
  refine tr tbk 21 (.mk ?_)
  exact lf h2 () leA
  replace h2 := ct h2
  refine tr tbk 30 (.mk ?_)
  exact lf h2 () leA
  rintro y11_1 _ h1
  replace h1 := asrt_e h1
  obtain ⟨rfl, h1⟩ := h1
  refine tc tbk 4 (.mk ?_)
  refine ni tbk h1 fun x60 h1 => ?_
  refine tr tbk 2 (.mk ?_)
  exact bk x60 () h1 leA
  rintro _ _ h0
  refine tc tbk 5 (.mk ?_)
  refine sY (yv_len_sl rfl Tryz.underlying30 rfl (lst_len _)) ?_
  refine tr tbk 2 (.mk ?_)
  refine jn h0 [2] [] (fun (a : Unit) (k : Unit) => []) (fun a k => []) ⟨fun j61 h1 => ?_, ?_⟩
  refine tc tbk 1 (.mk ?_)
  refine lp (fun n (a : Int) => d_stock_Check_L3 a1 n a) (0 : Int) () h1 [2, 6, 153, 154] [2] (fun (a : Int) (k : Unit) => [(155, int a)]) (fun a k => []) (fun _ => rfl) ⟨leA, ?_⟩
  rintro n y13_1 _ hm h1
  replace h1 : d_stock_Check_L3 a1 (n + 1) y13_1 = some _ := h1
  rw [d_stock_Check_L3] at h1
  refine tc tbk 2 (.mk ?_)
  refine nb tbk h1 fun x62 h1 => ?_
  refine tr tbk 2 (.mk ?_)
  cases x62
  replace h1 := cf h1
  refine tc tbk 2 (.mk ?_)
  exact lf h1 () leA
  replace h1 := ct h1
  refine tc tbk 6 (.mk ?_)
  obtain ⟨x63, e63, h1⟩ := bind_e h1
  refine sY (yv_ixT rfl Tryz.underlying30 sh84 rfl rfl e63) ?_
  refine tr tbk 1 (.mk ?_)
  refine sA 6 z84 fun v64 => ?_
  refine sS ⟨84, 6, true, true, v64, [[int x63.From, int x63.To, int x63.Item, int x63.Qty, int x63.Value, int x63.Profit]]⟩ sh84 ?_
  refine tr tbk 2 (.mk ?_)
  refine jn h1 [2, 6, 153, 154, 155] [2] (fun (a : Bool) (k : Unit) => [(190, boo a)]) (fun a k => []) ⟨fun j65 h2 => ?_, ?_⟩
  refine tc tbk 6 (.mk ?_)
  obtain ⟨j66, h3, h2⟩ := bind_e h2
  refine rse (Out := fun y H' => (∃ (a : Bool) (k : Unit), a = j66 ∧ y = boo a ∧ H' = hk [(2, ⟨25, 5, true, true, v3, [[int a1.Master.Entities, int a1.Master.Periods, lst 1 fI a1.Master.Weights, lst 1 (fL 1 fI) a1.Master.Methods, lst 1 (fL 1 fI) a1.Master.Costs]]⟩), (6, ⟨84, 6, true, true, v64, [[int x63.From, int x63.To, int x63.Item, int x63.Qty, int x63.Value, int x63.Profit]]⟩)])) rfl rfl rfl (yl_call rfl rfl (.cons rfl (.cons rfl (.cons rfl .nil))) cal60 ?_) ?_
  refine pcw (c := _) Tryz.func60 rfl rfl ?_; intro Q hret hnorm
  refine tc tbk 5 (.mk ?_)
  refine jn h3 [] [2, 6] (fun (a : Bool) (k : Unit) => [(7, boo a)]) (fun a k => []) ⟨fun j67 h4 => ?_, ?_⟩
  refine tc tbk 4 (.mk ?_)
  refine ni tbk h4 fun x68 h4 => ?_
  obtain ⟨x69, e69, h4⟩ := bind_e h4
  refine sC cal41 (d_stock_in_c e69) ?_
  refine tr tbk 1 (.mk ?_)
  cases x69
  replace h4 := cf h4
  refine tr tbk 13 (.mk ?_)
  exact lf h4 () leA
  replace h4 := ct h4
  refine tr tbk 3 (.mk ?_)
  refine sY (yv_len_sl rfl Tryz.underlying22 rfl (lst_len _)) ?_
  refine ni tbk h4 fun x70 h4 => ?_
  obtain ⟨x71, e71, h4⟩ := bind_e h4
  refine sC cal41 (d_stock_in_c e71) ?_
  refine tr tbk 2 (.mk ?_)
  cases x71
  replace h4 := cf h4
  refine tr tbk 5 (.mk ?_)
  exact lf h4 () leA
  replace h4 := ct h4
  refine tr tbk 1 (.mk ?_)
  obtain ⟨x72, e72, h4⟩ := bind_e h4
  refine sC cal41 (d_stock_in_c e72) ?_
  refine tr tbk 3 (.mk ?_)
  exact lf h4 () leA
  rintro y14_1 _ h3
  obtain rfl := nxt_e h3
  refine w_ret (hret _ _ (hk [(2, ⟨25, 5, true, true, v3, [[int a1.Master.Entities, int a1.Master.Periods, lst 1 fI a1.Master.Weights, lst 1 (fL 1 fI) a1.Master.Methods, lst 1 (fL 1 fI) a1.Master.Costs]]⟩), (6, ⟨84, 6, true, true, v64, [[int x63.From, int x63.To, int x63.Item, int x63.Qty, int x63.Value, int x63.Profit]]⟩)]) (.tmp rfl .nil) (HK.le ⟨rfl, rfl, trivial⟩) ?_)
  exact ⟨y14_1, (), rfl, rfl, rfl⟩
  rintro y _ ⟨y15_1, _, rfl, hc, rfl⟩
  subst hc
  refine nb tbk h2 fun x73 h2 => ?_
  refine tr tbk 1 (.mk ?_)
  cases x73
  replace h2 := cf h2
  refine tr tbk 5 (.mk ?_)
  obtain ⟨j74, h3, h2⟩ := bind_e h2
  refine rse (Out := fun y H' => (∃ (a : Bool) (k : Unit), a = j74 ∧ y = boo a ∧ H' = hk [(2, ⟨25, 5, true, true, v3, [[int a1.Master.Entities, int a1.Master.Periods, lst 1 fI a1.Master.Weights, lst 1 (fL 1 fI) a1.Master.Methods, lst 1 (fL 1 fI) a1.Master.Costs]]⟩), (6, ⟨84, 6, true, true, v64, [[int x63.From, int x63.To, int x63.Item, int x63.Qty, int x63.Value, int x63.Profit]]⟩)])) rfl rfl rfl (yl_call rfl rfl (.cons rfl (.cons rfl (.cons rfl .nil))) cal60 ?_) ?_
  refine pcw (c := _) Tryz.func60 rfl rfl ?_; intro Q hret hnorm
  refine tc tbk 5 (.mk ?_)
  refine jn h3 [] [2, 6] (fun (a : Bool) (k : Unit) => [(7, boo a)]) (fun a k => []) ⟨fun j75 h4 => ?_, ?_⟩
  refine tc tbk 4 (.mk ?_)
  refine ni tbk h4 fun x76 h4 => ?_
  obtain ⟨x77, e77, h4⟩ := bind_e h4
  refine sC cal41 (d_stock_in_c e77) ?_
  refine tr tbk 1 (.mk ?_)
  cases x77
  replace h4 := cf h4
  refine tr tbk 13 (.mk ?_)
  exact lf h4 () leA
  replace h4 := ct h4
  refine tr tbk 3 (.mk ?_)
  refine sY (yv_len_sl rfl Tryz.underlying22 rfl (lst_len _)) ?_
  refine ni tbk h4 fun x78 h4 => ?_
  obtain ⟨x79, e79, h4⟩ := bind_e h4
  refine sC cal41 (d_stock_in_c e79) ?_
  refine tr tbk 2 (.mk ?_)
  cases x79
  replace h4 := cf h4
  refine tr tbk 5 (.mk ?_)
  exact lf h4 () leA
  replace h4 := ct h4
  refine tr tbk 1 (.mk ?_)
  obtain ⟨x80, e80, h4⟩ := bind_e h4
  refine sC cal41 (d_stock_in_c e80) ?_
  refine tr tbk 3 (.mk ?_)
  exact lf h4 () leA
  rintro y16_1 _ h3
  obtain rfl := nxt_e h3
  refine w_ret (hret _ _ (hk [(2, ⟨25, 5, true, true, v3, [[int a1.Master.Entities, int a1.Master.Periods, lst 1 fI a1.Master.Weights, lst 1 (fL 1 fI) a1.Master.Methods, lst 1 (fL 1 fI) a1.Master.Costs]]⟩), (6, ⟨84, 6, true, true, v64, [[int x63.From, int x63.To, int x63.Item, int x63.Qty, int x63.Value, int x63.Profit]]⟩)]) (.tmp rfl .nil) (HK.le ⟨rfl, rfl, trivial⟩) ?_)
  exact ⟨y16_1, (), rfl, rfl, rfl⟩
  rintro y _ ⟨y17_1, _, rfl, hc, rfl⟩
  subst hc
  refine nb tbk h2 fun x81 h2 => ?_
  refine tr tbk 2 (.mk ?_)
  cases x81
  replace h2 := cf h2
  refine tr tbk 4 (.mk ?_)
  refine sY (yv_to (y := lst 1 fI ([x63.Qty, x63.Value] : List Int)) (yv_buildSlice (ps := [(0, _), (1, _)]) (rows := [[int x63.Qty], [int x63.Value]]) rfl Tryz.underlying22 bz3 (.cons rfl (.cons rfl .nil)) (by kernel_rfl) rfl rfl rfl) rfl) ?_
  obtain ⟨x82, e82, h2⟩ := bind_e h2
  refine sC cal58 (d_stock_sums_c e82) ?_
  refine nb tbk h2 fun x83 h2 => ?_
  refine tr tbk 2 (.mk ?_)
  cases x83
  replace h2 := cf h2
  refine tr tbk 2 (.mk ?_)
  refine sY (yv_to (y := lst 1 fI ([x63.Profit] : List Int)) (yv_buildSlice (ps := [(0, _)]) (rows := [[int x63.Profit]]) rfl Tryz.underlying22 bz3 (.cons rfl .nil) (by kernel_rfl) rfl rfl rfl) rfl) ?_
  obtain ⟨x84, e84, h2⟩ := bind_e h2
  refine sC cal58 (d_stock_sums_c e84) ?_
  refine nb tbk h2 fun x85 h2 => ?_
  refine tr tbk 2 (.mk ?_)
  exact lf h2 () leA
  replace h2 := ct h2
  refine tr tbk 7 (.mk ?_)
  exact lf h2 () leA
  replace h2 := ct h2
  refine tr tbk 16 (.mk ?_)
  exact lf h2 () leA
  replace h2 := ct h2
  refine tr tbk 25 (.mk ?_)
  exact lf h2 () leA
  rintro y18_1 _ h1
  replace h1 := asrt_e h1
  obtain ⟨rfl, h1⟩ := h1
  refine tc tbk 4 (.mk ?_)
  refine ni tbk h1 fun x86 h1 => ?_
  refine tr tbk 2 (.mk ?_)
  exact bk x86 () h1 leA
  rintro _ _ h0
  refine tc tbk 4 (.mk ?_)
  obtain rfl := nxt_e h0
  refine wR hret (rT .nil) ?_
  exact .refl _
def d_stock_Worth (n : Nat) (a1 : GState) (a2 : Int) (a3 : Int) : Option (GLayer) :=
(d_stock_worth n a1 a2 a3).bind fun x6 =>
some ((x6.1 : GLayer))
theorem d_stock_Worth_c {n : Nat} {a1 : GState} {a2 : Int} {a3 : Int} {r : GLayer} (h0 : d_stock_Worth n a1 a2 a3 = some r) : PP Tryz.prog 32 [.agg (GState.av a1), int a2, int a3] (fun y => y = .agg (GLayer.av r)) := by
  unfold d_stock_Worth at h0
  refine pp_of_pc (R0 := fun y H => Cv (frzH H) y (.agg (GLayer.av r))) ?_ (fun y H hc => ⟨_, rfl, (fun (a : GLayer) => PV.agg (GLayer.pvc a)) r, hc⟩)
  refine pcw (c := _) Tryz.func32 rfl rfl ?_; intro Q hret hnorm
  refine tc tbk 2 (.mk ?_)
  refine sB 1 fun v4 => ?_
  refine sA 2 z38 fun v5 => ?_
  refine tr tbk 6 (.mk ?_)
  obtain ⟨x6, e6, h0⟩ := bind_e h0
  refine sC cal19 (d_stock_worth_c e6) ?_
  refine tr tbk 3 (.mk ?_)
  refine sA 3 z38 fun v7 => ?_
  refine sS ⟨38, 3, true, true, v7, [[int x6.1.Qty, int x6.1.Value, int x6.1.Profit]]⟩ sh38 ?_
  refine tr tbk 5 (.mk ?_)
  refine sS ⟨38, 3, true, true, v5, [[int x6.1.Qty, int x6.1.Value, int x6.1.Profit]]⟩ sh38 ?_
  refine tr tbk 1 (.mk ?_)
  obtain rfl := nxt_e h0
  refine wR hret (rC sh38 .nil) ?_
  exact .refl _
def d_stock_All_L0 (a1 : GState) (a2 : Int) : Nat → Int → (List Int) → Option ((List Int))
  | 0, _, _ => none
  | n + 1, y0_2, y0_3 =>
    bnd (decide (y0_2 < (a1.Master.Weights.length : Int))) fun x6 =>
    cond x6 ((d_stock_Worth n a1 a2 y0_2).bind fun x7 =>
    bnd (y0_3 ++ ([x7.Value] : List Int)) fun x8 =>
    asrt (x8.length ≤ 68719476736) <|
    bnd (w64 (y0_2 + 1)) fun x11 =>
    d_stock_All_L0 a1 a2 n (x11 : Int) (x8 : List Int)) (some (y0_3 : List Int))
def d_stock_All (n : Nat) (a1 : GState) (a2 : Int) : Option (Int) :=
(show Option ((List Int)) from
d_stock_All_L0 a1 a2 n (0 : Int) (([] : List Int) : List Int)).bind <| fun y1_2 =>
(d_money_Sum n y1_2).bind fun x12 =>
some ((x12.1 : Int))
theorem d_stock_All_c {n : Nat} {a1 : GState} {a2 : Int} {r : Int} (h0 : d_stock_All n a1 a2 = some r) : PP Tryz.prog 33 [.agg (GState.av a1), int a2] (fun y => y = int r) := by
  unfold d_stock_All at h0
  refine pp_of_pc (R0 := fun y H => Cv (frzH H) y (int r)) ?_ (fun y H hc => ⟨_, rfl, pvI r, hc⟩)
  refine pcw (c := _) Tryz.func33 rfl rfl ?_; intro Q hret hnorm
  refine tc tbk 2 (.mk ?_)
  refine sB 1 fun v3 => ?_
  refine tr tbk 12 (.mk ?_)
  refine sY (yv_len_sl rfl Tryz.underlying22 rfl (lst_len _)) ?_
  refine tr tbk 2 (.mk ?_)
  refine jn h0 [4] [] (fun (a : (List Int)) (k : Nat) => [(5, .sl 3 k 0 a.length)]) (fun a k => [(3, ⟨3, 1, true, true, k, a.map fI⟩)]) ⟨fun j4 h1 => ?_, ?_⟩
  refine tc tbk 1 (.mk ?_)
  refine c_nilobj 5 3 3 1 rfl rfl ?_; intro v5
  refine lp (fun n (a : Int × (List Int)) => d_stock_All_L0 a1 a2 n a.1 a.2) ((0 : Int), (([] : List Int) : List Int)) v5 h1 [1, 2, 4, 12] [1] (fun (a : Int × (List Int)) (k : Nat) => [(5, .sl 3 k 0 a.2.length), (13, int a.1)]) (fun a k => [(3, ⟨3, 1, true, true, k, a.2.map fI⟩)]) (fun _ => rfl) ⟨leA, ?_⟩
  rintro n ⟨y0_2, y0_3⟩ w0_1 hm h1
  replace h1 : d_stock_All_L0 a1 a2 (n + 1) y0_2 y0_3 = some _ := h1
  rw [d_stock_All_L0] at h1
  refine tc tbk 2 (.mk ?_)
  refine nb tbk h1 fun x6 h1 => ?_
  refine tr tbk 2 (.mk ?_)
  cases x6
  replace h1 := cf h1
  refine tc tbk 2 (.mk ?_)
  exact lf h1 w0_1 leA
  replace h1 := ct h1
  refine tc tbk 14 (.mk ?_)
  obtain ⟨x7, e7, h1⟩ := bind_e h1
  refine sC cal32 (d_stock_Worth_c e7) ?_
  refine tr tbk 1 (.mk ?_)
  refine sY (yv_to (y := lst 1 fI ([x7.Value] : List Int)) (yv_buildSlice (ps := [(0, _)]) (rows := [[int x7.Value]]) rfl Tryz.underlying22 bz3 (.cons rfl .nil) (by kernel_rfl) rfl rfl rfl) rfl) ?_
  obtain ⟨x8, e8, h1⟩ := bnd_e h1
  obtain ⟨p9, h1⟩ := asrt_e h1
  refine rse rfl rfl rfl (yl_appT (g := fI) (l := y0_3) (m := ([x7.Value] : List Int)) .any rfl Tryz.underlying22 bz3 by3 rfl rfl rfl rfl rfl rfl rfl rfl rfl rfl (Eq.symm rfl) (.refl _) (fun _ => rfl) e8 p9) ?_; rintro _ _ ⟨v10, -, rfl, rfl⟩
  refine tr tbk 4 (.mk ?_)
  refine ni tbk h1 fun x11 h1 => ?_
  refine tr tbk 2 (.mk ?_)
  exact bk (x11, x8) v10 h1 leA
  rintro y1_2 w1_1 h0
  refine tc tbk 3 (.mk ?_)
  obtain ⟨x12, e12, h0⟩ := bind_e h0
  refine sY (yv_callT (v := .tup [int x12.1, int x12.2]) rfl rfl (.cons rfl .nil) cal47 (.cons (cv_lst rfl rfl rfl rfl rfl (Eq.symm rfl)) .nil) (d_money_Sum_c e12) rfl) ?_
  refine tr tbk 11 (.mk ?_)
  obtain rfl := nxt_e h0
  refine wR hret (rT .nil) ?_
  exact .refl _
def d_law14_awake (n : Nat)  : Option (Bool) :=
(d_law00_Master n 0).bind fun x1 =>
(d_law00_State n x1 []).bind fun x2 =>
(d_stock_Bring n x2 0 0 1 (⟨4, 20, 0⟩ : GLayer)).bind fun x4 =>
(d_stock_Fetch n x4.1 0 0 1 3 4).bind fun x6 =>
(d_stock_Post x2 9 []).bind fun x9 =>
(show Option (Bool) from
(d_stock_Check n x2).bind fun x12 =>
cond x12 (bnd (decide (x4.2.2.2 = 0)) fun x13 =>
cond x13 (bnd (w64 (x4.2.1 + x4.2.2.1)) fun x14 =>
bnd (decide (x14 = 20)) fun x15 =>
cond x15 ((d_stock_Worth n x4.1 0 0).bind fun x16 =>
bnd (decide (x16.Qty = 4)) fun x17 =>
cond x17 ((d_stock_All n x4.1 0).bind fun x18 =>
bnd (decide (x18 = x4.2.1)) fun x19 =>
cond x19 (bnd (decide (x6.2.2.2 = 0)) fun x20 =>
cond x20 (bnd (decide (x6.2.1.Qty = 4)) fun x21 =>
cond x21 ((d_stock_Same n x2 x6.1).bind fun x22 =>
cond x22 (bnd (decide (x9.2 = 4)) fun x23 =>
cond x23 ((d_stock_Ready x2 0 9).bind fun x24 =>
bnd (decide (x24 = 4)) fun x25 =>
cond x25 ((d_stock_At x4.1 0 0 1).bind fun x26 =>
bnd (decide ((x26.Layers.length : Int) = 1)) fun x27 =>
some (x27 : Bool)) (some (false : Bool))) (some (false : Bool))) (some (false : Bool))) (some (false : Bool))) (some (false : Bool))) (some (false : Bool))) (some (false : Bool))) (some (false : Bool))) (some (false : Bool))) (some (false : Bool))).bind <| fun y0_1 =>
some ((y0_1 : Bool))
theorem d_law14_awake_c {n : Nat}  {r : Bool} (h0 : d_law14_awake n  = some r) : PP Tryz.prog 11 [] (fun y => y = boo r) := by
  unfold d_law14_awake at h0
  refine pp_of_pc (R0 := fun y H => Cv (frzH H) y (boo r)) ?_ (fun y H hc => ⟨_, rfl, pvB r, hc⟩)
  refine pcw (c := _) Tryz.func11 rfl rfl ?_; intro Q hret hnorm
  refine tc tbk 6 (.mk ?_)
  obtain ⟨x1, e1, h0⟩ := bind_e h0
  refine sC cal4 (d_law00_Master_c e1) ?_
  obtain ⟨x2, e2, h0⟩ := bind_e h0
  refine sY (yv_callP rfl rfl (.cons rfl (.cons rfl .nil)) cal5 (.cons (.refl _) (.cons (.nil _) .nil)) (d_law00_State_c e2)) ?_
  refine sA 1 z32 fun v3 => ?_
  refine sS ⟨32, 10, true, true, v3, [(GState.av x2)]⟩ sh32 ?_
  refine tr tbk 5 (.mk ?_)
  obtain ⟨x4, e4, h0⟩ := bind_e h0
  refine sC cal6 (d_stock_Bring_c e4) ?_
  refine tr tbk 5 (.mk ?_)
  refine sA 2 z32 fun v5 => ?_
  refine sS ⟨32, 10, true, true, v5, [(GState.av x4.1)]⟩ sh32 ?_
  refine tr tbk 7 (.mk ?_)
  obtain ⟨x6, e6, h0⟩ := bind_e h0
  refine sC cal7 (d_stock_Fetch_c e6) ?_
  refine tr tbk 5 (.mk ?_)
  refine sA 3 z32 fun v7 => ?_
  refine sA 4 z38 fun v8 => ?_
  refine sS ⟨32, 10, true, true, v7, [(GState.av x6.1)]⟩ sh32 ?_
  refine sS ⟨38, 3, true, true, v8, [[int x6.2.1.Qty, int x6.2.1.Value, int x6.2.1.Profit]]⟩ sh38 ?_
  refine tr tbk 6 (.mk ?_)
  obtain ⟨x9, e9, h0⟩ := bind_e h0
  refine sY (yv_callP rfl rfl (.cons rfl (.cons rfl (.cons rfl .nil))) cal30 (.cons (.refl _) (.cons (.refl _) (.cons (.nil _) .nil))) (d_stock_Post_c e9)) ?_
  refine tr tbk 3 (.mk ?_)
  refine sA 5 z32 fun v10 => ?_
  refine sS ⟨32, 10, true, true, v10, [(GState.av x9.1)]⟩ sh32 ?_
  refine tr tbk 3 (.mk ?_)
  refine jn h0 [] [] (fun (a : Bool) (k : Unit) => [(0, boo a)]) (fun a k => []) ⟨fun j11 h1 => ?_, ?_⟩
  refine tc tbk 2 (.mk ?_)
  obtain ⟨x12, e12, h1⟩ := bind_e h1
  refine sC cal31 (d_stock_Check_c e12) ?_
  refine tr tbk 1 (.mk ?_)
  cases x12
  replace h1 := cf h1
  refine tr tbk 53 (.mk ?_)
  exact lf h1 () leA
  replace h1 := ct h1
  refine tr tbk 1 (.mk ?_)
  refine nb tbk h1 fun x13 h1 => ?_
  refine tr tbk 2 (.mk ?_)
  cases x13
  replace h1 := cf h1
  refine tr tbk 49 (.mk ?_)
  exact lf h1 () leA
  replace h1 := ct h1
  refine tr tbk 2 (.mk ?_)
  refine ni tbk h1 fun x14 h1 => ?_
  refine nb tbk h1 fun x15 h1 => ?_
  refine tr tbk 2 (.mk ?_)
  cases x15
  replace h1 := cf h1
  refine tr tbk 43 (.mk ?_)
  exact lf h1 () leA
  replace h1 := ct h1
  refine tr tbk 1 (.mk ?_)
  obtain ⟨x16, e16, h1⟩ := bind_e h1
  refine sC cal32 (d_stock_Worth_c e16) ?_
  refine tr tbk 1 (.mk ?_)
  refine nb tbk h1 fun x17 h1 => ?_
  refine tr tbk 2 (.mk ?_)
  cases x17
  replace h1 := cf h1
  refine tr tbk 37 (.mk ?_)
  exact lf h1 () leA
  replace h1 := ct h1
  refine tr tbk 1 (.mk ?_)
  obtain ⟨x18, e18, h1⟩ := bind_e h1
  refine sC cal33 (d_stock_All_c e18) ?_
  refine tr tbk 1 (.mk ?_)
  refine nb tbk h1 fun x19 h1 => ?_
  refine tr tbk 2 (.mk ?_)
  cases x19
  replace h1 := cf h1
  refine tr tbk 31 (.mk ?_)
  exact lf h1 () leA
  replace h1 := ct h1
  refine tr tbk 1 (.mk ?_)
  refine nb tbk h1 fun x20 h1 => ?_
  refine tr tbk 2 (.mk ?_)
  cases x20
  replace h1 := cf h1
  refine tr tbk 27 (.mk ?_)
  exact lf h1 () leA
  replace h1 := ct h1
  refine tr tbk 2 (.mk ?_)
  refine nb tbk h1 fun x21 h1 => ?_
  refine tr tbk 2 (.mk ?_)
  cases x21
  replace h1 := cf h1
  refine tr tbk 22 (.mk ?_)
  exact lf h1 () leA
  replace h1 := ct h1
  refine tr tbk 2 (.mk ?_)
  obtain ⟨x22, e22, h1⟩ := bind_e h1
  refine sC cal9 (d_stock_Same_c e22) ?_
  refine tr tbk 2 (.mk ?_)
  cases x22
  replace h1 := cf h1
  refine tr tbk 17 (.mk ?_)
  exact lf h1 () leA
  replace h1 := ct h1
  refine tr tbk 1 (.mk ?_)
  refine nb tbk h1 fun x23 h1 => ?_
  refine tr tbk 2 (.mk ?_)
  cases x23
  replace h1 := cf h1
  refine tr tbk 13 (.mk ?_)
  exact lf h1 () leA
  replace h1 := ct h1
  refine tr tbk 1 (.mk ?_)
  obtain ⟨x24, e24, h1⟩ := bind_e h1
  refine sC cal8 (d_stock_Ready_c e24) ?_
  refine nb tbk h1 fun x25 h1 => ?_
  refine tr tbk 2 (.mk ?_)
  cases x25
  replace h1 := cf h1
  refine tr tbk 8 (.mk ?_)
  exact lf h1 () leA
  replace h1 := ct h1
  refine tr tbk 1 (.mk ?_)
  obtain ⟨x26, e26, h1⟩ := bind_e h1
  refine sC cal10 (d_stock_At_c e26) ?_
  refine tr tbk 1 (.mk ?_)
  refine sY (yv_len_sl rfl Tryz.underlying43 rfl (lst_len _)) ?_
  refine nb tbk h1 fun x27 h1 => ?_
  refine tr tbk 3 (.mk ?_)
  exact lf h1 () leA
  rintro y0_1 _ h0
  obtain rfl := nxt_e h0
  refine wR hret (rT .nil) ?_
  exact .refl _
def d_law14_StockErrors (n : Nat) (a1 : Int) (a2 : Int) (a3 : Int) (a4 : Int) : Option (Bool) :=
(d_law00_Master n a1).bind fun x5 =>
(d_law00_State n x5 []).bind fun x7 =>
(show Option (Bool) from
bnd (decide (a2 ≥ 0)) fun x10 =>
cond x10 (bnd (decide (a2 < x5.Entities)) fun x11 =>
cond x11 (bnd (decide (a3 ≥ 0)) fun x12 =>
cond x12 (bnd (decide (a3 < (x5.Weights.length : Int))) fun x13 =>
some (x13 : Bool)) (some (false : Bool))) (some (false : Bool))) (some (false : Bool))).bind <| fun y0_1 =>
(show Option (Bool × Bool) from
cond y0_1 (bnd (decide (a4 ≥ 0)) fun x15 =>
cond x15 (bnd (decide (a4 < 2)) fun x16 =>
some ((true : Bool), (x16 : Bool))) (some ((true : Bool), (false : Bool)))) (some ((false : Bool), (false : Bool)))).bind <| p2 fun (y1_1 : Bool) (y1_2 : Bool) =>
(d_stock_Bring n x7 a2 a3 a4 (⟨1, 5, 0⟩ : GLayer)).bind fun x17 =>
(d_stock_Fetch n x7 a2 a3 a4 3 1).bind fun x19 =>
(d_stock_Ready x7 a2 a3).bind fun x22 =>
bnd (!y1_2) fun x23 =>
cond x23 ((show Option (Bool) from
bnd (decide (x17.2.2.2 = 4)) fun x33 =>
cond x33 (bnd (decide (x19.2.2.2 = 4)) fun x34 =>
cond x34 ((d_stock_Same n x17.1 x7).bind fun x35 =>
cond x35 ((d_stock_Same n x19.1 x7).bind fun x36 =>
cond x36 (bnd (decide (x22 = 0)) fun x37 =>
bnd (decide (x37 = y1_1)) fun x38 =>
cond x38 ((d_stock_At x7 a2 a3 a4).bind fun x39 =>
bnd (decide ((x39.Layers.length : Int) = 0)) fun x40 =>
cond x40 ((d_law14_awake n).bind fun x41 =>
some (x41 : Bool)) (some (false : Bool))) (some (false : Bool))) (some (false : Bool))) (some (false : Bool))) (some (false : Bool))) (some (false : Bool))).bind <| fun y2_1 =>
some ((y2_1 : Bool))) ((show Option (Bool) from
bnd (decide (x17.2.2.2 = 0)) fun x25 =>
cond x25 (bnd (decide (x19.2.2.2 = 5)) fun x26 =>
cond x26 (bnd (decide (x22 = 0)) fun x27 =>
cond x27 ((d_stock_Same n x19.1 x7).bind fun x28 =>
cond x28 ((d_stock_Same n x17.1 x7).bind fun x29 =>
bnd (!x29) fun x30 =>
cond x30 ((d_law14_awake n).bind fun x31 =>
some (x31 : Bool)) (some (false : Bool))) (some (false : Bool))) (some (false : Bool))) (some (false : Bool))) (some (false : Bool))).bind <| fun y3_1 =>
some ((y3_1 : Bool)))
theorem d_law14_StockErrors_c {n : Nat} {a1 : Int} {a2 : Int} {a3 : Int} {a4 : Int} {r : Bool} (h0 : d_law14_StockErrors n a1 a2 a3 a4 = some r) : PP Tryz.prog 3 [int a1, int a2, int a3, int a4] (fun y => y = boo r) := by
  unfold d_law14_StockErrors at h0
  refine pp_of_pc (R0 := fun y H => Cv (frzH H) y (boo r)) ?_ (fun y H hc => ⟨_, rfl, pvB r, hc⟩)
  refine pcw (c := _) Tryz.func3 rfl rfl ?_; intro Q hret hnorm
  refine tc tbk 7 (.mk ?_)
  obtain ⟨x5, e5, h0⟩ := bind_e h0
  refine sC cal4 (d_law00_Master_c e5) ?_
  refine sA 1 z25 fun v6 => ?_
  refine sS ⟨25, 5, true, true, v6, [[int x5.Entities, int x5.Periods, lst 1 fI x5.Weights, lst 1 (fL 1 fI) x5.Methods, lst 1 (fL 1 fI) x5.Costs]]⟩ sh25 ?_
  refine tr tbk 4 (.mk ?_)
  obtain ⟨x7, e7, h0⟩ := bind_e h0
  refine sY (yv_callP rfl rfl (.cons rfl (.cons rfl .nil)) cal5 (.cons (.refl _) (.cons (.nil _) .nil)) (d_law00_State_c e7)) ?_
  refine sA 2 z32 fun v8 => ?_
  refine sS ⟨32, 10, true, true, v8, [(GState.av x7)]⟩ sh32 ?_
  refine tr tbk 2 (.mk ?_)
  refine jn h0 [1, 2, 3, 8, 10] [2] (fun (a : Bool) (k : Unit) => [(11, boo a)]) (fun a k => []) ⟨fun j9 h1 => ?_, ?_⟩
  refine tc tbk 2 (.mk ?_)
  refine nb tbk h1 fun x10 h1 => ?_
  refine tr tbk 1 (.mk ?_)
  cases x10
  replace h1 := cf h1
  refine tr tbk 18 (.mk ?_)
  exact lf h1 () leA
  replace h1 := ct h1
  refine tr tbk 3 (.mk ?_)
  refine nb tbk h1 fun x11 h1 => ?_
  refine tr tbk 2 (.mk ?_)
  cases x11
  replace h1 := cf h1
  refine tr tbk 12 (.mk ?_)
  exact lf h1 () leA
  replace h1 := ct h1
  refine tr tbk 1 (.mk ?_)
  refine nb tbk h1 fun x12 h1 => ?_
  refine tr tbk 2 (.mk ?_)
  cases x12
  replace h1 := cf h1
  refine tr tbk 8 (.mk ?_)
  exact lf h1 () leA
  replace h1 := ct h1
  refine tr tbk 3 (.mk ?_)
  refine sY (yv_len_sl rfl Tryz.underlying22 rfl (lst_len _)) ?_
  refine nb tbk h1 fun x13 h1 => ?_
  refine tr tbk 3 (.mk ?_)
  exact lf h1 () leA
  rintro y0_1 _ h0
  refine tc tbk 1 (.mk ?_)
  refine jn h0 [1, 2, 3, 8, 10] [2] (fun (a : Bool × Bool) (k : Unit) => [(11, boo a.1), (12, boo a.2)]) (fun a k => []) ⟨fun j14 h1 => ?_, ?_⟩
  refine tc tbk 3 (.mk ?_)
  cases y0_1
  replace h1 := cf h1
  refine tr tbk 9 (.mk ?_)
  exact lf h1 () leA
  replace h1 := ct h1
  refine tr tbk 1 (.mk ?_)
  refine nb tbk h1 fun x15 h1 => ?_
  refine tr tbk 2 (.mk ?_)
  cases x15
  replace h1 := cf h1
  refine tr tbk 5 (.mk ?_)
  exact lf h1 () leA
  replace h1 := ct h1
  refine tr tbk 1 (.mk ?_)
  refine nb tbk h1 fun x16 h1 => ?_
  refine tr tbk 3 (.mk ?_)
  exact lf h1 () leA
  rintro ⟨y1_1, y1_2⟩ _ h0
  replace h0 := p2_e h0
  refine tc tbk 7 (.mk ?_)
  obtain ⟨x17, e17, h0⟩ := bind_e h0
  refine sC cal6 (d_stock_Bring_c e17) ?_
  refine tr tbk 5 (.mk ?_)
  refine sA 3 z32 fun v18 => ?_
  refine sS ⟨32, 10, true, true, v18, [(GState.av x17.1)]⟩ sh32 ?_
  refine tr tbk 10 (.mk ?_)
  obtain ⟨x19, e19, h0⟩ := bind_e h0
  refine sC cal7 (d_stock_Fetch_c e19) ?_
  refine tr tbk 5 (.mk ?_)
  refine sA 4 z32 fun v20 => ?_
  refine sA 5 z38 fun v21 => ?_
  refine sS ⟨32, 10, true, true, v20, [(GState.av x19.1)]⟩ sh32 ?_
  refine sS ⟨38, 3, true, true, v21, [[int x19.2.1.Qty, int x19.2.1.Value, int x19.2.1.Profit]]⟩ sh38 ?_
  refine tr tbk 8 (.mk ?_)
  obtain ⟨x22, e22, h0⟩ := bind_e h0
  refine sC cal8 (d_stock_Ready_c e22) ?_
  refine tr tbk 6 (.mk ?_)
  refine nb tbk h0 fun x23 h0 => ?_
  refine tr tbk 1 (.mk ?_)
  cases x23
  replace h0 := cf h0
  refine tc tbk 3 (.mk ?_)
  refine jn h0 [] [] (fun (a : Bool) (k : Unit) => [(8, boo a)]) (fun a k => []) ⟨fun j24 h1 => ?_, ?_⟩
  refine tc tbk 2 (.mk ?_)
  refine nb tbk h1 fun x25 h1 => ?_
  refine tr tbk 1 (.mk ?_)
  cases x25
  replace h1 := cf h1
  refine tr tbk 23 (.mk ?_)
  exact lf h1 () leA
  replace h1 := ct h1
  refine tr tbk 1 (.mk ?_)
  refine nb tbk h1 fun x26 h1 => ?_
  refine tr tbk 2 (.mk ?_)
  cases x26
  replace h1 := cf h1
  refine tr tbk 19 (.mk ?_)
  exact lf h1 () leA
  replace h1 := ct h1
  refine tr tbk 1 (.mk ?_)
  refine nb tbk h1 fun x27 h1 => ?_
  refine tr tbk 2 (.mk ?_)
  cases x27
  replace h1 := cf h1
  refine tr tbk 15 (.mk ?_)
  exact lf h1 () leA
  replace h1 := ct h1
  refine tr tbk 2 (.mk ?_)
  obtain ⟨x28, e28, h1⟩ := bind_e h1
  refine sC cal9 (d_stock_Same_c e28) ?_
  refine tr tbk 2 (.mk ?_)
  cases x28
  replace h1 := cf h1
  refine tr tbk 10 (.mk ?_)
  exact lf h1 () leA
  replace h1 := ct h1
  refine tr tbk 2 (.mk ?_)
  obtain ⟨x29, e29, h1⟩ := bind_e h1
  refine sC cal9 (d_stock_Same_c e29) ?_
  refine nb tbk h1 fun x30 h1 => ?_
  refine tr tbk 2 (.mk ?_)
  cases x30
  replace h1 := cf h1
  refine tr tbk 4 (.mk ?_)
  exact lf h1 () leA
  replace h1 := ct h1
  obtain ⟨x31, e31, h1⟩ := bind_e h1
  refine sC cal11 (d_law14_awake_c e31) ?_
  refine tr tbk 3 (.mk ?_)
  exact lf h1 () leA
  rintro y3_1 _ h0
  obtain rfl := nxt_e h0
  refine wR hret (rT .nil) ?_
  exact .refl _
  replace h0 := ct h0
  refine tc tbk 2 (.mk ?_)
  refine jn h0 [10, 13, 16, 17, 20, 21] [2, 3, 4] (fun (a : Bool) (k : Unit) => [(8, boo a)]) (fun a k => []) ⟨fun j32 h1 => ?_, ?_⟩
  refine tc tbk 2 (.mk ?_)
  refine nb tbk h1 fun x33 h1 => ?_
  refine tr tbk 1 (.mk ?_)
  cases x33
  replace h1 := cf h1
  refine tr tbk 34 (.mk ?_)
  exact lf h1 () leA
  replace h1 := ct h1
  refine tr tbk 1 (.mk ?_)
  refine nb tbk h1 fun x34 h1 => ?_
  refine tr tbk 2 (.mk ?_)
  cases x34
  replace h1 := cf h1
  refine tr tbk 30 (.mk ?_)
  exact lf h1 () leA
  replace h1 := ct h1
  refine tr tbk 2 (.mk ?_)
  obtain ⟨x35, e35, h1⟩ := bind_e h1
  refine sC cal9 (d_stock_Same_c e35) ?_
  refine tr tbk 2 (.mk ?_)
  cases x35
  replace h1 := cf h1
  refine tr tbk 25 (.mk ?_)
  exact lf h1 () leA
  replace h1 := ct h1
  refine tr tbk 2 (.mk ?_)
  obtain ⟨x36, e36, h1⟩ := bind_e h1
  refine sC cal9 (d_stock_Same_c e36) ?_
  refine tr tbk 2 (.mk ?_)
  cases x36
  replace h1 := cf h1
  refine tr tbk 20 (.mk ?_)
  exact lf h1 () leA
  replace h1 := ct h1
  refine tr tbk 1 (.mk ?_)
  refine nb tbk h1 fun x37 h1 => ?_
  refine tr tbk 1 (.mk ?_)
  obtain ⟨x38, e38, h1⟩ := bnd_e h1
  refine sY (yv_to (y := boo x38) (yv_beql rfl Tryz.underlying4 rfl rfl) (congrArg boo e38)) ?_
  refine tr tbk 2 (.mk ?_)
  cases x38
  replace h1 := cf h1
  refine tr tbk 14 (.mk ?_)
  exact lf h1 () leA
  replace h1 := ct h1
  refine tr tbk 4 (.mk ?_)
  obtain ⟨x39, e39, h1⟩ := bind_e h1
  refine sC cal10 (d_stock_At_c e39) ?_
  refine tr tbk 1 (.mk ?_)
  refine sY (yv_len_sl rfl Tryz.underlying43 rfl (lst_len _)) ?_
  refine nb tbk h1 fun x40 h1 => ?_
  refine tr tbk 2 (.mk ?_)
  cases x40
  replace h1 := cf h1
  refine tr tbk 4 (.mk ?_)
  exact lf h1 () leA
  replace h1 := ct h1
  obtain ⟨x41, e41, h1⟩ := bind_e h1
  refine sC cal11 (d_law14_awake_c e41) ?_
  refine tr tbk 3 (.mk ?_)
  exact lf h1 () leA
  rintro y2_1 _ h0
  obtain rfl := nxt_e h0
  refine wR hret (rT .nil) ?_
  exact .refl _
end Go.Pv
