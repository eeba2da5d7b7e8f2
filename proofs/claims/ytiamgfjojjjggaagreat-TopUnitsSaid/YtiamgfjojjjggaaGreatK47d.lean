import Derived.Test.YtiamgfjojjjggaaGreatK47c
set_option linter.unusedVariables false
namespace Go.Pv
open Go.Proofs
set_option maxRecDepth 10000
set_option maxHeartbeats 1000000
mutual
def d_stock_entity_L0 (a1 : GMaster) (a2 : Int) (a3 : GEnt) : Nat → Int → Option (Unit)
  | 0, _ => none
  | n + 1, y1_1 =>
    bnd (decide (y1_1 < (a3.Pools.length : Int))) fun x16 =>
    cond x16 ((ix a3.Pools y1_1).bind fun x17 =>
    (ix a1.Methods a2).bind fun x19 =>
    bnd (w64 (y1_1.tdiv 2)) fun x20 =>
    (ix x19 x20).bind fun x21 =>
    (d_pool_Right n x21 x17).bind fun x22 =>
    bnd (!x22) fun x23 =>
    asrt (x23 = false) <|
    bnd (w64 (y1_1 + 1)) fun x24 =>
    d_stock_entity_L0 a1 a2 a3 n (x24 : Int)) (some ())
def d_stock_entity_L1 (a3 : GEnt) : Nat → Int → Option (Unit)
  | 0, _ => none
  | n + 1, y3_1 =>
    bnd (decide (y3_1 < (a3.Rolls.length : Int))) fun x26 =>
    cond x26 ((ix a3.Rolls y3_1).bind fun x27 =>
    (show Option ((Unit)) from
    some ()).bind <| fun _ =>
    (d_stock_sums n (-288230376151711744) ([x27.Open, x27.Bought, x27.Landed, x27.Arrived, x27.Returned, x27.Sold, x27.Shipped, x27.SentBack, x27.Scrapped, x27.Lost, x27.Revalued] : List Int)).bind fun x31 =>
    bnd (!x31) fun x32 =>
    asrt (x32 = false) <|
    bnd (w64 (y3_1 + 1)) fun x33 =>
    d_stock_entity_L1 a3 n (x33 : Int)) (some ())
def d_stock_entity : Nat → GMaster → Int → GEnt → Option (Bool)
  | 0, _, _, _ => none
  | n + 1, a1, a2, a3 =>
    (show Option (Bool) from
    (d_stock_in a3.Now 1 a1.Periods).bind fun x7 =>
    bnd (!x7) fun x8 =>
    cond x8 (some (true : Bool)) (bnd (w64 ((a1.Weights.length : Int) * 2)) fun x9 =>
    bnd (decide ((a3.Pools.length : Int) ≠ x9)) fun x10 =>
    cond x10 (some (true : Bool)) (bnd (decide ((a3.Bal.length : Int) ≠ 17)) fun x11 =>
    cond x11 (some (true : Bool)) (bnd (decide ((a3.Rolls.length : Int) ≠ (a1.Weights.length : Int))) fun x12 =>
    cond x12 (some (true : Bool)) (bnd (decide ((a3.Prices.length : Int) ≠ (a1.Weights.length : Int))) fun x13 =>
    cond x13 (some (true : Bool)) (bnd (decide ((a3.Down.length : Int) ≠ (a1.Weights.length : Int))) fun x14 =>
    some (x14 : Bool))))))).bind <| fun y0_1 =>
    asrt (y0_1 = false) <|
    (show Option (Unit) from
    d_stock_entity_L0 a1 a2 a3 n (0 : Int)).bind <| fun _ =>
    (show Option (Unit) from
    d_stock_entity_L1 a3 n (0 : Int)).bind <| fun _ =>
    (show Option (Bool) from
    (d_stock_sums n (-288230376151711744) a3.Bal).bind fun x35 =>
    bnd (!x35) fun x36 =>
    cond x36 (some (true : Bool)) ((d_stock_sums n (-1) a3.Prices).bind fun x37 =>
    bnd (!x37) fun x38 =>
    cond x38 (some (true : Bool)) ((d_stock_sums n 0 a3.Down).bind fun x39 =>
    bnd (!x39) fun x40 =>
    cond x40 (some (true : Bool)) (bnd (decide ((a3.Ahead.length : Int) > 1)) fun x41 =>
    cond x41 (some (true : Bool)) (bnd (decide ((a3.Ahead.length : Int) = 1)) fun x42 =>
    bnd (decide (a3.Closed ≠ x42)) fun x43 =>
    some (x43 : Bool)))))).bind <| fun y7_1 =>
    asrt (y7_1 = false) <|
    (show Option (Bool) from
    bnd (!a3.Closed) fun x45 =>
    cond x45 (some (true : Bool)) ((ix a3.Ahead 0).bind fun x46 =>
    bnd (decide ((x46.Ahead.length : Int) = 0)) fun x47 =>
    cond x47 ((ix a3.Ahead 0).bind fun x48 =>
    (d_stock_entity n a1 a2 x48).bind fun x49 =>
    some (x49 : Bool)) (some (false : Bool)))).bind <| fun y8_1 =>
    some ((y8_1 : Bool))
end
theorem d_stock_entity_c {n : Nat} {a1 : GMaster} {a2 : Int} {a3 : GEnt} {r : Bool} (h0 : d_stock_entity n a1 a2 a3 = some r) : PP Tryz.prog 69 [.agg (GMaster.av a1), int a2, .agg [int a3.Now, boo a3.Closed, lst 4 GPool.av a3.Pools, lst 1 fI a3.Bal, lst 11 GRoll.av a3.Rolls, lst 1 fI a3.Prices, lst 1 fI a3.Down, lst 8 GEnt.av a3.Ahead]] (fun y => y = boo r) := by
  induction n using Nat.strongRecOn generalizing a1 a2 a3 r with
  | ind n ih =>
    cases n with
    | zero => rw [d_stock_entity] at h0; cases h0
    | succ n =>
    have hN : n < n + 1 := Nat.lt_succ_self n
    rw [d_stock_entity] at h0
    refine pp_of_pc (R0 := fun y H => Cv (frzH H) y (boo r)) ?_ (fun y H hc => ⟨_, rfl, pvB r, hc⟩)
    refine pcw (c := _) Tryz.func69 rfl rfl ?_; intro Q hret hnorm
    refine tc tbk 2 (.mk ?_)
    refine sB 1 fun v4 => ?_
    refine sB 2 fun v5 => ?_
    refine tr tbk 6 (.mk ?_)
    refine sY (yv_len_sl rfl Tryz.underlying22 rfl (lst_len _)) ?_
    refine tr tbk 4 (.mk ?_)
    refine jn h0 [1, 3, 5, 6] [1, 2] (fun (a : Bool) (k : Unit) => [(55, boo a)]) (fun a k => []) ⟨fun j6 h1 => ?_, ?_⟩
    refine tc tbk 5 (.mk ?_)
    obtain ⟨x7, e7, h1⟩ := bind_e h1
    refine sC cal71 (d_stock_in_c e7) ?_
    refine nb tbk h1 fun x8 h1 => ?_
    refine tr tbk 1 (.mk ?_)
    cases x8
    replace h1 := cf h1
    refine tr tbk 2 (.mk ?_)
    refine sY (yv_len_sl rfl Tryz.underlying44 rfl (lst_len _)) ?_
    refine tr tbk 1 (.mk ?_)
    refine ni tbk h1 fun x9 h1 => ?_
    refine nb tbk h1 fun x10 h1 => ?_
    refine tr tbk 2 (.mk ?_)
    cases x10
    replace h1 := cf h1
    refine tr tbk 2 (.mk ?_)
    refine sY (yv_len_sl rfl Tryz.underlying22 rfl (lst_len _)) ?_
    refine nb tbk h1 fun x11 h1 => ?_
    refine tr tbk 2 (.mk ?_)
    cases x11
    replace h1 := cf h1
    refine tr tbk 2 (.mk ?_)
    refine sY (yv_len_sl rfl Tryz.underlying45 rfl (lst_len _)) ?_
    refine tr tbk 1 (.mk ?_)
    refine nb tbk h1 fun x12 h1 => ?_
    refine tr tbk 2 (.mk ?_)
    cases x12
    replace h1 := cf h1
    refine tr tbk 2 (.mk ?_)
    refine sY (yv_len_sl rfl Tryz.underlying22 rfl (lst_len _)) ?_
    refine tr tbk 1 (.mk ?_)
    refine nb tbk h1 fun x13 h1 => ?_
    refine tr tbk 2 (.mk ?_)
    cases x13
    replace h1 := cf h1
    refine tr tbk 2 (.mk ?_)
    refine sY (yv_len_sl rfl Tryz.underlying22 rfl (lst_len _)) ?_
    refine tr tbk 1 (.mk ?_)
    refine nb tbk h1 fun x14 h1 => ?_
    refine tr tbk 2 (.mk ?_)
    exact lf h1 () leA
    replace h1 := ct h1
    refine tr tbk 7 (.mk ?_)
    exact lf h1 () leA
    replace h1 := ct h1
    refine tr tbk 14 (.mk ?_)
    exact lf h1 () leA
    replace h1 := ct h1
    refine tr tbk 21 (.mk ?_)
    exact lf h1 () leA
    replace h1 := ct h1
    refine tr tbk 27 (.mk ?_)
    exact lf h1 () leA
    replace h1 := ct h1
    refine tr tbk 35 (.mk ?_)
    exact lf h1 () leA
    rintro y0_1 _ h0
    replace h0 := asrt_e h0
    obtain ⟨rfl, h0⟩ := h0
    refine tc tbk 7 (.mk ?_)
    refine sY (yv_len_sl rfl Tryz.underlying44 rfl (lst_len _)) ?_
    refine tr tbk 2 (.mk ?_)
    refine jn h0 [1, 3, 5, 6] [1, 2] (fun (a : Unit) (k : Unit) => []) (fun a k => []) ⟨fun j15 h1 => ?_, ?_⟩
    refine tc tbk 1 (.mk ?_)
    refine lp (fun n (a : Int) => d_stock_entity_L0 a1 a2 a3 n a) (0 : Int) () h1 [1, 3, 5, 6, 57, 58] [1, 2] (fun (a : Int) (k : Unit) => [(59, int a)]) (fun a k => []) (fun _ => rfl) ⟨leA, ?_⟩
    rintro n y1_1 _ hm h1
    replace h1 : d_stock_entity_L0 a1 a2 a3 (n + 1) y1_1 = some _ := h1
    replace hN := Nat.lt_trans (Nat.lt_of_succ_le hm) hN
    rw [d_stock_entity_L0] at h1
    refine tc tbk 2 (.mk ?_)
    refine nb tbk h1 fun x16 h1 => ?_
    refine tr tbk 2 (.mk ?_)
    cases x16
    replace h1 := cf h1
    refine tc tbk 2 (.mk ?_)
    exact lf h1 () leA
    replace h1 := ct h1
    refine tc tbk 7 (.mk ?_)
    obtain ⟨x17, e17, h1⟩ := bind_e h1
    refine sY (yv_ixT rfl Tryz.underlying44 sh74 rfl rfl e17) ?_
    refine tr tbk 1 (.mk ?_)
    refine sA 3 z74 fun v18 => ?_
    refine tr tbk 1 (.mk ?_)
    refine rsstore rfl rfl (yl_ob (ob' := (⟨74, 4, true, true, v18, [[lst 3 GLayer.av x17.Layers, int x17.Pend.a0, int x17.Pend.a1, int x17.Pend.a2]]⟩ : AObj)) (yl_store rfl sh74 rfl rfl rfl rfl rfl rfl rfl rfl rfl) rfl) ?_
    refine tr tbk 2 (.mk ?_)
    refine c_drawE [0, 1, 0, 7, 15, 0, 32, 127, 255, 0, 1023, 2047] (fun i => bif Nat.beq i 0 then ([1]) else bif Nat.beq i 1 then ([1]) else bif Nat.beq i 9 then ([3]) else []) (fun i => [1, 3]) (fun i => true) [0, 1, 2, 3, 4, 5, 6, 7, 8, 9, 10, 11] mixed (by kernel_rfl) ?_; intro K hK
    refine de_pure rfl rfl rfl rfl (fun H hH => yv_fieldAddr rfl fo25_3 rfl (.pt ((hH _ (by decide)).trans rfl) rfl rfl) (.pt _ _ _ _ _)) ?_
    refine de_pure rfl rfl rfl rfl (fun H hH => yv_load rfl sh23 rfl (.pt ((hH _ (by decide)).trans rfl) rfl rfl) rfl) ?_
    refine de_pure rfl rfl rfl rfl (fun H hH => yv_move rfl rfl) ?_
    obtain ⟨x19, e19, h1⟩ := bind_e h1
    refine de_pure rfl rfl rfl rfl (fun H hH => yv_ixT rfl Tryz.underlying23 sh22 rfl rfl e19) ?_
    refine de_pure rfl rfl rfl rfl (fun H hH => yv_load rfl sh22 rfl (.pp _) rfl) ?_
    refine de_pure rfl rfl rfl rfl (fun H hH => yv_move rfl rfl) ?_
    obtain ⟨x20, e20, h1⟩ := bnd_e h1
    refine de_pure rfl rfl rfl rfl (fun H hH => yv_quo rfl rfl rfl (by decide) e20) ?_
    obtain ⟨x21, e21, h1⟩ := bind_e h1
    refine de_pure rfl rfl rfl rfl (fun H hH => yv_ixT rfl Tryz.underlying22 sh3 rfl rfl e21) ?_
    refine de_pure rfl rfl rfl rfl (fun H hH => yv_load rfl sh3 rfl (.pp _) rfl) ?_
    refine de_pure rfl rfl rfl rfl (fun H hH => yv_load rfl sh74 rfl (.pt ((hH _ (by decide)).trans rfl) rfl rfl) rfl) ?_
    obtain ⟨x22, e22, h1⟩ := bind_e h1
    refine de_pure rfl rfl rfl rfl (fun H hH => yv_callP rfl rfl (.cons rfl (.cons rfl .nil)) cal124 (CvL.refl _) (d_pool_Right_c e22)) ?_
    obtain ⟨x23, e23, h1⟩ := bnd_e h1
    refine de_pure rfl rfl rfl rfl (fun H hH => yv_not rfl rfl e23) ?_
    refine de_nil (hK _ ?_)
    replace h1 := asrt_e h1
    obtain ⟨rfl, h1⟩ := h1
    refine tc tbk 4 (.mk ?_)
    refine ni tbk h1 fun x24 h1 => ?_
    refine tr tbk 2 (.mk ?_)
    exact bk x24 () h1 leA
    rintro _ _ h0
    refine tc tbk 5 (.mk ?_)
    refine sY (yv_len_sl rfl Tryz.underlying45 rfl (lst_len _)) ?_
    refine tr tbk 2 (.mk ?_)
    refine jn h0 [1, 3, 5, 6] [1, 2] (fun (a : Unit) (k : Unit) => []) (fun a k => []) ⟨fun j25 h1 => ?_, ?_⟩
    refine tc tbk 1 (.mk ?_)
    refine lp (fun n (a : Int) => d_stock_entity_L1 a3 n a) (0 : Int) () h1 [1, 3, 5, 6, 78, 79] [1, 2] (fun (a : Int) (k : Unit) => [(80, int a)]) (fun a k => []) (fun _ => rfl) ⟨leA, ?_⟩
    rintro n y3_1 _ hm h1
    replace h1 : d_stock_entity_L1 a3 (n + 1) y3_1 = some _ := h1
    replace hN := Nat.lt_trans (Nat.lt_of_succ_le hm) hN
    rw [d_stock_entity_L1] at h1
    refine tc tbk 2 (.mk ?_)
    refine nb tbk h1 fun x26 h1 => ?_
    refine tr tbk 2 (.mk ?_)
    cases x26
    replace h1 := cf h1
    refine tc tbk 2 (.mk ?_)
    exact lf h1 () leA
    replace h1 := ct h1
    refine tc tbk 6 (.mk ?_)
    obtain ⟨x27, e27, h1⟩ := bind_e h1
    refine sY (yv_ixT rfl Tryz.underlying45 sh83 rfl rfl e27) ?_
    refine tr tbk 1 (.mk ?_)
    refine sA 4 z83 fun v28 => ?_
    refine rsstore rfl rfl (yl_ob (ob' := (⟨83, 11, true, true, v28, [[int x27.Open, int x27.Bought, int x27.Landed, int x27.Arrived, int x27.Returned, int x27.Sold, int x27.Shipped, int x27.SentBack, int x27.Scrapped, int x27.Lost, int x27.Revalued]]⟩ : AObj)) (yl_store rfl sh83 rfl rfl rfl rfl rfl rfl rfl rfl rfl) rfl) ?_
    refine tr tbk 4 (.mk ?_)
    obtain ⟨j29, h2, h1⟩ := bind_e h1
    refine rse (Out := fun y H' => (∃ (a : Unit) (k : Unit), a = j29 ∧ y = lst 1 fI ([x27.Open, x27.Bought, x27.Landed, x27.Arrived, x27.Returned, x27.Sold, x27.Shipped, x27.SentBack, x27.Scrapped, x27.Lost, x27.Revalued] : List Int) ∧ H' = hk [(1, ⟨25, 5, true, true, v4, [[int a1.Entities, int a1.Periods, lst 1 fI a1.Weights, lst 1 (fL 1 fI) a1.Methods, lst 1 (fL 1 fI) a1.Costs]]⟩), (2, ⟨47, 8, true, true, v5, [[int a3.Now, boo a3.Closed, lst 4 GPool.av a3.Pools, lst 1 fI a3.Bal, lst 11 GRoll.av a3.Rolls, lst 1 fI a3.Prices, lst 1 fI a3.Down, lst 8 GEnt.av a3.Ahead]]⟩), (4, ⟨83, 11, true, true, v28, [[int x27.Open, int x27.Bought, int x27.Landed, int x27.Arrived, int x27.Returned, int x27.Sold, int x27.Shipped, int x27.SentBack, int x27.Scrapped, int x27.Lost, int x27.Revalued]]⟩)])) rfl rfl rfl (yl_call rfl rfl (.cons rfl .nil) cal88 ?_) ?_
    refine pcw (c := _) Tryz.func88 rfl rfl ?_; intro Q hret hnorm
    refine tc tbk 2 (.mk ?_)
    refine sB 5 fun v30 => ?_
    refine tr tbk 26 (.mk ?_)
    refine sY (yv_to (y := lst 1 fI ([x27.Open, x27.Bought, x27.Landed, x27.Arrived, x27.Returned, x27.Sold, x27.Shipped, x27.SentBack, x27.Scrapped, x27.Lost, x27.Revalued] : List Int)) (yv_buildSlice (ps := [(0, _), (1, _), (2, _), (3, _), (4, _), (5, _), (6, _), (7, _), (8, _), (9, _), (10, _)]) (rows := [[int x27.Open], [int x27.Bought], [int x27.Landed], [int x27.Arrived], [int x27.Returned], [int x27.Sold], [int x27.Shipped], [int x27.SentBack], [int x27.Scrapped], [int x27.Lost], [int x27.Revalued]]) rfl Tryz.underlying22 bz3 (.cons rfl (.cons rfl (.cons rfl (.cons rfl (.cons rfl (.cons rfl (.cons rfl (.cons rfl (.cons rfl (.cons rfl (.cons rfl .nil))))))))))) (by kernel_rfl) rfl rfl rfl) rfl) ?_
    refine tr tbk 2 (.mk ?_)
    obtain rfl := nxt_e h2
    refine w_ret (hret _ _ (hk [(1, ⟨25, 5, true, true, v4, [[int a1.Entities, int a1.Periods, lst 1 fI a1.Weights, lst 1 (fL 1 fI) a1.Methods, lst 1 (fL 1 fI) a1.Costs]]⟩), (2, ⟨47, 8, true, true, v5, [[int a3.Now, boo a3.Closed, lst 4 GPool.av a3.Pools, lst 1 fI a3.Bal, lst 11 GRoll.av a3.Rolls, lst 1 fI a3.Prices, lst 1 fI a3.Down, lst 8 GEnt.av a3.Ahead]]⟩), (4, ⟨83, 11, true, true, v28, [[int x27.Open, int x27.Bought, int x27.Landed, int x27.Arrived, int x27.Returned, int x27.Sold, int x27.Shipped, int x27.SentBack, int x27.Scrapped, int x27.Lost, int x27.Revalued]]⟩)]) (.tmp rfl .nil) (HK.le ⟨rfl, rfl, rfl, trivial⟩) ?_)
    exact ⟨(), (), rfl, rfl, rfl⟩
    rintro y _ ⟨_, _, rfl, hc, rfl⟩
    subst hc
    obtain ⟨x31, e31, h1⟩ := bind_e h1
    refine sC cal68 (d_stock_sums_c e31) ?_
    refine nb tbk h1 fun x32 h1 => ?_
    refine tr tbk 1 (.mk ?_)
    replace h1 := asrt_e h1
    obtain ⟨rfl, h1⟩ := h1
    refine tc tbk 4 (.mk ?_)
    refine ni tbk h1 fun x33 h1 => ?_
    refine tr tbk 2 (.mk ?_)
    exact bk x33 () h1 leA
    rintro _ _ h0
    refine tc tbk 2 (.mk ?_)
    refine jn h0 [1, 3, 5, 6] [1, 2] (fun (a : Bool) (k : Unit) => [(119, boo a)]) (fun a k => []) ⟨fun j34 h1 => ?_, ?_⟩
    refine tc tbk 3 (.mk ?_)
    obtain ⟨x35, e35, h1⟩ := bind_e h1
    refine sC cal68 (d_stock_sums_c e35) ?_
    refine nb tbk h1 fun x36 h1 => ?_
    refine tr tbk 1 (.mk ?_)
    cases x36
    replace h1 := cf h1
    refine tr tbk 2 (.mk ?_)
    obtain ⟨x37, e37, h1⟩ := bind_e h1
    refine sC cal68 (d_stock_sums_c e37) ?_
    refine nb tbk h1 fun x38 h1 => ?_
    refine tr tbk 2 (.mk ?_)
    cases x38
    replace h1 := cf h1
    refine tr tbk 2 (.mk ?_)
    obtain ⟨x39, e39, h1⟩ := bind_e h1
    refine sC cal68 (d_stock_sums_c e39) ?_
    refine nb tbk h1 fun x40 h1 => ?_
    refine tr tbk 2 (.mk ?_)
    cases x40
    replace h1 := cf h1
    refine tr tbk 2 (.mk ?_)
    refine sY (yv_len_sl rfl Tryz.underlying26 rfl (lst_len _)) ?_
    refine nb tbk h1 fun x41 h1 => ?_
    refine tr tbk 2 (.mk ?_)
    cases x41
    replace h1 := cf h1
    refine tr tbk 4 (.mk ?_)
    refine sY (yv_len_sl rfl Tryz.underlying26 rfl (lst_len _)) ?_
    refine nb tbk h1 fun x42 h1 => ?_
    obtain ⟨x43, e43, h1⟩ := bnd_e h1
    refine sY (yv_to (y := boo x43) (yv_bneq rfl Tryz.underlying4 rfl rfl) (congrArg boo e43)) ?_
    refine tr tbk 2 (.mk ?_)
    exact lf h1 () leA
    replace h1 := ct h1
    refine tr tbk 9 (.mk ?_)
    exact lf h1 () leA
    replace h1 := ct h1
    refine tr tbk 15 (.mk ?_)
    exact lf h1 () leA
    replace h1 := ct h1
    refine tr tbk 21 (.mk ?_)
    exact lf h1 () leA
    replace h1 := ct h1
    refine tr tbk 27 (.mk ?_)
    exact lf h1 () leA
    rintro y7_1 _ h0
    replace h0 := asrt_e h0
    obtain ⟨rfl, h0⟩ := h0
    refine tc tbk 3 (.mk ?_)
    refine jn h0 [] [] (fun (a : Bool) (k : Unit) => [(6, boo a)]) (fun a k => []) ⟨fun j44 h1 => ?_, ?_⟩
    refine c_drawE [0, 1, 3, 7, 15, 31, 63, 127, 255, 511, 1023, 2047, 4095, 4095, 4095, 20479, 53247, 118783, 262143, 524287, 1048575, 2097151] (fun i => bif Nat.beq i 0 then ([2]) else bif Nat.beq i 1 then ([2]) else bif Nat.beq i 4 then ([2]) else bif Nat.beq i 5 then ([2]) else bif Nat.beq i 12 then ([1]) else bif Nat.beq i 14 then ([2]) else bif Nat.beq i 15 then ([2]) else []) (fun i => [1, 2]) (fun i => true) [0, 1, 2, 3, 4, 5, 6, 7, 8, 9, 10, 11, 12, 13, 14, 15, 16, 17, 18, 19, 20, 21] mixed (by kernel_rfl) ?_; intro K hK
    refine de_pure rfl rfl rfl rfl (fun H hH => yv_fieldAddr rfl fo47_1 rfl (.pt ((hH _ (by decide)).trans rfl) rfl rfl) (.pt _ _ _ _ _)) ?_
    refine de_pure rfl rfl rfl rfl (fun H hH => yv_load rfl sh4 rfl (.pt ((hH _ (by decide)).trans rfl) rfl rfl) rfl) ?_
    obtain ⟨x45, e45, h1⟩ := bnd_e h1
    refine de_pure rfl rfl rfl rfl (fun H hH => yv_not rfl rfl e45) ?_
    refine de_pure rfl rfl rfl rfl (fun H hH => yv_move rfl rfl) ?_
    cases x45
    replace h1 := cf h1
    refine de_pure rfl rfl rfl rfl (fun H hH => yv_fieldAddr rfl fo47_7 rfl (.pt ((hH _ (by decide)).trans rfl) rfl rfl) (.pt _ _ _ _ _)) ?_
    refine de_pure rfl rfl rfl rfl (fun H hH => yv_load rfl sh26 rfl (.pt ((hH _ (by decide)).trans rfl) rfl rfl) rfl) ?_
    obtain ⟨x46, e46, h1⟩ := bind_e h1
    refine de_pure rfl rfl rfl rfl (fun H hH => yv_to (y := .pp [int x46.Now, boo x46.Closed, lst 4 GPool.av x46.Pools, lst 1 fI x46.Bal, lst 11 GRoll.av x46.Rolls, lst 1 fI x46.Prices, lst 1 fI x46.Down, lst 8 GEnt.av x46.Ahead]) (yv_ixT rfl Tryz.underlying26 sh47 rfl rfl e46) (congrArg AV.pp (GEnt.av_eq x46))) ?_
    refine de_pure rfl rfl rfl rfl (fun H hH => yv_fieldAddr rfl fo47_7 rfl (.pp _) (.pp _ _)) ?_
    refine de_pure rfl rfl rfl rfl (fun H hH => yv_load rfl sh26 rfl (.pp _) rfl) ?_
    refine de_pure rfl rfl rfl rfl (fun H hH => yv_len_sl rfl Tryz.underlying26 rfl (lst_len _)) ?_
    obtain ⟨x47, e47, h1⟩ := bnd_e h1
    refine de_pure rfl rfl rfl rfl (fun H hH => yv_to (y := boo x47) (yv_eql rfl rfl rfl) (congrArg boo e47)) ?_
    refine de_pure rfl rfl rfl rfl (fun H hH => yv_move rfl rfl) ?_
    cases x47
    replace h1 := cf h1
    refine de_skip rfl rfl rfl ?_
    refine de_skip rfl rfl rfl ?_
    refine de_skip rfl rfl rfl ?_
    refine de_skip rfl rfl rfl ?_
    refine de_skip rfl rfl rfl ?_
    refine de_skip rfl rfl rfl ?_
    refine de_skip rfl rfl rfl ?_
    refine de_pure rfl rfl rfl rfl (fun H hH => yv_pick rfl rfl (fun _ => rfl) (fun _ => rfl) rfl) ?_
    refine de_pure rfl rfl rfl rfl (fun H hH => yv_pick rfl rfl (fun _ => rfl) (fun _ => rfl) rfl) ?_
    refine de_pure rfl rfl rfl rfl (fun H hH => yv_assign rfl rfl) ?_
    refine de_nil (hK _ ?_)
    exact lf h1 () leA
    replace h1 := ct h1
    refine de_pure rfl rfl rfl rfl (fun H hH => yv_load rfl sh25 rfl (.pt ((hH _ (by decide)).trans rfl) rfl rfl) rfl) ?_
    refine de_pure rfl rfl rfl rfl (fun H hH => yv_move rfl rfl) ?_
    refine de_pure rfl rfl rfl rfl (fun H hH => yv_fieldAddr rfl fo47_7 rfl (.pt ((hH _ (by decide)).trans rfl) rfl rfl) (.pt _ _ _ _ _)) ?_
    refine de_pure rfl rfl rfl rfl (fun H hH => yv_load rfl sh26 rfl (.pt ((hH _ (by decide)).trans rfl) rfl rfl) rfl) ?_
    obtain ⟨x48, e48, h1⟩ := bind_e h1
    refine de_pure rfl rfl rfl rfl (fun H hH => yv_to (y := .pp [int x48.Now, boo x48.Closed, lst 4 GPool.av x48.Pools, lst 1 fI x48.Bal, lst 11 GRoll.av x48.Rolls, lst 1 fI x48.Prices, lst 1 fI x48.Down, lst 8 GEnt.av x48.Ahead]) (yv_ixT rfl Tryz.underlying26 sh47 rfl rfl e48) (congrArg AV.pp (GEnt.av_eq x48))) ?_
    refine de_pure rfl rfl rfl rfl (fun H hH => yv_load rfl sh47 rfl (.pp _) rfl) ?_
    obtain ⟨x49, e49, h1⟩ := bind_e h1
    refine de_pure rfl rfl rfl rfl (fun H hH => yv_callP rfl rfl (.cons rfl (.cons rfl (.cons rfl .nil))) cal69 (CvL.refl _) (ih _ hN e49)) ?_
    refine de_pure rfl rfl rfl rfl (fun H hH => yv_pick rfl rfl (fun _ => rfl) (fun _ => rfl) rfl) ?_
    refine de_pure rfl rfl rfl rfl (fun H hH => yv_pick rfl rfl (fun _ => rfl) (fun _ => rfl) rfl) ?_
    refine de_pure rfl rfl rfl rfl (fun H hH => yv_assign rfl rfl) ?_
    refine de_nil (hK _ ?_)
    exact lf h1 () leA
    replace h1 := ct h1
    refine de_skip rfl rfl rfl ?_
    refine de_skip rfl rfl rfl ?_
    refine de_skip rfl rfl rfl ?_
    refine de_skip rfl rfl rfl ?_
    refine de_skip rfl rfl rfl ?_
    refine de_skip rfl rfl rfl ?_
    refine de_skip rfl rfl rfl ?_
    refine de_skip rfl rfl rfl ?_
    refine de_skip rfl rfl rfl ?_
    refine de_skip rfl rfl rfl ?_
    refine de_skip rfl rfl rfl ?_
    refine de_skip rfl rfl rfl ?_
    refine de_skip rfl rfl rfl ?_
    refine de_skip rfl rfl rfl ?_
    refine de_skip rfl rfl rfl ?_
    refine de_skip rfl rfl rfl ?_
    refine de_pure rfl rfl rfl rfl (fun H hH => yv_pick rfl rfl (fun _ => rfl) (fun _ => rfl) rfl) ?_
    refine de_pure rfl rfl rfl rfl (fun H hH => yv_assign rfl rfl) ?_
    refine de_nil (hK _ ?_)
    exact lf h1 () leA
    rintro y8_1 _ h0
    obtain rfl := nxt_e h0
    refine wR hret (rT .nil) ?_
    exact .refl _
def d_stock_Check_L0 (a1 : GState) : Nat → Int → Option (Unit)
  | 0, _ => none
  | n + 1, y1_1 =>
    bnd (decide (y1_1 < (a1.Ents.length : Int))) fun x13 =>
    cond x13 ((ix a1.Ents y1_1).bind fun x14 =>
    (d_stock_entity n a1.Master y1_1 x14).bind fun x16 =>
    bnd (!x16) fun x17 =>
    asrt (x17 = false) <|
    bnd (w64 (y1_1 + 1)) fun x18 =>
    d_stock_Check_L0 a1 n (x18 : Int)) (some ())
def d_stock_Check_L1 (a1 : GState) : Nat → Int → Option (Unit)
  | 0, _ => none
  | n + 1, y3_1 =>
    bnd (decide (y3_1 < (a1.Receipts.length : Int))) fun x20 =>
    cond x20 ((ix a1.Receipts y3_1).bind fun x21 =>
    (show Option (Bool) from
    (show Option ((Bool)) from
    (show Option (Bool) from
    bnd (w64 (a1.Master.Entities - 1)) fun x26 =>
    (d_stock_in x21.Entity 0 x26).bind fun x27 =>
    cond x27 (bnd (w64 ((a1.Master.Weights.length : Int) - 1)) fun x28 =>
    (d_stock_in x21.Item 0 x28).bind fun x29 =>
    cond x29 ((d_stock_in x21.Loc 0 1).bind fun x30 =>
    some (x30 : Bool)) (some (false : Bool))) (some (false : Bool))).bind <| fun y4_1 =>
    some (y4_1 : Bool)).bind <| fun y5_1 =>
    bnd (!y5_1) fun x31 =>
    cond x31 (some (true : Bool)) ((d_stock_sums n 0 ([x21.Qty, x21.Value, x21.Accrued] : List Int)).bind fun x32 =>
    bnd (!x32) fun x33 =>
    cond x33 (some (true : Bool)) ((d_stock_in x21.Open 0 x21.Qty).bind fun x34 =>
    bnd (!x34) fun x35 =>
    cond x35 (some (true : Bool)) ((d_stock_in x21.Back 0 x21.Qty).bind fun x36 =>
    bnd (!x36) fun x37 =>
    some (x37 : Bool))))).bind <| fun y6_1 =>
    asrt (y6_1 = false) <|
    bnd (w64 (y3_1 + 1)) fun x38 =>
    d_stock_Check_L1 a1 n (x38 : Int)) (some ())
def d_stock_Check_L2 (a1 : GState) : Nat → Int → Option (Unit)
  | 0, _ => none
  | n + 1, y8_1 =>
    bnd (decide (y8_1 < (a1.Sales.length : Int))) fun x40 =>
    cond x40 ((ix a1.Sales y8_1).bind fun x41 =>
    (show Option (Bool) from
    (show Option ((Bool)) from
    (show Option (Bool) from
    bnd (w64 (a1.Master.Entities - 1)) fun x46 =>
    (d_stock_in x41.Entity 0 x46).bind fun x47 =>
    cond x47 (bnd (w64 ((a1.Master.Weights.length : Int) - 1)) fun x48 =>
    (d_stock_in x41.Item 0 x48).bind fun x49 =>
    cond x49 ((d_stock_in x41.Loc 0 1).bind fun x50 =>
    some (x50 : Bool)) (some (false : Bool))) (some (false : Bool))).bind <| fun y9_1 =>
    some (y9_1 : Bool)).bind <| fun y10_1 =>
    bnd (!y10_1) fun x51 =>
    cond x51 (some (true : Bool)) ((d_stock_sums n 0 ([x41.Qty, x41.Cost] : List Int)).bind fun x52 =>
    bnd (!x52) fun x53 =>
    cond x53 (some (true : Bool)) ((d_stock_in x41.Back 0 x41.Qty).bind fun x54 =>
    bnd (!x54) fun x55 =>
    cond x55 (some (true : Bool)) ((d_stock_sums n (-288230376151711744) ([x41.Profit] : List Int)).bind fun x56 =>
    bnd (!x56) fun x57 =>
    cond x57 (some (true : Bool)) ((d_stock_in x41.Period 1 12).bind fun x58 =>
    bnd (!x58) fun x59 =>
    some (x59 : Bool)))))).bind <| fun y11_1 =>
    asrt (y11_1 = false) <|
    bnd (w64 (y8_1 + 1)) fun x60 =>
    d_stock_Check_L2 a1 n (x60 : Int)) (some ())
def d_stock_Check_L3 (a1 : GState) : Nat → Int → Option (Unit)
  | 0, _ => none
  | n + 1, y13_1 =>
    bnd (decide (y13_1 < (a1.Transits.length : Int))) fun x62 =>
    cond x62 ((ix a1.Transits y13_1).bind fun x63 =>
    (show Option (Bool) from
    (show Option ((Bool)) from
    (show Option (Bool) from
    bnd (w64 (a1.Master.Entities - 1)) fun x68 =>
    (d_stock_in x63.From 0 x68).bind fun x69 =>
    cond x69 (bnd (w64 ((a1.Master.Weights.length : Int) - 1)) fun x70 =>
    (d_stock_in x63.Item 0 x70).bind fun x71 =>
    cond x71 ((d_stock_in 0 0 1).bind fun x72 =>
    some (x72 : Bool)) (some (false : Bool))) (some (false : Bool))).bind <| fun y14_1 =>
    some (y14_1 : Bool)).bind <| fun y15_1 =>
    bnd (!y15_1) fun x73 =>
    cond x73 (some (true : Bool)) ((show Option ((Bool)) from
    (show Option (Bool) from
    bnd (w64 (a1.Master.Entities - 1)) fun x76 =>
    (d_stock_in x63.To 0 x76).bind fun x77 =>
    cond x77 (bnd (w64 ((a1.Master.Weights.length : Int) - 1)) fun x78 =>
    (d_stock_in x63.Item 0 x78).bind fun x79 =>
    cond x79 ((d_stock_in 0 0 1).bind fun x80 =>
    some (x80 : Bool)) (some (false : Bool))) (some (false : Bool))).bind <| fun y16_1 =>
    some (y16_1 : Bool)).bind <| fun y17_1 =>
    bnd (!y17_1) fun x81 =>
    cond x81 (some (true : Bool)) ((d_stock_sums n 0 ([x63.Qty, x63.Value] : List Int)).bind fun x82 =>
    bnd (!x82) fun x83 =>
    cond x83 (some (true : Bool)) ((d_stock_sums n (-288230376151711744) ([x63.Profit] : List Int)).bind fun x84 =>
    bnd (!x84) fun x85 =>
    some (x85 : Bool))))).bind <| fun y18_1 =>
    asrt (y18_1 = false) <|
    bnd (w64 (y13_1 + 1)) fun x86 =>
    d_stock_Check_L3 a1 n (x86 : Int)) (some ())
def d_stock_Check (n : Nat) (a1 : GState) : Option (Bool) :=
(show Option (Bool) from
(d_master_Check n a1.Master).bind fun x5 =>
bnd (!x5) fun x6 =>
cond x6 (some (true : Bool)) (bnd (decide ((a1.Ents.length : Int) ≠ a1.Master.Entities)) fun x7 =>
cond x7 (some (true : Bool)) (bnd (if (a1.Transits.length : Int) > (if (a1.Sales.length : Int) > (a1.Receipts.length : Int) then (a1.Sales.length : Int) else (a1.Receipts.length : Int)) then (a1.Transits.length : Int) else (if (a1.Sales.length : Int) > (a1.Receipts.length : Int) then (a1.Sales.length : Int) else (a1.Receipts.length : Int))) fun x8 =>
bnd (decide (x8 > 40)) fun x9 =>
cond x9 (some (true : Bool)) ((d_stock_sums n 0 ([a1.Done] : List Int)).bind fun x10 =>
bnd (!x10) fun x11 =>
some (x11 : Bool))))).bind <| fun y0_1 =>
asrt (y0_1 = false) <|
(show Option (Unit) from
d_stock_Check_L0 a1 n (0 : Int)).bind <| fun _ =>
(show Option (Unit) from
d_stock_Check_L1 a1 n (0 : Int)).bind <| fun _ =>
(show Option (Unit) from
d_stock_Check_L2 a1 n (0 : Int)).bind <| fun _ =>
(show Option (Unit) from
d_stock_Check_L3 a1 n (0 : Int)).bind <| fun _ =>
some ((true : Bool))
theorem d_stock_Check_c {n : Nat} {a1 : GState} {r : Bool} (h0 : d_stock_Check n a1 = some r) : PP Tryz.prog 37 [.agg (GState.av a1)] (fun y => y = boo r) := by
  unfold d_stock_Check at h0
  refine pp_of_pc (R0 := fun y H => Cv (frzH H) y (boo r)) ?_ (fun y H hc => ⟨_, rfl, pvB r, hc⟩)
  refine pcw (c := _) Tryz.func37 rfl rfl ?_; intro Q hret hnorm
  refine tc tbk 2 (.mk ?_)
  refine sB 1 fun v2 => ?_
  refine tr tbk 6 (.mk ?_)
  refine sA 2 z25 fun v3 => ?_
  refine sS ⟨25, 5, true, true, v3, [[int a1.Master.Entities, int a1.Master.Periods, lst 1 fI a1.Master.Weights, lst 1 (fL 1 fI) a1.Master.Methods, lst 1 (fL 1 fI) a1.Master.Costs]]⟩ sh25 ?_
  refine tr tbk 3 (.mk ?_)
  refine jn h0 [1, 2, 3] [1, 2] (fun (a : Bool) (k : Unit) => [(45, boo a)]) (fun a k => []) ⟨fun j4 h1 => ?_, ?_⟩
  refine tc tbk 2 (.mk ?_)
  obtain ⟨x5, e5, h1⟩ := bind_e h1
  refine sC cal65 (d_master_Check_c e5) ?_
  refine nb tbk h1 fun x6 h1 => ?_
  refine tr tbk 1 (.mk ?_)
  cases x6
  replace h1 := cf h1
  refine tr tbk 2 (.mk ?_)
  refine sY (yv_len_sl rfl Tryz.underlying26 rfl (lst_len _)) ?_
  refine tr tbk 2 (.mk ?_)
  refine nb tbk h1 fun x7 h1 => ?_
  refine tr tbk 2 (.mk ?_)
  cases x7
  replace h1 := cf h1
  refine tr tbk 2 (.mk ?_)
  refine sY (yv_len_sl rfl Tryz.underlying27 rfl (lst_len _)) ?_
  refine tr tbk 2 (.mk ?_)
  refine sY (yv_len_sl rfl Tryz.underlying28 rfl (lst_len _)) ?_
  refine tr tbk 2 (.mk ?_)
  refine sY (yv_len_sl rfl Tryz.underlying29 rfl (lst_len _)) ?_
  obtain ⟨x8, e8, h1⟩ := bnd_e h1
  refine sY (yv_max3 rfl rfl rfl rfl e8) ?_
  refine nb tbk h1 fun x9 h1 => ?_
  refine tr tbk 2 (.mk ?_)
  cases x9
  replace h1 := cf h1
  refine tr tbk 2 (.mk ?_)
  refine sY (yv_to (y := lst 1 fI ([a1.Done] : List Int)) (yv_buildSlice (ps := [(0, _)]) (rows := [[int a1.Done]]) rfl Tryz.underlying22 bz3 (.cons rfl .nil) (by kernel_rfl) rfl rfl rfl) rfl) ?_
  obtain ⟨x10, e10, h1⟩ := bind_e h1
  refine sC cal68 (d_stock_sums_c e10) ?_
  refine nb tbk h1 fun x11 h1 => ?_
  refine tr tbk 2 (.mk ?_)
  exact lf h1 () leA
  replace h1 := ct h1
  refine tr tbk 7 (.mk ?_)
  exact lf h1 () leA
  replace h1 := ct h1
  refine tr tbk 20 (.mk ?_)
  exact lf h1 () leA
  replace h1 := ct h1
  refine tr tbk 28 (.mk ?_)
  exact lf h1 () leA
  rintro y0_1 _ h0
  replace h0 := asrt_e h0
  obtain ⟨rfl, h0⟩ := h0
  refine tc tbk 7 (.mk ?_)
  refine sY (yv_len_sl rfl Tryz.underlying26 rfl (lst_len _)) ?_
  refine tr tbk 2 (.mk ?_)
  refine jn h0 [1, 2, 3] [1, 2] (fun (a : Unit) (k : Unit) => []) (fun a k => []) ⟨fun j12 h1 => ?_, ?_⟩
  refine tc tbk 1 (.mk ?_)
  refine lp (fun n (a : Int) => d_stock_Check_L0 a1 n a) (0 : Int) () h1 [1, 2, 3, 47, 48] [1, 2] (fun (a : Int) (k : Unit) => [(49, int a)]) (fun a k => []) (fun _ => rfl) ⟨leA, ?_⟩
  rintro n y1_1 _ hm h1
  replace h1 : d_stock_Check_L0 a1 (n + 1) y1_1 = some _ := h1
  rw [d_stock_Check_L0] at h1
  refine tc tbk 2 (.mk ?_)
  refine nb tbk h1 fun x13 h1 => ?_
  refine tr tbk 2 (.mk ?_)
  cases x13
  replace h1 := cf h1
  refine tc tbk 2 (.mk ?_)
  exact lf h1 () leA
  replace h1 := ct h1
  refine tc tbk 7 (.mk ?_)
  obtain ⟨x14, e14, h1⟩ := bind_e h1
  refine sY (yv_to (y := .pp [int x14.Now, boo x14.Closed, lst 4 GPool.av x14.Pools, lst 1 fI x14.Bal, lst 11 GRoll.av x14.Rolls, lst 1 fI x14.Prices, lst 1 fI x14.Down, lst 8 GEnt.av x14.Ahead]) (yv_ixT rfl Tryz.underlying26 sh47 rfl rfl e14) (congrArg AV.pp (GEnt.av_eq x14))) ?_
  refine tr tbk 1 (.mk ?_)
  refine sA 3 z47 fun v15 => ?_
  refine tr tbk 1 (.mk ?_)
  refine sS ⟨47, 8, true, true, v15, [[int x14.Now, boo x14.Closed, lst 4 GPool.av x14.Pools, lst 1 fI x14.Bal, lst 11 GRoll.av x14.Rolls, lst 1 fI x14.Prices, lst 1 fI x14.Down, lst 8 GEnt.av x14.Ahead]]⟩ sh47 ?_
  refine tr tbk 6 (.mk ?_)
  obtain ⟨x16, e16, h1⟩ := bind_e h1
  refine sC cal69 (d_stock_entity_c e16) ?_
  refine nb tbk h1 fun x17 h1 => ?_
  refine tr tbk 1 (.mk ?_)
  replace h1 := asrt_e h1
  obtain ⟨rfl, h1⟩ := h1
  refine tc tbk 4 (.mk ?_)
  refine ni tbk h1 fun x18 h1 => ?_
  refine tr tbk 2 (.mk ?_)
  exact bk x18 () h1 leA
  rintro _ _ h0
  refine tc tbk 10 (.mk ?_)
  refine sY (yv_len_sl rfl Tryz.underlying27 rfl (lst_len _)) ?_
  refine tr tbk 2 (.mk ?_)
  refine jn h0 [1, 2, 6] [1, 2] (fun (a : Unit) (k : Unit) => []) (fun a k => []) ⟨fun j19 h1 => ?_, ?_⟩
  refine tc tbk 1 (.mk ?_)
  refine lp (fun n (a : Int) => d_stock_Check_L1 a1 n a) (0 : Int) () h1 [1, 2, 6, 62, 63] [1, 2] (fun (a : Int) (k : Unit) => [(64, int a)]) (fun a k => []) (fun _ => rfl) ⟨leA, ?_⟩
  rintro n y3_1 _ hm h1
  replace h1 : d_stock_Check_L1 a1 (n + 1) y3_1 = some _ := h1
  rw [d_stock_Check_L1] at h1
  refine tc tbk 2 (.mk ?_)
  refine nb tbk h1 fun x20 h1 => ?_
  refine tr tbk 2 (.mk ?_)
  cases x20
  replace h1 := cf h1
  refine tc tbk 2 (.mk ?_)
  exact lf h1 () leA
  replace h1 := ct h1
  refine tc tbk 6 (.mk ?_)
  obtain ⟨x21, e21, h1⟩ := bind_e h1
  refine sY (yv_ixT rfl Tryz.underlying27 sh129 rfl rfl e21) ?_
  refine tr tbk 1 (.mk ?_)
  refine sA 4 z129 fun v22 => ?_
  refine sS ⟨129, 8, true, true, v22, [[int x21.Entity, int x21.Item, int x21.Loc, int x21.Qty, int x21.Value, int x21.Open, int x21.Accrued, int x21.Back]]⟩ sh129 ?_
  refine tr tbk 2 (.mk ?_)
  refine jn h1 [1, 2, 6, 62, 63, 64] [1, 2] (fun (a : Bool) (k : Unit) => [(103, boo a)]) (fun a k => []) ⟨fun j23 h2 => ?_, ?_⟩
  refine tc tbk 8 (.mk ?_)
  obtain ⟨j24, h3, h2⟩ := bind_e h2
  refine rse (Out := fun y H' => (∃ (a : Bool) (k : Unit), a = j24 ∧ y = boo a ∧ H' = hk [(1, ⟨31, 10, true, true, v2, [(GState.av a1)]⟩), (2, ⟨25, 5, true, true, v3, [[int a1.Master.Entities, int a1.Master.Periods, lst 1 fI a1.Master.Weights, lst 1 (fL 1 fI) a1.Master.Methods, lst 1 (fL 1 fI) a1.Master.Costs]]⟩), (4, ⟨129, 8, true, true, v22, [[int x21.Entity, int x21.Item, int x21.Loc, int x21.Qty, int x21.Value, int x21.Open, int x21.Accrued, int x21.Back]]⟩)])) rfl rfl rfl (yl_call rfl rfl (.cons rfl (.cons rfl (.cons rfl .nil))) cal70 ?_) ?_
  refine pcw (c := _) Tryz.func70 rfl rfl ?_; intro Q hret hnorm
  refine tc tbk 5 (.mk ?_)
  refine jn h3 [] [1, 2, 4] (fun (a : Bool) (k : Unit) => [(7, boo a)]) (fun a k => []) ⟨fun j25 h4 => ?_, ?_⟩
  refine tc tbk 4 (.mk ?_)
  refine ni tbk h4 fun x26 h4 => ?_
  obtain ⟨x27, e27, h4⟩ := bind_e h4
  refine sC cal71 (d_stock_in_c e27) ?_
  refine tr tbk 1 (.mk ?_)
  cases x27
  replace h4 := cf h4
  refine tr tbk 13 (.mk ?_)
  exact lf h4 () leA
  replace h4 := ct h4
  refine tr tbk 3 (.mk ?_)
  refine sY (yv_len_sl rfl Tryz.underlying22 rfl (lst_len _)) ?_
  refine ni tbk h4 fun x28 h4 => ?_
  obtain ⟨x29, e29, h4⟩ := bind_e h4
  refine sC cal71 (d_stock_in_c e29) ?_
  refine tr tbk 2 (.mk ?_)
  cases x29
  replace h4 := cf h4
  refine tr tbk 5 (.mk ?_)
  exact lf h4 () leA
  replace h4 := ct h4
  refine tr tbk 1 (.mk ?_)
  obtain ⟨x30, e30, h4⟩ := bind_e h4
  refine sC cal71 (d_stock_in_c e30) ?_
  refine tr tbk 3 (.mk ?_)
  exact lf h4 () leA
  rintro y4_1 _ h3
  obtain rfl := nxt_e h3
  refine w_ret (hret _ _ (hk [(1, ⟨31, 10, true, true, v2, [(GState.av a1)]⟩), (2, ⟨25, 5, true, true, v3, [[int a1.Master.Entities, int a1.Master.Periods, lst 1 fI a1.Master.Weights, lst 1 (fL 1 fI) a1.Master.Methods, lst 1 (fL 1 fI) a1.Master.Costs]]⟩), (4, ⟨129, 8, true, true, v22, [[int x21.Entity, int x21.Item, int x21.Loc, int x21.Qty, int x21.Value, int x21.Open, int x21.Accrued, int x21.Back]]⟩)]) (.tmp rfl .nil) (HK.le ⟨rfl, rfl, rfl, trivial⟩) ?_)
  exact ⟨y4_1, (), rfl, rfl, rfl⟩
  rintro y _ ⟨y5_1, _, rfl, hc, rfl⟩
  subst hc
  refine nb tbk h2 fun x31 h2 => ?_
  refine tr tbk 1 (.mk ?_)
  cases x31
  replace h2 := cf h2
  refine tr tbk 6 (.mk ?_)
  refine sY (yv_to (y := lst 1 fI ([x21.Qty, x21.Value, x21.Accrued] : List Int)) (yv_buildSlice (ps := [(0, _), (1, _), (2, _)]) (rows := [[int x21.Qty], [int x21.Value], [int x21.Accrued]]) rfl Tryz.underlying22 bz3 (.cons rfl (.cons rfl (.cons rfl .nil))) (by kernel_rfl) rfl rfl rfl) rfl) ?_
  obtain ⟨x32, e32, h2⟩ := bind_e h2
  refine sC cal68 (d_stock_sums_c e32) ?_
  refine nb tbk h2 fun x33 h2 => ?_
  refine tr tbk 2 (.mk ?_)
  cases x33
  replace h2 := cf h2
  refine tr tbk 4 (.mk ?_)
  obtain ⟨x34, e34, h2⟩ := bind_e h2
  refine sC cal71 (d_stock_in_c e34) ?_
  refine nb tbk h2 fun x35 h2 => ?_
  refine tr tbk 2 (.mk ?_)
  cases x35
  replace h2 := cf h2
  refine tr tbk 4 (.mk ?_)
  obtain ⟨x36, e36, h2⟩ := bind_e h2
  refine sC cal71 (d_stock_in_c e36) ?_
  refine nb tbk h2 fun x37 h2 => ?_
  refine tr tbk 2 (.mk ?_)
  exact lf h2 () leA
  replace h2 := ct h2
  refine tr tbk 8 (.mk ?_)
  exact lf h2 () leA
  replace h2 := ct h2
  refine tr tbk 16 (.mk ?_)
  exact lf h2 () leA
  replace h2 := ct h2
  refine tr tbk 27 (.mk ?_)
  exact lf h2 () leA
  rintro y6_1 _ h1
  replace h1 := asrt_e h1
  obtain ⟨rfl, h1⟩ := h1
  refine tc tbk 4 (.mk ?_)
  refine ni tbk h1 fun x38 h1 => ?_
  refine tr tbk 2 (.mk ?_)
  exact bk x38 () h1 leA
  rintro _ _ h0
  refine tc tbk 5 (.mk ?_)
  refine sY (yv_len_sl rfl Tryz.underlying28 rfl (lst_len _)) ?_
  refine tr tbk 2 (.mk ?_)
  refine jn h0 [1, 2, 6] [1, 2] (fun (a : Unit) (k : Unit) => []) (fun a k => []) ⟨fun j39 h1 => ?_, ?_⟩
  refine tc tbk 1 (.mk ?_)
  refine lp (fun n (a : Int) => d_stock_Check_L2 a1 n a) (0 : Int) () h1 [1, 2, 6, 106, 107] [1, 2] (fun (a : Int) (k : Unit) => [(108, int a)]) (fun a k => []) (fun _ => rfl) ⟨leA, ?_⟩
  rintro n y8_1 _ hm h1
  replace h1 : d_stock_Check_L2 a1 (n + 1) y8_1 = some _ := h1
  rw [d_stock_Check_L2] at h1
  refine tc tbk 2 (.mk ?_)
  refine nb tbk h1 fun x40 h1 => ?_
  refine tr tbk 2 (.mk ?_)
  cases x40
  replace h1 := cf h1
  refine tc tbk 2 (.mk ?_)
  exact lf h1 () leA
  replace h1 := ct h1
  refine tc tbk 6 (.mk ?_)
  obtain ⟨x41, e41, h1⟩ := bind_e h1
  refine sY (yv_ixT rfl Tryz.underlying28 sh79 rfl rfl e41) ?_
  refine tr tbk 1 (.mk ?_)
  refine sA 5 z79 fun v42 => ?_
  refine sS ⟨79, 9, true, true, v42, [[int x41.Entity, int x41.Item, int x41.Loc, int x41.Qty, int x41.Back, int x41.Cost, int x41.Profit, int x41.Period, boo x41.Waits]]⟩ sh79 ?_
  refine tr tbk 2 (.mk ?_)
  refine jn h1 [1, 2, 6, 106, 107, 108] [1, 2] (fun (a : Bool) (k : Unit) => [(150, boo a)]) (fun a k => []) ⟨fun j43 h2 => ?_, ?_⟩
  refine tc tbk 8 (.mk ?_)
  obtain ⟨j44, h3, h2⟩ := bind_e h2
  refine rse (Out := fun y H' => (∃ (a : Bool) (k : Unit), a = j44 ∧ y = boo a ∧ H' = hk [(1, ⟨31, 10, true, true, v2, [(GState.av a1)]⟩), (2, ⟨25, 5, true, true, v3, [[int a1.Master.Entities, int a1.Master.Periods, lst 1 fI a1.Master.Weights, lst 1 (fL 1 fI) a1.Master.Methods, lst 1 (fL 1 fI) a1.Master.Costs]]⟩), (5, ⟨79, 9, true, true, v42, [[int x41.Entity, int x41.Item, int x41.Loc, int x41.Qty, int x41.Back, int x41.Cost, int x41.Profit, int x41.Period, boo x41.Waits]]⟩)])) rfl rfl rfl (yl_call rfl rfl (.cons rfl (.cons rfl (.cons rfl .nil))) cal70 ?_) ?_
  refine pcw (c := _) Tryz.func70 rfl rfl ?_; intro Q hret hnorm
  refine tc tbk 5 (.mk ?_)
  refine jn h3 [] [1, 2, 5] (fun (a : Bool) (k : Unit) => [(7, boo a)]) (fun a k => []) ⟨fun j45 h4 => ?_, ?_⟩
  refine tc tbk 4 (.mk ?_)
  refine ni tbk h4 fun x46 h4 => ?_
  obtain ⟨x47, e47, h4⟩ := bind_e h4
  refine sC cal71 (d_stock_in_c e47) ?_
  refine tr tbk 1 (.mk ?_)
  cases x47
  replace h4 := cf h4
  refine tr tbk 13 (.mk ?_)
  exact lf h4 () leA
  replace h4 := ct h4
  refine tr tbk 3 (.mk ?_)
  refine sY (yv_len_sl rfl Tryz.underlying22 rfl (lst_len _)) ?_
  refine ni tbk h4 fun x48 h4 => ?_
  obtain ⟨x49, e49, h4⟩ := bind_e h4
  refine sC cal71 (d_stock_in_c e49) ?_
  refine tr tbk 2 (.mk ?_)
  cases x49
  replace h4 := cf h4
  refine tr tbk 5 (.mk ?_)
  exact lf h4 () leA
  replace h4 := ct h4
  refine tr tbk 1 (.mk ?_)
  obtain ⟨x50, e50, h4⟩ := bind_e h4
  refine sC cal71 (d_stock_in_c e50) ?_
  refine tr tbk 3 (.mk ?_)
  exact lf h4 () leA
  rintro y9_1 _ h3
  obtain rfl := nxt_e h3
  refine w_ret (hret _ _ (hk [(1, ⟨31, 10, true, true, v2, [(GState.av a1)]⟩), (2, ⟨25, 5, true, true, v3, [[int a1.Master.Entities, int a1.Master.Periods, lst 1 fI a1.Master.Weights, lst 1 (fL 1 fI) a1.Master.Methods, lst 1 (fL 1 fI) a1.Master.Costs]]⟩), (5, ⟨79, 9, true, true, v42, [[int x41.Entity, int x41.Item, int x41.Loc, int x41.Qty, int x41.Back, int x41.Cost, int x41.Profit, int x41.Period, boo x41.Waits]]⟩)]) (.tmp rfl .nil) (HK.le ⟨rfl, rfl, rfl, trivial⟩) ?_)
  exact ⟨y9_1, (), rfl, rfl, rfl⟩
  rintro y _ ⟨y10_1, _, rfl, hc, rfl⟩
  subst hc
  refine nb tbk h2 fun x51 h2 => ?_
  refine tr tbk 1 (.mk ?_)
  cases x51
  replace h2 := cf h2
  refine tr tbk 4 (.mk ?_)
  refine sY (yv_to (y := lst 1 fI ([x41.Qty, x41.Cost] : List Int)) (yv_buildSlice (ps := [(0, _), (1, _)]) (rows := [[int x41.Qty], [int x41.Cost]]) rfl Tryz.underlying22 bz3 (.cons rfl (.cons rfl .nil)) (by kernel_rfl) rfl rfl rfl) rfl) ?_
  obtain ⟨x52, e52, h2⟩ := bind_e h2
  refine sC cal68 (d_stock_sums_c e52) ?_
  refine nb tbk h2 fun x53 h2 => ?_
  refine tr tbk 2 (.mk ?_)
  cases x53
  replace h2 := cf h2
  refine tr tbk 4 (.mk ?_)
  obtain ⟨x54, e54, h2⟩ := bind_e h2
  refine sC cal71 (d_stock_in_c e54) ?_
  refine nb tbk h2 fun x55 h2 => ?_
  refine tr tbk 2 (.mk ?_)
  cases x55
  replace h2 := cf h2
  refine tr tbk 2 (.mk ?_)
  refine sY (yv_to (y := lst 1 fI ([x41.Profit] : List Int)) (yv_buildSlice (ps := [(0, _)]) (rows := [[int x41.Profit]]) rfl Tryz.underlying22 bz3 (.cons rfl .nil) (by kernel_rfl) rfl rfl rfl) rfl) ?_
  obtain ⟨x56, e56, h2⟩ := bind_e h2
  refine sC cal68 (d_stock_sums_c e56) ?_
  refine nb tbk h2 fun x57 h2 => ?_
  refine tr tbk 2 (.mk ?_)
  cases x57
  replace h2 := cf h2
  refine tr tbk 2 (.mk ?_)
  obtain ⟨x58, e58, h2⟩ := bind_e h2
  refine sC cal71 (d_stock_in_c e58) ?_
  refine nb tbk h2 fun x59 h2 => ?_
  refine tr tbk 2 (.mk ?_)
  exact lf h2 () leA
  replace h2 := ct h2
  refine tr tbk 6 (.mk ?_)
  exact lf h2 () leA
  replace h2 := ct h2
  refine tr tbk 13 (.mk ?_)
  exact lf h2 () leA
  replace h2 := ct h2
  refine tr tbk 21 (.mk ?_)
  exact lf h2 () leA
  replace h2 := ct h2
  refine tr tbk 30 (.mk ?_)
  exact lf h2 () leA
  rintro y11_1 _ h1
  replace h1 := asrt_e h1
  obtain ⟨rfl, h1⟩ := h1
  refine tc tbk 4 (.mk ?_)
  refine ni tbk h1 fun x60 h1 => ?_
  refine tr tbk 2 (.mk ?_)
  exact bk x60 () h1 leA
  rintro _ _ h0
  refine tc tbk 5 (.mk ?_)
  refine sY (yv_len_sl rfl Tryz.underlying29 rfl (lst_len _)) ?_
  refine tr tbk 2 (.mk ?_)
  refine jn h0 [2] [] (fun (a : Unit) (k : Unit) => []) (fun a k => []) ⟨fun j61 h1 => ?_, ?_⟩
  refine tc tbk 1 (.mk ?_)
  refine lp (fun n (a : Int) => d_stock_Check_L3 a1 n a) (0 : Int) () h1 [2, 6, 153, 154] [2] (fun (a : Int) (k : Unit) => [(155, int a)]) (fun a k => []) (fun _ => rfl) ⟨leA, ?_⟩
  rintro n y13_1 _ hm h1
  replace h1 : d_stock_Check_L3 a1 (n + 1) y13_1 = some _ := h1
  rw [d_stock_Check_L3] at h1
  refine tc tbk 2 (.mk ?_)
  refine nb tbk h1 fun x62 h1 => ?_
  refine tr tbk 2 (.mk ?_)
  cases x62
  replace h1 := cf h1
  refine tc tbk 2 (.mk ?_)
  exact lf h1 () leA
  replace h1 := ct h1
  refine tc tbk 6 (.mk ?_)
  obtain ⟨x63, e63, h1⟩ := bind_e h1
  refine sY (yv_ixT rfl Tryz.underlying29 sh131 rfl rfl e63) ?_
  refine tr tbk 1 (.mk ?_)
  refine sA 6 z131 fun v64 => ?_
  refine sS ⟨131, 6, true, true, v64, [[int x63.From, int x63.To, int x63.Item, int x63.Qty, int x63.Value, int x63.Profit]]⟩ sh131 ?_
  refine tr tbk 2 (.mk ?_)
  refine jn h1 [2, 6, 153, 154, 155] [2] (fun (a : Bool) (k : Unit) => [(190, boo a)]) (fun a k => []) ⟨fun j65 h2 => ?_, ?_⟩
  refine tc tbk 6 (.mk ?_)
  obtain ⟨j66, h3, h2⟩ := bind_e h2
  refine rse (Out := fun y H' => (∃ (a : Bool) (k : Unit), a = j66 ∧ y = boo a ∧ H' = hk [(2, ⟨25, 5, true, true, v3, [[int a1.Master.Entities, int a1.Master.Periods, lst 1 fI a1.Master.Weights, lst 1 (fL 1 fI) a1.Master.Methods, lst 1 (fL 1 fI) a1.Master.Costs]]⟩), (6, ⟨131, 6, true, true, v64, [[int x63.From, int x63.To, int x63.Item, int x63.Qty, int x63.Value, int x63.Profit]]⟩)])) rfl rfl rfl (yl_call rfl rfl (.cons rfl (.cons rfl (.cons rfl .nil))) cal70 ?_) ?_
  refine pcw (c := _) Tryz.func70 rfl rfl ?_; intro Q hret hnorm
  refine tc tbk 5 (.mk ?_)
  refine jn h3 [] [2, 6] (fun (a : Bool) (k : Unit) => [(7, boo a)]) (fun a k => []) ⟨fun j67 h4 => ?_, ?_⟩
  refine tc tbk 4 (.mk ?_)
  refine ni tbk h4 fun x68 h4 => ?_
  obtain ⟨x69, e69, h4⟩ := bind_e h4
  refine sC cal71 (d_stock_in_c e69) ?_
  refine tr tbk 1 (.mk ?_)
  cases x69
  replace h4 := cf h4
  refine tr tbk 13 (.mk ?_)
  exact lf h4 () leA
  replace h4 := ct h4
  refine tr tbk 3 (.mk ?_)
  refine sY (yv_len_sl rfl Tryz.underlying22 rfl (lst_len _)) ?_
  refine ni tbk h4 fun x70 h4 => ?_
  obtain ⟨x71, e71, h4⟩ := bind_e h4
  refine sC cal71 (d_stock_in_c e71) ?_
  refine tr tbk 2 (.mk ?_)
  cases x71
  replace h4 := cf h4
  refine tr tbk 5 (.mk ?_)
  exact lf h4 () leA
  replace h4 := ct h4
  refine tr tbk 1 (.mk ?_)
  obtain ⟨x72, e72, h4⟩ := bind_e h4
  refine sC cal71 (d_stock_in_c e72) ?_
  refine tr tbk 3 (.mk ?_)
  exact lf h4 () leA
  rintro y14_1 _ h3
  obtain rfl := nxt_e h3
  refine w_ret (hret _ _ (hk [(2, ⟨25, 5, true, true, v3, [[int a1.Master.Entities, int a1.Master.Periods, lst 1 fI a1.Master.Weights, lst 1 (fL 1 fI) a1.Master.Methods, lst 1 (fL 1 fI) a1.Master.Costs]]⟩), (6, ⟨131, 6, true, true, v64, [[int x63.From, int x63.To, int x63.Item, int x63.Qty, int x63.Value, int x63.Profit]]⟩)]) (.tmp rfl .nil) (HK.le ⟨rfl, rfl, trivial⟩) ?_)
  exact ⟨y14_1, (), rfl, rfl, rfl⟩
  rintro y _ ⟨y15_1, _, rfl, hc, rfl⟩
  subst hc
  refine nb tbk h2 fun x73 h2 => ?_
  refine tr tbk 1 (.mk ?_)
  cases x73
  replace h2 := cf h2
  refine tr tbk 5 (.mk ?_)
  obtain ⟨j74, h3, h2⟩ := bind_e h2
  refine rse (Out := fun y H' => (∃ (a : Bool) (k : Unit), a = j74 ∧ y = boo a ∧ H' = hk [(2, ⟨25, 5, true, true, v3, [[int a1.Master.Entities, int a1.Master.Periods, lst 1 fI a1.Master.Weights, lst 1 (fL 1 fI) a1.Master.Methods, lst 1 (fL 1 fI) a1.Master.Costs]]⟩), (6, ⟨131, 6, true, true, v64, [[int x63.From, int x63.To, int x63.Item, int x63.Qty, int x63.Value, int x63.Profit]]⟩)])) rfl rfl rfl (yl_call rfl rfl (.cons rfl (.cons rfl (.cons rfl .nil))) cal70 ?_) ?_
  refine pcw (c := _) Tryz.func70 rfl rfl ?_; intro Q hret hnorm
  refine tc tbk 5 (.mk ?_)
  refine jn h3 [] [2, 6] (fun (a : Bool) (k : Unit) => [(7, boo a)]) (fun a k => []) ⟨fun j75 h4 => ?_, ?_⟩
  refine tc tbk 4 (.mk ?_)
  refine ni tbk h4 fun x76 h4 => ?_
  obtain ⟨x77, e77, h4⟩ := bind_e h4
  refine sC cal71 (d_stock_in_c e77) ?_
  refine tr tbk 1 (.mk ?_)
  cases x77
  replace h4 := cf h4
  refine tr tbk 13 (.mk ?_)
  exact lf h4 () leA
  replace h4 := ct h4
  refine tr tbk 3 (.mk ?_)
  refine sY (yv_len_sl rfl Tryz.underlying22 rfl (lst_len _)) ?_
  refine ni tbk h4 fun x78 h4 => ?_
  obtain ⟨x79, e79, h4⟩ := bind_e h4
  refine sC cal71 (d_stock_in_c e79) ?_
  refine tr tbk 2 (.mk ?_)
  cases x79
  replace h4 := cf h4
  refine tr tbk 5 (.mk ?_)
  exact lf h4 () leA
  replace h4 := ct h4
  refine tr tbk 1 (.mk ?_)
  obtain ⟨x80, e80, h4⟩ := bind_e h4
  refine sC cal71 (d_stock_in_c e80) ?_
  refine tr tbk 3 (.mk ?_)
  exact lf h4 () leA
  rintro y16_1 _ h3
  obtain rfl := nxt_e h3
  refine w_ret (hret _ _ (hk [(2, ⟨25, 5, true, true, v3, [[int a1.Master.Entities, int a1.Master.Periods, lst 1 fI a1.Master.Weights, lst 1 (fL 1 fI) a1.Master.Methods, lst 1 (fL 1 fI) a1.Master.Costs]]⟩), (6, ⟨131, 6, true, true, v64, [[int x63.From, int x63.To, int x63.Item, int x63.Qty, int x63.Value, int x63.Profit]]⟩)]) (.tmp rfl .nil) (HK.le ⟨rfl, rfl, trivial⟩) ?_)
  exact ⟨y16_1, (), rfl, rfl, rfl⟩
  rintro y _ ⟨y17_1, _, rfl, hc, rfl⟩
  subst hc
  refine nb tbk h2 fun x81 h2 => ?_
  refine tr tbk 2 (.mk ?_)
  cases x81
  replace h2 := cf h2
  refine tr tbk 4 (.mk ?_)
  refine sY (yv_to (y := lst 1 fI ([x63.Qty, x63.Value] : List Int)) (yv_buildSlice (ps := [(0, _), (1, _)]) (rows := [[int x63.Qty], [int x63.Value]]) rfl Tryz.underlying22 bz3 (.cons rfl (.cons rfl .nil)) (by kernel_rfl) rfl rfl rfl) rfl) ?_
  obtain ⟨x82, e82, h2⟩ := bind_e h2
  refine sC cal68 (d_stock_sums_c e82) ?_
  refine nb tbk h2 fun x83 h2 => ?_
  refine tr tbk 2 (.mk ?_)
  cases x83
  replace h2 := cf h2
  refine tr tbk 2 (.mk ?_)
  refine sY (yv_to (y := lst 1 fI ([x63.Profit] : List Int)) (yv_buildSlice (ps := [(0, _)]) (rows := [[int x63.Profit]]) rfl Tryz.underlying22 bz3 (.cons rfl .nil) (by kernel_rfl) rfl rfl rfl) rfl) ?_
  obtain ⟨x84, e84, h2⟩ := bind_e h2
  refine sC cal68 (d_stock_sums_c e84) ?_
  refine nb tbk h2 fun x85 h2 => ?_
  refine tr tbk 2 (.mk ?_)
  exact lf h2 () leA
  replace h2 := ct h2
  refine tr tbk 7 (.mk ?_)
  exact lf h2 () leA
  replace h2 := ct h2
  refine tr tbk 16 (.mk ?_)
  exact lf h2 () leA
  replace h2 := ct h2
  refine tr tbk 25 (.mk ?_)
  exact lf h2 () leA
  rintro y18_1 _ h1
  replace h1 := asrt_e h1
  obtain ⟨rfl, h1⟩ := h1
  refine tc tbk 4 (.mk ?_)
  refine ni tbk h1 fun x86 h1 => ?_
  refine tr tbk 2 (.mk ?_)
  exact bk x86 () h1 leA
  rintro _ _ h0
  refine tc tbk 4 (.mk ?_)
  obtain rfl := nxt_e h0
  refine wR hret (rT .nil) ?_
  exact .refl _
def d_recon_bal (a1 : GState) (a2 : Int) (a3 : Int) : Option (Int × Bool) :=
(show Option (Bool) from
bnd (decide (a2 < 0)) fun x6 =>
cond x6 (some (true : Bool)) (bnd (decide (a2 ≥ (a1.Ents.length : Int))) fun x7 =>
cond x7 (some (true : Bool)) ((ix a1.Ents a2).bind fun x8 =>
bnd (decide (a3 ≥ (x8.Bal.length : Int))) fun x9 =>
some (x9 : Bool)))).bind <| fun y0_1 =>
asrt (y0_1 = false) <|
(ix a1.Ents a2).bind fun x10 =>
(ix x10.Bal a3).bind fun x11 =>
some ((x11 : Int), (true : Bool))
theorem d_recon_bal_c {a1 : GState} {a2 : Int} {a3 : Int} {r : Int × Bool} (h0 : d_recon_bal a1 a2 a3 = some r) : PP Tryz.prog 72 [.agg (GState.av a1), int a2, int a3] (fun y => y = .tup [int r.1, boo r.2]) := by
  unfold d_recon_bal at h0
  refine pp_of_pc (R0 := fun y H => Cv (frzH H) y (.tup [int r.1, boo r.2])) ?_ (fun y H hc => ⟨_, rfl, .tup (pvl2 (pvI (r.1)) (pvB (r.2))), hc⟩)
  refine pcw (c := _) Tryz.func72 rfl rfl ?_; intro Q hret hnorm
  refine tc tbk 2 (.mk ?_)
  refine sB 1 fun v4 => ?_
  refine tr tbk 5 (.mk ?_)
  refine jn h0 [1, 2, 3, 6, 7] [1] (fun (a : Bool) (k : Unit) => [(27, boo a)]) (fun a k => []) ⟨fun j5 h1 => ?_, ?_⟩
  refine tc tbk 2 (.mk ?_)
  refine nb tbk h1 fun x6 h1 => ?_
  refine tr tbk 1 (.mk ?_)
  cases x6
  replace h1 := cf h1
  refine tr tbk 3 (.mk ?_)
  refine sY (yv_len_sl rfl Tryz.underlying26 rfl (lst_len _)) ?_
  refine nb tbk h1 fun x7 h1 => ?_
  refine tr tbk 2 (.mk ?_)
  cases x7
  replace h1 := cf h1
  refine tr tbk 4 (.mk ?_)
  obtain ⟨x8, e8, h1⟩ := bind_e h1
  refine sY (yv_to (y := .pp [int x8.Now, boo x8.Closed, lst 4 GPool.av x8.Pools, lst 1 fI x8.Bal, lst 11 GRoll.av x8.Rolls, lst 1 fI x8.Prices, lst 1 fI x8.Down, lst 8 GEnt.av x8.Ahead]) (yv_ixT rfl Tryz.underlying26 sh47 rfl rfl e8) (congrArg AV.pp (GEnt.av_eq x8))) ?_
  refine tr tbk 2 (.mk ?_)
  refine sY (yv_len_sl rfl Tryz.underlying22 rfl (lst_len _)) ?_
  refine nb tbk h1 fun x9 h1 => ?_
  refine tr tbk 2 (.mk ?_)
  exact lf h1 () leA
  replace h1 := ct h1
  refine tr tbk 11 (.mk ?_)
  exact lf h1 () leA
  replace h1 := ct h1
  refine tr tbk 18 (.mk ?_)
  exact lf h1 () leA
  rintro y0_1 _ h0
  replace h0 := asrt_e h0
  obtain ⟨rfl, h0⟩ := h0
  refine tc tbk 7 (.mk ?_)
  obtain ⟨x10, e10, h0⟩ := bind_e h0
  refine sY (yv_to (y := .pp [int x10.Now, boo x10.Closed, lst 4 GPool.av x10.Pools, lst 1 fI x10.Bal, lst 11 GRoll.av x10.Rolls, lst 1 fI x10.Prices, lst 1 fI x10.Down, lst 8 GEnt.av x10.Ahead]) (yv_ixT rfl Tryz.underlying26 sh47 rfl rfl e10) (congrArg AV.pp (GEnt.av_eq x10))) ?_
  refine tr tbk 3 (.mk ?_)
  obtain ⟨x11, e11, h0⟩ := bind_e h0
  refine sY (yv_ixT rfl Tryz.underlying22 sh3 rfl rfl e11) ?_
  refine tr tbk 4 (.mk ?_)
  obtain rfl := nxt_e h0
  refine wR hret (rT (rT .nil)) ?_
  exact .refl _
def d_recon_Mutual_L1 (a1 : GState) (y0_2 : Int) : Nat → Int → Int → Option (Int)
  | 0, _, _ => none
  | n + 1, y1_1, y1_2 =>
    bnd (decide (y1_2 < 2)) fun x7 =>
    cond x7 ((ix ([13, 14] : List Int) y1_2).bind fun x8 =>
    (d_recon_bal a1 y0_2 x8).bind fun x9 =>
    bnd (!x9.2) fun x10 =>
    asrt (x10 = false) <|
    bnd (w64 (y1_1 + x9.1)) fun x11 =>
    bnd (w64 (y1_2 + 1)) fun x12 =>
    d_recon_Mutual_L1 a1 y0_2 n (x11 : Int) (x12 : Int)) (some (y1_1 : Int))
def d_recon_Mutual_L0 (a1 : GState) : Nat → Int → Int → Option (Int)
  | 0, _, _ => none
  | n + 1, y0_1, y0_2 =>
    bnd (decide (y0_2 < (a1.Ents.length : Int))) fun x4 =>
    cond x4 ((show Option (Int) from
    (show Option (Int) from
    d_recon_Mutual_L1 a1 y0_2 n (y0_1 : Int) (0 : Int)).bind <| fun y2_1 =>
    some (y2_1 : Int)).bind <| fun y3_1 =>
    bnd (w64 (y0_2 + 1)) fun x13 =>
    d_recon_Mutual_L0 a1 n (y3_1 : Int) (x13 : Int)) (some (y0_1 : Int))
def d_recon_Mutual (n : Nat) (a1 : GState) : Option (Bool) :=
(show Option (Int) from
d_recon_Mutual_L0 a1 n (0 : Int) (0 : Int)).bind <| fun y4_1 =>
bnd (decide (y4_1 = 0)) fun x14 =>
some ((x14 : Bool))
theorem d_recon_Mutual_c {n : Nat} {a1 : GState} {r : Bool} (h0 : d_recon_Mutual n a1 = some r) : PP Tryz.prog 38 [.agg (GState.av a1)] (fun y => y = boo r) := by
  unfold d_recon_Mutual at h0
  refine pp_of_pc (R0 := fun y H => Cv (frzH H) y (boo r)) ?_ (fun y H hc => ⟨_, rfl, pvB r, hc⟩)
  refine pcw (c := _) Tryz.func38 rfl rfl ?_; intro Q hret hnorm
  refine tc tbk 2 (.mk ?_)
  refine sB 1 fun v2 => ?_
  refine tr tbk 11 (.mk ?_)
  refine sY (yv_len_sl rfl Tryz.underlying26 rfl (lst_len _)) ?_
  refine tr tbk 2 (.mk ?_)
  refine jn h0 [2] [] (fun (a : Int) (k : Unit) => [(3, int a)]) (fun a k => []) ⟨fun j3 h1 => ?_, ?_⟩
  refine tc tbk 1 (.mk ?_)
  refine lp (fun n (a : Int × Int) => d_recon_Mutual_L0 a1 n a.1 a.2) ((0 : Int), (0 : Int)) () h1 [1, 2, 11] [1] (fun (a : Int × Int) (k : Unit) => [(3, int a.1), (12, int a.2)]) (fun a k => []) (fun _ => rfl) ⟨leA, ?_⟩
  rintro n ⟨y0_1, y0_2⟩ _ hm h1
  replace h1 : d_recon_Mutual_L0 a1 (n + 1) y0_1 y0_2 = some _ := h1
  rw [d_recon_Mutual_L0] at h1
  refine tc tbk 2 (.mk ?_)
  refine nb tbk h1 fun x4 h1 => ?_
  refine tr tbk 2 (.mk ?_)
  cases x4
  replace h1 := cf h1
  refine tc tbk 2 (.mk ?_)
  exact lf h1 () leA
  replace h1 := ct h1
  refine tc tbk 3 (.mk ?_)
  refine jn h1 [1, 2, 11, 12] [1] (fun (a : Int) (k : Unit) => [(3, int a)]) (fun a k => []) ⟨fun j5 h2 => ?_, ?_⟩
  refine tc tbk 8 (.mk ?_)
  refine sY (yv_buildA (cs := [int 13, int 14]) (ps := [(0, _), (1, _)]) rfl Tryz.underlying132 sh3 z132 rfl (.cons rfl (.cons rfl .nil)) (by kernel_rfl)) ?_
  refine tr tbk 2 (.mk ?_)
  refine jn h2 [1, 2, 11, 12] [1] (fun (a : Int) (k : Unit) => [(3, int a)]) (fun a k => []) ⟨fun j6 h3 => ?_, ?_⟩
  refine tc tbk 1 (.mk ?_)
  refine lp (fun n (a : Int × Int) => d_recon_Mutual_L1 a1 y0_2 n a.1 a.2) ((y0_1 : Int), (0 : Int)) () h3 [1, 2, 4, 11, 12, 15] [1] (fun (a : Int × Int) (k : Unit) => [(3, int a.1), (16, int a.2)]) (fun a k => []) (fun _ => rfl) ⟨leA, ?_⟩
  rintro n ⟨y1_1, y1_2⟩ _ hm h3
  replace h3 : d_recon_Mutual_L1 a1 y0_2 (n + 1) y1_1 y1_2 = some _ := h3
  rw [d_recon_Mutual_L1] at h3
  refine tc tbk 2 (.mk ?_)
  refine nb tbk h3 fun x7 h3 => ?_
  refine tr tbk 2 (.mk ?_)
  cases x7
  replace h3 := cf h3
  refine tc tbk 2 (.mk ?_)
  exact lf h3 () leA
  replace h3 := ct h3
  refine tc tbk 6 (.mk ?_)
  obtain ⟨x8, e8, h3⟩ := bind_e h3
  refine sY (yv_indexAT (g := fI) (l := ([13, 14] : List Int)) (v := x8) (w := int x8) rfl Tryz.underlying132 sh3 rfl rfl rfl e8 (fun _ => rfl) hw1) ?_
  refine tr tbk 7 (.mk ?_)
  obtain ⟨x9, e9, h3⟩ := bind_e h3
  refine sC cal72 (d_recon_bal_c e9) ?_
  refine tr tbk 10 (.mk ?_)
  refine nb tbk h3 fun x10 h3 => ?_
  refine tr tbk 1 (.mk ?_)
  replace h3 := asrt_e h3
  obtain ⟨rfl, h3⟩ := h3
  refine tc tbk 5 (.mk ?_)
  refine ni tbk h3 fun x11 h3 => ?_
  refine tr tbk 4 (.mk ?_)
  refine ni tbk h3 fun x12 h3 => ?_
  refine tr tbk 2 (.mk ?_)
  exact bk (x11, x12) () h3 leA
  rintro y2_1 _ h2
  refine tc tbk 1 (.mk ?_)
  exact lf h2 () leA
  rintro y3_1 _ h1
  refine tc tbk 1 (.mk ?_)
  refine ni tbk h1 fun x13 h1 => ?_
  refine tr tbk 2 (.mk ?_)
  exact bk (y3_1, x13) () h1 leA
  rintro y4_1 _ h0
  refine tc tbk 3 (.mk ?_)
  refine nb tbk h0 fun x14 h0 => ?_
  refine tr tbk 2 (.mk ?_)
  obtain rfl := nxt_e h0
  refine wR hret (rT .nil) ?_
  exact .refl _
def d_stock_All_L0 (a1 : GState) (a2 : Int) : Nat → Int → (List Int) → Option ((List Int))
  | 0, _, _ => none
  | n + 1, y0_2, y0_3 =>
    bnd (decide (y0_2 < (a1.Master.Weights.length : Int))) fun x6 =>
    cond x6 ((d_stock_Worth n a1 a2 y0_2).bind fun x7 =>
    bnd (y0_3 ++ ([x7.Value] : List Int)) fun x8 =>
    asrt (x8.length ≤ 68719476736) <|
    bnd (w64 (y0_2 + 1)) fun x11 =>
    d_stock_All_L0 a1 a2 n (x11 : Int) (x8 : List Int)) (some (y0_3 : List Int))
def d_stock_All (n : Nat) (a1 : GState) (a2 : Int) : Option (Int) :=
(show Option ((List Int)) from
d_stock_All_L0 a1 a2 n (0 : Int) (([] : List Int) : List Int)).bind <| fun y1_2 =>
(d_money_Sum n y1_2).bind fun x12 =>
some ((x12.1 : Int))
theorem d_stock_All_c {n : Nat} {a1 : GState} {a2 : Int} {r : Int} (h0 : d_stock_All n a1 a2 = some r) : PP Tryz.prog 74 [.agg (GState.av a1), int a2] (fun y => y = int r) := by
  unfold d_stock_All at h0
  refine pp_of_pc (R0 := fun y H => Cv (frzH H) y (int r)) ?_ (fun y H hc => ⟨_, rfl, pvI r, hc⟩)
  refine pcw (c := _) Tryz.func74 rfl rfl ?_; intro Q hret hnorm
  refine tc tbk 2 (.mk ?_)
  refine sB 1 fun v3 => ?_
  refine tr tbk 12 (.mk ?_)
  refine sY (yv_len_sl rfl Tryz.underlying22 rfl (lst_len _)) ?_
  refine tr tbk 2 (.mk ?_)
  refine jn h0 [4] [] (fun (a : (List Int)) (k : Nat) => [(5, .sl 3 k 0 a.length)]) (fun a k => [(3, ⟨3, 1, true, true, k, a.map fI⟩)]) ⟨fun j4 h1 => ?_, ?_⟩
  refine tc tbk 1 (.mk ?_)
  refine c_nilobj 5 3 3 1 rfl rfl ?_; intro v5
  refine lp (fun n (a : Int × (List Int)) => d_stock_All_L0 a1 a2 n a.1 a.2) ((0 : Int), (([] : List Int) : List Int)) v5 h1 [1, 2, 4, 12] [1] (fun (a : Int × (List Int)) (k : Nat) => [(5, .sl 3 k 0 a.2.length), (13, int a.1)]) (fun a k => [(3, ⟨3, 1, true, true, k, a.2.map fI⟩)]) (fun _ => rfl) ⟨leA, ?_⟩
  rintro n ⟨y0_2, y0_3⟩ w0_1 hm h1
  replace h1 : d_stock_All_L0 a1 a2 (n + 1) y0_2 y0_3 = some _ := h1
  rw [d_stock_All_L0] at h1
  refine tc tbk 2 (.mk ?_)
  refine nb tbk h1 fun x6 h1 => ?_
  refine tr tbk 2 (.mk ?_)
  cases x6
  replace h1 := cf h1
  refine tc tbk 2 (.mk ?_)
  exact lf h1 w0_1 leA
  replace h1 := ct h1
  refine tc tbk 14 (.mk ?_)
  obtain ⟨x7, e7, h1⟩ := bind_e h1
  refine sC cal8 (d_stock_Worth_c e7) ?_
  refine tr tbk 1 (.mk ?_)
  refine sY (yv_to (y := lst 1 fI ([x7.Value] : List Int)) (yv_buildSlice (ps := [(0, _)]) (rows := [[int x7.Value]]) rfl Tryz.underlying22 bz3 (.cons rfl .nil) (by kernel_rfl) rfl rfl rfl) rfl) ?_
  obtain ⟨x8, e8, h1⟩ := bnd_e h1
  obtain ⟨p9, h1⟩ := asrt_e h1
  refine rse rfl rfl rfl (yl_appT (g := fI) (l := y0_3) (m := ([x7.Value] : List Int)) .any rfl Tryz.underlying22 bz3 by3 rfl rfl rfl rfl rfl rfl rfl rfl rfl rfl (Eq.symm rfl) (.refl _) (fun _ => rfl) e8 p9) ?_; rintro _ _ ⟨v10, -, rfl, rfl⟩
  refine tr tbk 4 (.mk ?_)
  refine ni tbk h1 fun x11 h1 => ?_
  refine tr tbk 2 (.mk ?_)
  exact bk (x11, x8) v10 h1 leA
  rintro y1_2 w1_1 h0
  refine tc tbk 3 (.mk ?_)
  obtain ⟨x12, e12, h0⟩ := bind_e h0
  refine sY (yv_callT (v := .tup [int x12.1, int x12.2]) rfl rfl (.cons rfl .nil) cal34 (.cons (cv_lst rfl rfl rfl rfl rfl (Eq.symm rfl)) .nil) (d_money_Sum_c e12) rfl) ?_
  refine tr tbk 11 (.mk ?_)
  obtain rfl := nxt_e h0
  refine wR hret (rT .nil) ?_
  exact .refl _
def d_recon_agree (n : Nat) (a1 : GState) (a2 : Int) (a3 : Int) (a4 : List Int) (a5 : Int) : Option (Bool) :=
(d_recon_bal a1 a2 a3).bind fun x7 =>
(d_money_Sum n a4).bind fun x8 =>
(show Option (Bool) from
bnd x7.2 fun x10 =>
cond x10 (bnd (decide (x8.2 = 0)) fun x11 =>
cond x11 (bnd (w64 (x8.1 * a5)) fun x12 =>
bnd (decide (x12 = x7.1)) fun x13 =>
some (x13 : Bool)) (some (false : Bool))) (some (false : Bool))).bind <| fun y0_1 =>
some ((y0_1 : Bool))
theorem d_recon_agree_c {n : Nat} {a1 : GState} {a2 : Int} {a3 : Int} {a4 : List Int} {a5 : Int} {r : Bool} (h0 : d_recon_agree n a1 a2 a3 a4 a5 = some r) : PP Tryz.prog 73 [.agg (GState.av a1), int a2, int a3, lst 1 fI a4, int a5] (fun y => y = boo r) := by
  unfold d_recon_agree at h0
  refine pp_of_pc (R0 := fun y H => Cv (frzH H) y (boo r)) ?_ (fun y H hc => ⟨_, rfl, pvB r, hc⟩)
  refine pcw (c := _) Tryz.func73 rfl rfl ?_; intro Q hret hnorm
  refine tc tbk 2 (.mk ?_)
  refine sB 1 fun v6 => ?_
  refine tr tbk 7 (.mk ?_)
  obtain ⟨x7, e7, h0⟩ := bind_e h0
  refine sC cal72 (d_recon_bal_c e7) ?_
  refine tr tbk 9 (.mk ?_)
  obtain ⟨x8, e8, h0⟩ := bind_e h0
  refine sC cal34 (d_money_Sum_c e8) ?_
  refine tr tbk 7 (.mk ?_)
  refine jn h0 [] [] (fun (a : Bool) (k : Unit) => [(10, boo a)]) (fun a k => []) ⟨fun j9 h1 => ?_, ?_⟩
  refine tc tbk 3 (.mk ?_)
  obtain ⟨x10, e10, h1⟩ := bnd_e h1
  refine rsas 12 (boo x10) rfl (congrArg boo e10) ?_
  refine rsas 21 (boo x10) rfl (congrArg boo e10) ?_
  refine rsas 27 (boo x10) rfl (congrArg boo e10) ?_
  refine rsas 28 (boo x10) rfl (congrArg boo e10) ?_
  cases x10
  replace h1 := cf h1
  refine tr tbk 12 (.mk ?_)
  exact lf h1 () leA
  replace h1 := ct h1
  refine tr tbk 1 (.mk ?_)
  refine nb tbk h1 fun x11 h1 => ?_
  refine tr tbk 2 (.mk ?_)
  cases x11
  replace h1 := cf h1
  refine tr tbk 8 (.mk ?_)
  exact lf h1 () leA
  replace h1 := ct h1
  refine tr tbk 2 (.mk ?_)
  refine ni tbk h1 fun x12 h1 => ?_
  refine tr tbk 1 (.mk ?_)
  refine nb tbk h1 fun x13 h1 => ?_
  refine tr tbk 3 (.mk ?_)
  exact lf h1 () leA
  rintro y0_1 _ h0
  obtain rfl := nxt_e h0
  refine wR hret (rT .nil) ?_
  exact .refl _
def d_recon_Control (n : Nat) (a1 : GState) (a2 : Int) : Option (Bool) :=
(d_stock_All n a1 a2).bind fun x4 =>
(d_recon_agree n a1 a2 0 ([x4] : List Int) 1).bind fun x5 =>
some ((x5 : Bool))
theorem d_recon_Control_c {n : Nat} {a1 : GState} {a2 : Int} {r : Bool} (h0 : d_recon_Control n a1 a2 = some r) : PP Tryz.prog 39 [.agg (GState.av a1), int a2] (fun y => y = boo r) := by
  unfold d_recon_Control at h0
  refine pp_of_pc (R0 := fun y H => Cv (frzH H) y (boo r)) ?_ (fun y H hc => ⟨_, rfl, pvB r, hc⟩)
  refine pcw (c := _) Tryz.func39 rfl rfl ?_; intro Q hret hnorm
  refine tc tbk 2 (.mk ?_)
  refine sB 1 fun v3 => ?_
  refine tr tbk 3 (.mk ?_)
  refine c_drawE [0, 0, 0, 0, 12, 28, 63, 127] (rl [(0, [1]), (2, [1])] []) (fun i => [1]) (fun i => true) [0, 1, 2, 3, 4, 5, 6, 7] mixed (by kernel_rfl) ?_; intro K hK
  refine eL sh31 ?_
  refine eM ?_
  refine eL sh31 ?_
  refine eM ?_
  obtain ⟨x4, e4, h0⟩ := bind_e h0
  refine eP (fun H hH => yv_callP rfl rfl (.cons rfl (.cons rfl .nil)) cal74 (CvL.refl _) (d_stock_All_c e4)) ?_
  refine eP (fun H hH => yv_to (y := lst 1 fI ([x4] : List Int)) (yv_buildSlice (ps := [(0, _)]) (rows := [[int x4]]) rfl Tryz.underlying22 bz3 (.cons rfl .nil) (by kernel_rfl) rfl rfl rfl) rfl) ?_
  obtain ⟨x5, e5, h0⟩ := bind_e h0
  refine eP (fun H hH => yv_callP rfl rfl (.cons rfl (.cons rfl (.cons rfl (.cons rfl (.cons rfl .nil))))) cal73 (CvL.refl _) (d_recon_agree_c e5)) ?_
  refine eA ?_
  refine de_nil (hK _ ?_)
  obtain rfl := nxt_e h0
  refine wR hret (rT .nil) ?_
  exact .refl _
def d_recon_Accrued_L0 (a1 : GState) (a2 : Int) : Nat → Int → (List Int) → Option ((List Int))
  | 0, _, _ => none
  | n + 1, y0_2, y0_3 =>
    bnd (decide (y0_2 < (a1.Receipts.length : Int))) fun x6 =>
    cond x6 ((show Option ((List Int)) from
    (ix a1.Receipts y0_2).bind fun x8 =>
    bnd (decide (x8.Entity = a2)) fun x10 =>
    cond x10 (bnd (y0_3 ++ ([x8.Accrued] : List Int)) fun x11 =>
    asrt (x11.length ≤ 68719476736) <|
    some (x11 : List Int)) (some (y0_3 : List Int))).bind <| fun y1_2 =>
    bnd (w64 (y0_2 + 1)) fun x14 =>
    d_recon_Accrued_L0 a1 a2 n (x14 : Int) (y1_2 : List Int)) (some (y0_3 : List Int))
def d_recon_Accrued (n : Nat) (a1 : GState) (a2 : Int) : Option (Bool) :=
(show Option ((List Int)) from
d_recon_Accrued_L0 a1 a2 n (0 : Int) (([] : List Int) : List Int)).bind <| fun y2_2 =>
(d_recon_agree n a1 a2 1 y2_2 (-1)).bind fun x15 =>
some ((x15 : Bool))
theorem d_recon_Accrued_c {n : Nat} {a1 : GState} {a2 : Int} {r : Bool} (h0 : d_recon_Accrued n a1 a2 = some r) : PP Tryz.prog 40 [.agg (GState.av a1), int a2] (fun y => y = boo r) := by
  unfold d_recon_Accrued at h0
  refine pp_of_pc (R0 := fun y H => Cv (frzH H) y (boo r)) ?_ (fun y H hc => ⟨_, rfl, pvB r, hc⟩)
  refine pcw (c := _) Tryz.func40 rfl rfl ?_; intro Q hret hnorm
  refine tc tbk 2 (.mk ?_)
  refine sB 1 fun v3 => ?_
  refine tr tbk 11 (.mk ?_)
  refine sY (yv_len_sl rfl Tryz.underlying27 rfl (lst_len _)) ?_
  refine tr tbk 2 (.mk ?_)
  refine jn h0 [1, 2, 4] [1] (fun (a : (List Int)) (k : Nat) => [(5, .sl 4 k 0 a.length)]) (fun a k => [(4, ⟨3, 1, true, true, k, a.map fI⟩)]) ⟨fun j4 h1 => ?_, ?_⟩
  refine tc tbk 1 (.mk ?_)
  refine c_nilobj 5 4 3 1 rfl rfl ?_; intro v5
  refine lp (fun n (a : Int × (List Int)) => d_recon_Accrued_L0 a1 a2 n a.1 a.2) ((0 : Int), (([] : List Int) : List Int)) v5 h1 [1, 2, 4, 9, 10] [1] (fun (a : Int × (List Int)) (k : Nat) => [(5, .sl 4 k 0 a.2.length), (11, int a.1)]) (fun a k => [(4, ⟨3, 1, true, true, k, a.2.map fI⟩)]) (fun _ => rfl) ⟨leA, ?_⟩
  rintro n ⟨y0_2, y0_3⟩ w0_1 hm h1
  replace h1 : d_recon_Accrued_L0 a1 a2 (n + 1) y0_2 y0_3 = some _ := h1
  rw [d_recon_Accrued_L0] at h1
  refine tc tbk 2 (.mk ?_)
  refine nb tbk h1 fun x6 h1 => ?_
  refine tr tbk 2 (.mk ?_)
  cases x6
  replace h1 := cf h1
  refine tc tbk 2 (.mk ?_)
  exact lf h1 w0_1 leA
  replace h1 := ct h1
  refine tc tbk 3 (.mk ?_)
  refine jn h1 [1, 2, 4, 9, 10, 11] [1] (fun (a : (List Int)) (k : Nat) => [(5, .sl 4 k 0 a.length)]) (fun a k => [(4, ⟨3, 1, true, true, k, a.map fI⟩)]) ⟨fun j7 h2 => ?_, ?_⟩
  refine tc tbk 3 (.mk ?_)
  obtain ⟨x8, e8, h2⟩ := bind_e h2
  refine sY (yv_ixT rfl Tryz.underlying27 sh129 rfl rfl e8) ?_
  refine tr tbk 1 (.mk ?_)
  refine sA 2 z129 fun v9 => ?_
  refine sS ⟨129, 8, true, true, v9, [[int x8.Entity, int x8.Item, int x8.Loc, int x8.Qty, int x8.Value, int x8.Open, int x8.Accrued, int x8.Back]]⟩ sh129 ?_
  refine tr tbk 6 (.mk ?_)
  refine nb tbk h2 fun x10 h2 => ?_
  refine tr tbk 1 (.mk ?_)
  cases x10
  replace h2 := cf h2
  refine tc tbk 3 (.mk ?_)
  exact lf h2 w0_1 leA
  replace h2 := ct h2
  refine tc tbk 5 (.mk ?_)
  refine sY (yv_to (y := lst 1 fI ([x8.Accrued] : List Int)) (yv_buildSlice (ps := [(0, _)]) (rows := [[int x8.Accrued]]) rfl Tryz.underlying22 bz3 (.cons rfl .nil) (by kernel_rfl) rfl rfl rfl) rfl) ?_
  obtain ⟨x11, e11, h2⟩ := bnd_e h2
  obtain ⟨p12, h2⟩ := asrt_e h2
  refine rse rfl rfl rfl (yl_appT (g := fI) (l := y0_3) (m := ([x8.Accrued] : List Int)) .any rfl Tryz.underlying22 bz3 by3 rfl rfl rfl rfl rfl rfl rfl rfl rfl rfl (Eq.symm rfl) (.refl _) (fun _ => rfl) e11 p12) ?_; rintro _ _ ⟨v13, -, rfl, rfl⟩
  refine tr tbk 3 (.mk ?_)
  exact lf h2 v13 leA
  rintro y1_2 w1_1 h1
  refine tc tbk 1 (.mk ?_)
  refine ni tbk h1 fun x14 h1 => ?_
  refine tr tbk 2 (.mk ?_)
  exact bk (x14, y1_2) w1_1 h1 leA
  rintro y2_2 w2_1 h0
  refine tc tbk 5 (.mk ?_)
  obtain ⟨x15, e15, h0⟩ := bind_e h0
  refine sY (yv_callT (v := boo x15) rfl rfl (.cons rfl (.cons rfl (.cons rfl (.cons rfl (.cons rfl .nil))))) cal73 (.cons (.refl _) (.cons (.refl _) (.cons (.refl _) (.cons (cv_lst rfl rfl rfl rfl rfl (Eq.symm rfl)) (.cons (.refl _) .nil))))) (d_recon_agree_c e15) rfl) ?_
  refine tr tbk 2 (.mk ?_)
  obtain rfl := nxt_e h0
  refine wR hret (rT .nil) ?_
  exact .refl _
def d_recon_Way_L0 (a1 : GState) (a2 : Int) : Nat → Int → Option (Unit)
  | 0, _ => none
  | n + 1, y0_1 =>
    bnd (decide (y0_1 < (a1.Transits.length : Int))) fun x5 =>
    cond x5 ((ix a1.Transits y0_1).bind fun x6 =>
    bnd (decide (x6.To = a2)) fun x8 =>
    asrt (x8 = false) <|
    bnd (w64 (y0_1 + 1)) fun x9 =>
    d_recon_Way_L0 a1 a2 n (x9 : Int)) (some ())
def d_recon_Way (n : Nat) (a1 : GState) (a2 : Int) : Option (Bool) :=
(show Option (Unit) from
d_recon_Way_L0 a1 a2 n (0 : Int)).bind <| fun _ =>
(d_recon_agree n a1 a2 12 [] 1).bind fun x10 =>
some ((x10 : Bool))
theorem d_recon_Way_c {n : Nat} {a1 : GState} {a2 : Int} {r : Bool} (h0 : d_recon_Way n a1 a2 = some r) : PP Tryz.prog 41 [.agg (GState.av a1), int a2] (fun y => y = boo r) := by
  unfold d_recon_Way at h0
  refine pp_of_pc (R0 := fun y H => Cv (frzH H) y (boo r)) ?_ (fun y H hc => ⟨_, rfl, pvB r, hc⟩)
  refine pcw (c := _) Tryz.func41 rfl rfl ?_; intro Q hret hnorm
  refine tc tbk 2 (.mk ?_)
  refine sB 1 fun v3 => ?_
  refine tr tbk 11 (.mk ?_)
  refine sY (yv_len_sl rfl Tryz.underlying29 rfl (lst_len _)) ?_
  refine tr tbk 2 (.mk ?_)
  refine jn h0 [1, 2, 4, 5] [1] (fun (a : Unit) (k : Unit) => []) (fun a k => []) ⟨fun j4 h1 => ?_, ?_⟩
  refine tc tbk 1 (.mk ?_)
  refine lp (fun n (a : Int) => d_recon_Way_L0 a1 a2 n a) (0 : Int) () h1 [1, 2, 4, 5, 9, 10] [1] (fun (a : Int) (k : Unit) => [(11, int a)]) (fun a k => []) (fun _ => rfl) ⟨leA, ?_⟩
  rintro n y0_1 _ hm h1
  replace h1 : d_recon_Way_L0 a1 a2 (n + 1) y0_1 = some _ := h1
  rw [d_recon_Way_L0] at h1
  refine tc tbk 2 (.mk ?_)
  refine nb tbk h1 fun x5 h1 => ?_
  refine tr tbk 2 (.mk ?_)
  cases x5
  replace h1 := cf h1
  refine tc tbk 2 (.mk ?_)
  exact lf h1 () leA
  replace h1 := ct h1
  refine tc tbk 6 (.mk ?_)
  obtain ⟨x6, e6, h1⟩ := bind_e h1
  refine sY (yv_ixT rfl Tryz.underlying29 sh131 rfl rfl e6) ?_
  refine tr tbk 1 (.mk ?_)
  refine sA 2 z131 fun v7 => ?_
  refine sS ⟨131, 6, true, true, v7, [[int x6.From, int x6.To, int x6.Item, int x6.Qty, int x6.Value, int x6.Profit]]⟩ sh131 ?_
  refine tr tbk 6 (.mk ?_)
  refine nb tbk h1 fun x8 h1 => ?_
  refine tr tbk 1 (.mk ?_)
  replace h1 := asrt_e h1
  obtain ⟨rfl, h1⟩ := h1
  refine tc tbk 4 (.mk ?_)
  refine ni tbk h1 fun x9 h1 => ?_
  refine tr tbk 2 (.mk ?_)
  exact bk x9 () h1 leA
  rintro _ _ h0
  refine tc tbk 5 (.mk ?_)
  obtain ⟨x10, e10, h0⟩ := bind_e h0
  refine sY (yv_callP rfl rfl (.cons rfl (.cons rfl (.cons rfl (.cons rfl (.cons rfl .nil))))) cal73 (.cons (.refl _) (.cons (.refl _) (.cons (.refl _) (.cons (.nil _) (.cons (.refl _) .nil))))) (d_recon_agree_c e10)) ?_
  refine tr tbk 2 (.mk ?_)
  obtain rfl := nxt_e h0
  refine wR hret (rT .nil) ?_
  exact .refl _
def d_recon_Written (n : Nat) (a1 : GState) (a2 : Int) : Option (Bool) :=
(show Option (Bool) from
bnd (decide (a2 < 0)) fun x5 =>
cond x5 (some (true : Bool)) (bnd (decide (a2 ≥ (a1.Ents.length : Int))) fun x6 =>
some (x6 : Bool))).bind <| fun y0_1 =>
asrt (y0_1 = false) <|
(ix a1.Ents a2).bind fun x7 =>
(d_recon_agree n a1 a2 11 x7.Down (-1)).bind fun x8 =>
some ((x8 : Bool))
theorem d_recon_Written_c {n : Nat} {a1 : GState} {a2 : Int} {r : Bool} (h0 : d_recon_Written n a1 a2 = some r) : PP Tryz.prog 42 [.agg (GState.av a1), int a2] (fun y => y = boo r) := by
  unfold d_recon_Written at h0
  refine pp_of_pc (R0 := fun y H => Cv (frzH H) y (boo r)) ?_ (fun y H hc => ⟨_, rfl, pvB r, hc⟩)
  refine pcw (c := _) Tryz.func42 rfl rfl ?_; intro Q hret hnorm
  refine tc tbk 2 (.mk ?_)
  refine sB 1 fun v3 => ?_
  refine tr tbk 4 (.mk ?_)
  refine jn h0 [1, 2, 4] [1] (fun (a : Bool) (k : Unit) => [(13, boo a)]) (fun a k => []) ⟨fun j4 h1 => ?_, ?_⟩
  refine tc tbk 2 (.mk ?_)
  refine nb tbk h1 fun x5 h1 => ?_
  refine tr tbk 1 (.mk ?_)
  cases x5
  replace h1 := cf h1
  refine tr tbk 3 (.mk ?_)
  refine sY (yv_len_sl rfl Tryz.underlying26 rfl (lst_len _)) ?_
  refine nb tbk h1 fun x6 h1 => ?_
  refine tr tbk 2 (.mk ?_)
  exact lf h1 () leA
  replace h1 := ct h1
  refine tr tbk 7 (.mk ?_)
  exact lf h1 () leA
  rintro y0_1 _ h0
  replace h0 := asrt_e h0
  obtain ⟨rfl, h0⟩ := h0
  refine tc tbk 3 (.mk ?_)
  refine c_drawE [0, 0, 0, 4, 0, 28, 60, 124, 255, 511] (rl [(0, [1]), (2, [1]), (3, [1])] []) (fun i => [1]) (fun i => true) [0, 1, 2, 3, 4, 5, 6, 7, 8, 9] mixed (by kernel_rfl) ?_; intro K hK
  refine eL sh31 ?_
  refine eM ?_
  refine eF fo31_1 ?_
  refine eL sh26 ?_
  refine eM ?_
  obtain ⟨x7, e7, h0⟩ := bind_e h0
  refine eP (fun H hH => yv_to (y := .pp [int x7.Now, boo x7.Closed, lst 4 GPool.av x7.Pools, lst 1 fI x7.Bal, lst 11 GRoll.av x7.Rolls, lst 1 fI x7.Prices, lst 1 fI x7.Down, lst 8 GEnt.av x7.Ahead]) (yv_ixT rfl Tryz.underlying26 sh47 rfl rfl e7) (congrArg AV.pp (GEnt.av_eq x7))) ?_
  refine eP (fun H hH => yv_fieldAddr rfl fo47_6 rfl (.pp _) (.pp _ _)) ?_
  refine eP (fun H hH => yv_load rfl sh22 rfl (.pp _) rfl) ?_
  obtain ⟨x8, e8, h0⟩ := bind_e h0
  refine eP (fun H hH => yv_callP rfl rfl (.cons rfl (.cons rfl (.cons rfl (.cons rfl (.cons rfl .nil))))) cal73 (CvL.refl _) (d_recon_agree_c e8)) ?_
  refine eA ?_
  refine de_nil (hK _ ?_)
  obtain rfl := nxt_e h0
  refine wR hret (rT .nil) ?_
  exact .refl _
def d_gl_Trial_L0 (a1 : List Int) : Nat → Int → Int → Int → Option (Int × Int)
  | 0, _, _, _ => none
  | n + 1, y0_1, y0_2, y0_3 =>
    bnd (decide (y0_3 < (a1.length : Int))) fun x4 =>
    cond x4 ((show Option (Int × Int) from
    (ix a1 y0_3).bind fun x6 =>
    (show Option (Bool) from
    bnd (decide (x6 < (-288230376151711744))) fun x8 =>
    cond x8 (some (true : Bool)) (bnd (decide (x6 > 288230376151711744)) fun x9 =>
    some (x9 : Bool))).bind <| fun y1_1 =>
    asrt (y1_1 = false) <|
    bnd (decide (x6 > 0)) fun x10 =>
    cond x10 (bnd (w64 (y0_1 + x6)) fun x12 =>
    some ((x12 : Int), (y0_2 : Int))) (bnd (w64 (y0_2 - x6)) fun x11 =>
    some ((y0_1 : Int), (x11 : Int)))).bind <| p2 fun (y2_1 : Int) (y2_2 : Int) =>
    bnd (w64 (y0_3 + 1)) fun x13 =>
    d_gl_Trial_L0 a1 n (y2_1 : Int) (y2_2 : Int) (x13 : Int)) (some ((y0_1 : Int), (y0_2 : Int)))
def d_gl_Trial (n : Nat) (a1 : List Int) : Option (Int × Int × Int) :=
bnd (decide ((a1.length : Int) ≠ 17)) fun x2 =>
asrt (x2 = false) <|
(show Option (Int × Int) from
d_gl_Trial_L0 a1 n (0 : Int) (0 : Int) (0 : Int)).bind <| p2 fun (y3_1 : Int) (y3_2 : Int) =>
some ((y3_1 : Int), (y3_2 : Int), (0 : Int))
theorem d_gl_Trial_c {n : Nat} {a1 : List Int} {r : Int × Int × Int} (h0 : d_gl_Trial n a1 = some r) : PP Tryz.prog 75 [lst 1 fI a1] (fun y => y = .tup [int r.1, int r.2.1, int r.2.2]) := by
  unfold d_gl_Trial at h0
  refine pp_of_pc (R0 := fun y H => Cv (frzH H) y (.tup [int r.1, int r.2.1, int r.2.2])) ?_ (fun y H hc => ⟨_, rfl, .tup (pvl3 (pvI (r.1)) (pvI (r.2.1)) (pvI (r.2.2))), hc⟩)
  refine pcw (c := _) Tryz.func75 rfl rfl ?_; intro Q hret hnorm
  refine tc tbk 10 (.mk ?_)
  refine sY (yv_len_sl rfl Tryz.underlying22 rfl (lst_len _)) ?_
  refine nb tbk h0 fun x2 h0 => ?_
  refine tr tbk 1 (.mk ?_)
  replace h0 := asrt_e h0
  obtain ⟨rfl, h0⟩ := h0
  refine tc tbk 6 (.mk ?_)
  refine sY (yv_len_sl rfl Tryz.underlying22 rfl (lst_len _)) ?_
  refine tr tbk 2 (.mk ?_)
  refine jn h0 [4] [] (fun (a : Int × Int) (k : Unit) => [(2, int a.1), (3, int a.2)]) (fun a k => []) ⟨fun j3 h1 => ?_, ?_⟩
  refine tc tbk 1 (.mk ?_)
  refine lp (fun n (a : Int × Int × Int) => d_gl_Trial_L0 a1 n a.1 a.2.1 a.2.2) ((0 : Int), (0 : Int), (0 : Int)) () h1 [4, 10, 11] [] (fun (a : Int × Int × Int) (k : Unit) => [(2, int a.1), (3, int a.2.1), (12, int a.2.2)]) (fun a k => []) (fun _ => rfl) ⟨leA, ?_⟩
  rintro n ⟨y0_1, y0_2, y0_3⟩ _ hm h1
  replace h1 : d_gl_Trial_L0 a1 (n + 1) y0_1 y0_2 y0_3 = some _ := h1
  rw [d_gl_Trial_L0] at h1
  refine tc tbk 2 (.mk ?_)
  refine nb tbk h1 fun x4 h1 => ?_
  refine tr tbk 2 (.mk ?_)
  cases x4
  replace h1 := cf h1
  refine tc tbk 2 (.mk ?_)
  exact lf h1 () leA
  replace h1 := ct h1
  refine tc tbk 3 (.mk ?_)
  refine jn h1 [4, 10, 11, 12] [] (fun (a : Int × Int) (k : Unit) => [(2, int a.1), (3, int a.2)]) (fun a k => []) ⟨fun j5 h2 => ?_, ?_⟩
  refine tc tbk 3 (.mk ?_)
  obtain ⟨x6, e6, h2⟩ := bind_e h2
  refine sY (yv_ixT rfl Tryz.underlying22 sh3 rfl rfl e6) ?_
  refine tr tbk 5 (.mk ?_)
  refine jn h2 [2, 3, 4, 6, 10, 11, 12] [] (fun (a : Bool) (k : Unit) => [(19, boo a)]) (fun a k => []) ⟨fun j7 h3 => ?_, ?_⟩
  refine tc tbk 2 (.mk ?_)
  refine nb tbk h3 fun x8 h3 => ?_
  refine tr tbk 1 (.mk ?_)
  cases x8
  replace h3 := cf h3
  refine tr tbk 1 (.mk ?_)
  refine nb tbk h3 fun x9 h3 => ?_
  refine tr tbk 3 (.mk ?_)
  exact lf h3 () leA
  replace h3 := ct h3
  refine tr tbk 5 (.mk ?_)
  exact lf h3 () leA
  rintro y1_1 _ h2
  replace h2 := asrt_e h2
  obtain ⟨rfl, h2⟩ := h2
  refine tc tbk 4 (.mk ?_)
  refine nb tbk h2 fun x10 h2 => ?_
  refine tr tbk 2 (.mk ?_)
  cases x10
  replace h2 := cf h2
  refine tc tbk 4 (.mk ?_)
  refine ni tbk h2 fun x11 h2 => ?_
  refine tr tbk 4 (.mk ?_)
  exact lf h2 () leA
  replace h2 := ct h2
  refine tc tbk 4 (.mk ?_)
  refine ni tbk h2 fun x12 h2 => ?_
  refine tr tbk 4 (.mk ?_)
  exact lf h2 () leA
  rintro ⟨y2_1, y2_2⟩ _ h1
  replace h1 := p2_e h1
  refine tc tbk 1 (.mk ?_)
  refine ni tbk h1 fun x13 h1 => ?_
  refine tr tbk 2 (.mk ?_)
  exact bk (y2_1, y2_2, x13) () h1 leA
  rintro ⟨y3_1, y3_2⟩ _ h0
  replace h0 := p2_e h0
  refine tc tbk 8 (.mk ?_)
  obtain rfl := nxt_e h0
  refine wR hret (rT (rT (rT .nil))) ?_
  exact .refl _
def d_recon_Balanced (n : Nat) (a1 : GState) (a2 : Int) : Option (Bool) :=
(show Option (Bool) from
bnd (decide (a2 < 0)) fun x5 =>
cond x5 (some (true : Bool)) (bnd (decide (a2 ≥ (a1.Ents.length : Int))) fun x6 =>
some (x6 : Bool))).bind <| fun y0_1 =>
asrt (y0_1 = false) <|
(ix a1.Ents a2).bind fun x7 =>
(d_gl_Trial n x7.Bal).bind fun x8 =>
(show Option (Bool) from
bnd (decide (x8.2.2 = 0)) fun x10 =>
cond x10 (bnd (decide (x8.1 = x8.2.1)) fun x11 =>
some (x11 : Bool)) (some (false : Bool))).bind <| fun y1_1 =>
some ((y1_1 : Bool))
theorem d_recon_Balanced_c {n : Nat} {a1 : GState} {a2 : Int} {r : Bool} (h0 : d_recon_Balanced n a1 a2 = some r) : PP Tryz.prog 43 [.agg (GState.av a1), int a2] (fun y => y = boo r) := by
  unfold d_recon_Balanced at h0
  refine pp_of_pc (R0 := fun y H => Cv (frzH H) y (boo r)) ?_ (fun y H hc => ⟨_, rfl, pvB r, hc⟩)
  refine pcw (c := _) Tryz.func43 rfl rfl ?_; intro Q hret hnorm
  refine tc tbk 2 (.mk ?_)
  refine sB 1 fun v3 => ?_
  refine tr tbk 4 (.mk ?_)
  refine jn h0 [1, 2, 4] [1] (fun (a : Bool) (k : Unit) => [(16, boo a)]) (fun a k => []) ⟨fun j4 h1 => ?_, ?_⟩
  refine tc tbk 2 (.mk ?_)
  refine nb tbk h1 fun x5 h1 => ?_
  refine tr tbk 1 (.mk ?_)
  cases x5
  replace h1 := cf h1
  refine tr tbk 3 (.mk ?_)
  refine sY (yv_len_sl rfl Tryz.underlying26 rfl (lst_len _)) ?_
  refine nb tbk h1 fun x6 h1 => ?_
  refine tr tbk 2 (.mk ?_)
  exact lf h1 () leA
  replace h1 := ct h1
  refine tr tbk 7 (.mk ?_)
  exact lf h1 () leA
  rintro y0_1 _ h0
  replace h0 := asrt_e h0
  obtain ⟨rfl, h0⟩ := h0
  refine tc tbk 7 (.mk ?_)
  obtain ⟨x7, e7, h0⟩ := bind_e h0
  refine sY (yv_to (y := .pp [int x7.Now, boo x7.Closed, lst 4 GPool.av x7.Pools, lst 1 fI x7.Bal, lst 11 GRoll.av x7.Rolls, lst 1 fI x7.Prices, lst 1 fI x7.Down, lst 8 GEnt.av x7.Ahead]) (yv_ixT rfl Tryz.underlying26 sh47 rfl rfl e7) (congrArg AV.pp (GEnt.av_eq x7))) ?_
  refine tr tbk 2 (.mk ?_)
  obtain ⟨x8, e8, h0⟩ := bind_e h0
  refine sC cal75 (d_gl_Trial_c e8) ?_
  refine tr tbk 9 (.mk ?_)
  refine jn h0 [] [] (fun (a : Bool) (k : Unit) => [(4, boo a)]) (fun a k => []) ⟨fun j9 h1 => ?_, ?_⟩
  refine tc tbk 2 (.mk ?_)
  refine nb tbk h1 fun x10 h1 => ?_
  refine tr tbk 1 (.mk ?_)
  cases x10
  replace h1 := cf h1
  refine tr tbk 6 (.mk ?_)
  exact lf h1 () leA
  replace h1 := ct h1
  refine tr tbk 2 (.mk ?_)
  refine nb tbk h1 fun x11 h1 => ?_
  refine tr tbk 3 (.mk ?_)
  exact lf h1 () leA
  rintro y1_1 _ h0
  obtain rfl := nxt_e h0
  refine wR hret (rT .nil) ?_
  exact .refl _
def d_recon_Rolled (n : Nat) (a1 : GState) (a2 : Int) (a3 : Int) : Option (Bool) :=
(show Option (Bool) from
bnd (decide (a2 < 0)) fun x6 =>
cond x6 (some (true : Bool)) (bnd (decide (a2 ≥ (a1.Ents.length : Int))) fun x7 =>
cond x7 (some (true : Bool)) (bnd (decide (a3 < 0)) fun x8 =>
cond x8 (some (true : Bool)) ((ix a1.Ents a2).bind fun x9 =>
bnd (decide (a3 ≥ (x9.Rolls.length : Int))) fun x10 =>
cond x10 (some (true : Bool)) (bnd (decide (a3 ≥ (a1.Master.Weights.length : Int))) fun x11 =>
some (x11 : Bool)))))).bind <| fun y0_1 =>
asrt (y0_1 = false) <|
(ix a1.Ents a2).bind fun x12 =>
(ix x12.Rolls a3).bind fun x13 =>
bnd (w64 (x13.Open + x13.Bought)) fun x15 =>
bnd (w64 (x15 + x13.Landed)) fun x16 =>
bnd (w64 (x16 + x13.Arrived)) fun x17 =>
bnd (w64 (x17 + x13.Returned)) fun x18 =>
bnd (w64 (x18 + x13.Revalued)) fun x19 =>
bnd (w64 (x13.Sold + x13.Shipped)) fun x20 =>
bnd (w64 (x20 + x13.SentBack)) fun x21 =>
bnd (w64 (x21 + x13.Scrapped)) fun x22 =>
bnd (w64 (x22 + x13.Lost)) fun x23 =>
bnd (w64 (x19 - x23)) fun x24 =>
(d_stock_Worth n a1 a2 a3).bind fun x25 =>
bnd (decide (x24 = x25.Value)) fun x26 =>
some ((x26 : Bool))
theorem d_recon_Rolled_c {n : Nat} {a1 : GState} {a2 : Int} {a3 : Int} {r : Bool} (h0 : d_recon_Rolled n a1 a2 a3 = some r) : PP Tryz.prog 44 [.agg (GState.av a1), int a2, int a3] (fun y => y = boo r) := by
  unfold d_recon_Rolled at h0
  refine pp_of_pc (R0 := fun y H => Cv (frzH H) y (boo r)) ?_ (fun y H hc => ⟨_, rfl, pvB r, hc⟩)
  refine pcw (c := _) Tryz.func44 rfl rfl ?_; intro Q hret hnorm
  refine tc tbk 2 (.mk ?_)
  refine sB 1 fun v4 => ?_
  refine tr tbk 4 (.mk ?_)
  refine jn h0 [1, 2, 3, 6] [1] (fun (a : Bool) (k : Unit) => [(41, boo a)]) (fun a k => []) ⟨fun j5 h1 => ?_, ?_⟩
  refine tc tbk 2 (.mk ?_)
  refine nb tbk h1 fun x6 h1 => ?_
  refine tr tbk 1 (.mk ?_)
  cases x6
  replace h1 := cf h1
  refine tr tbk 3 (.mk ?_)
  refine sY (yv_len_sl rfl Tryz.underlying26 rfl (lst_len _)) ?_
  refine nb tbk h1 fun x7 h1 => ?_
  refine tr tbk 2 (.mk ?_)
  cases x7
  replace h1 := cf h1
  refine tr tbk 1 (.mk ?_)
  refine nb tbk h1 fun x8 h1 => ?_
  refine tr tbk 2 (.mk ?_)
  cases x8
  replace h1 := cf h1
  refine tr tbk 4 (.mk ?_)
  obtain ⟨x9, e9, h1⟩ := bind_e h1
  refine sY (yv_to (y := .pp [int x9.Now, boo x9.Closed, lst 4 GPool.av x9.Pools, lst 1 fI x9.Bal, lst 11 GRoll.av x9.Rolls, lst 1 fI x9.Prices, lst 1 fI x9.Down, lst 8 GEnt.av x9.Ahead]) (yv_ixT rfl Tryz.underlying26 sh47 rfl rfl e9) (congrArg AV.pp (GEnt.av_eq x9))) ?_
  refine tr tbk 2 (.mk ?_)
  refine sY (yv_len_sl rfl Tryz.underlying45 rfl (lst_len _)) ?_
  refine nb tbk h1 fun x10 h1 => ?_
  refine tr tbk 2 (.mk ?_)
  cases x10
  replace h1 := cf h1
  refine tr tbk 4 (.mk ?_)
  refine sY (yv_len_sl rfl Tryz.underlying22 rfl (lst_len _)) ?_
  refine nb tbk h1 fun x11 h1 => ?_
  refine tr tbk 2 (.mk ?_)
  exact lf h1 () leA
  replace h1 := ct h1
  refine tr tbk 8 (.mk ?_)
  exact lf h1 () leA
  replace h1 := ct h1
  refine tr tbk 19 (.mk ?_)
  exact lf h1 () leA
  replace h1 := ct h1
  refine tr tbk 23 (.mk ?_)
  exact lf h1 () leA
  replace h1 := ct h1
  refine tr tbk 30 (.mk ?_)
  exact lf h1 () leA
  rintro y0_1 _ h0
  replace h0 := asrt_e h0
  obtain ⟨rfl, h0⟩ := h0
  refine tc tbk 7 (.mk ?_)
  obtain ⟨x12, e12, h0⟩ := bind_e h0
  refine sY (yv_to (y := .pp [int x12.Now, boo x12.Closed, lst 4 GPool.av x12.Pools, lst 1 fI x12.Bal, lst 11 GRoll.av x12.Rolls, lst 1 fI x12.Prices, lst 1 fI x12.Down, lst 8 GEnt.av x12.Ahead]) (yv_ixT rfl Tryz.underlying26 sh47 rfl rfl e12) (congrArg AV.pp (GEnt.av_eq x12))) ?_
  refine tr tbk 3 (.mk ?_)
  obtain ⟨x13, e13, h0⟩ := bind_e h0
  refine sY (yv_ixT rfl Tryz.underlying45 sh83 rfl rfl e13) ?_
  refine tr tbk 1 (.mk ?_)
  refine sA 2 z83 fun v14 => ?_
  refine sS ⟨83, 11, true, true, v14, [[int x13.Open, int x13.Bought, int x13.Landed, int x13.Arrived, int x13.Returned, int x13.Sold, int x13.Shipped, int x13.SentBack, int x13.Scrapped, int x13.Lost, int x13.Revalued]]⟩ sh83 ?_
  refine tr tbk 7 (.mk ?_)
  refine ni tbk h0 fun x15 h0 => ?_
  refine tr tbk 2 (.mk ?_)
  refine ni tbk h0 fun x16 h0 => ?_
  refine tr tbk 2 (.mk ?_)
  refine ni tbk h0 fun x17 h0 => ?_
  refine tr tbk 2 (.mk ?_)
  refine ni tbk h0 fun x18 h0 => ?_
  refine tr tbk 2 (.mk ?_)
  refine ni tbk h0 fun x19 h0 => ?_
  refine tr tbk 8 (.mk ?_)
  refine ni tbk h0 fun x20 h0 => ?_
  refine tr tbk 2 (.mk ?_)
  refine ni tbk h0 fun x21 h0 => ?_
  refine tr tbk 2 (.mk ?_)
  refine ni tbk h0 fun x22 h0 => ?_
  refine tr tbk 2 (.mk ?_)
  refine ni tbk h0 fun x23 h0 => ?_
  refine tr tbk 6 (.mk ?_)
  refine ni tbk h0 fun x24 h0 => ?_
  refine tr tbk 3 (.mk ?_)
  obtain ⟨x25, e25, h0⟩ := bind_e h0
  refine sC cal8 (d_stock_Worth_c e25) ?_
  refine tr tbk 1 (.mk ?_)
  refine nb tbk h0 fun x26 h0 => ?_
  refine tr tbk 2 (.mk ?_)
  obtain rfl := nxt_e h0
  refine wR hret (rT .nil) ?_
  exact .refl _
def d_recon_Right_L1 (a1 : GState) (y1_1 : Int) : Nat → Int → Option (Unit)
  | 0, _ => none
  | n + 1, y4_1 =>
    bnd (decide (y4_1 < (a1.Master.Weights.length : Int))) fun x29 =>
    cond x29 ((d_recon_Rolled n a1 y1_1 y4_1).bind fun x30 =>
    bnd (!x30) fun x31 =>
    asrt (x31 = false) <|
    bnd (w64 (y4_1 + 1)) fun x32 =>
    d_recon_Right_L1 a1 y1_1 n (x32 : Int)) (some ())
def d_recon_Right_L0 (a1 : GState) : Nat → Int → Option (Unit)
  | 0, _ => none
  | n + 1, y1_1 =>
    bnd (decide (y1_1 < (a1.Ents.length : Int))) fun x10 =>
    cond x10 ((show Option (Unit) from
    (show Option (Unit) from
    (d_recon_Control n a1 y1_1).bind fun x14 =>
    bnd (!x14) fun x15 =>
    asrt (x15 = false) <|
    (d_recon_Accrued n a1 y1_1).bind fun x17 =>
    bnd (!x17) fun x18 =>
    asrt (x18 = false) <|
    (d_recon_Way n a1 y1_1).bind fun x20 =>
    bnd (!x20) fun x21 =>
    asrt (x21 = false) <|
    (d_recon_Written n a1 y1_1).bind fun x23 =>
    bnd (!x23) fun x24 =>
    asrt (x24 = false) <|
    (d_recon_Balanced n a1 y1_1).bind fun x26 =>
    bnd (!x26) fun x27 =>
    asrt (x27 = false) <|
    some ()).bind <| fun _ =>
    (show Option (Unit) from
    d_recon_Right_L1 a1 y1_1 n (0 : Int)).bind <| fun _ =>
    some ()).bind <| fun _ =>
    bnd (w64 (y1_1 + 1)) fun x33 =>
    d_recon_Right_L0 a1 n (x33 : Int)) (some ())
def d_recon_Right (n : Nat) (a1 : GState) : Option (Bool) :=
(show Option (Bool) from
(d_stock_Check n a1).bind fun x4 =>
bnd (!x4) fun x5 =>
cond x5 (some (true : Bool)) ((d_recon_Mutual n a1).bind fun x6 =>
bnd (!x6) fun x7 =>
some (x7 : Bool))).bind <| fun y0_1 =>
asrt (y0_1 = false) <|
(show Option (Unit) from
d_recon_Right_L0 a1 n (0 : Int)).bind <| fun _ =>
some ((true : Bool))
theorem d_recon_Right_c {n : Nat} {a1 : GState} {r : Bool} (h0 : d_recon_Right n a1 = some r) : PP Tryz.prog 18 [.agg (GState.av a1)] (fun y => y = boo r) := by
  unfold d_recon_Right at h0
  refine pp_of_pc (R0 := fun y H => Cv (frzH H) y (boo r)) ?_ (fun y H hc => ⟨_, rfl, pvB r, hc⟩)
  refine pcw (c := _) Tryz.func18 rfl rfl ?_; intro Q hret hnorm
  refine tc tbk 2 (.mk ?_)
  refine sB 1 fun v2 => ?_
  refine tr tbk 4 (.mk ?_)
  refine jn h0 [1, 2] [1] (fun (a : Bool) (k : Unit) => [(15, boo a)]) (fun a k => []) ⟨fun j3 h1 => ?_, ?_⟩
  refine tc tbk 2 (.mk ?_)
  obtain ⟨x4, e4, h1⟩ := bind_e h1
  refine sC cal37 (d_stock_Check_c e4) ?_
  refine nb tbk h1 fun x5 h1 => ?_
  refine tr tbk 1 (.mk ?_)
  cases x5
  replace h1 := cf h1
  refine tr tbk 1 (.mk ?_)
  obtain ⟨x6, e6, h1⟩ := bind_e h1
  refine sC cal38 (d_recon_Mutual_c e6) ?_
  refine nb tbk h1 fun x7 h1 => ?_
  refine tr tbk 2 (.mk ?_)
  exact lf h1 () leA
  replace h1 := ct h1
  refine tr tbk 5 (.mk ?_)
  exact lf h1 () leA
  rintro y0_1 _ h0
  replace h0 := asrt_e h0
  obtain ⟨rfl, h0⟩ := h0
  refine tc tbk 9 (.mk ?_)
  refine sY (yv_buildA (cs := [.fn (.func 39) [] [], .fn (.func 40) [] [], .fn (.func 41) [] [], .fn (.func 42) [] [], .fn (.func 43) [] []]) (ps := [(0, _), (1, _), (2, _), (3, _), (4, _)]) rfl Tryz.underlying96 sh95 z96 rfl (.cons rfl (.cons rfl (.cons rfl (.cons rfl (.cons rfl .nil))))) (by kernel_rfl)) ?_
  refine sA 2 z96 fun v8 => ?_
  refine sS ⟨96, 5, true, true, v8, [[.fn (.func 39) [] [], .fn (.func 40) [] [], .fn (.func 41) [] [], .fn (.func 42) [] [], .fn (.func 43) [] []]]⟩ sh96 ?_
  refine tr tbk 6 (.mk ?_)
  refine sY (yv_len_sl rfl Tryz.underlying26 rfl (lst_len _)) ?_
  refine tr tbk 2 (.mk ?_)
  refine jn h0 [2] [] (fun (a : Unit) (k : Unit) => []) (fun a k => []) ⟨fun j9 h1 => ?_, ?_⟩
  refine tc tbk 1 (.mk ?_)
  refine lp (fun n (a : Int) => d_recon_Right_L0 a1 n a) (0 : Int) () h1 [1, 2, 3, 24] [1, 2] (fun (a : Int) (k : Unit) => [(25, int a)]) (fun a k => []) (fun _ => rfl) ⟨leA, ?_⟩
  rintro n y1_1 _ hm h1
  replace h1 : d_recon_Right_L0 a1 (n + 1) y1_1 = some _ := h1
  rw [d_recon_Right_L0] at h1
  refine tc tbk 2 (.mk ?_)
  refine nb tbk h1 fun x10 h1 => ?_
  refine tr tbk 2 (.mk ?_)
  cases x10
  replace h1 := cf h1
  refine tc tbk 2 (.mk ?_)
  exact lf h1 () leA
  replace h1 := ct h1
  refine tc tbk 3 (.mk ?_)
  refine jn h1 [1, 2, 3, 24, 25] [1, 2] (fun (a : Unit) (k : Unit) => []) (fun a k => []) ⟨fun j11 h2 => ?_, ?_⟩
  refine tc tbk 12 (.mk ?_)
  refine jn h2 [1, 2, 3, 4, 24, 25] [1, 2] (fun (a : Unit) (k : Unit) => []) (fun a k => []) ⟨fun j12 h3 => ?_, ?_⟩
  refine tc tbk 4 (.mk ?_)
  refine sY (yv_to (y := boo true) (yv_lss rfl rfl rfl) (congrArg boo (by decide))) ?_
  refine tr tbk 8 (.mk ?_)
  refine sY (yv_indexA rfl Tryz.underlying96 sh95 rfl rfl (by decide) rfl) ?_
  refine sA 3 z95 fun v13 => ?_
  refine sS ⟨95, 1, true, true, v13, [[.fn (.func 39) [] []]]⟩ sh95 ?_
  refine tr tbk 7 (.mk ?_)
  obtain ⟨x14, e14, h3⟩ := bind_e h3
  refine sC cal39 (d_recon_Control_c e14) ?_
  refine nb tbk h3 fun x15 h3 => ?_
  refine tr tbk 1 (.mk ?_)
  replace h3 := asrt_e h3
  obtain ⟨rfl, h3⟩ := h3
  refine tc tbk 4 (.mk ?_)
  refine sY (yv_add (r := 1) rfl rfl rfl (by decide)) ?_
  refine tr tbk 5 (.mk ?_)
  refine sY (yv_to (y := boo true) (yv_lss rfl rfl rfl) (congrArg boo (by decide))) ?_
  refine tr tbk 8 (.mk ?_)
  refine sY (yv_indexA rfl Tryz.underlying96 sh95 rfl rfl (by decide) rfl) ?_
  refine sA 4 z95 fun v16 => ?_
  refine sS ⟨95, 1, true, true, v16, [[.fn (.func 40) [] []]]⟩ sh95 ?_
  refine tr tbk 7 (.mk ?_)
  obtain ⟨x17, e17, h3⟩ := bind_e h3
  refine sC cal40 (d_recon_Accrued_c e17) ?_
  refine nb tbk h3 fun x18 h3 => ?_
  refine tr tbk 1 (.mk ?_)
  replace h3 := asrt_e h3
  obtain ⟨rfl, h3⟩ := h3
  refine tc tbk 4 (.mk ?_)
  refine sY (yv_add (r := 2) rfl rfl rfl (by decide)) ?_
  refine tr tbk 5 (.mk ?_)
  refine sY (yv_to (y := boo true) (yv_lss rfl rfl rfl) (congrArg boo (by decide))) ?_
  refine tr tbk 8 (.mk ?_)
  refine sY (yv_indexA rfl Tryz.underlying96 sh95 rfl rfl (by decide) rfl) ?_
  refine sA 5 z95 fun v19 => ?_
  refine sS ⟨95, 1, true, true, v19, [[.fn (.func 41) [] []]]⟩ sh95 ?_
  refine tr tbk 7 (.mk ?_)
  obtain ⟨x20, e20, h3⟩ := bind_e h3
  refine sC cal41 (d_recon_Way_c e20) ?_
  refine nb tbk h3 fun x21 h3 => ?_
  refine tr tbk 1 (.mk ?_)
  replace h3 := asrt_e h3
  obtain ⟨rfl, h3⟩ := h3
  refine tc tbk 4 (.mk ?_)
  refine sY (yv_add (r := 3) rfl rfl rfl (by decide)) ?_
  refine tr tbk 5 (.mk ?_)
  refine sY (yv_to (y := boo true) (yv_lss rfl rfl rfl) (congrArg boo (by decide))) ?_
  refine tr tbk 8 (.mk ?_)
  refine sY (yv_indexA rfl Tryz.underlying96 sh95 rfl rfl (by decide) rfl) ?_
  refine sA 6 z95 fun v22 => ?_
  refine sS ⟨95, 1, true, true, v22, [[.fn (.func 42) [] []]]⟩ sh95 ?_
  refine tr tbk 7 (.mk ?_)
  obtain ⟨x23, e23, h3⟩ := bind_e h3
  refine sC cal42 (d_recon_Written_c e23) ?_
  refine nb tbk h3 fun x24 h3 => ?_
  refine tr tbk 1 (.mk ?_)
  replace h3 := asrt_e h3
  obtain ⟨rfl, h3⟩ := h3
  refine tc tbk 4 (.mk ?_)
  refine sY (yv_add (r := 4) rfl rfl rfl (by decide)) ?_
  refine tr tbk 5 (.mk ?_)
  refine sY (yv_to (y := boo true) (yv_lss rfl rfl rfl) (congrArg boo (by decide))) ?_
  refine tr tbk 8 (.mk ?_)
  refine sY (yv_indexA rfl Tryz.underlying96 sh95 rfl rfl (by decide) rfl) ?_
  refine sA 7 z95 fun v25 => ?_
  refine sS ⟨95, 1, true, true, v25, [[.fn (.func 43) [] []]]⟩ sh95 ?_
  refine tr tbk 7 (.mk ?_)
  obtain ⟨x26, e26, h3⟩ := bind_e h3
  refine sC cal43 (d_recon_Balanced_c e26) ?_
  refine nb tbk h3 fun x27 h3 => ?_
  refine tr tbk 1 (.mk ?_)
  replace h3 := asrt_e h3
  obtain ⟨rfl, h3⟩ := h3
  refine tc tbk 4 (.mk ?_)
  refine sY (yv_add (r := 5) rfl rfl rfl (by decide)) ?_
  refine tr tbk 5 (.mk ?_)
  refine sY (yv_to (y := boo false) (yv_lss rfl rfl rfl) (congrArg boo (by decide))) ?_
  refine tr tbk 4 (.mk ?_)
  exact lf h3 () leA
  rintro _ _ h2
  refine tc tbk 5 (.mk ?_)
  refine sY (yv_len_sl rfl Tryz.underlying22 rfl (lst_len _)) ?_
  refine tr tbk 2 (.mk ?_)
  refine jn h2 [1, 2, 3, 24, 25] [1, 2] (fun (a : Unit) (k : Unit) => []) (fun a k => []) ⟨fun j28 h3 => ?_, ?_⟩
  refine tc tbk 1 (.mk ?_)
  refine lp (fun n (a : Int) => d_recon_Right_L1 a1 y1_1 n a) (0 : Int) () h3 [1, 2, 3, 4, 24, 25, 42] [1, 2] (fun (a : Int) (k : Unit) => [(43, int a)]) (fun a k => []) (fun _ => rfl) ⟨leA, ?_⟩
  rintro n y4_1 _ hm h3
  replace h3 : d_recon_Right_L1 a1 y1_1 (n + 1) y4_1 = some _ := h3
  rw [d_recon_Right_L1] at h3
  refine tc tbk 2 (.mk ?_)
  refine nb tbk h3 fun x29 h3 => ?_
  refine tr tbk 2 (.mk ?_)
  cases x29
  replace h3 := cf h3
  refine tc tbk 2 (.mk ?_)
  exact lf h3 () leA
  replace h3 := ct h3
  refine tc tbk 14 (.mk ?_)
  obtain ⟨x30, e30, h3⟩ := bind_e h3
  refine sC cal44 (d_recon_Rolled_c e30) ?_
  refine nb tbk h3 fun x31 h3 => ?_
  refine tr tbk 1 (.mk ?_)
  replace h3 := asrt_e h3
  obtain ⟨rfl, h3⟩ := h3
  refine tc tbk 4 (.mk ?_)
  refine ni tbk h3 fun x32 h3 => ?_
  refine tr tbk 2 (.mk ?_)
  exact bk x32 () h3 leA
  rintro _ _ h2
  refine tc tbk 1 (.mk ?_)
  exact lf h2 () leA
  rintro _ _ h1
  refine tc tbk 1 (.mk ?_)
  refine ni tbk h1 fun x33 h1 => ?_
  refine tr tbk 2 (.mk ?_)
  exact bk x33 () h1 leA
  rintro _ _ h0
  refine tc tbk 4 (.mk ?_)
  obtain rfl := nxt_e h0
  refine wR hret (rT .nil) ?_
  exact .refl _
def d_top_awake (n : Nat)  : Option (Bool) :=
(d_top_simple n 1 1).bind fun x1 =>
(d_run_Run n x1 [(⟨1, 0, 0, 0, 0, 4, 40, 0, []⟩ : GOp), (⟨4, 0, 0, 0, 0, 1, 15, 0, []⟩ : GOp), (⟨14, 0, 0, 0, 0, 0, 0, 0, []⟩ : GOp)]).bind fun x2 =>
(show Option (Bool) from
bnd (decide (x2.2.2 = 0)) fun x5 =>
cond x5 (bnd (decide ((x2.2.1.length : Int) = 3)) fun x6 =>
cond x6 ((ix x2.2.1 0).bind fun x7 =>
bnd (decide (x7 = 0)) fun x8 =>
cond x8 ((ix x2.2.1 1).bind fun x9 =>
bnd (decide (x9 = 0)) fun x10 =>
cond x10 ((ix x2.2.1 2).bind fun x11 =>
bnd (decide (x11 = 0)) fun x12 =>
cond x12 (bnd (decide ((x2.1.Ents.length : Int) = 1)) fun x13 =>
cond x13 ((ix x2.1.Ents 0).bind fun x14 =>
bnd x14.Closed fun x15 =>
cond x15 ((ix x2.1.Ents 0).bind fun x16 =>
(ix x16.Bal 5).bind fun x17 =>
bnd (decide (x17 = 10)) fun x18 =>
cond x18 ((d_recon_Right n x2.1).bind fun x19 =>
some (x19 : Bool)) (some (false : Bool))) (some (false : Bool))) (some (false : Bool))) (some (false : Bool))) (some (false : Bool))) (some (false : Bool))) (some (false : Bool))) (some (false : Bool))).bind <| fun y0_1 =>
some ((y0_1 : Bool))
theorem d_top_awake_c {n : Nat}  {r : Bool} (h0 : d_top_awake n  = some r) : PP Tryz.prog 9 [] (fun y => y = boo r) := by
  unfold d_top_awake at h0
  refine pp_of_pc (R0 := fun y H => Cv (frzH H) y (boo r)) ?_ (fun y H hc => ⟨_, rfl, pvB r, hc⟩)
  refine pcw (c := _) Tryz.func9 rfl rfl ?_; intro Q hret hnorm
  refine tc tbk 6 (.mk ?_)
  obtain ⟨x1, e1, h0⟩ := bind_e h0
  refine sC cal5 (d_top_simple_c e1) ?_
  refine sY (yv_build (cs := [int 1, int 0, int 0, int 0, int 0, int 4, int 40, int 0, .sc (.slice none 0 0)]) (ps := [(0, _), (5, _), (6, _)]) rfl pl36 z36 rfl (.cons rfl (.cons rfl (.cons rfl .nil))) (by kernel_rfl)) ?_
  refine sY (yv_build (cs := [int 4, int 0, int 0, int 0, int 0, int 1, int 15, int 0, .sc (.slice none 0 0)]) (ps := [(0, _), (5, _), (6, _)]) rfl pl36 z36 rfl (.cons rfl (.cons rfl (.cons rfl .nil))) (by kernel_rfl)) ?_
  refine sY (yv_build (cs := [int 14, int 0, int 0, int 0, int 0, int 0, int 0, int 0, .sc (.slice none 0 0)]) (ps := [(0, _)]) rfl pl36 z36 rfl (.cons rfl .nil) (by kernel_rfl)) ?_
  refine sY (yv_buildSlice (ps := [(0, _), (1, _), (2, _)]) (rows := [[int 1, int 0, int 0, int 0, int 0, int 4, int 40, int 0, .sc (.slice none 0 0)], [int 4, int 0, int 0, int 0, int 0, int 1, int 15, int 0, .sc (.slice none 0 0)], [int 14, int 0, int 0, int 0, int 0, int 0, int 0, int 0, .sc (.slice none 0 0)]]) rfl Tryz.underlying58 bz36 (.cons rfl (.cons rfl (.cons rfl .nil))) (by kernel_rfl) rfl rfl rfl) ?_
  obtain ⟨x2, e2, h0⟩ := bind_e h0
  refine sY (yv_callP rfl rfl (.cons rfl (.cons rfl .nil)) cal17 (.cons (.refl _) (.cons (CvLL.list (.cons (.cons (.refl _) (.cons (.refl _) (.cons (.refl _) (.cons (.refl _) (.cons (.refl _) (.cons (.refl _) (.cons (.refl _) (.cons (.refl _) (.cons (.nil _) .nil))))))))) (.cons (.cons (.refl _) (.cons (.refl _) (.cons (.refl _) (.cons (.refl _) (.cons (.refl _) (.cons (.refl _) (.cons (.refl _) (.cons (.refl _) (.cons (.nil _) .nil))))))))) (.cons (.cons (.refl _) (.cons (.refl _) (.cons (.refl _) (.cons (.refl _) (.cons (.refl _) (.cons (.refl _) (.cons (.refl _) (.cons (.refl _) (.cons (.nil _) .nil))))))))) .nil)))) .nil)) (d_run_Run_c e2)) ?_
  refine tr tbk 4 (.mk ?_)
  refine sA 1 z31 fun v3 => ?_
  refine sS ⟨31, 10, true, true, v3, [(GState.av x2.1)]⟩ sh31 ?_
  refine tr tbk 4 (.mk ?_)
  refine jn h0 [] [] (fun (a : Bool) (k : Unit) => [(0, boo a)]) (fun a k => []) ⟨fun j4 h1 => ?_, ?_⟩
  refine tc tbk 2 (.mk ?_)
  refine nb tbk h1 fun x5 h1 => ?_
  refine tr tbk 1 (.mk ?_)
  cases x5
  replace h1 := cf h1
  refine tr tbk 51 (.mk ?_)
  exact lf h1 () leA
  replace h1 := ct h1
  refine tr tbk 1 (.mk ?_)
  refine sY (yv_len_sl rfl Tryz.underlying55 rfl (lst_len _)) ?_
  refine nb tbk h1 fun x6 h1 => ?_
  refine tr tbk 2 (.mk ?_)
  cases x6
  replace h1 := cf h1
  refine tr tbk 46 (.mk ?_)
  exact lf h1 () leA
  replace h1 := ct h1
  refine tr tbk 1 (.mk ?_)
  obtain ⟨x7, e7, h1⟩ := bind_e h1
  refine sY (yv_ixT rfl Tryz.underlying55 sh38 rfl rfl e7) ?_
  refine tr tbk 1 (.mk ?_)
  refine nb tbk h1 fun x8 h1 => ?_
  refine tr tbk 2 (.mk ?_)
  cases x8
  replace h1 := cf h1
  refine tr tbk 40 (.mk ?_)
  exact lf h1 () leA
  replace h1 := ct h1
  refine tr tbk 1 (.mk ?_)
  obtain ⟨x9, e9, h1⟩ := bind_e h1
  refine sY (yv_ixT rfl Tryz.underlying55 sh38 rfl rfl e9) ?_
  refine tr tbk 1 (.mk ?_)
  refine nb tbk h1 fun x10 h1 => ?_
  refine tr tbk 2 (.mk ?_)
  cases x10
  replace h1 := cf h1
  refine tr tbk 34 (.mk ?_)
  exact lf h1 () leA
  replace h1 := ct h1
  refine tr tbk 1 (.mk ?_)
  obtain ⟨x11, e11, h1⟩ := bind_e h1
  refine sY (yv_ixT rfl Tryz.underlying55 sh38 rfl rfl e11) ?_
  refine tr tbk 1 (.mk ?_)
  refine nb tbk h1 fun x12 h1 => ?_
  refine tr tbk 2 (.mk ?_)
  cases x12
  replace h1 := cf h1
  refine tr tbk 28 (.mk ?_)
  exact lf h1 () leA
  replace h1 := ct h1
  refine tr tbk 2 (.mk ?_)
  refine sY (yv_len_sl rfl Tryz.underlying26 rfl (lst_len _)) ?_
  refine nb tbk h1 fun x13 h1 => ?_
  refine tr tbk 2 (.mk ?_)
  cases x13
  replace h1 := cf h1
  refine tr tbk 22 (.mk ?_)
  exact lf h1 () leA
  replace h1 := ct h1
  refine tr tbk 2 (.mk ?_)
  obtain ⟨x14, e14, h1⟩ := bind_e h1
  refine sY (yv_to (y := .pp [int x14.Now, boo x14.Closed, lst 4 GPool.av x14.Pools, lst 1 fI x14.Bal, lst 11 GRoll.av x14.Rolls, lst 1 fI x14.Prices, lst 1 fI x14.Down, lst 8 GEnt.av x14.Ahead]) (yv_ixT rfl Tryz.underlying26 sh47 rfl rfl e14) (congrArg AV.pp (GEnt.av_eq x14))) ?_
  refine tr tbk 4 (.mk ?_)
  obtain ⟨x15, e15, h1⟩ := bnd_e h1
  refine rsas 50 (boo x15) rfl (congrArg boo e15) ?_
  refine rsas 51 (boo x15) rfl (congrArg boo e15) ?_
  refine rsas 52 (boo x15) rfl (congrArg boo e15) ?_
  cases x15
  replace h1 := cf h1
  refine tr tbk 15 (.mk ?_)
  exact lf h1 () leA
  replace h1 := ct h1
  refine tr tbk 2 (.mk ?_)
  obtain ⟨x16, e16, h1⟩ := bind_e h1
  refine sY (yv_to (y := .pp [int x16.Now, boo x16.Closed, lst 4 GPool.av x16.Pools, lst 1 fI x16.Bal, lst 11 GRoll.av x16.Rolls, lst 1 fI x16.Prices, lst 1 fI x16.Down, lst 8 GEnt.av x16.Ahead]) (yv_ixT rfl Tryz.underlying26 sh47 rfl rfl e16) (congrArg AV.pp (GEnt.av_eq x16))) ?_
  refine tr tbk 2 (.mk ?_)
  obtain ⟨x17, e17, h1⟩ := bind_e h1
  refine sY (yv_ixT rfl Tryz.underlying22 sh3 rfl rfl e17) ?_
  refine tr tbk 1 (.mk ?_)
  refine nb tbk h1 fun x18 h1 => ?_
  refine tr tbk 2 (.mk ?_)
  cases x18
  replace h1 := cf h1
  refine tr tbk 5 (.mk ?_)
  exact lf h1 () leA
  replace h1 := ct h1
  refine tr tbk 1 (.mk ?_)
  obtain ⟨x19, e19, h1⟩ := bind_e h1
  refine sC cal18 (d_recon_Right_c e19) ?_
  refine tr tbk 3 (.mk ?_)
  exact lf h1 () leA
  rintro y0_1 _ h0
  obtain rfl := nxt_e h0
  refine wR hret (rT .nil) ?_
  exact .refl _
def d_top_TopUnits_L1 (y0_6 : List Int) (x12 : Int) (x15 : Int) : Nat → Int → Int → Int → Option (Int × Int)
  | 0, _, _, _ => none
  | n + 1, y4_1, y4_2, y4_3 =>
    bnd (decide (y4_3 < x15)) fun x35 =>
    cond x35 ((show Option (Int × Int) from
    bnd (x12.tmod 4) fun x37 =>
    bnd (decide (x37 = 2)) fun x38 =>
    cond x38 ((ix y0_6 y4_3).bind fun x41 =>
    bnd (w64 (y4_1 + x41)) fun x42 =>
    some ((x42 : Int), (y4_2 : Int))) ((ix y0_6 y4_3).bind fun x39 =>
    bnd (w64 (y4_2 + x39)) fun x40 =>
    some ((y4_1 : Int), (x40 : Int)))).bind <| p2 fun (y12_1 : Int) (y12_2 : Int) =>
    bnd (w64 (y4_3 + 1)) fun x43 =>
    d_top_TopUnits_L1 y0_6 x12 x15 n (y12_1 : Int) (y12_2 : Int) (x43 : Int)) (some ((y4_1 : Int), (y4_2 : Int)))
def d_top_TopUnits_L2 (x15 : Int) (x17 : Int) : Nat → Int → (List Int) → Option ((List Int))
  | 0, _, _ => none
  | n + 1, y6_2, y6_3 =>
    bnd (decide (y6_2 < x15)) fun x56 =>
    cond x56 (bnd (y6_3 ++ ([x17] : List Int)) fun x57 =>
    asrt (x57.length ≤ 68719476736) <|
    bnd (w64 (y6_2 + 1)) fun x62 =>
    d_top_TopUnits_L2 x15 x17 n (x62 : Int) (x57 : List Int)) (some (y6_3 : List Int))
def d_top_TopUnits_L3 (y13_4 : List Int) : Nat → Int → Int → Option (Int)
  | 0, _, _ => none
  | n + 1, y8_1, y8_2 =>
    bnd (decide (y8_2 < (y13_4.length : Int))) fun x66 =>
    cond x66 ((ix y13_4 y8_2).bind fun x67 =>
    bnd (w64 (y8_1 + x67)) fun x68 =>
    bnd (w64 (y8_2 + 1)) fun x69 =>
    d_top_TopUnits_L3 y13_4 n (x68 : Int) (x69 : Int)) (some (y8_1 : Int))
def d_top_TopUnits_L0 (a1 : List Int) : Nat → Int → Int → Int → GState → (List Int) → Option (Unit)
  | 0, _, _, _, _, _ => none
  | n + 1, y0_2, y0_3, y0_4, y0_5, y0_6 =>
    (show Option (Bool) from
    bnd (decide (y0_4 < (a1.length : Int))) fun x8 =>
    cond x8 (bnd (decide (y0_4 < 60)) fun x9 =>
    some (x9 : Bool)) (some (false : Bool))).bind <| fun y1_1 =>
    cond y1_1 ((show Option (Int × Int × GState × (List Int)) from
    (ix a1 y0_4).bind fun x11 =>
    (d_law00_Place x11 1048576).bind fun x12 =>
    bnd (w64 (x12.tdiv 4)) fun x13 =>
    bnd (x13.tmod 12) fun x14 =>
    bnd (w64 (1 + x14)) fun x15 =>
    bnd (w64 (x12.tdiv 48)) fun x16 =>
    bnd (x16.tmod 90) fun x17 =>
    bnd (w64 (x15 * x17)) fun x18 =>
    bnd (w64 (x15 * x17)) fun x19 =>
    bnd (x12.tmod 4) fun x20 =>
    (ix ([(⟨1, 0, 0, 0, 0, x15, x18, 0, []⟩ : GOp), (⟨1, 0, 0, 0, 0, x15, x19, 0, []⟩ : GOp), (⟨4, 0, 0, 0, 0, x15, 1, 0, []⟩ : GOp), (⟨6, 0, 0, 0, 0, x15, 0, 0, []⟩ : GOp)] : List GOp) x20).bind fun x21 =>
    (d_close_Step n y0_5 x21).bind fun x23 =>
    bnd (x12.tmod 4) fun x25 =>
    bnd (decide (x25 < 2)) fun x26 =>
    (show Option ((Int × Int × (List Int)) ⊕ (Int × Int × GState × (List Int))) from
    cond x26 (bnd (decide (x23.2 ≠ 0)) fun x54 =>
    cond x54 (bnd (decide (x23.2 ≠ 6)) fun x63 =>
    asrt (x63 = false) <|
    esc (some ((y0_2 : Int), (y0_3 : Int), (y0_5 : GState), (y0_6 : List Int)))) ((show Option ((List Int)) from
    d_top_TopUnits_L2 x15 x17 n (0 : Int) (y0_6 : List Int)).bind <| fun y7_2 =>
    brk ((y0_2 : Int), (y0_3 : Int), (y7_2 : List Int)))) (bnd (decide (x15 > (y0_6.length : Int))) fun x28 =>
    cond x28 ((show Option (Bool) from
    bnd (decide (x23.2 ≠ 5)) fun x51 =>
    cond x51 (bnd (decide (x23.2 ≠ 6)) fun x52 =>
    some (x52 : Bool)) (some (false : Bool))).bind <| fun y2_1 =>
    asrt (y2_1 = false) <|
    esc (some ((y0_2 : Int), (y0_3 : Int), (y0_5 : GState), (y0_6 : List Int)))) ((show Option (Bool) from
    bnd (decide (x23.2 = 6)) fun x30 =>
    cond x30 (bnd (x12.tmod 4) fun x31 =>
    bnd (decide (x31 = 2)) fun x32 =>
    some (x32 : Bool)) (some (false : Bool))).bind <| fun y3_1 =>
    cond y3_1 (esc (some ((y0_2 : Int), (y0_3 : Int), (y0_5 : GState), (y0_6 : List Int)))) (bnd (decide (x23.2 ≠ 0)) fun x33 =>
    asrt (x33 = false) <|
    (show Option (Int × Int) from
    d_top_TopUnits_L1 y0_6 x12 x15 n (y0_2 : Int) (y0_3 : Int) (0 : Int)).bind <| p2 fun (y5_1 : Int) (y5_2 : Int) =>
    asrt ((0 : Int) ≤ x15 ∧ x15 ≤ (y0_6.length : Int)) <|
    bnd (y0_6.drop x15.toNat) fun x45 =>
    brk ((y5_1 : Int), (y5_2 : Int), (x45 : List Int)))))).bind <| sel <| p2 fun (y13_2 : Int) (q0 : Int × (List Int)) => (p2 fun (y13_3 : Int) (y13_4 : List Int) =>
    (show Option (Int) from
    d_top_TopUnits_L3 y13_4 n (0 : Int) (0 : Int)).bind <| fun y9_1 =>
    (d_stock_Worth n x23.1 0 0).bind fun x70 =>
    (show Option (Bool) from
    bnd (decide ((x23.1.Ents.length : Int) ≠ 1)) fun x73 =>
    cond x73 (some (true : Bool)) (bnd (decide (x70.Qty ≠ (y13_4.length : Int))) fun x74 =>
    cond x74 (some (true : Bool)) (bnd (decide (x70.Value ≠ y9_1)) fun x75 =>
    cond x75 (some (true : Bool)) ((ix x23.1.Ents 0).bind fun x76 =>
    (ix x76.Bal 5).bind fun x77 =>
    bnd (decide (x77 ≠ y13_2)) fun x78 =>
    cond x78 (some (true : Bool)) ((ix x23.1.Ents 0).bind fun x79 =>
    (ix x79.Bal 7).bind fun x80 =>
    bnd (decide (x80 ≠ y13_3)) fun x81 =>
    some (x81 : Bool)))))).bind <| fun y10_1 =>
    asrt (y10_1 = false) <|
    some ((y13_2 : Int), (y13_3 : Int), (x23.1 : GState), (y13_4 : List Int))) q0).bind <| p2 fun (y11_2 : Int) (q0 : Int × GState × (List Int)) => (p2 fun (y11_3 : Int) (q1 : GState × (List Int)) => (p2 fun (y11_4 : GState) (y11_5 : List Int) =>
    bnd (w64 (y0_4 + 1)) fun x82 =>
    d_top_TopUnits_L0 a1 n (y11_2 : Int) (y11_3 : Int) (x82 : Int) (y11_4 : GState) (y11_5 : List Int)) q1) q0) (some ())
def d_top_TopUnits (n : Nat) (a1 : List Int) : Option (Bool) :=
(d_top_simple n 1 1).bind fun x2 =>
(d_top_start n x2).bind fun x3 =>
(show Option (Unit) from
d_top_TopUnits_L0 a1 n (0 : Int) (0 : Int) (0 : Int) (x3 : GState) (([] : List Int) : List Int)).bind <| fun _ =>
(d_top_awake n).bind fun x83 =>
some ((x83 : Bool))
theorem d_top_TopUnits_c {n : Nat} {a1 : List Int} {r : Bool} (h0 : d_top_TopUnits n a1 = some r) : PP Tryz.prog 3 [lst 1 fI a1] (fun y => y = boo r) := by
  unfold d_top_TopUnits at h0
  refine pp_of_pc (R0 := fun y H => Cv (frzH H) y (boo r)) ?_ (fun y H hc => ⟨_, rfl, pvB r, hc⟩)
  refine pcw (c := _) Tryz.func3 rfl rfl ?_; intro Q hret hnorm
  refine tc tbk 6 (.mk ?_)
  obtain ⟨x2, e2, h0⟩ := bind_e h0
  refine sC cal5 (d_top_simple_c e2) ?_
  obtain ⟨x3, e3, h0⟩ := bind_e h0
  refine sC cal4 (d_top_start_c e3) ?_
  refine sA 1 z31 fun v4 => ?_
  refine sS ⟨31, 10, true, true, v4, [(GState.av x3)]⟩ sh31 ?_
  refine tr tbk 15 (.mk ?_)
  refine jn h0 [2] [] (fun (a : Unit) (k : Unit) => []) (fun a k => []) ⟨fun j5 h1 => ?_, ?_⟩
  refine tc tbk 1 (.mk ?_)
  refine c_nilobj 4 5 3 1 rfl rfl ?_; intro v6
  refine lp (fun n (a : Int × Int × Int × GState × (List Int)) => d_top_TopUnits_L0 a1 n a.1 a.2.1 a.2.2.1 a.2.2.2.1 a.2.2.2.2) ((0 : Int), (0 : Int), (0 : Int), (x3 : GState), (([] : List Int) : List Int)) (v6, 0, 0) h1 [0, 2, 3] [] (fun (a : Int × Int × Int × GState × (List Int)) (k : Nat × Nat × Nat) => [(4, .sl 5 k.1 k.2.1 a.2.2.2.2.length), (5, int a.1), (6, int a.2.1), (7, int a.2.2.1)]) (fun a k => [(1, ⟨31, 10, true, true, v4, [(GState.av a.2.2.2.1)]⟩), (5, ⟨3, 1, true, true, k.1, pad 5 k.2.1 k.2.2 ++ a.2.2.2.2.map fI⟩)]) (fun _ => rfl) ⟨leA, ?_⟩
  rintro n ⟨y0_2, y0_3, y0_4, y0_5, y0_6⟩ ⟨w0_1, w0_7, w0_8⟩ hm h1
  replace h1 : d_top_TopUnits_L0 a1 (n + 1) y0_2 y0_3 y0_4 y0_5 y0_6 = some _ := h1
  rw [d_top_TopUnits_L0] at h1
  refine tc tbk 2 (.mk ?_)
  refine jn h1 [0, 2, 3, 4, 5, 6, 7] [1, 5] (fun (a : Bool) (k : Unit) => [(28, boo a)]) (fun a k => []) ⟨fun j7 h2 => ?_, ?_⟩
  refine tc tbk 3 (.mk ?_)
  refine sY (yv_len_sl rfl Tryz.underlying22 rfl (lst_len _)) ?_
  refine nb tbk h2 fun x8 h2 => ?_
  refine tr tbk 1 (.mk ?_)
  cases x8
  replace h2 := cf h2
  refine tr tbk 4 (.mk ?_)
  exact lf h2 () leA
  replace h2 := ct h2
  refine tr tbk 1 (.mk ?_)
  refine nb tbk h2 fun x9 h2 => ?_
  refine tr tbk 2 (.mk ?_)
  exact lf h2 () leA
  rintro y1_1 _ h1
  cases y1_1
  replace h1 := cf h1
  refine tc tbk 2 (.mk ?_)
  exact lf h1 () leA
  replace h1 := ct h1
  refine tc tbk 3 (.mk ?_)
  refine jn h1 [0, 2, 3, 7] [] (fun (a : Int × Int × GState × (List Int)) (k : Nat × Nat × Nat) => [(4, .sl 5 k.1 k.2.1 a.2.2.2.length), (5, int a.1), (6, int a.2.1)]) (fun a k => [(1, ⟨31, 10, true, true, v4, [(GState.av a.2.2.1)]⟩), (5, ⟨3, 1, true, true, k.1, pad 5 k.2.1 k.2.2 ++ a.2.2.2.map fI⟩)]) ⟨fun j10 h2 => ?_, ?_⟩
  refine tc tbk 5 (.mk ?_)
  obtain ⟨x11, e11, h2⟩ := bind_e h2
  refine sY (yv_ixT rfl Tryz.underlying22 sh3 rfl rfl e11) ?_
  refine tr tbk 1 (.mk ?_)
  obtain ⟨x12, e12, h2⟩ := bind_e h2
  refine sC cal6 (d_law00_Place_c e12) ?_
  refine tr tbk 5 (.mk ?_)
  refine ni tbk h2 fun x13 h2 => ?_
  refine ni tbk h2 fun x14 h2 => ?_
  refine ni tbk h2 fun x15 h2 => ?_
  refine tr tbk 1 (.mk ?_)
  refine ni tbk h2 fun x16 h2 => ?_
  refine ni tbk h2 fun x17 h2 => ?_
  refine tr tbk 8 (.mk ?_)
  refine ni tbk h2 fun x18 h2 => ?_
  refine sY (yv_build (cs := [int 1, int 0, int 0, int 0, int 0, int x15, int x18, int 0, .sc (.slice none 0 0)]) (ps := [(0, _), (5, _), (6, _)]) rfl pl36 z36 rfl (.cons rfl (.cons rfl (.cons rfl .nil))) (by kernel_rfl)) ?_
  refine tr tbk 3 (.mk ?_)
  refine ni tbk h2 fun x19 h2 => ?_
  refine sY (yv_build (cs := [int 1, int 0, int 0, int 0, int 0, int x15, int x19, int 0, .sc (.slice none 0 0)]) (ps := [(0, _), (5, _), (6, _)]) rfl pl36 z36 rfl (.cons rfl (.cons rfl (.cons rfl .nil))) (by kernel_rfl)) ?_
  refine tr tbk 1 (.mk ?_)
  refine sY (yv_build (cs := [int 4, int 0, int 0, int 0, int 0, int x15, int 1, int 0, .sc (.slice none 0 0)]) (ps := [(0, _), (5, _), (6, _)]) rfl pl36 z36 rfl (.cons rfl (.cons rfl (.cons rfl .nil))) (by kernel_rfl)) ?_
  refine tr tbk 1 (.mk ?_)
  refine sY (yv_build (cs := [int 6, int 0, int 0, int 0, int 0, int x15, int 0, int 0, .sc (.slice none 0 0)]) (ps := [(0, _), (5, _)]) rfl pl36 z36 rfl (.cons rfl (.cons rfl .nil)) (by kernel_rfl)) ?_
  refine sY (yv_buildA (cs := [int 1, int 0, int 0, int 0, int 0, int x15, int x18, int 0, .sc (.slice none 0 0), int 1, int 0, int 0, int 0, int 0, int x15, int x19, int 0, .sc (.slice none 0 0), int 4, int 0, int 0, int 0, int 0, int x15, int 1, int 0, .sc (.slice none 0 0), int 6, int 0, int 0, int 0, int 0, int x15, int 0, int 0, .sc (.slice none 0 0)]) (ps := [(0, _), (1, _), (2, _), (3, _)]) rfl Tryz.underlying37 sh36 z37 rfl (.cons rfl (.cons rfl (.cons rfl (.cons rfl .nil)))) (by kernel_rfl)) ?_
  refine tr tbk 1 (.mk ?_)
  refine ni tbk h2 fun x20 h2 => ?_
  obtain ⟨x21, e21, h2⟩ := bind_e h2
  refine rs_cv 57 (.agg [int 1, int 0, int 0, int 0, int 0, int x15, int x18, int 0, lst 1 fI [], int 1, int 0, int 0, int 0, int 0, int x15, int x19, int 0, lst 1 fI [], int 4, int 0, int 0, int 0, int 0, int x15, int 1, int 0, lst 1 fI [], int 6, int 0, int 0, int 0, int 0, int x15, int 0, int 0, lst 1 fI []]) rfl (CvL.agg (.cons (.refl _) (.cons (.refl _) (.cons (.refl _) (.cons (.refl _) (.cons (.refl _) (.cons (.refl _) (.cons (.refl _) (.cons (.refl _) (.cons (.nil _) (.cons (.refl _) (.cons (.refl _) (.cons (.refl _) (.cons (.refl _) (.cons (.refl _) (.cons (.refl _) (.cons (.refl _) (.cons (.refl _) (.cons (.nil _) (.cons (.refl _) (.cons (.refl _) (.cons (.refl _) (.cons (.refl _) (.cons (.refl _) (.cons (.refl _) (.cons (.refl _) (.cons (.refl _) (.cons (.nil _) (.cons (.refl _) (.cons (.refl _) (.cons (.refl _) (.cons (.refl _) (.cons (.refl _) (.cons (.refl _) (.cons (.refl _) (.cons (.refl _) (.cons (.nil _) .nil))))))))))))))))))))))))))))))))))))) ?_
  refine sY (yv_indexAT (g := GOp.av) (l := ([(⟨1, 0, 0, 0, 0, x15, x18, 0, []⟩ : GOp), (⟨1, 0, 0, 0, 0, x15, x19, 0, []⟩ : GOp), (⟨4, 0, 0, 0, 0, x15, 1, 0, []⟩ : GOp), (⟨6, 0, 0, 0, 0, x15, 0, 0, []⟩ : GOp)] : List GOp)) (v := x21) (w := .agg [int x21.Kind, int x21.E, int x21.Item, int x21.Loc, int x21.To, int x21.Qty, int x21.Amount, int x21.Ref, lst 1 fI x21.Refs]) rfl Tryz.underlying37 sh36 rfl rfl rfl e21 (fun _ => rfl) (hwn rfl)) ?_
  refine sA 2 z36 fun v22 => ?_
  refine sS ⟨36, 9, true, true, v22, [[int x21.Kind, int x21.E, int x21.Item, int x21.Loc, int x21.To, int x21.Qty, int x21.Amount, int x21.Ref, lst 1 fI x21.Refs]]⟩ sh36 ?_
  refine tr tbk 5 (.mk ?_)
  obtain ⟨x23, e23, h2⟩ := bind_e h2
  refine sC cal7 (d_close_Step_c e23) ?_
  refine tr tbk 3 (.mk ?_)
  refine sA 3 z31 fun v24 => ?_
  refine sS ⟨31, 10, true, true, v24, [(GState.av x23.1)]⟩ sh31 ?_
  refine tr tbk 6 (.mk ?_)
  refine ni tbk h2 fun x25 h2 => ?_
  refine nb tbk h2 fun x26 h2 => ?_
  refine tr tbk 1 (.mk ?_)
  refine jnE h2 [0, 2, 3, 7, 12] [1, 3] (fun (a : Int × Int × (List Int)) (k : Nat × Nat × Nat) => [(4, .sl 5 k.1 k.2.1 a.2.2.length), (5, int a.1), (6, int a.2.1)]) (fun a k => [(5, ⟨3, 1, true, true, k.1, pad 5 k.2.1 k.2.2 ++ a.2.2.map fI⟩)]) ⟨fun j27 h3 h2 => ?_, ?_⟩
  cases x26
  replace h3 := cf h3
  refine tc tbk 6 (.mk ?_)
  refine sY (yv_len_sl rfl Tryz.underlying22 rfl (.sl rfl rfl)) ?_
  refine nb tbk h3 fun x28 h3 => ?_
  refine tr tbk 1 (.mk ?_)
  cases x28
  replace h3 := cf h3
  refine tc tbk 4 (.mk ?_)
  refine jn h3 [0, 2, 3, 4, 5, 6, 7, 8, 9, 12, 13] [1, 3, 5] (fun (a : Bool) (k : Unit) => [(99, boo a)]) (fun a k => []) ⟨fun j29 h4 => ?_, ?_⟩
  refine tc tbk 2 (.mk ?_)
  refine nb tbk h4 fun x30 h4 => ?_
  refine tr tbk 1 (.mk ?_)
  cases x30
  replace h4 := cf h4
  refine tr tbk 5 (.mk ?_)
  exact lf h4 () leA
  replace h4 := ct h4
  refine tr tbk 1 (.mk ?_)
  refine ni tbk h4 fun x31 h4 => ?_
  refine nb tbk h4 fun x32 h4 => ?_
  refine tr tbk 2 (.mk ?_)
  exact lf h4 () leA
  rintro y3_1 _ h3
  cases y3_1
  replace h3 := cf h3
  refine tc tbk 6 (.mk ?_)
  refine nb tbk h3 fun x33 h3 => ?_
  refine tr tbk 1 (.mk ?_)
  replace h3 := asrt_e h3
  obtain ⟨rfl, h3⟩ := h3
  refine tc tbk 7 (.mk ?_)
  refine jn h3 [0, 2, 3, 4, 7, 9, 12] [1, 3, 5] (fun (a : Int × Int) (k : Unit) => [(5, int a.1), (6, int a.2)]) (fun a k => []) ⟨fun j34 h4 => ?_, ?_⟩
  refine tc tbk 1 (.mk ?_)
  refine lp (fun n (a : Int × Int × Int) => d_top_TopUnits_L1 y0_6 x12 x15 n a.1 a.2.1 a.2.2) ((y0_2 : Int), (y0_3 : Int), (0 : Int)) () h4 [0, 2, 3, 4, 7, 8, 9, 12] [1, 3, 5] (fun (a : Int × Int × Int) (k : Unit) => [(5, int a.1), (6, int a.2.1), (15, int a.2.2)]) (fun a k => []) (fun _ => rfl) ⟨leA, ?_⟩
  rintro n ⟨y4_1, y4_2, y4_3⟩ _ hm h4
  replace h4 : d_top_TopUnits_L1 y0_6 x12 x15 (n + 1) y4_1 y4_2 y4_3 = some _ := h4
  rw [d_top_TopUnits_L1] at h4
  refine tc tbk 5 (.mk ?_)
  refine nb tbk h4 fun x35 h4 => ?_
  refine tr tbk 1 (.mk ?_)
  cases x35
  replace h4 := cf h4
  refine tc tbk 2 (.mk ?_)
  exact lf h4 () leA
  replace h4 := ct h4
  refine tc tbk 3 (.mk ?_)
  refine jn h4 [0, 2, 3, 4, 7, 8, 9, 12, 15] [1, 3, 5] (fun (a : Int × Int) (k : Unit) => [(5, int a.1), (6, int a.2)]) (fun a k => []) ⟨fun j36 h5 => ?_, ?_⟩
  refine tc tbk 4 (.mk ?_)
  refine ni tbk h5 fun x37 h5 => ?_
  refine nb tbk h5 fun x38 h5 => ?_
  refine tr tbk 1 (.mk ?_)
  cases x38
  replace h5 := cf h5
  refine tc tbk 5 (.mk ?_)
  obtain ⟨x39, e39, h5⟩ := bind_e h5
  refine sY (yv_ixP rfl Tryz.underlying22 sh3 rfl rfl rfl rfl rfl (Eq.symm rfl) rfl e39) ?_
  refine sY (yv_load rfl sh3 rfl (.pt rfl rfl (ixP_get e39)) rfl) ?_
  refine ni tbk h5 fun x40 h5 => ?_
  refine tr tbk 3 (.mk ?_)
  exact lf h5 () leA
  replace h5 := ct h5
  refine tc tbk 5 (.mk ?_)
  obtain ⟨x41, e41, h5⟩ := bind_e h5
  refine sY (yv_ixP rfl Tryz.underlying22 sh3 rfl rfl rfl rfl rfl (Eq.symm rfl) rfl e41) ?_
  refine sY (yv_load rfl sh3 rfl (.pt rfl rfl (ixP_get e41)) rfl) ?_
  refine ni tbk h5 fun x42 h5 => ?_
  refine tr tbk 3 (.mk ?_)
  exact lf h5 () leA
  rintro ⟨y12_1, y12_2⟩ _ h4
  replace h4 := p2_e h4
  refine tc tbk 2 (.mk ?_)
  refine ni tbk h4 fun x43 h4 => ?_
  refine tr tbk 2 (.mk ?_)
  exact bk (y12_1, y12_2, x43) () h4 leA
  rintro ⟨y5_1, y5_2⟩ _ h3
  replace h3 := p2_e h3
  refine tc tbk 3 (.mk ?_)
  obtain ⟨p44, h3⟩ := asrt_e h3
  obtain ⟨x45, e45, h3⟩ := bnd_e h3
  refine rse rfl rfl rfl (yl_slP (g := fI) (l := y0_6) (i := x15.toNat) rfl Tryz.underlying22 sh3 rfl rfl rfl rfl rfl rfl rfl rfl (Eq.symm rfl) (.yes rfl (by first | omega | (dsimp only; omega) | (dsimp only at *; omega))) (by first | omega | (dsimp only; omega) | (dsimp only at *; omega)) (fun _ => rfl) e45) ?_; rintro _ _ ⟨v46, v47, v48, rfl, rfl⟩
  refine tr tbk 2 (.mk ?_)
  exact lfE h3 (v46, v47, v48) leA
  replace h3 := ct h3
  refine tc tbk 1 (.mk ?_)
  obtain ⟨c49, hX, hj⟩ := esc_e h3; subst hj; replace h2 := hX.trans (sel_r h2)
  refine tc tbk 1 (.mk ?_)
  exact lf h2 (w0_1, w0_7, w0_8) leA
  replace h3 := ct h3
  refine tc tbk 3 (.mk ?_)
  refine jn h3 [0, 2, 3, 4, 5, 6, 7, 8, 9, 12, 13] [1, 3, 5] (fun (a : Bool) (k : Unit) => [(92, boo a)]) (fun a k => []) ⟨fun j50 h4 => ?_, ?_⟩
  refine tc tbk 2 (.mk ?_)
  refine nb tbk h4 fun x51 h4 => ?_
  refine tr tbk 1 (.mk ?_)
  cases x51
  replace h4 := cf h4
  refine tr tbk 4 (.mk ?_)
  exact lf h4 () leA
  replace h4 := ct h4
  refine tr tbk 1 (.mk ?_)
  refine nb tbk h4 fun x52 h4 => ?_
  refine tr tbk 2 (.mk ?_)
  exact lf h4 () leA
  rintro y2_1 _ h3
  replace h3 := asrt_e h3
  obtain ⟨rfl, h3⟩ := h3
  refine tc tbk 2 (.mk ?_)
  obtain ⟨c53, hX, hj⟩ := esc_e h3; subst hj; replace h2 := hX.trans (sel_r h2)
  refine tc tbk 1 (.mk ?_)
  exact lf h2 (w0_1, w0_7, w0_8) leA
  replace h3 := ct h3
  refine tc tbk 5 (.mk ?_)
  refine nb tbk h3 fun x54 h3 => ?_
  refine tr tbk 1 (.mk ?_)
  cases x54
  replace h3 := cf h3
  refine tc tbk 6 (.mk ?_)
  refine jn h3 [0, 2, 3, 5, 6, 7, 12] [1, 3] (fun (a : (List Int)) (k : Nat × Nat × Nat) => [(4, .sl 5 k.1 k.2.1 a.length)]) (fun a k => [(5, ⟨3, 1, true, true, k.1, pad 5 k.2.1 k.2.2 ++ a.map fI⟩)]) ⟨fun j55 h4 => ?_, ?_⟩
  refine tc tbk 1 (.mk ?_)
  refine lp (fun n (a : Int × (List Int)) => d_top_TopUnits_L2 x15 x17 n a.1 a.2) ((0 : Int), (y0_6 : List Int)) (w0_1, w0_7, w0_8) h4 [0, 2, 3, 5, 6, 7, 9, 10, 12] [1, 3] (fun (a : Int × (List Int)) (k : Nat × Nat × Nat) => [(4, .sl 5 k.1 k.2.1 a.2.length), (14, int a.1)]) (fun a k => [(5, ⟨3, 1, true, true, k.1, pad 5 k.2.1 k.2.2 ++ a.2.map fI⟩)]) (fun _ => rfl) ⟨leA, ?_⟩
  rintro n ⟨y6_2, y6_3⟩ ⟨w6_1, w6_4, w6_5⟩ hm h4
  replace h4 : d_top_TopUnits_L2 x15 x17 (n + 1) y6_2 y6_3 = some _ := h4
  rw [d_top_TopUnits_L2] at h4
  refine tc tbk 5 (.mk ?_)
  refine nb tbk h4 fun x56 h4 => ?_
  refine tr tbk 1 (.mk ?_)
  cases x56
  replace h4 := cf h4
  refine tc tbk 2 (.mk ?_)
  exact lf h4 (w6_1, w6_4, w6_5) leA
  replace h4 := ct h4
  refine tc tbk 7 (.mk ?_)
  refine sY (yv_to (y := lst 1 fI ([x17] : List Int)) (yv_buildSlice (ps := [(0, _)]) (rows := [[int x17]]) rfl Tryz.underlying22 bz3 (.cons rfl .nil) (by kernel_rfl) rfl rfl rfl) rfl) ?_
  obtain ⟨x57, e57, h4⟩ := bnd_e h4
  obtain ⟨p58, h4⟩ := asrt_e h4
  refine rse rfl rfl rfl (yl_appP (g := fI) (l := y6_3) (m := ([x17] : List Int)) rfl Tryz.underlying22 bz3 by3 rfl rfl rfl rfl rfl rfl rfl rfl rfl rfl (Eq.symm rfl) (.refl _) (fun _ => rfl) (fun _ => rfl) e57 p58 (List.cons_ne_nil _ _)) ?_; rintro _ _ ⟨v59, v60, v61, rfl, rfl⟩
  refine tr tbk 5 (.mk ?_)
  refine ni tbk h4 fun x62 h4 => ?_
  refine tr tbk 2 (.mk ?_)
  exact bk (x62, x57) (v59, v60, v61) h4 leA
  rintro y7_2 ⟨w7_1, w7_3, w7_4⟩ h3
  exact lfE h3 (w7_1, w7_3, w7_4) leA
  replace h3 := ct h3
  refine tc tbk 5 (.mk ?_)
  refine nb tbk h3 fun x63 h3 => ?_
  refine tr tbk 1 (.mk ?_)
  replace h3 := asrt_e h3
  obtain ⟨rfl, h3⟩ := h3
  refine tc tbk 2 (.mk ?_)
  obtain ⟨c64, hX, hj⟩ := esc_e h3; subst hj; replace h2 := hX.trans (sel_r h2)
  refine tc tbk 1 (.mk ?_)
  exact lf h2 (w0_1, w0_7, w0_8) leA
  rintro ⟨y13_2, y13_3, y13_4⟩ ⟨w13_1, w13_5, w13_6⟩ h2
  replace h2 := p2_e h2
  replace h2 := p2_e h2
  refine tc tbk 3 (.mk ?_)
  refine sS ⟨31, 10, true, true, v4, [(GState.av x23.1)]⟩ sh31 ?_
  refine tr tbk 9 (.mk ?_)
  refine sY (yv_len_sl rfl Tryz.underlying22 rfl (.sl rfl rfl)) ?_
  refine tr tbk 2 (.mk ?_)
  refine jn h2 [0, 2, 3, 4, 5, 6, 7] [1, 5] (fun (a : Int) (k : Unit) => [(16, int a)]) (fun a k => []) ⟨fun j65 h3 => ?_, ?_⟩
  refine tc tbk 1 (.mk ?_)
  refine lp (fun n (a : Int × Int) => d_top_TopUnits_L3 y13_4 n a.1 a.2) ((0 : Int), (0 : Int)) () h3 [0, 2, 3, 4, 5, 6, 7, 127] [1, 5] (fun (a : Int × Int) (k : Unit) => [(16, int a.1), (128, int a.2)]) (fun a k => []) (fun _ => rfl) ⟨leA, ?_⟩
  rintro n ⟨y8_1, y8_2⟩ _ hm h3
  replace h3 : d_top_TopUnits_L3 y13_4 (n + 1) y8_1 y8_2 = some _ := h3
  rw [d_top_TopUnits_L3] at h3
  refine tc tbk 2 (.mk ?_)
  refine nb tbk h3 fun x66 h3 => ?_
  refine tr tbk 2 (.mk ?_)
  cases x66
  replace h3 := cf h3
  refine tc tbk 2 (.mk ?_)
  exact lf h3 () leA
  replace h3 := ct h3
  refine tc tbk 13 (.mk ?_)
  obtain ⟨x67, e67, h3⟩ := bind_e h3
  refine sY (yv_ixP rfl Tryz.underlying22 sh3 rfl rfl rfl rfl rfl (Eq.symm rfl) rfl e67) ?_
  refine sY (yv_load rfl sh3 rfl (.pt rfl rfl (ixP_get e67)) rfl) ?_
  refine ni tbk h3 fun x68 h3 => ?_
  refine tr tbk 4 (.mk ?_)
  refine ni tbk h3 fun x69 h3 => ?_
  refine tr tbk 2 (.mk ?_)
  exact bk (x68, x69) () h3 leA
  rintro y9_1 _ h2
  refine tc tbk 3 (.mk ?_)
  obtain ⟨x70, e70, h2⟩ := bind_e h2
  refine sC cal8 (d_stock_Worth_c e70) ?_
  refine sA 6 z42 fun v71 => ?_
  refine sS ⟨42, 3, true, true, v71, [[int x70.Qty, int x70.Value, int x70.Profit]]⟩ sh42 ?_
  refine tr tbk 2 (.mk ?_)
  refine jn h2 [0, 2, 3, 4, 5, 6, 7] [1, 5] (fun (a : Bool) (k : Unit) => [(178, boo a)]) (fun a k => []) ⟨fun j72 h3 => ?_, ?_⟩
  refine tc tbk 3 (.mk ?_)
  refine sY (yv_len_sl rfl Tryz.underlying26 rfl (lst_len _)) ?_
  refine nb tbk h3 fun x73 h3 => ?_
  refine tr tbk 1 (.mk ?_)
  cases x73
  replace h3 := cf h3
  refine tr tbk 3 (.mk ?_)
  refine sY (yv_len_sl rfl Tryz.underlying22 rfl (.sl rfl rfl)) ?_
  refine nb tbk h3 fun x74 h3 => ?_
  refine tr tbk 2 (.mk ?_)
  cases x74
  replace h3 := cf h3
  refine tr tbk 3 (.mk ?_)
  refine nb tbk h3 fun x75 h3 => ?_
  refine tr tbk 2 (.mk ?_)
  cases x75
  replace h3 := cf h3
  refine tr tbk 2 (.mk ?_)
  obtain ⟨x76, e76, h3⟩ := bind_e h3
  refine sY (yv_to (y := .pp [int x76.Now, boo x76.Closed, lst 4 GPool.av x76.Pools, lst 1 fI x76.Bal, lst 11 GRoll.av x76.Rolls, lst 1 fI x76.Prices, lst 1 fI x76.Down, lst 8 GEnt.av x76.Ahead]) (yv_ixT rfl Tryz.underlying26 sh47 rfl rfl e76) (congrArg AV.pp (GEnt.av_eq x76))) ?_
  refine tr tbk 2 (.mk ?_)
  obtain ⟨x77, e77, h3⟩ := bind_e h3
  refine sY (yv_ixT rfl Tryz.underlying22 sh3 rfl rfl e77) ?_
  refine tr tbk 2 (.mk ?_)
  refine nb tbk h3 fun x78 h3 => ?_
  refine tr tbk 2 (.mk ?_)
  cases x78
  replace h3 := cf h3
  refine tr tbk 2 (.mk ?_)
  obtain ⟨x79, e79, h3⟩ := bind_e h3
  refine sY (yv_to (y := .pp [int x79.Now, boo x79.Closed, lst 4 GPool.av x79.Pools, lst 1 fI x79.Bal, lst 11 GRoll.av x79.Rolls, lst 1 fI x79.Prices, lst 1 fI x79.Down, lst 8 GEnt.av x79.Ahead]) (yv_ixT rfl Tryz.underlying26 sh47 rfl rfl e79) (congrArg AV.pp (GEnt.av_eq x79))) ?_
  refine tr tbk 2 (.mk ?_)
  obtain ⟨x80, e80, h3⟩ := bind_e h3
  refine sY (yv_ixT rfl Tryz.underlying22 sh3 rfl rfl e80) ?_
  refine tr tbk 2 (.mk ?_)
  refine nb tbk h3 fun x81 h3 => ?_
  refine tr tbk 2 (.mk ?_)
  exact lf h3 () leA
  replace h3 := ct h3
  refine tr tbk 11 (.mk ?_)
  exact lf h3 () leA
  replace h3 := ct h3
  refine tr tbk 22 (.mk ?_)
  exact lf h3 () leA
  replace h3 := ct h3
  refine tr tbk 28 (.mk ?_)
  exact lf h3 () leA
  replace h3 := ct h3
  refine tr tbk 35 (.mk ?_)
  exact lf h3 () leA
  rintro y10_1 _ h2
  replace h2 := asrt_e h2
  obtain ⟨rfl, h2⟩ := h2
  refine tc tbk 3 (.mk ?_)
  exact lf h2 (w13_1, w13_5, w13_6) leA
  rintro ⟨y11_2, y11_3, y11_4, y11_5⟩ ⟨w11_1, w11_6, w11_7⟩ h1
  replace h1 := p2_e h1
  replace h1 := p2_e h1
  replace h1 := p2_e h1
  refine tc tbk 2 (.mk ?_)
  refine ni tbk h1 fun x82 h1 => ?_
  refine tr tbk 2 (.mk ?_)
  exact bk (y11_2, y11_3, x82, y11_4, y11_5) (w11_1, w11_6, w11_7) h1 leA
  rintro _ _ h0
  refine tc tbk 2 (.mk ?_)
  obtain ⟨x83, e83, h0⟩ := bind_e h0
  refine sC cal9 (d_top_awake_c e83) ?_
  refine tr tbk 2 (.mk ?_)
  obtain rfl := nxt_e h0
  refine wR hret (rT .nil) ?_
  exact .refl _
end Go.Pv
