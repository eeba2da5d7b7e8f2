import Derived.Test.YtpbcnilkippahaaGreatK52
set_option linter.unusedVariables false
namespace Go.Pv
open Go.Proofs
set_option maxRecDepth 10000
set_option maxHeartbeats 1000000
def d_stock_Turn (a1 : GState) (a2 : Int) (a3 : Int) (a4 : GRoll) : Option (GState × Int) :=
(d_stock_is a1 a2 a3).bind fun x8 =>
bnd (!x8) fun x9 =>
asrt (x9 = false) <|
(ix a1.Ents a2).bind fun x10 =>
(ix x10.Rolls a3).bind fun x11 =>
(show Option ((Unit)) from
some ()).bind <| fun _ =>
(show Option (GRoll) from
(ix ([a4.Open, a4.Bought, a4.Landed, a4.Arrived, a4.Returned, a4.Sold, a4.Shipped, a4.SentBack, a4.Scrapped, a4.Lost, a4.Revalued] : List Int) 0).bind fun x16 =>
(show Option ((Unit)) from
some ()).bind <| fun _ =>
(d_money_Add x11.Open x16).bind fun x18 =>
bnd (decide (x18.2 ≠ 0)) fun x19 =>
asrt (x19 = false) <|
(ix ([a4.Open, a4.Bought, a4.Landed, a4.Arrived, a4.Returned, a4.Sold, a4.Shipped, a4.SentBack, a4.Scrapped, a4.Lost, a4.Revalued] : List Int) 1).bind fun x20 =>
(show Option ((Unit)) from
some ()).bind <| fun _ =>
(d_money_Add x11.Bought x20).bind fun x22 =>
bnd (decide (x22.2 ≠ 0)) fun x23 =>
asrt (x23 = false) <|
(ix ([a4.Open, a4.Bought, a4.Landed, a4.Arrived, a4.Returned, a4.Sold, a4.Shipped, a4.SentBack, a4.Scrapped, a4.Lost, a4.Revalued] : List Int) 2).bind fun x24 =>
(show Option ((Unit)) from
some ()).bind <| fun _ =>
(d_money_Add x11.Landed x24).bind fun x26 =>
bnd (decide (x26.2 ≠ 0)) fun x27 =>
asrt (x27 = false) <|
(ix ([a4.Open, a4.Bought, a4.Landed, a4.Arrived, a4.Returned, a4.Sold, a4.Shipped, a4.SentBack, a4.Scrapped, a4.Lost, a4.Revalued] : List Int) 3).bind fun x28 =>
(show Option ((Unit)) from
some ()).bind <| fun _ =>
(d_money_Add x11.Arrived x28).bind fun x30 =>
bnd (decide (x30.2 ≠ 0)) fun x31 =>
asrt (x31 = false) <|
(ix ([a4.Open, a4.Bought, a4.Landed, a4.Arrived, a4.Returned, a4.Sold, a4.Shipped, a4.SentBack, a4.Scrapped, a4.Lost, a4.Revalued] : List Int) 4).bind fun x32 =>
(show Option ((Unit)) from
some ()).bind <| fun _ =>
(d_money_Add x11.Returned x32).bind fun x34 =>
bnd (decide (x34.2 ≠ 0)) fun x35 =>
asrt (x35 = false) <|
(ix ([a4.Open, a4.Bought, a4.Landed, a4.Arrived, a4.Returned, a4.Sold, a4.Shipped, a4.SentBack, a4.Scrapped, a4.Lost, a4.Revalued] : List Int) 5).bind fun x36 =>
(show Option ((Unit)) from
some ()).bind <| fun _ =>
(d_money_Add x11.Sold x36).bind fun x38 =>
bnd (decide (x38.2 ≠ 0)) fun x39 =>
asrt (x39 = false) <|
(ix ([a4.Open, a4.Bought, a4.Landed, a4.Arrived, a4.Returned, a4.Sold, a4.Shipped, a4.SentBack, a4.Scrapped, a4.Lost, a4.Revalued] : List Int) 6).bind fun x40 =>
(show Option ((Unit)) from
some ()).bind <| fun _ =>
(d_money_Add x11.Shipped x40).bind fun x42 =>
bnd (decide (x42.2 ≠ 0)) fun x43 =>
asrt (x43 = false) <|
(ix ([a4.Open, a4.Bought, a4.Landed, a4.Arrived, a4.Returned, a4.Sold, a4.Shipped, a4.SentBack, a4.Scrapped, a4.Lost, a4.Revalued] : List Int) 7).bind fun x44 =>
(show Option ((Unit)) from
some ()).bind <| fun _ =>
(d_money_Add x11.SentBack x44).bind fun x46 =>
bnd (decide (x46.2 ≠ 0)) fun x47 =>
asrt (x47 = false) <|
(ix ([a4.Open, a4.Bought, a4.Landed, a4.Arrived, a4.Returned, a4.Sold, a4.Shipped, a4.SentBack, a4.Scrapped, a4.Lost, a4.Revalued] : List Int) 8).bind fun x48 =>
(show Option ((Unit)) from
some ()).bind <| fun _ =>
(d_money_Add x11.Scrapped x48).bind fun x50 =>
bnd (decide (x50.2 ≠ 0)) fun x51 =>
asrt (x51 = false) <|
(ix ([a4.Open, a4.Bought, a4.Landed, a4.Arrived, a4.Returned, a4.Sold, a4.Shipped, a4.SentBack, a4.Scrapped, a4.Lost, a4.Revalued] : List Int) 9).bind fun x52 =>
(show Option ((Unit)) from
some ()).bind <| fun _ =>
(d_money_Add x11.Lost x52).bind fun x54 =>
bnd (decide (x54.2 ≠ 0)) fun x55 =>
asrt (x55 = false) <|
(ix ([a4.Open, a4.Bought, a4.Landed, a4.Arrived, a4.Returned, a4.Sold, a4.Shipped, a4.SentBack, a4.Scrapped, a4.Lost, a4.Revalued] : List Int) 10).bind fun x56 =>
(show Option ((Unit)) from
some ()).bind <| fun _ =>
(d_money_Add x11.Revalued x56).bind fun x58 =>
bnd (decide (x58.2 ≠ 0)) fun x59 =>
asrt (x59 = false) <|
some ((⟨x18.1, x22.1, x26.1, x30.1, x34.1, x38.1, x42.1, x46.1, x50.1, x54.1, x58.1⟩ : GRoll) : GRoll)).bind <| fun y2_1 =>
(show Option ((Unit)) from
asrt (a1.Ents.length ≤ 68719476736) <|
(ix a1.Ents a2).bind fun x64 =>
some ()).bind <| fun _ =>
(ix a1.Ents a2).bind fun x65 =>
asrt (x65.Rolls.length ≤ 68719476736) <|
(ix x65.Rolls a3).bind fun x68 =>
bnd (x65.Rolls.set (Int.toNat a3) (y2_1 : GRoll)) fun x69 =>
some (((⟨a1.Master, (a1.Ents.set (Int.toNat a2) (⟨x65.Now, x65.Closed, x65.Pools, x65.Bal, x69, x65.Prices, x65.Down, x65.Ahead⟩ : GEnt)), a1.Receipts, a1.Sales, a1.Transits, a1.Done⟩ : GState) : GState), (0 : Int))
theorem d_stock_Turn_c {a1 : GState} {a2 : Int} {a3 : Int} {a4 : GRoll} {r : GState × Int} (h0 : d_stock_Turn a1 a2 a3 a4 = some r) : PP Tryz.prog 24 [.agg (GState.av a1), int a2, int a3, .agg (GRoll.av a4)] (fun y => y = .tup [.agg (GState.av r.1), int r.2]) := by
  unfold d_stock_Turn at h0
  refine pp_of_pc (R0 := fun y H => Cv (frzH H) y (.tup [.agg (GState.av r.1), int r.2])) ?_ (fun y H hc => ⟨_, rfl, .tup (pvl2 ((fun (a : GState) => PV.agg (GState.pvc a)) (r.1)) (pvI (r.2))), hc⟩)
  refine pcw (c := _) Tryz.func24 rfl rfl ?_; intro Q hret hnorm
  refine tc tbk 2 (.mk ?_)
  refine sB 1 fun v5 => ?_
  refine sB 2 fun v6 => ?_
  refine sA 3 z32 fun v7 => ?_
  refine tr tbk 8 (.mk ?_)
  obtain ⟨x8, e8, h0⟩ := bind_e h0
  refine sC cal37 (d_stock_is_c e8) ?_
  refine nb tbk h0 fun x9 h0 => ?_
  refine tr tbk 1 (.mk ?_)
  replace h0 := asrt_e h0
  obtain ⟨rfl, h0⟩ := h0
  refine tc tbk 7 (.mk ?_)
  obtain ⟨x10, e10, h0⟩ := bind_e h0
  refine sY (yv_to (y := .pp [int x10.Now, boo x10.Closed, lst 4 GPool.av x10.Pools, lst 1 fI x10.Bal, lst 11 GRoll.av x10.Rolls, lst 1 fI x10.Prices, lst 1 fI x10.Down, lst 8 GEnt.av x10.Ahead]) (yv_ixT rfl Tryz.underlying27 sh40 rfl rfl e10) (congrArg AV.pp (GEnt.av_eq x10))) ?_
  refine tr tbk 3 (.mk ?_)
  obtain ⟨x11, e11, h0⟩ := bind_e h0
  refine sY (yv_ixT rfl Tryz.underlying38 sh67 rfl rfl e11) ?_
  refine tr tbk 1 (.mk ?_)
  refine sA 4 z67 fun v12 => ?_
  refine sS ⟨67, 11, true, true, v12, [[int x11.Open, int x11.Bought, int x11.Landed, int x11.Arrived, int x11.Returned, int x11.Sold, int x11.Shipped, int x11.SentBack, int x11.Scrapped, int x11.Lost, int x11.Revalued]]⟩ sh67 ?_
  refine tr tbk 5 (.mk ?_)
  obtain ⟨j13, h1, h0⟩ := bind_e h0
  refine rse (Out := fun y H' => (∃ (a : Unit) (k : Unit), a = j13 ∧ y = lst 1 fI ([a4.Open, a4.Bought, a4.Landed, a4.Arrived, a4.Returned, a4.Sold, a4.Shipped, a4.SentBack, a4.Scrapped, a4.Lost, a4.Revalued] : List Int) ∧ H' = hk [(1, ⟨32, 10, true, true, v5, [(GState.av a1)]⟩), (2, ⟨67, 11, true, true, v6, [[int a4.Open, int a4.Bought, int a4.Landed, int a4.Arrived, int a4.Returned, int a4.Sold, int a4.Shipped, int a4.SentBack, int a4.Scrapped, int a4.Lost, int a4.Revalued]]⟩), (3, ⟨32, 10, true, true, v7, [[int 0, int 0, .sc (.slice none 0 0), .sc (.slice none 0 0), .sc (.slice none 0 0), .sc (.slice none 0 0), .sc (.slice none 0 0), .sc (.slice none 0 0), .sc (.slice none 0 0), int 0]]⟩), (4, ⟨67, 11, true, true, v12, [[int x11.Open, int x11.Bought, int x11.Landed, int x11.Arrived, int x11.Returned, int x11.Sold, int x11.Shipped, int x11.SentBack, int x11.Scrapped, int x11.Lost, int x11.Revalued]]⟩)])) rfl rfl rfl (yl_call rfl rfl (.cons rfl .nil) cal46 ?_) ?_
  refine pcw (c := _) Tryz.func46 rfl rfl ?_; intro Q hret hnorm
  refine tc tbk 2 (.mk ?_)
  refine sB 5 fun v14 => ?_
  refine tr tbk 26 (.mk ?_)
  refine sY (yv_to (y := lst 1 fI ([a4.Open, a4.Bought, a4.Landed, a4.Arrived, a4.Returned, a4.Sold, a4.Shipped, a4.SentBack, a4.Scrapped, a4.Lost, a4.Revalued] : List Int)) (yv_buildSlice (ps := [(0, _), (1, _), (2, _), (3, _), (4, _), (5, _), (6, _), (7, _), (8, _), (9, _), (10, _)]) (rows := [[int a4.Open], [int a4.Bought], [int a4.Landed], [int a4.Arrived], [int a4.Returned], [int a4.Sold], [int a4.Shipped], [int a4.SentBack], [int a4.Scrapped], [int a4.Lost], [int a4.Revalued]]) rfl Tryz.underlying23 bz3 (.cons rfl (.cons rfl (.cons rfl (.cons rfl (.cons rfl (.cons rfl (.cons rfl (.cons rfl (.cons rfl (.cons rfl (.cons rfl .nil))))))))))) (by kernel_rfl) rfl rfl rfl) rfl) ?_
  refine tr tbk 2 (.mk ?_)
  obtain rfl := nxt_e h1
  refine w_ret (hret _ _ (hk [(1, ⟨32, 10, true, true, v5, [(GState.av a1)]⟩), (2, ⟨67, 11, true, true, v6, [[int a4.Open, int a4.Bought, int a4.Landed, int a4.Arrived, int a4.Returned, int a4.Sold, int a4.Shipped, int a4.SentBack, int a4.Scrapped, int a4.Lost, int a4.Revalued]]⟩), (3, ⟨32, 10, true, true, v7, [[int 0, int 0, .sc (.slice none 0 0), .sc (.slice none 0 0), .sc (.slice none 0 0), .sc (.slice none 0 0), .sc (.slice none 0 0), .sc (.slice none 0 0), .sc (.slice none 0 0), int 0]]⟩), (4, ⟨67, 11, true, true, v12, [[int x11.Open, int x11.Bought, int x11.Landed, int x11.Arrived, int x11.Returned, int x11.Sold, int x11.Shipped, int x11.SentBack, int x11.Scrapped, int x11.Lost, int x11.Revalued]]⟩)]) (.tmp rfl .nil) (HK.le ⟨rfl, rfl, rfl, rfl, trivial⟩) ?_)
  exact ⟨(), (), rfl, rfl, rfl⟩
  rintro y _ ⟨_, _, rfl, hc, rfl⟩
  subst hc
  refine sY (yv_to (y := int 11) (yv_len_sl rfl Tryz.underlying23 rfl (lst_len _)) rfl) ?_
  refine tr tbk 2 (.mk ?_)
  refine jn h0 [1, 2, 4, 8, 9, 10] [1, 3] (fun (a : GRoll) (k : Unit) => []) (fun a k => [(4, ⟨67, 11, true, true, v12, [[int a.Open, int a.Bought, int a.Landed, int a.Arrived, int a.Returned, int a.Sold, int a.Shipped, int a.SentBack, int a.Scrapped, int a.Lost, int a.Revalued]]⟩)]) ⟨fun j15 h1 => ?_, ?_⟩
  refine tc tbk 4 (.mk ?_)
  refine sY (yv_to (y := boo true) (yv_lss rfl rfl rfl) (congrArg boo (by decide))) ?_
  refine tr tbk 9 (.mk ?_)
  obtain ⟨x16, e16, h1⟩ := bind_e h1
  refine sY (yv_ixT rfl Tryz.underlying23 sh3 rfl rfl e16) ?_
  refine tr tbk 6 (.mk ?_)
  obtain ⟨j17, h2, h1⟩ := bind_e h1
  refine rse (Out := fun y H' => (∃ (a : Unit) (k : Unit), a = j17 ∧ y = .list 1 [[.pt 4 v12 0 0], [.pt 4 v12 0 1], [.pt 4 v12 0 2], [.pt 4 v12 0 3], [.pt 4 v12 0 4], [.pt 4 v12 0 5], [.pt 4 v12 0 6], [.pt 4 v12 0 7], [.pt 4 v12 0 8], [.pt 4 v12 0 9], [.pt 4 v12 0 10]] ∧ H' = hk [(1, ⟨32, 10, true, true, v5, [(GState.av a1)]⟩), (2, ⟨67, 11, true, true, v6, [[int a4.Open, int a4.Bought, int a4.Landed, int a4.Arrived, int a4.Returned, int a4.Sold, int a4.Shipped, int a4.SentBack, int a4.Scrapped, int a4.Lost, int a4.Revalued]]⟩), (3, ⟨32, 10, true, true, v7, [[int 0, int 0, .sc (.slice none 0 0), .sc (.slice none 0 0), .sc (.slice none 0 0), .sc (.slice none 0 0), .sc (.slice none 0 0), .sc (.slice none 0 0), .sc (.slice none 0 0), int 0]]⟩), (4, ⟨67, 11, true, true, v12, [[int x11.Open, int x11.Bought, int x11.Landed, int x11.Arrived, int x11.Returned, int x11.Sold, int x11.Shipped, int x11.SentBack, int x11.Scrapped, int x11.Lost, int x11.Revalued]]⟩)])) rfl rfl rfl (yl_call rfl rfl (.cons rfl .nil) cal47 ?_) ?_
  refine pcw (c := _) Tryz.func47 rfl rfl ?_; intro Q hret hnorm
  refine tc tbk 5 (.mk ?_)
  refine c_drawE [0, 1, 3, 0, 8, 24, 0, 64, 192, 0, 512, 1536, 0, 4096, 12288, 0, 32768, 98304, 0, 262144, 786432, 0, 2097152, 6291456, 0, 16777216, 50331648, 0, 134217728, 402653184, 0, 1073741824, 3221225472, 8589934591, 17179869183] (rl [(1, [4]), (2, [4]), (4, [4]), (5, [4]), (7, [4]), (8, [4]), (10, [4]), (11, [4]), (13, [4]), (14, [4]), (16, [4]), (17, [4]), (19, [4]), (20, [4]), (22, [4]), (23, [4]), (25, [4]), (26, [4]), (28, [4]), (29, [4]), (31, [4]), (32, [4])] []) (fun i => [4]) (fun i => true) [0, 1, 2, 3, 4, 5, 6, 7, 8, 9, 10, 11, 12, 13, 14, 15, 16, 17, 18, 19, 20, 21, 22, 23, 24, 25, 26, 27, 28, 29, 30, 31, 32, 33, 34] mixed (by kernel_rfl) ?_; intro K hK
  refine eM ?_
  refine eN ?_
  refine eF fo67_0 ?_
  refine eM ?_
  refine eN ?_
  refine eF fo67_1 ?_
  refine eM ?_
  refine eN ?_
  refine eF fo67_2 ?_
  refine eM ?_
  refine eN ?_
  refine eF fo67_3 ?_
  refine eM ?_
  refine eN ?_
  refine eF fo67_4 ?_
  refine eM ?_
  refine eN ?_
  refine eF fo67_5 ?_
  refine eM ?_
  refine eN ?_
  refine eF fo67_6 ?_
  refine eM ?_
  refine eN ?_
  refine eF fo67_7 ?_
  refine eM ?_
  refine eN ?_
  refine eF fo67_8 ?_
  refine eM ?_
  refine eN ?_
  refine eF fo67_9 ?_
  refine eM ?_
  refine eN ?_
  refine eF fo67_10 ?_
  refine eP (fun H hH => yv_buildSlice (ps := [(0, _), (1, _), (2, _), (3, _), (4, _), (5, _), (6, _), (7, _), (8, _), (9, _), (10, _)]) (rows := [[.pt 4 v12 0 0], [.pt 4 v12 0 1], [.pt 4 v12 0 2], [.pt 4 v12 0 3], [.pt 4 v12 0 4], [.pt 4 v12 0 5], [.pt 4 v12 0 6], [.pt 4 v12 0 7], [.pt 4 v12 0 8], [.pt 4 v12 0 9], [.pt 4 v12 0 10]]) rfl Tryz.underlying98 bz97 (.cons rfl (.cons rfl (.cons rfl (.cons rfl (.cons rfl (.cons rfl (.cons rfl (.cons rfl (.cons rfl (.cons rfl (.cons rfl .nil))))))))))) (by kernel_rfl) rfl rfl rfl) ?_
  refine eA ?_
  refine de_nil (hK _ ?_)
  obtain rfl := nxt_e h2
  refine w_ret (hret _ _ (hk [(1, ⟨32, 10, true, true, v5, [(GState.av a1)]⟩), (2, ⟨67, 11, true, true, v6, [[int a4.Open, int a4.Bought, int a4.Landed, int a4.Arrived, int a4.Returned, int a4.Sold, int a4.Shipped, int a4.SentBack, int a4.Scrapped, int a4.Lost, int a4.Revalued]]⟩), (3, ⟨32, 10, true, true, v7, [[int 0, int 0, .sc (.slice none 0 0), .sc (.slice none 0 0), .sc (.slice none 0 0), .sc (.slice none 0 0), .sc (.slice none 0 0), .sc (.slice none 0 0), .sc (.slice none 0 0), int 0]]⟩), (4, ⟨67, 11, true, true, v12, [[int x11.Open, int x11.Bought, int x11.Landed, int x11.Arrived, int x11.Returned, int x11.Sold, int x11.Shipped, int x11.SentBack, int x11.Scrapped, int x11.Lost, int x11.Revalued]]⟩)]) (.tmp rfl .nil) (HK.le ⟨rfl, rfl, rfl, rfl, trivial⟩) ?_)
  exact ⟨(), (), rfl, rfl, rfl⟩
  rintro y _ ⟨_, _, rfl, hc, rfl⟩
  subst hc
  refine tr tbk 1 (.mk ?_)
  refine sY (yv_indexAddr (j := 0) rfl Tryz.underlying98 sh97 rfl rfl rfl (.list rfl)) ?_
  refine tr tbk 9 (.mk ?_)
  obtain ⟨x18, e18, h1⟩ := bind_e h1
  refine sC cal48 (d_money_Add_c e18) ?_
  refine tr tbk 10 (.mk ?_)
  refine nb tbk h1 fun x19 h1 => ?_
  refine tr tbk 1 (.mk ?_)
  replace h1 := asrt_e h1
  obtain ⟨rfl, h1⟩ := h1
  refine tc tbk 6 (.mk ?_)
  refine sS ⟨67, 11, true, true, v12, [[int x18.1, int x11.Bought, int x11.Landed, int x11.Arrived, int x11.Returned, int x11.Sold, int x11.Shipped, int x11.SentBack, int x11.Scrapped, int x11.Lost, int x11.Revalued]]⟩ sh3 ?_
  refine tr tbk 3 (.mk ?_)
  refine sY (yv_add (r := 1) rfl rfl rfl (by decide)) ?_
  refine tr tbk 5 (.mk ?_)
  refine sY (yv_to (y := boo true) (yv_lss rfl rfl rfl) (congrArg boo (by decide))) ?_
  refine tr tbk 9 (.mk ?_)
  obtain ⟨x20, e20, h1⟩ := bind_e h1
  refine sY (yv_ixT rfl Tryz.underlying23 sh3 rfl rfl e20) ?_
  refine tr tbk 6 (.mk ?_)
  obtain ⟨j21, h2, h1⟩ := bind_e h1
  refine rse (Out := fun y H' => (∃ (a : Unit) (k : Unit), a = j21 ∧ y = .list 1 [[.pt 4 v12 0 0], [.pt 4 v12 0 1], [.pt 4 v12 0 2], [.pt 4 v12 0 3], [.pt 4 v12 0 4], [.pt 4 v12 0 5], [.pt 4 v12 0 6], [.pt 4 v12 0 7], [.pt 4 v12 0 8], [.pt 4 v12 0 9], [.pt 4 v12 0 10]] ∧ H' = hk [(1, ⟨32, 10, true, true, v5, [(GState.av a1)]⟩), (2, ⟨67, 11, true, true, v6, [[int a4.Open, int a4.Bought, int a4.Landed, int a4.Arrived, int a4.Returned, int a4.Sold, int a4.Shipped, int a4.SentBack, int a4.Scrapped, int a4.Lost, int a4.Revalued]]⟩), (3, ⟨32, 10, true, true, v7, [[int 0, int 0, .sc (.slice none 0 0), .sc (.slice none 0 0), .sc (.slice none 0 0), .sc (.slice none 0 0), .sc (.slice none 0 0), .sc (.slice none 0 0), .sc (.slice none 0 0), int 0]]⟩), (4, ⟨67, 11, true, true, v12, [[int x18.1, int x11.Bought, int x11.Landed, int x11.Arrived, int x11.Returned, int x11.Sold, int x11.Shipped, int x11.SentBack, int x11.Scrapped, int x11.Lost, int x11.Revalued]]⟩)])) rfl rfl rfl (yl_call rfl rfl (.cons rfl .nil) cal47 ?_) ?_
  refine pcw (c := _) Tryz.func47 rfl rfl ?_; intro Q hret hnorm
  refine tc tbk 5 (.mk ?_)
  refine c_drawE [0, 1, 3, 0, 8, 24, 0, 64, 192, 0, 512, 1536, 0, 4096, 12288, 0, 32768, 98304, 0, 262144, 786432, 0, 2097152, 6291456, 0, 16777216, 50331648, 0, 134217728, 402653184, 0, 1073741824, 3221225472, 8589934591, 17179869183] (rl [(1, [4]), (2, [4]), (4, [4]), (5, [4]), (7, [4]), (8, [4]), (10, [4]), (11, [4]), (13, [4]), (14, [4]), (16, [4]), (17, [4]), (19, [4]), (20, [4]), (22, [4]), (23, [4]), (25, [4]), (26, [4]), (28, [4]), (29, [4]), (31, [4]), (32, [4])] []) (fun i => [4]) (fun i => true) [0, 1, 2, 3, 4, 5, 6, 7, 8, 9, 10, 11, 12, 13, 14, 15, 16, 17, 18, 19, 20, 21, 22, 23, 24, 25, 26, 27, 28, 29, 30, 31, 32, 33, 34] mixed (by kernel_rfl) ?_; intro K hK
  refine eM ?_
  refine eN ?_
  refine eF fo67_0 ?_
  refine eM ?_
  refine eN ?_
  refine eF fo67_1 ?_
  refine eM ?_
  refine eN ?_
  refine eF fo67_2 ?_
  refine eM ?_
  refine eN ?_
  refine eF fo67_3 ?_
  refine eM ?_
  refine eN ?_
  refine eF fo67_4 ?_
  refine eM ?_
  refine eN ?_
  refine eF fo67_5 ?_
  refine eM ?_
  refine eN ?_
  refine eF fo67_6 ?_
  refine eM ?_
  refine eN ?_
  refine eF fo67_7 ?_
  refine eM ?_
  refine eN ?_
  refine eF fo67_8 ?_
  refine eM ?_
  refine eN ?_
  refine eF fo67_9 ?_
  refine eM ?_
  refine eN ?_
  refine eF fo67_10 ?_
  refine eP (fun H hH => yv_buildSlice (ps := [(0, _), (1, _), (2, _), (3, _), (4, _), (5, _), (6, _), (7, _), (8, _), (9, _), (10, _)]) (rows := [[.pt 4 v12 0 0], [.pt 4 v12 0 1], [.pt 4 v12 0 2], [.pt 4 v12 0 3], [.pt 4 v12 0 4], [.pt 4 v12 0 5], [.pt 4 v12 0 6], [.pt 4 v12 0 7], [.pt 4 v12 0 8], [.pt 4 v12 0 9], [.pt 4 v12 0 10]]) rfl Tryz.underlying98 bz97 (.cons rfl (.cons rfl (.cons rfl (.cons rfl (.cons rfl (.cons rfl (.cons rfl (.cons rfl (.cons rfl (.cons rfl (.cons rfl .nil))))))))))) (by kernel_rfl) rfl rfl rfl) ?_
  refine eA ?_
  refine de_nil (hK _ ?_)
  obtain rfl := nxt_e h2
  refine w_ret (hret _ _ (hk [(1, ⟨32, 10, true, true, v5, [(GState.av a1)]⟩), (2, ⟨67, 11, true, true, v6, [[int a4.Open, int a4.Bought, int a4.Landed, int a4.Arrived, int a4.Returned, int a4.Sold, int a4.Shipped, int a4.SentBack, int a4.Scrapped, int a4.Lost, int a4.Revalued]]⟩), (3, ⟨32, 10, true, true, v7, [[int 0, int 0, .sc (.slice none 0 0), .sc (.slice none 0 0), .sc (.slice none 0 0), .sc (.slice none 0 0), .sc (.slice none 0 0), .sc (.slice none 0 0), .sc (.slice none 0 0), int 0]]⟩), (4, ⟨67, 11, true, true, v12, [[int x18.1, int x11.Bought, int x11.Landed, int x11.Arrived, int x11.Returned, int x11.Sold, int x11.Shipped, int x11.SentBack, int x11.Scrapped, int x11.Lost, int x11.Revalued]]⟩)]) (.tmp rfl .nil) (HK.le ⟨rfl, rfl, rfl, rfl, trivial⟩) ?_)
  exact ⟨(), (), rfl, rfl, rfl⟩
  rintro y _ ⟨_, _, rfl, hc, rfl⟩
  subst hc
  refine tr tbk 1 (.mk ?_)
  refine sY (yv_indexAddr (j := 1) rfl Tryz.underlying98 sh97 rfl rfl rfl (.list rfl)) ?_
  refine tr tbk 9 (.mk ?_)
  obtain ⟨x22, e22, h1⟩ := bind_e h1
  refine sC cal48 (d_money_Add_c e22) ?_
  refine tr tbk 10 (.mk ?_)
  refine nb tbk h1 fun x23 h1 => ?_
  refine tr tbk 1 (.mk ?_)
  replace h1 := asrt_e h1
  obtain ⟨rfl, h1⟩ := h1
  refine tc tbk 6 (.mk ?_)
  refine sS ⟨67, 11, true, true, v12, [[int x18.1, int x22.1, int x11.Landed, int x11.Arrived, int x11.Returned, int x11.Sold, int x11.Shipped, int x11.SentBack, int x11.Scrapped, int x11.Lost, int x11.Revalued]]⟩ sh3 ?_
  refine tr tbk 3 (.mk ?_)
  refine sY (yv_add (r := 2) rfl rfl rfl (by decide)) ?_
  refine tr tbk 5 (.mk ?_)
  refine sY (yv_to (y := boo true) (yv_lss rfl rfl rfl) (congrArg boo (by decide))) ?_
  refine tr tbk 9 (.mk ?_)
  obtain ⟨x24, e24, h1⟩ := bind_e h1
  refine sY (yv_ixT rfl Tryz.underlying23 sh3 rfl rfl e24) ?_
  refine tr tbk 6 (.mk ?_)
  obtain ⟨j25, h2, h1⟩ := bind_e h1
  refine rse (Out := fun y H' => (∃ (a : Unit) (k : Unit), a = j25 ∧ y = .list 1 [[.pt 4 v12 0 0], [.pt 4 v12 0 1], [.pt 4 v12 0 2], [.pt 4 v12 0 3], [.pt 4 v12 0 4], [.pt 4 v12 0 5], [.pt 4 v12 0 6], [.pt 4 v12 0 7], [.pt 4 v12 0 8], [.pt 4 v12 0 9], [.pt 4 v12 0 10]] ∧ H' = hk [(1, ⟨32, 10, true, true, v5, [(GState.av a1)]⟩), (2, ⟨67, 11, true, true, v6, [[int a4.Open, int a4.Bought, int a4.Landed, int a4.Arrived, int a4.Returned, int a4.Sold, int a4.Shipped, int a4.SentBack, int a4.Scrapped, int a4.Lost, int a4.Revalued]]⟩), (3, ⟨32, 10, true, true, v7, [[int 0, int 0, .sc (.slice none 0 0), .sc (.slice none 0 0), .sc (.slice none 0 0), .sc (.slice none 0 0), .sc (.slice none 0 0), .sc (.slice none 0 0), .sc (.slice none 0 0), int 0]]⟩), (4, ⟨67, 11, true, true, v12, [[int x18.1, int x22.1, int x11.Landed, int x11.Arrived, int x11.Returned, int x11.Sold, int x11.Shipped, int x11.SentBack, int x11.Scrapped, int x11.Lost, int x11.Revalued]]⟩)])) rfl rfl rfl (yl_call rfl rfl (.cons rfl .nil) cal47 ?_) ?_
  refine pcw (c := _) Tryz.func47 rfl rfl ?_; intro Q hret hnorm
  refine tc tbk 5 (.mk ?_)
  refine c_drawE [0, 1, 3, 0, 8, 24, 0, 64, 192, 0, 512, 1536, 0, 4096, 12288, 0, 32768, 98304, 0, 262144, 786432, 0, 2097152, 6291456, 0, 16777216, 50331648, 0, 134217728, 402653184, 0, 1073741824, 3221225472, 8589934591, 17179869183] (rl [(1, [4]), (2, [4]), (4, [4]), (5, [4]), (7, [4]), (8, [4]), (10, [4]), (11, [4]), (13, [4]), (14, [4]), (16, [4]), (17, [4]), (19, [4]), (20, [4]), (22, [4]), (23, [4]), (25, [4]), (26, [4]), (28, [4]), (29, [4]), (31, [4]), (32, [4])] []) (fun i => [4]) (fun i => true) [0, 1, 2, 3, 4, 5, 6, 7, 8, 9, 10, 11, 12, 13, 14, 15, 16, 17, 18, 19, 20, 21, 22, 23, 24, 25, 26, 27, 28, 29, 30, 31, 32, 33, 34] mixed (by kernel_rfl) ?_; intro K hK
  refine eM ?_
  refine eN ?_
  refine eF fo67_0 ?_
  refine eM ?_
  refine eN ?_
  refine eF fo67_1 ?_
  refine eM ?_
  refine eN ?_
  refine eF fo67_2 ?_
  refine eM ?_
  refine eN ?_
  refine eF fo67_3 ?_
  refine eM ?_
  refine eN ?_
  refine eF fo67_4 ?_
  refine eM ?_
  refine eN ?_
  refine eF fo67_5 ?_
  refine eM ?_
  refine eN ?_
  refine eF fo67_6 ?_
  refine eM ?_
  refine eN ?_
  refine eF fo67_7 ?_
  refine eM ?_
  refine eN ?_
  refine eF fo67_8 ?_
  refine eM ?_
  refine eN ?_
  refine eF fo67_9 ?_
  refine eM ?_
  refine eN ?_
  refine eF fo67_10 ?_
  refine eP (fun H hH => yv_buildSlice (ps := [(0, _), (1, _), (2, _), (3, _), (4, _), (5, _), (6, _), (7, _), (8, _), (9, _), (10, _)]) (rows := [[.pt 4 v12 0 0], [.pt 4 v12 0 1], [.pt 4 v12 0 2], [.pt 4 v12 0 3], [.pt 4 v12 0 4], [.pt 4 v12 0 5], [.pt 4 v12 0 6], [.pt 4 v12 0 7], [.pt 4 v12 0 8], [.pt 4 v12 0 9], [.pt 4 v12 0 10]]) rfl Tryz.underlying98 bz97 (.cons rfl (.cons rfl (.cons rfl (.cons rfl (.cons rfl (.cons rfl (.cons rfl (.cons rfl (.cons rfl (.cons rfl (.cons rfl .nil))))))))))) (by kernel_rfl) rfl rfl rfl) ?_
  refine eA ?_
  refine de_nil (hK _ ?_)
  obtain rfl := nxt_e h2
  refine w_ret (hret _ _ (hk [(1, ⟨32, 10, true, true, v5, [(GState.av a1)]⟩), (2, ⟨67, 11, true, true, v6, [[int a4.Open, int a4.Bought, int a4.Landed, int a4.Arrived, int a4.Returned, int a4.Sold, int a4.Shipped, int a4.SentBack, int a4.Scrapped, int a4.Lost, int a4.Revalued]]⟩), (3, ⟨32, 10, true, true, v7, [[int 0, int 0, .sc (.slice none 0 0), .sc (.slice none 0 0), .sc (.slice none 0 0), .sc (.slice none 0 0), .sc (.slice none 0 0), .sc (.slice none 0 0), .sc (.slice none 0 0), int 0]]⟩), (4, ⟨67, 11, true, true, v12, [[int x18.1, int x22.1, int x11.Landed, int x11.Arrived, int x11.Returned, int x11.Sold, int x11.Shipped, int x11.SentBack, int x11.Scrapped, int x11.Lost, int x11.Revalued]]⟩)]) (.tmp rfl .nil) (HK.le ⟨rfl, rfl, rfl, rfl, trivial⟩) ?_)
  exact ⟨(), (), rfl, rfl, rfl⟩
  rintro y _ ⟨_, _, rfl, hc, rfl⟩
  subst hc
  refine tr tbk 1 (.mk ?_)
  refine sY (yv_indexAddr (j := 2) rfl Tryz.underlying98 sh97 rfl rfl rfl (.list rfl)) ?_
  refine tr tbk 9 (.mk ?_)
  obtain ⟨x26, e26, h1⟩ := bind_e h1
  refine sC cal48 (d_money_Add_c e26) ?_
  refine tr tbk 10 (.mk ?_)
  refine nb tbk h1 fun x27 h1 => ?_
  refine tr tbk 1 (.mk ?_)
  replace h1 := asrt_e h1
  obtain ⟨rfl, h1⟩ := h1
  refine tc tbk 6 (.mk ?_)
  refine sS ⟨67, 11, true, true, v12, [[int x18.1, int x22.1, int x26.1, int x11.Arrived, int x11.Returned, int x11.Sold, int x11.Shipped, int x11.SentBack, int x11.Scrapped, int x11.Lost, int x11.Revalued]]⟩ sh3 ?_
  refine tr tbk 3 (.mk ?_)
  refine sY (yv_add (r := 3) rfl rfl rfl (by decide)) ?_
  refine tr tbk 5 (.mk ?_)
  refine sY (yv_to (y := boo true) (yv_lss rfl rfl rfl) (congrArg boo (by decide))) ?_
  refine tr tbk 9 (.mk ?_)
  obtain ⟨x28, e28, h1⟩ := bind_e h1
  refine sY (yv_ixT rfl Tryz.underlying23 sh3 rfl rfl e28) ?_
  refine tr tbk 6 (.mk ?_)
  obtain ⟨j29, h2, h1⟩ := bind_e h1
  refine rse (Out := fun y H' => (∃ (a : Unit) (k : Unit), a = j29 ∧ y = .list 1 [[.pt 4 v12 0 0], [.pt 4 v12 0 1], [.pt 4 v12 0 2], [.pt 4 v12 0 3], [.pt 4 v12 0 4], [.pt 4 v12 0 5], [.pt 4 v12 0 6], [.pt 4 v12 0 7], [.pt 4 v12 0 8], [.pt 4 v12 0 9], [.pt 4 v12 0 10]] ∧ H' = hk [(1, ⟨32, 10, true, true, v5, [(GState.av a1)]⟩), (2, ⟨67, 11, true, true, v6, [[int a4.Open, int a4.Bought, int a4.Landed, int a4.Arrived, int a4.Returned, int a4.Sold, int a4.Shipped, int a4.SentBack, int a4.Scrapped, int a4.Lost, int a4.Revalued]]⟩), (3, ⟨32, 10, true, true, v7, [[int 0, int 0, .sc (.slice none 0 0), .sc (.slice none 0 0), .sc (.slice none 0 0), .sc (.slice none 0 0), .sc (.slice none 0 0), .sc (.slice none 0 0), .sc (.slice none 0 0), int 0]]⟩), (4, ⟨67, 11, true, true, v12, [[int x18.1, int x22.1, int x26.1, int x11.Arrived, int x11.Returned, int x11.Sold, int x11.Shipped, int x11.SentBack, int x11.Scrapped, int x11.Lost, int x11.Revalued]]⟩)])) rfl rfl rfl (yl_call rfl rfl (.cons rfl .nil) cal47 ?_) ?_
  refine pcw (c := _) Tryz.func47 rfl rfl ?_; intro Q hret hnorm
  refine tc tbk 5 (.mk ?_)
  refine c_drawE [0, 1, 3, 0, 8, 24, 0, 64, 192, 0, 512, 1536, 0, 4096, 12288, 0, 32768, 98304, 0, 262144, 786432, 0, 2097152, 6291456, 0, 16777216, 50331648, 0, 134217728, 402653184, 0, 1073741824, 3221225472, 8589934591, 17179869183] (rl [(1, [4]), (2, [4]), (4, [4]), (5, [4]), (7, [4]), (8, [4]), (10, [4]), (11, [4]), (13, [4]), (14, [4]), (16, [4]), (17, [4]), (19, [4]), (20, [4]), (22, [4]), (23, [4]), (25, [4]), (26, [4]), (28, [4]), (29, [4]), (31, [4]), (32, [4])] []) (fun i => [4]) (fun i => true) [0, 1, 2, 3, 4, 5, 6, 7, 8, 9, 10, 11, 12, 13, 14, 15, 16, 17, 18, 19, 20, 21, 22, 23, 24, 25, 26, 27, 28, 29, 30, 31, 32, 33, 34] mixed (by kernel_rfl) ?_; intro K hK
  refine eM ?_
  refine eN ?_
  refine eF fo67_0 ?_
  refine eM ?_
  refine eN ?_
  refine eF fo67_1 ?_
  refine eM ?_
  refine eN ?_
  refine eF fo67_2 ?_
  refine eM ?_
  refine eN ?_
  refine eF fo67_3 ?_
  refine eM ?_
  refine eN ?_
  refine eF fo67_4 ?_
  refine eM ?_
  refine eN ?_
  refine eF fo67_5 ?_
  refine eM ?_
  refine eN ?_
  refine eF fo67_6 ?_
  refine eM ?_
  refine eN ?_
  refine eF fo67_7 ?_
  refine eM ?_
  refine eN ?_
  refine eF fo67_8 ?_
  refine eM ?_
  refine eN ?_
  refine eF fo67_9 ?_
  refine eM ?_
  refine eN ?_
  refine eF fo67_10 ?_
  refine eP (fun H hH => yv_buildSlice (ps := [(0, _), (1, _), (2, _), (3, _), (4, _), (5, _), (6, _), (7, _), (8, _), (9, _), (10, _)]) (rows := [[.pt 4 v12 0 0], [.pt 4 v12 0 1], [.pt 4 v12 0 2], [.pt 4 v12 0 3], [.pt 4 v12 0 4], [.pt 4 v12 0 5], [.pt 4 v12 0 6], [.pt 4 v12 0 7], [.pt 4 v12 0 8], [.pt 4 v12 0 9], [.pt 4 v12 0 10]]) rfl Tryz.underlying98 bz97 (.cons rfl (.cons rfl (.cons rfl (.cons rfl (.cons rfl (.cons rfl (.cons rfl (.cons rfl (.cons rfl (.cons rfl (.cons rfl .nil))))))))))) (by kernel_rfl) rfl rfl rfl) ?_
  refine eA ?_
  refine de_nil (hK _ ?_)
  obtain rfl := nxt_e h2
  refine w_ret (hret _ _ (hk [(1, ⟨32, 10, true, true, v5, [(GState.av a1)]⟩), (2, ⟨67, 11, true, true, v6, [[int a4.Open, int a4.Bought, int a4.Landed, int a4.Arrived, int a4.Returned, int a4.Sold, int a4.Shipped, int a4.SentBack, int a4.Scrapped, int a4.Lost, int a4.Revalued]]⟩), (3, ⟨32, 10, true, true, v7, [[int 0, int 0, .sc (.slice none 0 0), .sc (.slice none 0 0), .sc (.slice none 0 0), .sc (.slice none 0 0), .sc (.slice none 0 0), .sc (.slice none 0 0), .sc (.slice none 0 0), int 0]]⟩), (4, ⟨67, 11, true, true, v12, [[int x18.1, int x22.1, int x26.1, int x11.Arrived, int x11.Returned, int x11.Sold, int x11.Shipped, int x11.SentBack, int x11.Scrapped, int x11.Lost, int x11.Revalued]]⟩)]) (.tmp rfl .nil) (HK.le ⟨rfl, rfl, rfl, rfl, trivial⟩) ?_)
  exact ⟨(), (), rfl, rfl, rfl⟩
  rintro y _ ⟨_, _, rfl, hc, rfl⟩
  subst hc
  refine tr tbk 1 (.mk ?_)
  refine sY (yv_indexAddr (j := 3) rfl Tryz.underlying98 sh97 rfl rfl rfl (.list rfl)) ?_
  refine tr tbk 9 (.mk ?_)
  obtain ⟨x30, e30, h1⟩ := bind_e h1
  refine sC cal48 (d_money_Add_c e30) ?_
  refine tr tbk 10 (.mk ?_)
  refine nb tbk h1 fun x31 h1 => ?_
  refine tr tbk 1 (.mk ?_)
  replace h1 := asrt_e h1
  obtain ⟨rfl, h1⟩ := h1
  refine tc tbk 6 (.mk ?_)
  refine sS ⟨67, 11, true, true, v12, [[int x18.1, int x22.1, int x26.1, int x30.1, int x11.Returned, int x11.Sold, int x11.Shipped, int x11.SentBack, int x11.Scrapped, int x11.Lost, int x11.Revalued]]⟩ sh3 ?_
  refine tr tbk 3 (.mk ?_)
  refine sY (yv_add (r := 4) rfl rfl rfl (by decide)) ?_
  refine tr tbk 5 (.mk ?_)
  refine sY (yv_to (y := boo true) (yv_lss rfl rfl rfl) (congrArg boo (by decide))) ?_
  refine tr tbk 9 (.mk ?_)
  obtain ⟨x32, e32, h1⟩ := bind_e h1
  refine sY (yv_ixT rfl Tryz.underlying23 sh3 rfl rfl e32) ?_
  refine tr tbk 6 (.mk ?_)
  obtain ⟨j33, h2, h1⟩ := bind_e h1
  refine rse (Out := fun y H' => (∃ (a : Unit) (k : Unit), a = j33 ∧ y = .list 1 [[.pt 4 v12 0 0], [.pt 4 v12 0 1], [.pt 4 v12 0 2], [.pt 4 v12 0 3], [.pt 4 v12 0 4], [.pt 4 v12 0 5], [.pt 4 v12 0 6], [.pt 4 v12 0 7], [.pt 4 v12 0 8], [.pt 4 v12 0 9], [.pt 4 v12 0 10]] ∧ H' = hk [(1, ⟨32, 10, true, true, v5, [(GState.av a1)]⟩), (2, ⟨67, 11, true, true, v6, [[int a4.Open, int a4.Bought, int a4.Landed, int a4.Arrived, int a4.Returned, int a4.Sold, int a4.Shipped, int a4.SentBack, int a4.Scrapped, int a4.Lost, int a4.Revalued]]⟩), (3, ⟨32, 10, true, true, v7, [[int 0, int 0, .sc (.slice none 0 0), .sc (.slice none 0 0), .sc (.slice none 0 0), .sc (.slice none 0 0), .sc (.slice none 0 0), .sc (.slice none 0 0), .sc (.slice none 0 0), int 0]]⟩), (4, ⟨67, 11, true, true, v12, [[int x18.1, int x22.1, int x26.1, int x30.1, int x11.Returned, int x11.Sold, int x11.Shipped, int x11.SentBack, int x11.Scrapped, int x11.Lost, int x11.Revalued]]⟩)])) rfl rfl rfl (yl_call rfl rfl (.cons rfl .nil) cal47 ?_) ?_
  refine pcw (c := _) Tryz.func47 rfl rfl ?_; intro Q hret hnorm
  refine tc tbk 5 (.mk ?_)
  refine c_drawE [0, 1, 3, 0, 8, 24, 0, 64, 192, 0, 512, 1536, 0, 4096, 12288, 0, 32768, 98304, 0, 262144, 786432, 0, 2097152, 6291456, 0, 16777216, 50331648, 0, 134217728, 402653184, 0, 1073741824, 3221225472, 8589934591, 17179869183] (rl [(1, [4]), (2, [4]), (4, [4]), (5, [4]), (7, [4]), (8, [4]), (10, [4]), (11, [4]), (13, [4]), (14, [4]), (16, [4]), (17, [4]), (19, [4]), (20, [4]), (22, [4]), (23, [4]), (25, [4]), (26, [4]), (28, [4]), (29, [4]), (31, [4]), (32, [4])] []) (fun i => [4]) (fun i => true) [0, 1, 2, 3, 4, 5, 6, 7, 8, 9, 10, 11, 12, 13, 14, 15, 16, 17, 18, 19, 20, 21, 22, 23, 24, 25, 26, 27, 28, 29, 30, 31, 32, 33, 34] mixed (by kernel_rfl) ?_; intro K hK
  refine eM ?_
  refine eN ?_
  refine eF fo67_0 ?_
  refine eM ?_
  refine eN ?_
  refine eF fo67_1 ?_
  refine eM ?_
  refine eN ?_
  refine eF fo67_2 ?_
  refine eM ?_
  refine eN ?_
  refine eF fo67_3 ?_
  refine eM ?_
  refine eN ?_
  refine eF fo67_4 ?_
  refine eM ?_
  refine eN ?_
  refine eF fo67_5 ?_
  refine eM ?_
  refine eN ?_
  refine eF fo67_6 ?_
  refine eM ?_
  refine eN ?_
  refine eF fo67_7 ?_
  refine eM ?_
  refine eN ?_
  refine eF fo67_8 ?_
  refine eM ?_
  refine eN ?_
  refine eF fo67_9 ?_
  refine eM ?_
  refine eN ?_
  refine eF fo67_10 ?_
  refine eP (fun H hH => yv_buildSlice (ps := [(0, _), (1, _), (2, _), (3, _), (4, _), (5, _), (6, _), (7, _), (8, _), (9, _), (10, _)]) (rows := [[.pt 4 v12 0 0], [.pt 4 v12 0 1], [.pt 4 v12 0 2], [.pt 4 v12 0 3], [.pt 4 v12 0 4], [.pt 4 v12 0 5], [.pt 4 v12 0 6], [.pt 4 v12 0 7], [.pt 4 v12 0 8], [.pt 4 v12 0 9], [.pt 4 v12 0 10]]) rfl Tryz.underlying98 bz97 (.cons rfl (.cons rfl (.cons rfl (.cons rfl (.cons rfl (.cons rfl (.cons rfl (.cons rfl (.cons rfl (.cons rfl (.cons rfl .nil))))))))))) (by kernel_rfl) rfl rfl rfl) ?_
  refine eA ?_
  refine de_nil (hK _ ?_)
  obtain rfl := nxt_e h2
  refine w_ret (hret _ _ (hk [(1, ⟨32, 10, true, true, v5, [(GState.av a1)]⟩), (2, ⟨67, 11, true, true, v6, [[int a4.Open, int a4.Bought, int a4.Landed, int a4.Arrived, int a4.Returned, int a4.Sold, int a4.Shipped, int a4.SentBack, int a4.Scrapped, int a4.Lost, int a4.Revalued]]⟩), (3, ⟨32, 10, true, true, v7, [[int 0, int 0, .sc (.slice none 0 0), .sc (.slice none 0 0), .sc (.slice none 0 0), .sc (.slice none 0 0), .sc (.slice none 0 0), .sc (.slice none 0 0), .sc (.slice none 0 0), int 0]]⟩), (4, ⟨67, 11, true, true, v12, [[int x18.1, int x22.1, int x26.1, int x30.1, int x11.Returned, int x11.Sold, int x11.Shipped, int x11.SentBack, int x11.Scrapped, int x11.Lost, int x11.Revalued]]⟩)]) (.tmp rfl .nil) (HK.le ⟨rfl, rfl, rfl, rfl, trivial⟩) ?_)
  exact ⟨(), (), rfl, rfl, rfl⟩
  rintro y _ ⟨_, _, rfl, hc, rfl⟩
  subst hc
  refine tr tbk 1 (.mk ?_)
  refine sY (yv_indexAddr (j := 4) rfl Tryz.underlying98 sh97 rfl rfl rfl (.list rfl)) ?_
  refine tr tbk 9 (.mk ?_)
  obtain ⟨x34, e34, h1⟩ := bind_e h1
  refine sC cal48 (d_money_Add_c e34) ?_
  refine tr tbk 10 (.mk ?_)
  refine nb tbk h1 fun x35 h1 => ?_
  refine tr tbk 1 (.mk ?_)
  replace h1 := asrt_e h1
  obtain ⟨rfl, h1⟩ := h1
  refine tc tbk 6 (.mk ?_)
  refine sS ⟨67, 11, true, true, v12, [[int x18.1, int x22.1, int x26.1, int x30.1, int x34.1, int x11.Sold, int x11.Shipped, int x11.SentBack, int x11.Scrapped, int x11.Lost, int x11.Revalued]]⟩ sh3 ?_
  refine tr tbk 3 (.mk ?_)
  refine sY (yv_add (r := 5) rfl rfl rfl (by decide)) ?_
  refine tr tbk 5 (.mk ?_)
  refine sY (yv_to (y := boo true) (yv_lss rfl rfl rfl) (congrArg boo (by decide))) ?_
  refine tr tbk 9 (.mk ?_)
  obtain ⟨x36, e36, h1⟩ := bind_e h1
  refine sY (yv_ixT rfl Tryz.underlying23 sh3 rfl rfl e36) ?_
  refine tr tbk 6 (.mk ?_)
  obtain ⟨j37, h2, h1⟩ := bind_e h1
  refine rse (Out := fun y H' => (∃ (a : Unit) (k : Unit), a = j37 ∧ y = .list 1 [[.pt 4 v12 0 0], [.pt 4 v12 0 1], [.pt 4 v12 0 2], [.pt 4 v12 0 3], [.pt 4 v12 0 4], [.pt 4 v12 0 5], [.pt 4 v12 0 6], [.pt 4 v12 0 7], [.pt 4 v12 0 8], [.pt 4 v12 0 9], [.pt 4 v12 0 10]] ∧ H' = hk [(1, ⟨32, 10, true, true, v5, [(GState.av a1)]⟩), (2, ⟨67, 11, true, true, v6, [[int a4.Open, int a4.Bought, int a4.Landed, int a4.Arrived, int a4.Returned, int a4.Sold, int a4.Shipped, int a4.SentBack, int a4.Scrapped, int a4.Lost, int a4.Revalued]]⟩), (3, ⟨32, 10, true, true, v7, [[int 0, int 0, .sc (.slice none 0 0), .sc (.slice none 0 0), .sc (.slice none 0 0), .sc (.slice none 0 0), .sc (.slice none 0 0), .sc (.slice none 0 0), .sc (.slice none 0 0), int 0]]⟩), (4, ⟨67, 11, true, true, v12, [[int x18.1, int x22.1, int x26.1, int x30.1, int x34.1, int x11.Sold, int x11.Shipped, int x11.SentBack, int x11.Scrapped, int x11.Lost, int x11.Revalued]]⟩)])) rfl rfl rfl (yl_call rfl rfl (.cons rfl .nil) cal47 ?_) ?_
  refine pcw (c := _) Tryz.func47 rfl rfl ?_; intro Q hret hnorm
  refine tc tbk 5 (.mk ?_)
  refine c_drawE [0, 1, 3, 0, 8, 24, 0, 64, 192, 0, 512, 1536, 0, 4096, 12288, 0, 32768, 98304, 0, 262144, 786432, 0, 2097152, 6291456, 0, 16777216, 50331648, 0, 134217728, 402653184, 0, 1073741824, 3221225472, 8589934591, 17179869183] (rl [(1, [4]), (2, [4]), (4, [4]), (5, [4]), (7, [4]), (8, [4]), (10, [4]), (11, [4]), (13, [4]), (14, [4]), (16, [4]), (17, [4]), (19, [4]), (20, [4]), (22, [4]), (23, [4]), (25, [4]), (26, [4]), (28, [4]), (29, [4]), (31, [4]), (32, [4])] []) (fun i => [4]) (fun i => true) [0, 1, 2, 3, 4, 5, 6, 7, 8, 9, 10, 11, 12, 13, 14, 15, 16, 17, 18, 19, 20, 21, 22, 23, 24, 25, 26, 27, 28, 29, 30, 31, 32, 33, 34] mixed (by kernel_rfl) ?_; intro K hK
  refine eM ?_
  refine eN ?_
  refine eF fo67_0 ?_
  refine eM ?_
  refine eN ?_
  refine eF fo67_1 ?_
  refine eM ?_
  refine eN ?_
  refine eF fo67_2 ?_
  refine eM ?_
  refine eN ?_
  refine eF fo67_3 ?_
  refine eM ?_
  refine eN ?_
  refine eF fo67_4 ?_
  refine eM ?_
  refine eN ?_
  refine eF fo67_5 ?_
  refine eM ?_
  refine eN ?_
  refine eF fo67_6 ?_
  refine eM ?_
  refine eN ?_
  refine eF fo67_7 ?_
  refine eM ?_
  refine eN ?_
  refine eF fo67_8 ?_
  refine eM ?_
  refine eN ?_
  refine eF fo67_9 ?_
  refine eM ?_
  refine eN ?_
  refine eF fo67_10 ?_
  refine eP (fun H hH => yv_buildSlice (ps := [(0, _), (1, _), (2, _), (3, _), (4, _), (5, _), (6, _), (7, _), (8, _), (9, _), (10, _)]) (rows := [[.pt 4 v12 0 0], [.pt 4 v12 0 1], [.pt 4 v12 0 2], [.pt 4 v12 0 3], [.pt 4 v12 0 4], [.pt 4 v12 0 5], [.pt 4 v12 0 6], [.pt 4 v12 0 7], [.pt 4 v12 0 8], [.pt 4 v12 0 9], [.pt 4 v12 0 10]]) rfl Tryz.underlying98 bz97 (.cons rfl (.cons rfl (.cons rfl (.cons rfl (.cons rfl (.cons rfl (.cons rfl (.cons rfl (.cons rfl (.cons rfl (.cons rfl .nil))))))))))) (by kernel_rfl) rfl rfl rfl) ?_
  refine eA ?_
  refine de_nil (hK _ ?_)
  obtain rfl := nxt_e h2
  refine w_ret (hret _ _ (hk [(1, ⟨32, 10, true, true, v5, [(GState.av a1)]⟩), (2, ⟨67, 11, true, true, v6, [[int a4.Open, int a4.Bought, int a4.Landed, int a4.Arrived, int a4.Returned, int a4.Sold, int a4.Shipped, int a4.SentBack, int a4.Scrapped, int a4.Lost, int a4.Revalued]]⟩), (3, ⟨32, 10, true, true, v7, [[int 0, int 0, .sc (.slice none 0 0), .sc (.slice none 0 0), .sc (.slice none 0 0), .sc (.slice none 0 0), .sc (.slice none 0 0), .sc (.slice none 0 0), .sc (.slice none 0 0), int 0]]⟩), (4, ⟨67, 11, true, true, v12, [[int x18.1, int x22.1, int x26.1, int x30.1, int x34.1, int x11.Sold, int x11.Shipped, int x11.SentBack, int x11.Scrapped, int x11.Lost, int x11.Revalued]]⟩)]) (.tmp rfl .nil) (HK.le ⟨rfl, rfl, rfl, rfl, trivial⟩) ?_)
  exact ⟨(), (), rfl, rfl, rfl⟩
  rintro y _ ⟨_, _, rfl, hc, rfl⟩
  subst hc
  refine tr tbk 1 (.mk ?_)
  refine sY (yv_indexAddr (j := 5) rfl Tryz.underlying98 sh97 rfl rfl rfl (.list rfl)) ?_
  refine tr tbk 9 (.mk ?_)
  obtain ⟨x38, e38, h1⟩ := bind_e h1
  refine sC cal48 (d_money_Add_c e38) ?_
  refine tr tbk 10 (.mk ?_)
  refine nb tbk h1 fun x39 h1 => ?_
  refine tr tbk 1 (.mk ?_)
  replace h1 := asrt_e h1
  obtain ⟨rfl, h1⟩ := h1
  refine tc tbk 6 (.mk ?_)
  refine sS ⟨67, 11, true, true, v12, [[int x18.1, int x22.1, int x26.1, int x30.1, int x34.1, int x38.1, int x11.Shipped, int x11.SentBack, int x11.Scrapped, int x11.Lost, int x11.Revalued]]⟩ sh3 ?_
  refine tr tbk 3 (.mk ?_)
  refine sY (yv_add (r := 6) rfl rfl rfl (by decide)) ?_
  refine tr tbk 5 (.mk ?_)
  refine sY (yv_to (y := boo true) (yv_lss rfl rfl rfl) (congrArg boo (by decide))) ?_
  refine tr tbk 9 (.mk ?_)
  obtain ⟨x40, e40, h1⟩ := bind_e h1
  refine sY (yv_ixT rfl Tryz.underlying23 sh3 rfl rfl e40) ?_
  refine tr tbk 6 (.mk ?_)
  obtain ⟨j41, h2, h1⟩ := bind_e h1
  refine rse (Out := fun y H' => (∃ (a : Unit) (k : Unit), a = j41 ∧ y = .list 1 [[.pt 4 v12 0 0], [.pt 4 v12 0 1], [.pt 4 v12 0 2], [.pt 4 v12 0 3], [.pt 4 v12 0 4], [.pt 4 v12 0 5], [.pt 4 v12 0 6], [.pt 4 v12 0 7], [.pt 4 v12 0 8], [.pt 4 v12 0 9], [.pt 4 v12 0 10]] ∧ H' = hk [(1, ⟨32, 10, true, true, v5, [(GState.av a1)]⟩), (2, ⟨67, 11, true, true, v6, [[int a4.Open, int a4.Bought, int a4.Landed, int a4.Arrived, int a4.Returned, int a4.Sold, int a4.Shipped, int a4.SentBack, int a4.Scrapped, int a4.Lost, int a4.Revalued]]⟩), (3, ⟨32, 10, true, true, v7, [[int 0, int 0, .sc (.slice none 0 0), .sc (.slice none 0 0), .sc (.slice none 0 0), .sc (.slice none 0 0), .sc (.slice none 0 0), .sc (.slice none 0 0), .sc (.slice none 0 0), int 0]]⟩), (4, ⟨67, 11, true, true, v12, [[int x18.1, int x22.1, int x26.1, int x30.1, int x34.1, int x38.1, int x11.Shipped, int x11.SentBack, int x11.Scrapped, int x11.Lost, int x11.Revalued]]⟩)])) rfl rfl rfl (yl_call rfl rfl (.cons rfl .nil) cal47 ?_) ?_
  refine pcw (c := _) Tryz.func47 rfl rfl ?_; intro Q hret hnorm
  refine tc tbk 5 (.mk ?_)
  refine c_drawE [0, 1, 3, 0, 8, 24, 0, 64, 192, 0, 512, 1536, 0, 4096, 12288, 0, 32768, 98304, 0, 262144, 786432, 0, 2097152, 6291456, 0, 16777216, 50331648, 0, 134217728, 402653184, 0, 1073741824, 3221225472, 8589934591, 17179869183] (rl [(1, [4]), (2, [4]), (4, [4]), (5, [4]), (7, [4]), (8, [4]), (10, [4]), (11, [4]), (13, [4]), (14, [4]), (16, [4]), (17, [4]), (19, [4]), (20, [4]), (22, [4]), (23, [4]), (25, [4]), (26, [4]), (28, [4]), (29, [4]), (31, [4]), (32, [4])] []) (fun i => [4]) (fun i => true) [0, 1, 2, 3, 4, 5, 6, 7, 8, 9, 10, 11, 12, 13, 14, 15, 16, 17, 18, 19, 20, 21, 22, 23, 24, 25, 26, 27, 28, 29, 30, 31, 32, 33, 34] mixed (by kernel_rfl) ?_; intro K hK
  refine eM ?_
  refine eN ?_
  refine eF fo67_0 ?_
  refine eM ?_
  refine eN ?_
  refine eF fo67_1 ?_
  refine eM ?_
  refine eN ?_
  refine eF fo67_2 ?_
  refine eM ?_
  refine eN ?_
  refine eF fo67_3 ?_
  refine eM ?_
  refine eN ?_
  refine eF fo67_4 ?_
  refine eM ?_
  refine eN ?_
  refine eF fo67_5 ?_
  refine eM ?_
  refine eN ?_
  refine eF fo67_6 ?_
  refine eM ?_
  refine eN ?_
  refine eF fo67_7 ?_
  refine eM ?_
  refine eN ?_
  refine eF fo67_8 ?_
  refine eM ?_
  refine eN ?_
  refine eF fo67_9 ?_
  refine eM ?_
  refine eN ?_
  refine eF fo67_10 ?_
  refine eP (fun H hH => yv_buildSlice (ps := [(0, _), (1, _), (2, _), (3, _), (4, _), (5, _), (6, _), (7, _), (8, _), (9, _), (10, _)]) (rows := [[.pt 4 v12 0 0], [.pt 4 v12 0 1], [.pt 4 v12 0 2], [.pt 4 v12 0 3], [.pt 4 v12 0 4], [.pt 4 v12 0 5], [.pt 4 v12 0 6], [.pt 4 v12 0 7], [.pt 4 v12 0 8], [.pt 4 v12 0 9], [.pt 4 v12 0 10]]) rfl Tryz.underlying98 bz97 (.cons rfl (.cons rfl (.cons rfl (.cons rfl (.cons rfl (.cons rfl (.cons rfl (.cons rfl (.cons rfl (.cons rfl (.cons rfl .nil))))))))))) (by kernel_rfl) rfl rfl rfl) ?_
  refine eA ?_
  refine de_nil (hK _ ?_)
  obtain rfl := nxt_e h2
  refine w_ret (hret _ _ (hk [(1, ⟨32, 10, true, true, v5, [(GState.av a1)]⟩), (2, ⟨67, 11, true, true, v6, [[int a4.Open, int a4.Bought, int a4.Landed, int a4.Arrived, int a4.Returned, int a4.Sold, int a4.Shipped, int a4.SentBack, int a4.Scrapped, int a4.Lost, int a4.Revalued]]⟩), (3, ⟨32, 10, true, true, v7, [[int 0, int 0, .sc (.slice none 0 0), .sc (.slice none 0 0), .sc (.slice none 0 0), .sc (.slice none 0 0), .sc (.slice none 0 0), .sc (.slice none 0 0), .sc (.slice none 0 0), int 0]]⟩), (4, ⟨67, 11, true, true, v12, [[int x18.1, int x22.1, int x26.1, int x30.1, int x34.1, int x38.1, int x11.Shipped, int x11.SentBack, int x11.Scrapped, int x11.Lost, int x11.Revalued]]⟩)]) (.tmp rfl .nil) (HK.le ⟨rfl, rfl, rfl, rfl, trivial⟩) ?_)
  exact ⟨(), (), rfl, rfl, rfl⟩
  rintro y _ ⟨_, _, rfl, hc, rfl⟩
  subst hc
  refine tr tbk 1 (.mk ?_)
  refine sY (yv_indexAddr (j := 6) rfl Tryz.underlying98 sh97 rfl rfl rfl (.list rfl)) ?_
  refine tr tbk 9 (.mk ?_)
  obtain ⟨x42, e42, h1⟩ := bind_e h1
  refine sC cal48 (d_money_Add_c e42) ?_
  refine tr tbk 10 (.mk ?_)
  refine nb tbk h1 fun x43 h1 => ?_
  refine tr tbk 1 (.mk ?_)
  replace h1 := asrt_e h1
  obtain ⟨rfl, h1⟩ := h1
  refine tc tbk 6 (.mk ?_)
  refine sS ⟨67, 11, true, true, v12, [[int x18.1, int x22.1, int x26.1, int x30.1, int x34.1, int x38.1, int x42.1, int x11.SentBack, int x11.Scrapped, int x11.Lost, int x11.Revalued]]⟩ sh3 ?_
  refine tr tbk 3 (.mk ?_)
  refine sY (yv_add (r := 7) rfl rfl rfl (by decide)) ?_
  refine tr tbk 5 (.mk ?_)
  refine sY (yv_to (y := boo true) (yv_lss rfl rfl rfl) (congrArg boo (by decide))) ?_
  refine tr tbk 9 (.mk ?_)
  obtain ⟨x44, e44, h1⟩ := bind_e h1
  refine sY (yv_ixT rfl Tryz.underlying23 sh3 rfl rfl e44) ?_
  refine tr tbk 6 (.mk ?_)
  obtain ⟨j45, h2, h1⟩ := bind_e h1
  refine rse (Out := fun y H' => (∃ (a : Unit) (k : Unit), a = j45 ∧ y = .list 1 [[.pt 4 v12 0 0], [.pt 4 v12 0 1], [.pt 4 v12 0 2], [.pt 4 v12 0 3], [.pt 4 v12 0 4], [.pt 4 v12 0 5], [.pt 4 v12 0 6], [.pt 4 v12 0 7], [.pt 4 v12 0 8], [.pt 4 v12 0 9], [.pt 4 v12 0 10]] ∧ H' = hk [(1, ⟨32, 10, true, true, v5, [(GState.av a1)]⟩), (2, ⟨67, 11, true, true, v6, [[int a4.Open, int a4.Bought, int a4.Landed, int a4.Arrived, int a4.Returned, int a4.Sold, int a4.Shipped, int a4.SentBack, int a4.Scrapped, int a4.Lost, int a4.Revalued]]⟩), (3, ⟨32, 10, true, true, v7, [[int 0, int 0, .sc (.slice none 0 0), .sc (.slice none 0 0), .sc (.slice none 0 0), .sc (.slice none 0 0), .sc (.slice none 0 0), .sc (.slice none 0 0), .sc (.slice none 0 0), int 0]]⟩), (4, ⟨67, 11, true, true, v12, [[int x18.1, int x22.1, int x26.1, int x30.1, int x34.1, int x38.1, int x42.1, int x11.SentBack, int x11.Scrapped, int x11.Lost, int x11.Revalued]]⟩)])) rfl rfl rfl (yl_call rfl rfl (.cons rfl .nil) cal47 ?_) ?_
  refine pcw (c := _) Tryz.func47 rfl rfl ?_; intro Q hret hnorm
  refine tc tbk 5 (.mk ?_)
  refine c_drawE [0, 1, 3, 0, 8, 24, 0, 64, 192, 0, 512, 1536, 0, 4096, 12288, 0, 32768, 98304, 0, 262144, 786432, 0, 2097152, 6291456, 0, 16777216, 50331648, 0, 134217728, 402653184, 0, 1073741824, 3221225472, 8589934591, 17179869183] (rl [(1, [4]), (2, [4]), (4, [4]), (5, [4]), (7, [4]), (8, [4]), (10, [4]), (11, [4]), (13, [4]), (14, [4]), (16, [4]), (17, [4]), (19, [4]), (20, [4]), (22, [4]), (23, [4]), (25, [4]), (26, [4]), (28, [4]), (29, [4]), (31, [4]), (32, [4])] []) (fun i => [4]) (fun i => true) [0, 1, 2, 3, 4, 5, 6, 7, 8, 9, 10, 11, 12, 13, 14, 15, 16, 17, 18, 19, 20, 21, 22, 23, 24, 25, 26, 27, 28, 29, 30, 31, 32, 33, 34] mixed (by kernel_rfl) ?_; intro K hK
  refine eM ?_
  refine eN ?_
  refine eF fo67_0 ?_
  refine eM ?_
  refine eN ?_
  refine eF fo67_1 ?_
  refine eM ?_
  refine eN ?_
  refine eF fo67_2 ?_
  refine eM ?_
  refine eN ?_
  refine eF fo67_3 ?_
  refine eM ?_
  refine eN ?_
  refine eF fo67_4 ?_
  refine eM ?_
  refine eN ?_
  refine eF fo67_5 ?_
  refine eM ?_
  refine eN ?_
  refine eF fo67_6 ?_
  refine eM ?_
  refine eN ?_
  refine eF fo67_7 ?_
  refine eM ?_
  refine eN ?_
  refine eF fo67_8 ?_
  refine eM ?_
  refine eN ?_
  refine eF fo67_9 ?_
  refine eM ?_
  refine eN ?_
  refine eF fo67_10 ?_
  refine eP (fun H hH => yv_buildSlice (ps := [(0, _), (1, _), (2, _), (3, _), (4, _), (5, _), (6, _), (7, _), (8, _), (9, _), (10, _)]) (rows := [[.pt 4 v12 0 0], [.pt 4 v12 0 1], [.pt 4 v12 0 2], [.pt 4 v12 0 3], [.pt 4 v12 0 4], [.pt 4 v12 0 5], [.pt 4 v12 0 6], [.pt 4 v12 0 7], [.pt 4 v12 0 8], [.pt 4 v12 0 9], [.pt 4 v12 0 10]]) rfl Tryz.underlying98 bz97 (.cons rfl (.cons rfl (.cons rfl (.cons rfl (.cons rfl (.cons rfl (.cons rfl (.cons rfl (.cons rfl (.cons rfl (.cons rfl .nil))))))))))) (by kernel_rfl) rfl rfl rfl) ?_
  refine eA ?_
  refine de_nil (hK _ ?_)
  obtain rfl := nxt_e h2
  refine w_ret (hret _ _ (hk [(1, ⟨32, 10, true, true, v5, [(GState.av a1)]⟩), (2, ⟨67, 11, true, true, v6, [[int a4.Open, int a4.Bought, int a4.Landed, int a4.Arrived, int a4.Returned, int a4.Sold, int a4.Shipped, int a4.SentBack, int a4.Scrapped, int a4.Lost, int a4.Revalued]]⟩), (3, ⟨32, 10, true, true, v7, [[int 0, int 0, .sc (.slice none 0 0), .sc (.slice none 0 0), .sc (.slice none 0 0), .sc (.slice none 0 0), .sc (.slice none 0 0), .sc (.slice none 0 0), .sc (.slice none 0 0), int 0]]⟩), (4, ⟨67, 11, true, true, v12, [[int x18.1, int x22.1, int x26.1, int x30.1, int x34.1, int x38.1, int x42.1, int x11.SentBack, int x11.Scrapped, int x11.Lost, int x11.Revalued]]⟩)]) (.tmp rfl .nil) (HK.le ⟨rfl, rfl, rfl, rfl, trivial⟩) ?_)
  exact ⟨(), (), rfl, rfl, rfl⟩
  rintro y _ ⟨_, _, rfl, hc, rfl⟩
  subst hc
  refine tr tbk 1 (.mk ?_)
  refine sY (yv_indexAddr (j := 7) rfl Tryz.underlying98 sh97 rfl rfl rfl (.list rfl)) ?_
  refine tr tbk 9 (.mk ?_)
  obtain ⟨x46, e46, h1⟩ := bind_e h1
  refine sC cal48 (d_money_Add_c e46) ?_
  refine tr tbk 10 (.mk ?_)
  refine nb tbk h1 fun x47 h1 => ?_
  refine tr tbk 1 (.mk ?_)
  replace h1 := asrt_e h1
  obtain ⟨rfl, h1⟩ := h1
  refine tc tbk 6 (.mk ?_)
  refine sS ⟨67, 11, true, true, v12, [[int x18.1, int x22.1, int x26.1, int x30.1, int x34.1, int x38.1, int x42.1, int x46.1, int x11.Scrapped, int x11.Lost, int x11.Revalued]]⟩ sh3 ?_
  refine tr tbk 3 (.mk ?_)
  refine sY (yv_add (r := 8) rfl rfl rfl (by decide)) ?_
  refine tr tbk 5 (.mk ?_)
  refine sY (yv_to (y := boo true) (yv_lss rfl rfl rfl) (congrArg boo (by decide))) ?_
  refine tr tbk 9 (.mk ?_)
  obtain ⟨x48, e48, h1⟩ := bind_e h1
  refine sY (yv_ixT rfl Tryz.underlying23 sh3 rfl rfl e48) ?_
  refine tr tbk 6 (.mk ?_)
  obtain ⟨j49, h2, h1⟩ := bind_e h1
  refine rse (Out := fun y H' => (∃ (a : Unit) (k : Unit), a = j49 ∧ y = .list 1 [[.pt 4 v12 0 0], [.pt 4 v12 0 1], [.pt 4 v12 0 2], [.pt 4 v12 0 3], [.pt 4 v12 0 4], [.pt 4 v12 0 5], [.pt 4 v12 0 6], [.pt 4 v12 0 7], [.pt 4 v12 0 8], [.pt 4 v12 0 9], [.pt 4 v12 0 10]] ∧ H' = hk [(1, ⟨32, 10, true, true, v5, [(GState.av a1)]⟩), (2, ⟨67, 11, true, true, v6, [[int a4.Open, int a4.Bought, int a4.Landed, int a4.Arrived, int a4.Returned, int a4.Sold, int a4.Shipped, int a4.SentBack, int a4.Scrapped, int a4.Lost, int a4.Revalued]]⟩), (3, ⟨32, 10, true, true, v7, [[int 0, int 0, .sc (.slice none 0 0), .sc (.slice none 0 0), .sc (.slice none 0 0), .sc (.slice none 0 0), .sc (.slice none 0 0), .sc (.slice none 0 0), .sc (.slice none 0 0), int 0]]⟩), (4, ⟨67, 11, true, true, v12, [[int x18.1, int x22.1, int x26.1, int x30.1, int x34.1, int x38.1, int x42.1, int x46.1, int x11.Scrapped, int x11.Lost, int x11.Revalued]]⟩)])) rfl rfl rfl (yl_call rfl rfl (.cons rfl .nil) cal47 ?_) ?_
  refine pcw (c := _) Tryz.func47 rfl rfl ?_; intro Q hret hnorm
  refine tc tbk 5 (.mk ?_)
  refine c_drawE [0, 1, 3, 0, 8, 24, 0, 64, 192, 0, 512, 1536, 0, 4096, 12288, 0, 32768, 98304, 0, 262144, 786432, 0, 2097152, 6291456, 0, 16777216, 50331648, 0, 134217728, 402653184, 0, 1073741824, 3221225472, 8589934591, 17179869183] (rl [(1, [4]), (2, [4]), (4, [4]), (5, [4]), (7, [4]), (8, [4]), (10, [4]), (11, [4]), (13, [4]), (14, [4]), (16, [4]), (17, [4]), (19, [4]), (20, [4]), (22, [4]), (23, [4]), (25, [4]), (26, [4]), (28, [4]), (29, [4]), (31, [4]), (32, [4])] []) (fun i => [4]) (fun i => true) [0, 1, 2, 3, 4, 5, 6, 7, 8, 9, 10, 11, 12, 13, 14, 15, 16, 17, 18, 19, 20, 21, 22, 23, 24, 25, 26, 27, 28, 29, 30, 31, 32, 33, 34] mixed (by kernel_rfl) ?_; intro K hK
  refine eM ?_
  refine eN ?_
  refine eF fo67_0 ?_
  refine eM ?_
  refine eN ?_
  refine eF fo67_1 ?_
  refine eM ?_
  refine eN ?_
  refine eF fo67_2 ?_
  refine eM ?_
  refine eN ?_
  refine eF fo67_3 ?_
  refine eM ?_
  refine eN ?_
  refine eF fo67_4 ?_
  refine eM ?_
  refine eN ?_
  refine eF fo67_5 ?_
  refine eM ?_
  refine eN ?_
  refine eF fo67_6 ?_
  refine eM ?_
  refine eN ?_
  refine eF fo67_7 ?_
  refine eM ?_
  refine eN ?_
  refine eF fo67_8 ?_
  refine eM ?_
  refine eN ?_
  refine eF fo67_9 ?_
  refine eM ?_
  refine eN ?_
  refine eF fo67_10 ?_
  refine eP (fun H hH => yv_buildSlice (ps := [(0, _), (1, _), (2, _), (3, _), (4, _), (5, _), (6, _), (7, _), (8, _), (9, _), (10, _)]) (rows := [[.pt 4 v12 0 0], [.pt 4 v12 0 1], [.pt 4 v12 0 2], [.pt 4 v12 0 3], [.pt 4 v12 0 4], [.pt 4 v12 0 5], [.pt 4 v12 0 6], [.pt 4 v12 0 7], [.pt 4 v12 0 8], [.pt 4 v12 0 9], [.pt 4 v12 0 10]]) rfl Tryz.underlying98 bz97 (.cons rfl (.cons rfl (.cons rfl (.cons rfl (.cons rfl (.cons rfl (.cons rfl (.cons rfl (.cons rfl (.cons rfl (.cons rfl .nil))))))))))) (by kernel_rfl) rfl rfl rfl) ?_
  refine eA ?_
  refine de_nil (hK _ ?_)
  obtain rfl := nxt_e h2
  refine w_ret (hret _ _ (hk [(1, ⟨32, 10, true, true, v5, [(GState.av a1)]⟩), (2, ⟨67, 11, true, true, v6, [[int a4.Open, int a4.Bought, int a4.Landed, int a4.Arrived, int a4.Returned, int a4.Sold, int a4.Shipped, int a4.SentBack, int a4.Scrapped, int a4.Lost, int a4.Revalued]]⟩), (3, ⟨32, 10, true, true, v7, [[int 0, int 0, .sc (.slice none 0 0), .sc (.slice none 0 0), .sc (.slice none 0 0), .sc (.slice none 0 0), .sc (.slice none 0 0), .sc (.slice none 0 0), .sc (.slice none 0 0), int 0]]⟩), (4, ⟨67, 11, true, true, v12, [[int x18.1, int x22.1, int x26.1, int x30.1, int x34.1, int x38.1, int x42.1, int x46.1, int x11.Scrapped, int x11.Lost, int x11.Revalued]]⟩)]) (.tmp rfl .nil) (HK.le ⟨rfl, rfl, rfl, rfl, trivial⟩) ?_)
  exact ⟨(), (), rfl, rfl, rfl⟩
  rintro y _ ⟨_, _, rfl, hc, rfl⟩
  subst hc
  refine tr tbk 1 (.mk ?_)
  refine sY (yv_indexAddr (j := 8) rfl Tryz.underlying98 sh97 rfl rfl rfl (.list rfl)) ?_
  refine tr tbk 9 (.mk ?_)
  obtain ⟨x50, e50, h1⟩ := bind_e h1
  refine sC cal48 (d_money_Add_c e50) ?_
  refine tr tbk 10 (.mk ?_)
  refine nb tbk h1 fun x51 h1 => ?_
  refine tr tbk 1 (.mk ?_)
  replace h1 := asrt_e h1
  obtain ⟨rfl, h1⟩ := h1
  refine tc tbk 6 (.mk ?_)
  refine sS ⟨67, 11, true, true, v12, [[int x18.1, int x22.1, int x26.1, int x30.1, int x34.1, int x38.1, int x42.1, int x46.1, int x50.1, int x11.Lost, int x11.Revalued]]⟩ sh3 ?_
  refine tr tbk 3 (.mk ?_)
  refine sY (yv_add (r := 9) rfl rfl rfl (by decide)) ?_
  refine tr tbk 5 (.mk ?_)
  refine sY (yv_to (y := boo true) (yv_lss rfl rfl rfl) (congrArg boo (by decide))) ?_
  refine tr tbk 9 (.mk ?_)
  obtain ⟨x52, e52, h1⟩ := bind_e h1
  refine sY (yv_ixT rfl Tryz.underlying23 sh3 rfl rfl e52) ?_
  refine tr tbk 6 (.mk ?_)
  obtain ⟨j53, h2, h1⟩ := bind_e h1
  refine rse (Out := fun y H' => (∃ (a : Unit) (k : Unit), a = j53 ∧ y = .list 1 [[.pt 4 v12 0 0], [.pt 4 v12 0 1], [.pt 4 v12 0 2], [.pt 4 v12 0 3], [.pt 4 v12 0 4], [.pt 4 v12 0 5], [.pt 4 v12 0 6], [.pt 4 v12 0 7], [.pt 4 v12 0 8], [.pt 4 v12 0 9], [.pt 4 v12 0 10]] ∧ H' = hk [(1, ⟨32, 10, true, true, v5, [(GState.av a1)]⟩), (2, ⟨67, 11, true, true, v6, [[int a4.Open, int a4.Bought, int a4.Landed, int a4.Arrived, int a4.Returned, int a4.Sold, int a4.Shipped, int a4.SentBack, int a4.Scrapped, int a4.Lost, int a4.Revalued]]⟩), (3, ⟨32, 10, true, true, v7, [[int 0, int 0, .sc (.slice none 0 0), .sc (.slice none 0 0), .sc (.slice none 0 0), .sc (.slice none 0 0), .sc (.slice none 0 0), .sc (.slice none 0 0), .sc (.slice none 0 0), int 0]]⟩), (4, ⟨67, 11, true, true, v12, [[int x18.1, int x22.1, int x26.1, int x30.1, int x34.1, int x38.1, int x42.1, int x46.1, int x50.1, int x11.Lost, int x11.Revalued]]⟩)])) rfl rfl rfl (yl_call rfl rfl (.cons rfl .nil) cal47 ?_) ?_
  refine pcw (c := _) Tryz.func47 rfl rfl ?_; intro Q hret hnorm
  refine tc tbk 5 (.mk ?_)
  refine c_drawE [0, 1, 3, 0, 8, 24, 0, 64, 192, 0, 512, 1536, 0, 4096, 12288, 0, 32768, 98304, 0, 262144, 786432, 0, 2097152, 6291456, 0, 16777216, 50331648, 0, 134217728, 402653184, 0, 1073741824, 3221225472, 8589934591, 17179869183] (rl [(1, [4]), (2, [4]), (4, [4]), (5, [4]), (7, [4]), (8, [4]), (10, [4]), (11, [4]), (13, [4]), (14, [4]), (16, [4]), (17, [4]), (19, [4]), (20, [4]), (22, [4]), (23, [4]), (25, [4]), (26, [4]), (28, [4]), (29, [4]), (31, [4]), (32, [4])] []) (fun i => [4]) (fun i => true) [0, 1, 2, 3, 4, 5, 6, 7, 8, 9, 10, 11, 12, 13, 14, 15, 16, 17, 18, 19, 20, 21, 22, 23, 24, 25, 26, 27, 28, 29, 30, 31, 32, 33, 34] mixed (by kernel_rfl) ?_; intro K hK
  refine eM ?_
  refine eN ?_
  refine eF fo67_0 ?_
  refine eM ?_
  refine eN ?_
  refine eF fo67_1 ?_
  refine eM ?_
  refine eN ?_
  refine eF fo67_2 ?_
  refine eM ?_
  refine eN ?_
  refine eF fo67_3 ?_
  refine eM ?_
  refine eN ?_
  refine eF fo67_4 ?_
  refine eM ?_
  refine eN ?_
  refine eF fo67_5 ?_
  refine eM ?_
  refine eN ?_
  refine eF fo67_6 ?_
  refine eM ?_
  refine eN ?_
  refine eF fo67_7 ?_
  refine eM ?_
  refine eN ?_
  refine eF fo67_8 ?_
  refine eM ?_
  refine eN ?_
  refine eF fo67_9 ?_
  refine eM ?_
  refine eN ?_
  refine eF fo67_10 ?_
  refine eP (fun H hH => yv_buildSlice (ps := [(0, _), (1, _), (2, _), (3, _), (4, _), (5, _), (6, _), (7, _), (8, _), (9, _), (10, _)]) (rows := [[.pt 4 v12 0 0], [.pt 4 v12 0 1], [.pt 4 v12 0 2], [.pt 4 v12 0 3], [.pt 4 v12 0 4], [.pt 4 v12 0 5], [.pt 4 v12 0 6], [.pt 4 v12 0 7], [.pt 4 v12 0 8], [.pt 4 v12 0 9], [.pt 4 v12 0 10]]) rfl Tryz.underlying98 bz97 (.cons rfl (.cons rfl (.cons rfl (.cons rfl (.cons rfl (.cons rfl (.cons rfl (.cons rfl (.cons rfl (.cons rfl (.cons rfl .nil))))))))))) (by kernel_rfl) rfl rfl rfl) ?_
  refine eA ?_
  refine de_nil (hK _ ?_)
  obtain rfl := nxt_e h2
  refine w_ret (hret _ _ (hk [(1, ⟨32, 10, true, true, v5, [(GState.av a1)]⟩), (2, ⟨67, 11, true, true, v6, [[int a4.Open, int a4.Bought, int a4.Landed, int a4.Arrived, int a4.Returned, int a4.Sold, int a4.Shipped, int a4.SentBack, int a4.Scrapped, int a4.Lost, int a4.Revalued]]⟩), (3, ⟨32, 10, true, true, v7, [[int 0, int 0, .sc (.slice none 0 0), .sc (.slice none 0 0), .sc (.slice none 0 0), .sc (.slice none 0 0), .sc (.slice none 0 0), .sc (.slice none 0 0), .sc (.slice none 0 0), int 0]]⟩), (4, ⟨67, 11, true, true, v12, [[int x18.1, int x22.1, int x26.1, int x30.1, int x34.1, int x38.1, int x42.1, int x46.1, int x50.1, int x11.Lost, int x11.Revalued]]⟩)]) (.tmp rfl .nil) (HK.le ⟨rfl, rfl, rfl, rfl, trivial⟩) ?_)
  exact ⟨(), (), rfl, rfl, rfl⟩
  rintro y _ ⟨_, _, rfl, hc, rfl⟩
  subst hc
  refine tr tbk 1 (.mk ?_)
  refine sY (yv_indexAddr (j := 9) rfl Tryz.underlying98 sh97 rfl rfl rfl (.list rfl)) ?_
  refine tr tbk 9 (.mk ?_)
  obtain ⟨x54, e54, h1⟩ := bind_e h1
  refine sC cal48 (d_money_Add_c e54) ?_
  refine tr tbk 10 (.mk ?_)
  refine nb tbk h1 fun x55 h1 => ?_
  refine tr tbk 1 (.mk ?_)
  replace h1 := asrt_e h1
  obtain ⟨rfl, h1⟩ := h1
  refine tc tbk 6 (.mk ?_)
  refine sS ⟨67, 11, true, true, v12, [[int x18.1, int x22.1, int x26.1, int x30.1, int x34.1, int x38.1, int x42.1, int x46.1, int x50.1, int x54.1, int x11.Revalued]]⟩ sh3 ?_
  refine tr tbk 3 (.mk ?_)
  refine sY (yv_add (r := 10) rfl rfl rfl (by decide)) ?_
  refine tr tbk 5 (.mk ?_)
  refine sY (yv_to (y := boo true) (yv_lss rfl rfl rfl) (congrArg boo (by decide))) ?_
  refine tr tbk 9 (.mk ?_)
  obtain ⟨x56, e56, h1⟩ := bind_e h1
  refine sY (yv_ixT rfl Tryz.underlying23 sh3 rfl rfl e56) ?_
  refine tr tbk 6 (.mk ?_)
  obtain ⟨j57, h2, h1⟩ := bind_e h1
  refine rse (Out := fun y H' => (∃ (a : Unit) (k : Unit), a = j57 ∧ y = .list 1 [[.pt 4 v12 0 0], [.pt 4 v12 0 1], [.pt 4 v12 0 2], [.pt 4 v12 0 3], [.pt 4 v12 0 4], [.pt 4 v12 0 5], [.pt 4 v12 0 6], [.pt 4 v12 0 7], [.pt 4 v12 0 8], [.pt 4 v12 0 9], [.pt 4 v12 0 10]] ∧ H' = hk [(1, ⟨32, 10, true, true, v5, [(GState.av a1)]⟩), (2, ⟨67, 11, true, true, v6, [[int a4.Open, int a4.Bought, int a4.Landed, int a4.Arrived, int a4.Returned, int a4.Sold, int a4.Shipped, int a4.SentBack, int a4.Scrapped, int a4.Lost, int a4.Revalued]]⟩), (3, ⟨32, 10, true, true, v7, [[int 0, int 0, .sc (.slice none 0 0), .sc (.slice none 0 0), .sc (.slice none 0 0), .sc (.slice none 0 0), .sc (.slice none 0 0), .sc (.slice none 0 0), .sc (.slice none 0 0), int 0]]⟩), (4, ⟨67, 11, true, true, v12, [[int x18.1, int x22.1, int x26.1, int x30.1, int x34.1, int x38.1, int x42.1, int x46.1, int x50.1, int x54.1, int x11.Revalued]]⟩)])) rfl rfl rfl (yl_call rfl rfl (.cons rfl .nil) cal47 ?_) ?_
  refine pcw (c := _) Tryz.func47 rfl rfl ?_; intro Q hret hnorm
  refine tc tbk 5 (.mk ?_)
  refine c_drawE [0, 1, 3, 0, 8, 24, 0, 64, 192, 0, 512, 1536, 0, 4096, 12288, 0, 32768, 98304, 0, 262144, 786432, 0, 2097152, 6291456, 0, 16777216, 50331648, 0, 134217728, 402653184, 0, 1073741824, 3221225472, 8589934591, 17179869183] (rl [(1, [4]), (2, [4]), (4, [4]), (5, [4]), (7, [4]), (8, [4]), (10, [4]), (11, [4]), (13, [4]), (14, [4]), (16, [4]), (17, [4]), (19, [4]), (20, [4]), (22, [4]), (23, [4]), (25, [4]), (26, [4]), (28, [4]), (29, [4]), (31, [4]), (32, [4])] []) (fun i => [4]) (fun i => true) [0, 1, 2, 3, 4, 5, 6, 7, 8, 9, 10, 11, 12, 13, 14, 15, 16, 17, 18, 19, 20, 21, 22, 23, 24, 25, 26, 27, 28, 29, 30, 31, 32, 33, 34] mixed (by kernel_rfl) ?_; intro K hK
  refine eM ?_
  refine eN ?_
  refine eF fo67_0 ?_
  refine eM ?_
  refine eN ?_
  refine eF fo67_1 ?_
  refine eM ?_
  refine eN ?_
  refine eF fo67_2 ?_
  refine eM ?_
  refine eN ?_
  refine eF fo67_3 ?_
  refine eM ?_
  refine eN ?_
  refine eF fo67_4 ?_
  refine eM ?_
  refine eN ?_
  refine eF fo67_5 ?_
  refine eM ?_
  refine eN ?_
  refine eF fo67_6 ?_
  refine eM ?_
  refine eN ?_
  refine eF fo67_7 ?_
  refine eM ?_
  refine eN ?_
  refine eF fo67_8 ?_
  refine eM ?_
  refine eN ?_
  refine eF fo67_9 ?_
  refine eM ?_
  refine eN ?_
  refine eF fo67_10 ?_
  refine eP (fun H hH => yv_buildSlice (ps := [(0, _), (1, _), (2, _), (3, _), (4, _), (5, _), (6, _), (7, _), (8, _), (9, _), (10, _)]) (rows := [[.pt 4 v12 0 0], [.pt 4 v12 0 1], [.pt 4 v12 0 2], [.pt 4 v12 0 3], [.pt 4 v12 0 4], [.pt 4 v12 0 5], [.pt 4 v12 0 6], [.pt 4 v12 0 7], [.pt 4 v12 0 8], [.pt 4 v12 0 9], [.pt 4 v12 0 10]]) rfl Tryz.underlying98 bz97 (.cons rfl (.cons rfl (.cons rfl (.cons rfl (.cons rfl (.cons rfl (.cons rfl (.cons rfl (.cons rfl (.cons rfl (.cons rfl .nil))))))))))) (by kernel_rfl) rfl rfl rfl) ?_
  refine eA ?_
  refine de_nil (hK _ ?_)
  obtain rfl := nxt_e h2
  refine w_ret (hret _ _ (hk [(1, ⟨32, 10, true, true, v5, [(GState.av a1)]⟩), (2, ⟨67, 11, true, true, v6, [[int a4.Open, int a4.Bought, int a4.Landed, int a4.Arrived, int a4.Returned, int a4.Sold, int a4.Shipped, int a4.SentBack, int a4.Scrapped, int a4.Lost, int a4.Revalued]]⟩), (3, ⟨32, 10, true, true, v7, [[int 0, int 0, .sc (.slice none 0 0), .sc (.slice none 0 0), .sc (.slice none 0 0), .sc (.slice none 0 0), .sc (.slice none 0 0), .sc (.slice none 0 0), .sc (.slice none 0 0), int 0]]⟩), (4, ⟨67, 11, true, true, v12, [[int x18.1, int x22.1, int x26.1, int x30.1, int x34.1, int x38.1, int x42.1, int x46.1, int x50.1, int x54.1, int x11.Revalued]]⟩)]) (.tmp rfl .nil) (HK.le ⟨rfl, rfl, rfl, rfl, trivial⟩) ?_)
  exact ⟨(), (), rfl, rfl, rfl⟩
  rintro y _ ⟨_, _, rfl, hc, rfl⟩
  subst hc
  refine tr tbk 1 (.mk ?_)
  refine sY (yv_indexAddr (j := 10) rfl Tryz.underlying98 sh97 rfl rfl rfl (.list rfl)) ?_
  refine tr tbk 9 (.mk ?_)
  obtain ⟨x58, e58, h1⟩ := bind_e h1
  refine sC cal48 (d_money_Add_c e58) ?_
  refine tr tbk 10 (.mk ?_)
  refine nb tbk h1 fun x59 h1 => ?_
  refine tr tbk 1 (.mk ?_)
  replace h1 := asrt_e h1
  obtain ⟨rfl, h1⟩ := h1
  refine tc tbk 6 (.mk ?_)
  refine sS ⟨67, 11, true, true, v12, [[int x18.1, int x22.1, int x26.1, int x30.1, int x34.1, int x38.1, int x42.1, int x46.1, int x50.1, int x54.1, int x58.1]]⟩ sh3 ?_
  refine tr tbk 3 (.mk ?_)
  refine sY (yv_add (r := 11) rfl rfl rfl (by decide)) ?_
  refine tr tbk 5 (.mk ?_)
  refine sY (yv_to (y := boo false) (yv_lss rfl rfl rfl) (congrArg boo (by decide))) ?_
  refine tr tbk 4 (.mk ?_)
  exact lf h1 () leA
  rintro y2_1 _ h0
  refine tc tbk 3 (.mk ?_)
  refine sY (yv_build (cs := (GState.av a1)) (ps := [(0, _)]) rfl pl86 z86 rfl (.cons rfl .nil) (by kernel_rfl)) ?_
  refine sA 6 z86 fun v60 => ?_
  refine sS ⟨86, 10, true, true, v60, [(GState.av a1)]⟩ sh86 ?_
  refine tr tbk 4 (.mk ?_)
  obtain ⟨j61, h1, h0⟩ := bind_e h0
  refine rse (Out := fun y H' => (∃ (a : Unit) (k : Nat), a = j61 ∧ y = .pt 7 k (Int.toNat a2) 0 ∧ H' = hk [(1, ⟨32, 10, true, true, v5, [(GState.av a1)]⟩), (3, ⟨32, 10, true, true, v7, [[int 0, int 0, .sc (.slice none 0 0), .sc (.slice none 0 0), .sc (.slice none 0 0), .sc (.slice none 0 0), .sc (.slice none 0 0), .sc (.slice none 0 0), .sc (.slice none 0 0), int 0]]⟩), (4, ⟨67, 11, true, true, v12, [[int y2_1.Open, int y2_1.Bought, int y2_1.Landed, int y2_1.Arrived, int y2_1.Returned, int y2_1.Sold, int y2_1.Shipped, int y2_1.SentBack, int y2_1.Scrapped, int y2_1.Lost, int y2_1.Revalued]]⟩), (6, ⟨86, 10, true, true, v60, [[int a1.Master.Entities, int a1.Master.Periods, lst 1 fI a1.Master.Weights, lst 1 (fL 1 fI) a1.Master.Methods, lst 1 (fL 1 fI) a1.Master.Costs, .sl 7 k 0 a1.Ents.length, lst 8 GReceipt.av a1.Receipts, lst 9 GSale.av a1.Sales, lst 6 GTransit.av a1.Transits, int a1.Done]]⟩), (7, ⟨40, 8, true, true, k, a1.Ents.map GEnt.av⟩)])) rfl rfl rfl (yl_call rfl rfl (.cons rfl (.cons rfl .nil)) cal45 ?_) ?_
  refine pcw (c := _) Tryz.func45 rfl rfl ?_; intro Q hret hnorm
  refine tc tbk 12 (.mk ?_)
  obtain ⟨p62, h1⟩ := asrt_e h1
  refine rse rfl rfl rfl (yl_call rfl rfl (.cons rfl .nil) cal65 (pc_cv (clone65_c (id := 7) (l := a1.Ents) rfl p62) (.cons (.refl _) .nil))) ?_; rintro _ _ ⟨v63, rfl, rfl⟩
  refine tr tbk 3 (.mk ?_)
  refine sS ⟨86, 10, true, true, v60, [[int a1.Master.Entities, int a1.Master.Periods, lst 1 fI a1.Master.Weights, lst 1 (fL 1 fI) a1.Master.Methods, lst 1 (fL 1 fI) a1.Master.Costs, .sl 7 v63 0 a1.Ents.length, lst 8 GReceipt.av a1.Receipts, lst 9 GSale.av a1.Sales, lst 6 GTransit.av a1.Transits, int a1.Done]]⟩ sh27 ?_
  refine tr tbk 9 (.mk ?_)
  obtain ⟨x64, e64, h1⟩ := bind_e h1
  refine sY (yv_ixO rfl Tryz.underlying27 sh40 rfl rfl rfl rfl rfl (Eq.symm rfl) (List.length_map _) e64) ?_
  refine tr tbk 2 (.mk ?_)
  obtain rfl := nxt_e h1
  refine w_ret (hret _ _ (hk [(1, ⟨32, 10, true, true, v5, [(GState.av a1)]⟩), (3, ⟨32, 10, true, true, v7, [[int 0, int 0, .sc (.slice none 0 0), .sc (.slice none 0 0), .sc (.slice none 0 0), .sc (.slice none 0 0), .sc (.slice none 0 0), .sc (.slice none 0 0), .sc (.slice none 0 0), int 0]]⟩), (4, ⟨67, 11, true, true, v12, [[int y2_1.Open, int y2_1.Bought, int y2_1.Landed, int y2_1.Arrived, int y2_1.Returned, int y2_1.Sold, int y2_1.Shipped, int y2_1.SentBack, int y2_1.Scrapped, int y2_1.Lost, int y2_1.Revalued]]⟩), (6, ⟨86, 10, true, true, v60, [[int a1.Master.Entities, int a1.Master.Periods, lst 1 fI a1.Master.Weights, lst 1 (fL 1 fI) a1.Master.Methods, lst 1 (fL 1 fI) a1.Master.Costs, .sl 7 v63 0 a1.Ents.length, lst 8 GReceipt.av a1.Receipts, lst 9 GSale.av a1.Sales, lst 6 GTransit.av a1.Transits, int a1.Done]]⟩), (7, ⟨40, 8, true, true, v63, a1.Ents.map GEnt.av⟩)]) (.tmp rfl .nil) (HK.le ⟨rfl, rfl, rfl, rfl, rfl, trivial⟩) ?_)
  exact ⟨(), v63, rfl, rfl, rfl⟩
  rintro y _ ⟨_, w3_1, rfl, hc, rfl⟩
  subst hc
  refine tr tbk 6 (.mk ?_)
  obtain ⟨x65, e65, h0⟩ := bind_e h0
  refine sY (yv_nilCheck rfl rfl (.pt rfl rfl (ix_get' e65 (GEnt.av_eq _)))) ?_
  refine sY (yv_fieldAddr rfl fo40_4 rfl (.pt rfl rfl (ix_get' e65 (GEnt.av_eq _))) (.pt _ _ _ _ _)) ?_
  refine sY (yv_load rfl sh38 rfl (.pt rfl rfl (ix_get' e65 (GEnt.av_eq _))) rfl) ?_
  obtain ⟨p66, h0⟩ := asrt_e h0
  refine rse rfl rfl rfl (yl_call rfl rfl (.cons rfl .nil) cal49 (pc_cv (clone49_c (id := 8) (l := x65.Rolls) rfl p66) (.cons (.refl _) .nil))) ?_; rintro _ _ ⟨v67, rfl, rfl⟩
  refine sY (yv_nilCheck rfl rfl (.pt rfl rfl (ix_get' e65 (GEnt.av_eq _)))) ?_
  refine sY (yv_fieldAddr rfl fo40_4 rfl (.pt rfl rfl (ix_get' e65 (GEnt.av_eq _))) (.pt _ _ _ _ _)) ?_
  refine rsstore rfl rfl (yl_ob (ob' := (⟨40, 8, true, true, w3_1, (a1.Ents.map GEnt.av).set (Int.toNat a2) [int x65.Now, boo x65.Closed, lst 4 GPool.av x65.Pools, lst 1 fI x65.Bal, .sl 8 v67 0 x65.Rolls.length, lst 1 fI x65.Prices, lst 1 fI x65.Down, lst 8 GEnt.av x65.Ahead]⟩ : AObj)) (yl_store rfl sh38 rfl rfl rfl rfl rfl (ix_get' e65 (GEnt.av_eq _)) rfl rfl rfl) (ob_eq rfl)) ?_
  refine tr tbk 2 (.mk ?_)
  refine c_drawE [0, 1, 3, 7, 0, 0, 63, 127] (rl [(1, [7]), (2, [7]), (3, [7]), (5, [4]), (6, [8])] []) (rl [(7, [])] [4, 7, 8]) (rl [(7, false)] true) [0, 1, 2, 3, 4, 5, 6, 7] mixed (by kernel_rfl) ?_; intro K hK
  refine eM ?_
  refine eN (hr := set_get e65) ?_
  refine eF fo40_4 (hr := set_get e65) ?_
  refine eL sh38 (hr := set_get e65) ?_
  refine eM ?_
  refine eL sh67 ?_
  obtain ⟨x68, e68, h0⟩ := bind_e h0
  refine de_pure rfl rfl rfl rfl (fun H hH => yv_ixO rfl Tryz.underlying38 sh67 rfl rfl ((hH _ (by decide)).trans rfl) rfl rfl (Eq.symm rfl) (List.length_map _) e68) ?_
  obtain ⟨x69, e69, h0⟩ := bnd_e h0
  have fx69 := ix_set e68 e69; have lx69 := len_setV e69 (rfl : x65.Rolls.length = x65.Rolls.length)
  refine de_eff0 rfl rfl rfl rfl (Yield.weak (yl_ob (ob' := (⟨67, 11, true, true, v67, x69.map GRoll.av⟩ : AObj)) (yl_store rfl sh67 rfl rfl rfl rfl rfl (ix_get e68) rfl rfl rfl) (ob_eq (map_setV e69))) (fun _ h => h) (fun _ _ => trivial)) (by rintro _ _ ⟨rfl, rfl⟩; exact trivial) ?_; rintro _ _ ⟨rfl, rfl⟩
  refine de_nil (hK _ ?_)
  refine tc tbk 4 (.mk ?_)
  refine sS ⟨32, 10, true, true, v7, [[int a1.Master.Entities, int a1.Master.Periods, lst 1 fI a1.Master.Weights, lst 1 (fL 1 fI) a1.Master.Methods, lst 1 (fL 1 fI) a1.Master.Costs, .sl 7 w3_1 0 a1.Ents.length, lst 8 GReceipt.av a1.Receipts, lst 9 GSale.av a1.Sales, lst 6 GTransit.av a1.Transits, int a1.Done]]⟩ sh32 ?_
  refine tr tbk 2 (.mk ?_)
  obtain rfl := nxt_e h0
  refine wR hret (rC sh32 (rT .nil)) ?_
  exact CvL.tup (.cons (CvL.agg (.cons (.refl _) (.cons (.refl _) (.cons (.refl _) (.cons (.refl _) (.cons (.refl _) (.cons (cv_ov rfl rfl rfl rfl rfl (Eq.symm rfl) e65 (cvl_to (.cons (.refl _) (.cons (.refl _) (.cons (.refl _) (.cons (.refl _) (.cons (cv_lst rfl rfl rfl rfl rfl (Eq.symm lx69)) (.cons (.refl _) (.cons (.refl _) (.cons (.refl _) .nil)))))))) (GEnt.av_eq _))) (.cons (.refl _) (.cons (.refl _) (.cons (.refl _) (.cons (.refl _) .nil))))))))))) (.cons (.refl _) .nil))
def d_receive_Do (n : Nat) (a1 : GState) (a2 : GOp) : Option (GState × Int) :=
bnd (decide (a2.Kind ≠ 1)) fun x6 =>
cond x6 (some ((a1 : GState), (1 : Int))) ((show Option (GState × Int) from
(show Option ((Int)) from
(d_stock_Ready a1 a2.E a2.Item).bind fun x13 =>
some (x13 : Int)).bind <| fun y0_1 =>
bnd (decide (y0_1 ≠ 0)) fun x14 =>
cond x14 (some ((a1 : GState), (y0_1 : Int))) ((show Option ((Int)) from
bnd (decide ((a1.Receipts.length : Int) ≥ 40)) fun x16 =>
cond x16 (some (6 : Int)) (some (y0_1 : Int))).bind <| fun y1_1 =>
bnd (decide (y1_1 ≠ 0)) fun x17 =>
cond x17 (some ((a1 : GState), (y1_1 : Int))) ((show Option ((GState × Int × Int × Int)) from
(d_stock_Bring n a1 a2.E a2.Item a2.Loc (⟨a2.Qty, a2.Amount, 0⟩ : GLayer)).bind fun x19 =>
some ((x19.1 : GState), (x19.2.1 : Int), (x19.2.2.1 : Int), (x19.2.2.2 : Int))).bind <| p2 fun (y2_1 : GState) (q0 : Int × Int × Int) => (p2 fun (y2_2 : Int) (q1 : Int × Int) => (p2 fun (y2_3 : Int) (y2_4 : Int) =>
bnd (decide (y2_4 ≠ 0)) fun x20 =>
cond x20 (some ((y2_1 : GState), (y2_4 : Int))) ((show Option ((GState × Int)) from
bnd (w64 (0 - a2.Amount)) fun x22 =>
(d_stock_Post n y2_1 a2.E ([(⟨0, y2_2⟩ : GLine), (⟨6, y2_3⟩ : GLine), (⟨1, x22⟩ : GLine)] : List GLine)).bind fun x23 =>
some ((x23.1 : GState), (x23.2 : Int))).bind <| p2 fun (y3_1 : GState) (y3_2 : Int) =>
bnd (decide (y3_2 ≠ 0)) fun x24 =>
cond x24 (some ((y3_1 : GState), (y3_2 : Int))) ((show Option ((GState × Int)) from
(d_stock_Turn y3_1 a2.E a2.Item (⟨0, y2_2, 0, 0, 0, 0, 0, 0, 0, 0, 0⟩ : GRoll)).bind fun x26 =>
some ((x26.1 : GState), (x26.2 : Int))).bind <| p2 fun (y4_1 : GState) (y4_2 : Int) =>
bnd (decide (y4_2 ≠ 0)) fun x27 =>
cond x27 (some ((y4_1 : GState), (y4_2 : Int))) (some ((y4_1 : GState), (y4_2 : Int)))))) q1) q0))).bind <| p2 fun (y5_1 : GState) (y5_2 : Int) =>
bnd (decide (y5_2 ≠ 0)) fun x28 =>
cond x28 (some ((a1 : GState), (y5_2 : Int))) (asrt (y5_1.Receipts.length ≤ 68719476736) <|
bnd (y5_1.Receipts ++ ([(⟨a2.E, a2.Item, a2.Loc, a2.Qty, a2.Amount, a2.Qty, a2.Amount, 0⟩ : GReceipt)] : List GReceipt)) fun x32 =>
asrt (x32.length ≤ 68719476736) <|
some (((⟨y5_1.Master, y5_1.Ents, x32, y5_1.Sales, y5_1.Transits, y5_1.Done⟩ : GState) : GState), (0 : Int))))
theorem d_receive_Do_c {n : Nat} {a1 : GState} {a2 : GOp} {r : GState × Int} (h0 : d_receive_Do n a1 a2 = some r) : PP Tryz.prog 8 [.agg (GState.av a1), .agg (GOp.av a2)] (fun y => y = .tup [.agg (GState.av r.1), int r.2]) := by
  unfold d_receive_Do at h0
  refine pp_of_pc (R0 := fun y H => Cv (frzH H) y (.tup [.agg (GState.av r.1), int r.2])) ?_ (fun y H hc => ⟨_, rfl, .tup (pvl2 ((fun (a : GState) => PV.agg (GState.pvc a)) (r.1)) (pvI (r.2))), hc⟩)
  refine pcw (c := _) Tryz.func8 rfl rfl ?_; intro Q hret hnorm
  refine tc tbk 2 (.mk ?_)
  refine sB 1 fun v3 => ?_
  refine sB 2 fun v4 => ?_
  refine sA 3 z32 fun v5 => ?_
  refine tr tbk 8 (.mk ?_)
  refine nb tbk h0 fun x6 h0 => ?_
  refine tr tbk 1 (.mk ?_)
  cases x6
  replace h0 := cf h0
  refine tc tbk 5 (.mk ?_)
  refine sA 4 z32 fun v7 => ?_
  refine sA 5 z3 fun v8 => ?_
  refine sA 6 z3 fun v9 => ?_
  refine sS ⟨32, 10, true, true, v7, [(GState.av a1)]⟩ sh32 ?_
  refine sS ⟨3, 1, true, true, v8, [[int 0]]⟩ sh3 ?_
  refine sS ⟨3, 1, true, true, v9, [[int 0]]⟩ sh3 ?_
  refine tr tbk 3 (.mk ?_)
  refine sA 7 z36 fun v10 => ?_
  refine tr tbk 8 (.mk ?_)
  refine sY (yv_buildSlice (ps := [(0, _), (1, _), (2, _), (3, _), (4, _)]) (rows := [[.fn (.func 16) [] [.pt 1 v3 0 0, .pt 2 v4 0 0, .pt 7 v10 0 0]], [.fn (.func 18) [] [.pt 1 v3 0 0, .pt 7 v10 0 0]], [.fn (.func 19) [] [.pt 1 v3 0 0, .pt 2 v4 0 0, .pt 4 v7 0 0, .pt 5 v8 0 0, .pt 6 v9 0 0, .pt 7 v10 0 0]], [.fn (.func 21) [] [.pt 4 v7 0 0, .pt 2 v4 0 0, .pt 5 v8 0 0, .pt 6 v9 0 0, .pt 7 v10 0 0]], [.fn (.func 23) [] [.pt 4 v7 0 0, .pt 2 v4 0 0, .pt 5 v8 0 0, .pt 7 v10 0 0]]]) rfl Tryz.underlying68 bz1 (.cons rfl (.cons rfl (.cons rfl (.cons rfl (.cons rfl .nil))))) (by kernel_rfl) rfl rfl rfl) ?_
  refine tr tbk 8 (.mk ?_)
  refine sY (yv_to (y := int 5) (yv_len_sl rfl Tryz.underlying68 rfl (.list _ _)) rfl) ?_
  refine tr tbk 2 (.mk ?_)
  refine jn h0 [2, 3, 4, 5, 6, 9] [1, 2, 3] (fun (a : GState × Int) (k : Unit) => []) (fun a k => [(4, ⟨32, 10, true, true, v7, [(GState.av a.1)]⟩), (7, ⟨36, 1, true, true, v10, [[int a.2]]⟩)]) ⟨fun j11 h1 => ?_, ?_⟩
  refine tc tbk 4 (.mk ?_)
  refine sY (yv_to (y := boo true) (yv_lss rfl rfl rfl) (congrArg boo (by decide))) ?_
  refine tr tbk 8 (.mk ?_)
  refine sY (yv_indexAddr (j := 0) rfl Tryz.underlying68 sh1 rfl rfl rfl (.list rfl)) ?_
  refine tr tbk 6 (.mk ?_)
  obtain ⟨j12, h2, h1⟩ := bind_e h1
  refine rse (Out := fun y H' => (∃ (a : Int) (k : Unit), a = j12 ∧ y = .tup [] ∧ H' = hk [(1, ⟨32, 10, true, true, v3, [(GState.av a1)]⟩), (2, ⟨35, 9, true, true, v4, [[int a2.Kind, int a2.E, int a2.Item, int a2.Loc, int a2.To, int a2.Qty, int a2.Amount, int a2.Ref, lst 1 fI a2.Refs]]⟩), (3, ⟨32, 10, true, true, v5, [[int 0, int 0, .sc (.slice none 0 0), .sc (.slice none 0 0), .sc (.slice none 0 0), .sc (.slice none 0 0), .sc (.slice none 0 0), .sc (.slice none 0 0), .sc (.slice none 0 0), int 0]]⟩), (4, ⟨32, 10, true, true, v7, [(GState.av a1)]⟩), (5, ⟨3, 1, true, true, v8, [[int 0]]⟩), (6, ⟨3, 1, true, true, v9, [[int 0]]⟩), (7, ⟨36, 1, true, true, v10, [[int a]]⟩)])) rfl rfl rfl (yl_call rfl rfl .nil cal16 ?_) ?_
  refine pcw (c := _) Tryz.func16 rfl rfl ?_; intro Q hret hnorm
  refine tc tbk 6 (.mk ?_)
  obtain ⟨x13, e13, h2⟩ := bind_e h2
  refine sC cal17 (d_stock_Ready_c e13) ?_
  refine sS ⟨36, 1, true, true, v10, [[int x13]]⟩ sh36 ?_
  refine tr tbk 1 (.mk ?_)
  obtain rfl := nxt_e h2
  refine g_nil (hnorm _ _ (hk [(1, ⟨32, 10, true, true, v3, [(GState.av a1)]⟩), (2, ⟨35, 9, true, true, v4, [[int a2.Kind, int a2.E, int a2.Item, int a2.Loc, int a2.To, int a2.Qty, int a2.Amount, int a2.Ref, lst 1 fI a2.Refs]]⟩), (3, ⟨32, 10, true, true, v5, [[int 0, int 0, .sc (.slice none 0 0), .sc (.slice none 0 0), .sc (.slice none 0 0), .sc (.slice none 0 0), .sc (.slice none 0 0), .sc (.slice none 0 0), .sc (.slice none 0 0), int 0]]⟩), (4, ⟨32, 10, true, true, v7, [(GState.av a1)]⟩), (5, ⟨3, 1, true, true, v8, [[int 0]]⟩), (6, ⟨3, 1, true, true, v9, [[int 0]]⟩), (7, ⟨36, 1, true, true, v10, [[int x13]]⟩)]) .nil (HK.le ⟨rfl, rfl, rfl, rfl, rfl, rfl, rfl, trivial⟩) ?_)
  exact ⟨x13, (), rfl, rfl, rfl⟩
  rintro y _ ⟨y0_1, _, rfl, hc, rfl⟩
  subst hc
  refine tr tbk 4 (.mk ?_)
  refine nb tbk h1 fun x14 h1 => ?_
  refine tr tbk 1 (.mk ?_)
  cases x14
  replace h1 := cf h1
  refine tc tbk 4 (.mk ?_)
  refine sY (yv_add (r := 1) rfl rfl rfl (by decide)) ?_
  refine tr tbk 5 (.mk ?_)
  refine sY (yv_to (y := boo true) (yv_lss rfl rfl rfl) (congrArg boo (by decide))) ?_
  refine tr tbk 8 (.mk ?_)
  refine sY (yv_indexAddr (j := 1) rfl Tryz.underlying68 sh1 rfl rfl rfl (.list rfl)) ?_
  refine tr tbk 6 (.mk ?_)
  obtain ⟨j15, h2, h1⟩ := bind_e h1
  refine rse (Out := fun y H' => (∃ (a : Int) (k : Unit), a = j15 ∧ y = .tup [] ∧ H' = hk [(1, ⟨32, 10, true, true, v3, [(GState.av a1)]⟩), (2, ⟨35, 9, true, true, v4, [[int a2.Kind, int a2.E, int a2.Item, int a2.Loc, int a2.To, int a2.Qty, int a2.Amount, int a2.Ref, lst 1 fI a2.Refs]]⟩), (3, ⟨32, 10, true, true, v5, [[int 0, int 0, .sc (.slice none 0 0), .sc (.slice none 0 0), .sc (.slice none 0 0), .sc (.slice none 0 0), .sc (.slice none 0 0), .sc (.slice none 0 0), .sc (.slice none 0 0), int 0]]⟩), (4, ⟨32, 10, true, true, v7, [(GState.av a1)]⟩), (5, ⟨3, 1, true, true, v8, [[int 0]]⟩), (6, ⟨3, 1, true, true, v9, [[int 0]]⟩), (7, ⟨36, 1, true, true, v10, [[int a]]⟩)])) rfl rfl rfl (yl_call rfl rfl .nil cal18 ?_) ?_
  refine pcw (c := _) Tryz.func18 rfl rfl ?_; intro Q hret hnorm
  refine tc tbk 4 (.mk ?_)
  refine sY (yv_len_sl rfl Tryz.underlying28 rfl (lst_len _)) ?_
  refine nb tbk h2 fun x16 h2 => ?_
  refine tr tbk 1 (.mk ?_)
  cases x16
  replace h2 := cf h2
  refine tc tbk 2 (.mk ?_)
  obtain rfl := nxt_e h2
  refine g_nil (hnorm _ _ (hk [(1, ⟨32, 10, true, true, v3, [(GState.av a1)]⟩), (2, ⟨35, 9, true, true, v4, [[int a2.Kind, int a2.E, int a2.Item, int a2.Loc, int a2.To, int a2.Qty, int a2.Amount, int a2.Ref, lst 1 fI a2.Refs]]⟩), (3, ⟨32, 10, true, true, v5, [[int 0, int 0, .sc (.slice none 0 0), .sc (.slice none 0 0), .sc (.slice none 0 0), .sc (.slice none 0 0), .sc (.slice none 0 0), .sc (.slice none 0 0), .sc (.slice none 0 0), int 0]]⟩), (4, ⟨32, 10, true, true, v7, [(GState.av a1)]⟩), (5, ⟨3, 1, true, true, v8, [[int 0]]⟩), (6, ⟨3, 1, true, true, v9, [[int 0]]⟩), (7, ⟨36, 1, true, true, v10, [[int y0_1]]⟩)]) .nil (HK.le ⟨rfl, rfl, rfl, rfl, rfl, rfl, rfl, trivial⟩) ?_)
  exact ⟨y0_1, (), rfl, rfl, rfl⟩
  replace h2 := ct h2
  refine tc tbk 2 (.mk ?_)
  refine sS ⟨36, 1, true, true, v10, [[int 6]]⟩ sh36 ?_
  refine tr tbk 1 (.mk ?_)
  obtain rfl := nxt_e h2
  refine g_nil (hnorm _ _ (hk [(1, ⟨32, 10, true, true, v3, [(GState.av a1)]⟩), (2, ⟨35, 9, true, true, v4, [[int a2.Kind, int a2.E, int a2.Item, int a2.Loc, int a2.To, int a2.Qty, int a2.Amount, int a2.Ref, lst 1 fI a2.Refs]]⟩), (3, ⟨32, 10, true, true, v5, [[int 0, int 0, .sc (.slice none 0 0), .sc (.slice none 0 0), .sc (.slice none 0 0), .sc (.slice none 0 0), .sc (.slice none 0 0), .sc (.slice none 0 0), .sc (.slice none 0 0), int 0]]⟩), (4, ⟨32, 10, true, true, v7, [(GState.av a1)]⟩), (5, ⟨3, 1, true, true, v8, [[int 0]]⟩), (6, ⟨3, 1, true, true, v9, [[int 0]]⟩), (7, ⟨36, 1, true, true, v10, [[int 6]]⟩)]) .nil (HK.le ⟨rfl, rfl, rfl, rfl, rfl, rfl, rfl, trivial⟩) ?_)
  exact ⟨6, (), rfl, rfl, rfl⟩
  rintro y _ ⟨y1_1, _, rfl, hc, rfl⟩
  subst hc
  refine tr tbk 4 (.mk ?_)
  refine nb tbk h1 fun x17 h1 => ?_
  refine tr tbk 1 (.mk ?_)
  cases x17
  replace h1 := cf h1
  refine tc tbk 4 (.mk ?_)
  refine sY (yv_add (r := 2) rfl rfl rfl (by decide)) ?_
  refine tr tbk 5 (.mk ?_)
  refine sY (yv_to (y := boo true) (yv_lss rfl rfl rfl) (congrArg boo (by decide))) ?_
  refine tr tbk 8 (.mk ?_)
  refine sY (yv_indexAddr (j := 2) rfl Tryz.underlying68 sh1 rfl rfl rfl (.list rfl)) ?_
  refine tr tbk 6 (.mk ?_)
  obtain ⟨j18, h2, h1⟩ := bind_e h1
  refine rse (Out := fun y H' => (∃ (a : GState × Int × Int × Int) (k : Unit), a = j18 ∧ y = .tup [] ∧ H' = hk [(1, ⟨32, 10, true, true, v3, [(GState.av a1)]⟩), (2, ⟨35, 9, true, true, v4, [[int a2.Kind, int a2.E, int a2.Item, int a2.Loc, int a2.To, int a2.Qty, int a2.Amount, int a2.Ref, lst 1 fI a2.Refs]]⟩), (3, ⟨32, 10, true, true, v5, [[int 0, int 0, .sc (.slice none 0 0), .sc (.slice none 0 0), .sc (.slice none 0 0), .sc (.slice none 0 0), .sc (.slice none 0 0), .sc (.slice none 0 0), .sc (.slice none 0 0), int 0]]⟩), (4, ⟨32, 10, true, true, v7, [(GState.av a.1)]⟩), (5, ⟨3, 1, true, true, v8, [[int a.2.1]]⟩), (6, ⟨3, 1, true, true, v9, [[int a.2.2.1]]⟩), (7, ⟨36, 1, true, true, v10, [[int a.2.2.2]]⟩)])) rfl rfl rfl (yl_call rfl rfl .nil cal19 ?_) ?_
  refine pcw (c := _) Tryz.func19 rfl rfl ?_; intro Q hret hnorm
  refine tc tbk 13 (.mk ?_)
  obtain ⟨x19, e19, h2⟩ := bind_e h2
  refine sC cal20 (d_stock_Bring_c e19) ?_
  refine tr tbk 5 (.mk ?_)
  refine sS ⟨32, 10, true, true, v7, [(GState.av x19.1)]⟩ sh32 ?_
  refine sS ⟨3, 1, true, true, v8, [[int x19.2.1]]⟩ sh3 ?_
  refine sS ⟨3, 1, true, true, v9, [[int x19.2.2.1]]⟩ sh3 ?_
  refine sS ⟨36, 1, true, true, v10, [[int x19.2.2.2]]⟩ sh36 ?_
  refine tr tbk 1 (.mk ?_)
  obtain rfl := nxt_e h2
  refine g_nil (hnorm _ _ (hk [(1, ⟨32, 10, true, true, v3, [(GState.av a1)]⟩), (2, ⟨35, 9, true, true, v4, [[int a2.Kind, int a2.E, int a2.Item, int a2.Loc, int a2.To, int a2.Qty, int a2.Amount, int a2.Ref, lst 1 fI a2.Refs]]⟩), (3, ⟨32, 10, true, true, v5, [[int 0, int 0, .sc (.slice none 0 0), .sc (.slice none 0 0), .sc (.slice none 0 0), .sc (.slice none 0 0), .sc (.slice none 0 0), .sc (.slice none 0 0), .sc (.slice none 0 0), int 0]]⟩), (4, ⟨32, 10, true, true, v7, [(GState.av x19.1)]⟩), (5, ⟨3, 1, true, true, v8, [[int x19.2.1]]⟩), (6, ⟨3, 1, true, true, v9, [[int x19.2.2.1]]⟩), (7, ⟨36, 1, true, true, v10, [[int x19.2.2.2]]⟩)]) .nil (HK.le ⟨rfl, rfl, rfl, rfl, rfl, rfl, rfl, trivial⟩) ?_)
  exact ⟨(x19.1, x19.2.1, x19.2.2.1, x19.2.2.2), (), rfl, rfl, rfl⟩
  rintro y _ ⟨⟨y2_1, y2_2, y2_3, y2_4⟩, _, rfl, hc, rfl⟩
  replace h1 := p2_e h1
  replace h1 := p2_e h1
  replace h1 := p2_e h1
  subst hc
  refine tr tbk 4 (.mk ?_)
  refine nb tbk h1 fun x20 h1 => ?_
  refine tr tbk 1 (.mk ?_)
  cases x20
  replace h1 := cf h1
  refine tc tbk 4 (.mk ?_)
  refine sY (yv_add (r := 3) rfl rfl rfl (by decide)) ?_
  refine tr tbk 5 (.mk ?_)
  refine sY (yv_to (y := boo true) (yv_lss rfl rfl rfl) (congrArg boo (by decide))) ?_
  refine tr tbk 8 (.mk ?_)
  refine sY (yv_indexAddr (j := 3) rfl Tryz.underlying68 sh1 rfl rfl rfl (.list rfl)) ?_
  refine tr tbk 6 (.mk ?_)
  obtain ⟨j21, h2, h1⟩ := bind_e h1
  refine rse (Out := fun y H' => (∃ (a : GState × Int) (k : Unit), a = j21 ∧ y = .tup [] ∧ H' = hk [(1, ⟨32, 10, true, true, v3, [(GState.av a1)]⟩), (2, ⟨35, 9, true, true, v4, [[int a2.Kind, int a2.E, int a2.Item, int a2.Loc, int a2.To, int a2.Qty, int a2.Amount, int a2.Ref, lst 1 fI a2.Refs]]⟩), (3, ⟨32, 10, true, true, v5, [[int 0, int 0, .sc (.slice none 0 0), .sc (.slice none 0 0), .sc (.slice none 0 0), .sc (.slice none 0 0), .sc (.slice none 0 0), .sc (.slice none 0 0), .sc (.slice none 0 0), int 0]]⟩), (4, ⟨32, 10, true, true, v7, [(GState.av a.1)]⟩), (5, ⟨3, 1, true, true, v8, [[int y2_2]]⟩), (6, ⟨3, 1, true, true, v9, [[int y2_3]]⟩), (7, ⟨36, 1, true, true, v10, [[int a.2]]⟩)])) rfl rfl rfl (yl_call rfl rfl .nil cal21 ?_) ?_
  refine pcw (c := _) Tryz.func21 rfl rfl ?_; intro Q hret hnorm
  refine tc tbk 10 (.mk ?_)
  refine ni tbk h2 fun x22 h2 => ?_
  refine tr tbk 1 (.mk ?_)
  refine sY (yv_to (y := lst 2 GLine.av ([(⟨0, y2_2⟩ : GLine), (⟨6, y2_3⟩ : GLine), (⟨1, x22⟩ : GLine)] : List GLine)) (yv_buildSlice (ps := [(0, _), (1, _), (2, _)]) (rows := [[int 0, int y2_2], [int 6, int y2_3], [int 1, int x22]]) rfl Tryz.underlying64 bz63 (.cons rfl (.cons rfl (.cons rfl .nil))) (by kernel_rfl) rfl rfl rfl) rfl) ?_
  obtain ⟨x23, e23, h2⟩ := bind_e h2
  refine sC cal22 (d_stock_Post_c e23) ?_
  refine tr tbk 3 (.mk ?_)
  refine sS ⟨32, 10, true, true, v7, [(GState.av x23.1)]⟩ sh32 ?_
  refine sS ⟨36, 1, true, true, v10, [[int x23.2]]⟩ sh36 ?_
  refine tr tbk 1 (.mk ?_)
  obtain rfl := nxt_e h2
  refine g_nil (hnorm _ _ (hk [(1, ⟨32, 10, true, true, v3, [(GState.av a1)]⟩), (2, ⟨35, 9, true, true, v4, [[int a2.Kind, int a2.E, int a2.Item, int a2.Loc, int a2.To, int a2.Qty, int a2.Amount, int a2.Ref, lst 1 fI a2.Refs]]⟩), (3, ⟨32, 10, true, true, v5, [[int 0, int 0, .sc (.slice none 0 0), .sc (.slice none 0 0), .sc (.slice none 0 0), .sc (.slice none 0 0), .sc (.slice none 0 0), .sc (.slice none 0 0), .sc (.slice none 0 0), int 0]]⟩), (4, ⟨32, 10, true, true, v7, [(GState.av x23.1)]⟩), (5, ⟨3, 1, true, true, v8, [[int y2_2]]⟩), (6, ⟨3, 1, true, true, v9, [[int y2_3]]⟩), (7, ⟨36, 1, true, true, v10, [[int x23.2]]⟩)]) .nil (HK.le ⟨rfl, rfl, rfl, rfl, rfl, rfl, rfl, trivial⟩) ?_)
  exact ⟨(x23.1, x23.2), (), rfl, rfl, rfl⟩
  rintro y _ ⟨⟨y3_1, y3_2⟩, _, rfl, hc, rfl⟩
  replace h1 := p2_e h1
  subst hc
  refine tr tbk 4 (.mk ?_)
  refine nb tbk h1 fun x24 h1 => ?_
  refine tr tbk 1 (.mk ?_)
  cases x24
  replace h1 := cf h1
  refine tc tbk 4 (.mk ?_)
  refine sY (yv_add (r := 4) rfl rfl rfl (by decide)) ?_
  refine tr tbk 5 (.mk ?_)
  refine sY (yv_to (y := boo true) (yv_lss rfl rfl rfl) (congrArg boo (by decide))) ?_
  refine tr tbk 8 (.mk ?_)
  refine sY (yv_indexAddr (j := 4) rfl Tryz.underlying68 sh1 rfl rfl rfl (.list rfl)) ?_
  refine tr tbk 6 (.mk ?_)
  obtain ⟨j25, h2, h1⟩ := bind_e h1
  refine rse (Out := fun y H' => (∃ (a : GState × Int) (k : Unit), a = j25 ∧ y = .tup [] ∧ H' = hk [(1, ⟨32, 10, true, true, v3, [(GState.av a1)]⟩), (2, ⟨35, 9, true, true, v4, [[int a2.Kind, int a2.E, int a2.Item, int a2.Loc, int a2.To, int a2.Qty, int a2.Amount, int a2.Ref, lst 1 fI a2.Refs]]⟩), (3, ⟨32, 10, true, true, v5, [[int 0, int 0, .sc (.slice none 0 0), .sc (.slice none 0 0), .sc (.slice none 0 0), .sc (.slice none 0 0), .sc (.slice none 0 0), .sc (.slice none 0 0), .sc (.slice none 0 0), int 0]]⟩), (4, ⟨32, 10, true, true, v7, [(GState.av a.1)]⟩), (5, ⟨3, 1, true, true, v8, [[int y2_2]]⟩), (6, ⟨3, 1, true, true, v9, [[int y2_3]]⟩), (7, ⟨36, 1, true, true, v10, [[int a.2]]⟩)])) rfl rfl rfl (yl_call rfl rfl .nil cal23 ?_) ?_
  refine pcw (c := _) Tryz.func23 rfl rfl ?_; intro Q hret hnorm
  refine tc tbk 7 (.mk ?_)
  refine sY (yv_build (cs := [int 0, int y2_2, int 0, int 0, int 0, int 0, int 0, int 0, int 0, int 0, int 0]) (ps := [(1, _)]) rfl pl67 z67 rfl (.cons rfl .nil) (by kernel_rfl)) ?_
  obtain ⟨x26, e26, h2⟩ := bind_e h2
  refine sC cal24 (d_stock_Turn_c e26) ?_
  refine tr tbk 3 (.mk ?_)
  refine sS ⟨32, 10, true, true, v7, [(GState.av x26.1)]⟩ sh32 ?_
  refine sS ⟨36, 1, true, true, v10, [[int x26.2]]⟩ sh36 ?_
  refine tr tbk 1 (.mk ?_)
  obtain rfl := nxt_e h2
  refine g_nil (hnorm _ _ (hk [(1, ⟨32, 10, true, true, v3, [(GState.av a1)]⟩), (2, ⟨35, 9, true, true, v4, [[int a2.Kind, int a2.E, int a2.Item, int a2.Loc, int a2.To, int a2.Qty, int a2.Amount, int a2.Ref, lst 1 fI a2.Refs]]⟩), (3, ⟨32, 10, true, true, v5, [[int 0, int 0, .sc (.slice none 0 0), .sc (.slice none 0 0), .sc (.slice none 0 0), .sc (.slice none 0 0), .sc (.slice none 0 0), .sc (.slice none 0 0), .sc (.slice none 0 0), int 0]]⟩), (4, ⟨32, 10, true, true, v7, [(GState.av x26.1)]⟩), (5, ⟨3, 1, true, true, v8, [[int y2_2]]⟩), (6, ⟨3, 1, true, true, v9, [[int y2_3]]⟩), (7, ⟨36, 1, true, true, v10, [[int x26.2]]⟩)]) .nil (HK.le ⟨rfl, rfl, rfl, rfl, rfl, rfl, rfl, trivial⟩) ?_)
  exact ⟨(x26.1, x26.2), (), rfl, rfl, rfl⟩
  rintro y _ ⟨⟨y4_1, y4_2⟩, _, rfl, hc, rfl⟩
  replace h1 := p2_e h1
  subst hc
  refine tr tbk 4 (.mk ?_)
  refine nb tbk h1 fun x27 h1 => ?_
  refine tr tbk 1 (.mk ?_)
  cases x27
  replace h1 := cf h1
  refine tc tbk 4 (.mk ?_)
  refine sY (yv_add (r := 5) rfl rfl rfl (by decide)) ?_
  refine tr tbk 5 (.mk ?_)
  refine sY (yv_to (y := boo false) (yv_lss rfl rfl rfl) (congrArg boo (by decide))) ?_
  refine tr tbk 4 (.mk ?_)
  exact lf h1 () leA
  replace h1 := ct h1
  refine tc tbk 2 (.mk ?_)
  exact lf h1 () leA
  replace h1 := ct h1
  refine tc tbk 2 (.mk ?_)
  exact lf h1 () leA
  replace h1 := ct h1
  refine tc tbk 2 (.mk ?_)
  exact lf h1 () leA
  replace h1 := ct h1
  refine tc tbk 2 (.mk ?_)
  exact lf h1 () leA
  replace h1 := ct h1
  refine tc tbk 2 (.mk ?_)
  exact lf h1 () leA
  rintro ⟨y5_1, y5_2⟩ _ h0
  replace h0 := p2_e h0
  refine tc tbk 4 (.mk ?_)
  refine nb tbk h0 fun x28 h0 => ?_
  refine tr tbk 1 (.mk ?_)
  cases x28
  replace h0 := cf h0
  refine tc tbk 18 (.mk ?_)
  refine sY (yv_build (cs := [int a2.E, int a2.Item, int a2.Loc, int a2.Qty, int a2.Amount, int a2.Qty, int a2.Amount, int 0]) (ps := [(0, _), (1, _), (2, _), (3, _), (4, _), (5, _), (6, _)]) rfl pl49 z49 rfl (.cons rfl (.cons rfl (.cons rfl (.cons rfl (.cons rfl (.cons rfl (.cons rfl .nil))))))) (by kernel_rfl)) ?_
  refine sA 8 z49 fun v29 => ?_
  refine sS ⟨49, 8, true, true, v29, [[int a2.E, int a2.Item, int a2.Loc, int a2.Qty, int a2.Amount, int a2.Qty, int a2.Amount, int 0]]⟩ sh49 ?_
  refine tr tbk 2 (.mk ?_)
  refine c_drawE [0, 1, 3, 0, 8, 31, 63, 127] (rl [(0, [4]), (1, [4]), (3, [8]), (6, [4])] []) (rl [(2, [8]), (5, []), (7, [])] [4, 8]) (rl [(2, false), (5, false), (7, false)] true) [0, 1, 3, 4, 2, 5, 6, 7] mixed (by kernel_rfl) ?_; intro K hK
  refine eF fo32_2 ?_
  refine eL sh28 ?_
  refine eL sh49 ?_
  refine eP (fun H hH => yv_to (y := lst 8 GReceipt.av ([(⟨a2.E, a2.Item, a2.Loc, a2.Qty, a2.Amount, a2.Qty, a2.Amount, 0⟩ : GReceipt)] : List GReceipt)) (yv_buildSlice (ps := [(0, _)]) (rows := [[int a2.E, int a2.Item, int a2.Loc, int a2.Qty, int a2.Amount, int a2.Qty, int a2.Amount, int 0]]) rfl Tryz.underlying28 bz49 (.cons rfl .nil) (by kernel_rfl) rfl rfl rfl) rfl) ?_
  obtain ⟨p30, h0⟩ := asrt_e h0
  refine de_eff rfl rfl rfl rfl (yl_call rfl rfl (.cons rfl .nil) cal25 (pc_cv (clone25_c (id := 9) (l := y5_1.Receipts) rfl p30) (.cons (.refl _) .nil))) (by rintro _ _ ⟨v31, rfl, rfl⟩; exact ⟨rfl, trivial⟩) ?_; rintro _ _ ⟨v31, rfl, rfl⟩
  obtain ⟨x32, e32, h0⟩ := bnd_e h0
  obtain ⟨p33, h0⟩ := asrt_e h0
  refine de_eff rfl rfl rfl rfl (yl_appT (g := GReceipt.av) (l := y5_1.Receipts) (m := ([(⟨a2.E, a2.Item, a2.Loc, a2.Qty, a2.Amount, a2.Qty, a2.Amount, 0⟩ : GReceipt)] : List GReceipt)) .any rfl Tryz.underlying28 bz49 by49 rfl rfl rfl rfl rfl rfl rfl rfl rfl rfl (Eq.symm rfl) (.refl _) (fun _ => rfl) e32 p33) (by rintro _ _ ⟨v34, -, rfl, rfl⟩; exact trivial) ?_; rintro _ _ ⟨v34, -, rfl, rfl⟩
  refine eF fo32_2 ?_
  refine de_eff0 rfl rfl rfl rfl (Yield.weak (yl_ob (ob' := (⟨32, 10, true, true, v7, [[int y5_1.Master.Entities, int y5_1.Master.Periods, lst 1 fI y5_1.Master.Weights, lst 1 (fL 1 fI) y5_1.Master.Methods, lst 1 (fL 1 fI) y5_1.Master.Costs, lst 8 GEnt.av y5_1.Ents, .sl 9 v34 0 x32.length, lst 9 GSale.av y5_1.Sales, lst 6 GTransit.av y5_1.Transits, int y5_1.Done]]⟩ : AObj)) (yl_store rfl sh28 rfl rfl rfl rfl rfl rfl rfl rfl rfl) rfl) (fun _ h => h) (fun _ _ => trivial)) (by rintro _ _ ⟨rfl, rfl⟩; exact trivial) ?_; rintro _ _ ⟨rfl, rfl⟩
  refine de_nil (hK _ ?_)
  refine tc tbk 3 (.mk ?_)
  refine sS ⟨32, 10, true, true, v5, [[int y5_1.Master.Entities, int y5_1.Master.Periods, lst 1 fI y5_1.Master.Weights, lst 1 (fL 1 fI) y5_1.Master.Methods, lst 1 (fL 1 fI) y5_1.Master.Costs, lst 8 GEnt.av y5_1.Ents, .sl 9 v34 0 x32.length, lst 9 GSale.av y5_1.Sales, lst 6 GTransit.av y5_1.Transits, int y5_1.Done]]⟩ sh32 ?_
  refine tr tbk 2 (.mk ?_)
  obtain rfl := nxt_e h0
  refine wR hret (rC sh32 (rT .nil)) ?_
  exact CvL.tup (.cons (CvL.agg (.cons (.refl _) (.cons (.refl _) (.cons (.refl _) (.cons (.refl _) (.cons (.refl _) (.cons (.refl _) (.cons (cv_lst rfl rfl rfl rfl rfl (Eq.symm rfl)) (.cons (.refl _) (.cons (.refl _) (.cons (.refl _) .nil))))))))))) (.cons (.refl _) .nil))
  replace h0 := ct h0
  refine tc tbk 2 (.mk ?_)
  refine c_drawE [0, 0, 1, 7] (rl [(0, [1]), (1, [7])] []) (rl [(2, [7])] [1, 7]) (rl [(2, false)] true) [0, 1, 2, 3] mixed (by kernel_rfl) ?_; intro K hK
  refine eL sh32 ?_
  refine eL sh36 ?_
  refine de_eff0 rfl rfl rfl rfl (Yield.weak (yl_ob (ob' := (⟨32, 10, true, true, v5, [(GState.av a1)]⟩ : AObj)) (yl_store rfl sh32 rfl rfl rfl rfl rfl rfl rfl rfl rfl) rfl) (fun _ h => h) (fun _ _ => trivial)) (by rintro _ _ ⟨rfl, rfl⟩; exact ⟨rfl, trivial⟩) ?_; rintro _ _ ⟨rfl, rfl⟩
  refine eA ?_
  refine de_nil (hK _ ?_)
  obtain rfl := nxt_e h0
  refine wR hret (rC sh32 (rT .nil)) ?_
  exact .refl _
  replace h0 := ct h0
  refine tc tbk 4 (.mk ?_)
  refine sS ⟨32, 10, true, true, v5, [(GState.av a1)]⟩ sh32 ?_
  refine tr tbk 2 (.mk ?_)
  obtain rfl := nxt_e h0
  refine wR hret (rC sh32 (rT .nil)) ?_
  exact .refl _
def d_ref04_SameInts_L0 (a1 : List Int) (a2 : List Int) : Nat → Int → Option (Unit)
  | 0, _ => none
  | n + 1, y0_1 =>
    bnd (decide (y0_1 < (a1.length : Int))) fun x5 =>
    cond x5 ((ix a1 y0_1).bind fun x6 =>
    (ix a2 y0_1).bind fun x7 =>
    bnd (decide (x6 ≠ x7)) fun x8 =>
    asrt (x8 = false) <|
    bnd (w64 (y0_1 + 1)) fun x9 =>
    d_ref04_SameInts_L0 a1 a2 n (x9 : Int)) (some ())
def d_ref04_SameInts (n : Nat) (a1 : List Int) (a2 : List Int) : Option (Bool) :=
bnd (decide ((a1.length : Int) ≠ (a2.length : Int))) fun x3 =>
asrt (x3 = false) <|
(show Option (Unit) from
d_ref04_SameInts_L0 a1 a2 n (0 : Int)).bind <| fun _ =>
some ((true : Bool))
theorem d_ref04_SameInts_c {n : Nat} {a1 : List Int} {a2 : List Int} {r : Bool} (h0 : d_ref04_SameInts n a1 a2 = some r) : PP Tryz.prog 50 [lst 1 fI a1, lst 1 fI a2] (fun y => y = boo r) := by
  unfold d_ref04_SameInts at h0
  refine pp_of_pc (R0 := fun y H => Cv (frzH H) y (boo r)) ?_ (fun y H hc => ⟨_, rfl, pvB r, hc⟩)
  refine pcw (c := _) Tryz.func50 rfl rfl ?_; intro Q hret hnorm
  refine tc tbk 8 (.mk ?_)
  refine sY (yv_len_sl rfl Tryz.underlying23 rfl (lst_len _)) ?_
  refine tr tbk 1 (.mk ?_)
  refine sY (yv_len_sl rfl Tryz.underlying23 rfl (lst_len _)) ?_
  refine nb tbk h0 fun x3 h0 => ?_
  refine tr tbk 1 (.mk ?_)
  replace h0 := asrt_e h0
  obtain ⟨rfl, h0⟩ := h0
  refine tc tbk 7 (.mk ?_)
  refine jn h0 [4] [] (fun (a : Unit) (k : Unit) => []) (fun a k => []) ⟨fun j4 h1 => ?_, ?_⟩
  refine tc tbk 1 (.mk ?_)
  refine lp (fun n (a : Int) => d_ref04_SameInts_L0 a1 a2 n a) (0 : Int) () h1 [0, 1, 4] [] (fun (a : Int) (k : Unit) => [(5, int a)]) (fun a k => []) (fun _ => rfl) ⟨leA, ?_⟩
  rintro n y0_1 _ hm h1
  replace h1 : d_ref04_SameInts_L0 a1 a2 (n + 1) y0_1 = some _ := h1
  rw [d_ref04_SameInts_L0] at h1
  refine tc tbk 5 (.mk ?_)
  refine sY (yv_len_sl rfl Tryz.underlying23 rfl (lst_len _)) ?_
  refine nb tbk h1 fun x5 h1 => ?_
  refine tr tbk 1 (.mk ?_)
  cases x5
  replace h1 := cf h1
  refine tc tbk 2 (.mk ?_)
  exact lf h1 () leA
  replace h1 := ct h1
  refine tc tbk 5 (.mk ?_)
  refine c_drawE [0, 0, 3, 7, 0, 0, 48, 112, 255] (fun i => []) (fun i => []) (fun i => true) [0, 1, 2, 3, 4, 5, 6, 7, 8] mixed (by kernel_rfl) ?_; intro K hK
  iterate 2 refine eM ?_
  obtain ⟨x6, e6, h1⟩ := bind_e h1
  refine eP (fun H hH => yv_ixT rfl Tryz.underlying23 sh3 rfl rfl e6) ?_
  refine eP (fun H hH => yv_load rfl sh3 rfl (.pp _) rfl) ?_
  iterate 2 refine eM ?_
  obtain ⟨x7, e7, h1⟩ := bind_e h1
  refine eP (fun H hH => yv_ixT rfl Tryz.underlying23 sh3 rfl rfl e7) ?_
  refine eP (fun H hH => yv_load rfl sh3 rfl (.pp _) rfl) ?_
  obtain ⟨x8, e8, h1⟩ := bnd_e h1
  refine eP (fun H hH => yv_to (y := boo x8) (yv_neq rfl rfl rfl) (congrArg boo e8)) ?_
  refine de_nil (hK _ ?_)
  replace h1 := asrt_e h1
  obtain ⟨rfl, h1⟩ := h1
  refine tc tbk 5 (.mk ?_)
  refine ni tbk h1 fun x9 h1 => ?_
  refine tr tbk 2 (.mk ?_)
  exact bk x9 () h1 leA
  rintro _ _ h0
  refine tc tbk 4 (.mk ?_)
  obtain rfl := nxt_e h0
  refine wR hret (rT .nil) ?_
  exact .refl _
def d_ref04_sameLists_L0 (a1 : List (List Int)) (a2 : List (List Int)) : Nat → Int → Option (Unit)
  | 0, _ => none
  | n + 1, y0_1 =>
    bnd (decide (y0_1 < (a1.length : Int))) fun x5 =>
    cond x5 ((ix a1 y0_1).bind fun x6 =>
    (ix a2 y0_1).bind fun x7 =>
    (d_ref04_SameInts n x6 x7).bind fun x8 =>
    bnd (!x8) fun x9 =>
    asrt (x9 = false) <|
    bnd (w64 (y0_1 + 1)) fun x10 =>
    d_ref04_sameLists_L0 a1 a2 n (x10 : Int)) (some ())
def d_ref04_sameLists (n : Nat) (a1 : List (List Int)) (a2 : List (List Int)) : Option (Bool) :=
bnd (decide ((a1.length : Int) ≠ (a2.length : Int))) fun x3 =>
asrt (x3 = false) <|
(show Option (Unit) from
d_ref04_sameLists_L0 a1 a2 n (0 : Int)).bind <| fun _ =>
some ((true : Bool))
theorem d_ref04_sameLists_c {n : Nat} {a1 : List (List Int)} {a2 : List (List Int)} {r : Bool} (h0 : d_ref04_sameLists n a1 a2 = some r) : PP Tryz.prog 51 [lst 1 (fL 1 fI) a1, lst 1 (fL 1 fI) a2] (fun y => y = boo r) := by
  unfold d_ref04_sameLists at h0
  refine pp_of_pc (R0 := fun y H => Cv (frzH H) y (boo r)) ?_ (fun y H hc => ⟨_, rfl, pvB r, hc⟩)
  refine pcw (c := _) Tryz.func51 rfl rfl ?_; intro Q hret hnorm
  refine tc tbk 8 (.mk ?_)
  refine sY (yv_len_sl rfl Tryz.underlying24 rfl (lst_len _)) ?_
  refine tr tbk 1 (.mk ?_)
  refine sY (yv_len_sl rfl Tryz.underlying24 rfl (lst_len _)) ?_
  refine nb tbk h0 fun x3 h0 => ?_
  refine tr tbk 1 (.mk ?_)
  replace h0 := asrt_e h0
  obtain ⟨rfl, h0⟩ := h0
  refine tc tbk 7 (.mk ?_)
  refine jn h0 [4] [] (fun (a : Unit) (k : Unit) => []) (fun a k => []) ⟨fun j4 h1 => ?_, ?_⟩
  refine tc tbk 1 (.mk ?_)
  refine lp (fun n (a : Int) => d_ref04_sameLists_L0 a1 a2 n a) (0 : Int) () h1 [0, 1, 4] [] (fun (a : Int) (k : Unit) => [(5, int a)]) (fun a k => []) (fun _ => rfl) ⟨leA, ?_⟩
  rintro n y0_1 _ hm h1
  replace h1 : d_ref04_sameLists_L0 a1 a2 (n + 1) y0_1 = some _ := h1
  rw [d_ref04_sameLists_L0] at h1
  refine tc tbk 5 (.mk ?_)
  refine sY (yv_len_sl rfl Tryz.underlying24 rfl (lst_len _)) ?_
  refine nb tbk h1 fun x5 h1 => ?_
  refine tr tbk 1 (.mk ?_)
  cases x5
  replace h1 := cf h1
  refine tc tbk 2 (.mk ?_)
  exact lf h1 () leA
  replace h1 := ct h1
  refine tc tbk 5 (.mk ?_)
  refine c_drawE [0, 0, 3, 7, 0, 0, 48, 112, 255, 511] (fun i => []) (fun i => []) (fun i => true) [0, 1, 2, 3, 4, 5, 6, 7, 8, 9] mixed (by kernel_rfl) ?_; intro K hK
  iterate 2 refine eM ?_
  obtain ⟨x6, e6, h1⟩ := bind_e h1
  refine eP (fun H hH => yv_ixT rfl Tryz.underlying24 sh23 rfl rfl e6) ?_
  refine eP (fun H hH => yv_load rfl sh23 rfl (.pp _) rfl) ?_
  iterate 2 refine eM ?_
  obtain ⟨x7, e7, h1⟩ := bind_e h1
  refine eP (fun H hH => yv_ixT rfl Tryz.underlying24 sh23 rfl rfl e7) ?_
  refine eP (fun H hH => yv_load rfl sh23 rfl (.pp _) rfl) ?_
  obtain ⟨x8, e8, h1⟩ := bind_e h1
  refine eP (fun H hH => yv_callP rfl rfl (.cons rfl (.cons rfl .nil)) cal50 (CvL.refl _) (d_ref04_SameInts_c e8)) ?_
  obtain ⟨x9, e9, h1⟩ := bnd_e h1
  refine eP (fun H hH => yv_not rfl rfl e9) ?_
  refine de_nil (hK _ ?_)
  replace h1 := asrt_e h1
  obtain ⟨rfl, h1⟩ := h1
  refine tc tbk 5 (.mk ?_)
  refine ni tbk h1 fun x10 h1 => ?_
  refine tr tbk 2 (.mk ?_)
  exact bk x10 () h1 leA
  rintro _ _ h0
  refine tc tbk 4 (.mk ?_)
  obtain rfl := nxt_e h0
  refine wR hret (rT .nil) ?_
  exact .refl _
def d_ref04_Same (n : Nat) (a1 : GMaster) (a2 : GMaster) : Option (Bool) :=
(show Option (Bool) from
bnd (decide (a1.Entities = a2.Entities)) fun x6 =>
cond x6 (bnd (decide (a1.Periods = a2.Periods)) fun x7 =>
cond x7 ((d_ref04_SameInts n a1.Weights a2.Weights).bind fun x8 =>
cond x8 ((d_ref04_sameLists n a1.Methods a2.Methods).bind fun x9 =>
cond x9 ((d_ref04_sameLists n a1.Costs a2.Costs).bind fun x10 =>
some (x10 : Bool)) (some (false : Bool))) (some (false : Bool))) (some (false : Bool))) (some (false : Bool))).bind <| fun y0_1 =>
some ((y0_1 : Bool))
theorem d_ref04_Same_c {n : Nat} {a1 : GMaster} {a2 : GMaster} {r : Bool} (h0 : d_ref04_Same n a1 a2 = some r) : PP Tryz.prog 26 [.agg (GMaster.av a1), .agg (GMaster.av a2)] (fun y => y = boo r) := by
  unfold d_ref04_Same at h0
  refine pp_of_pc (R0 := fun y H => Cv (frzH H) y (boo r)) ?_ (fun y H hc => ⟨_, rfl, pvB r, hc⟩)
  refine pcw (c := _) Tryz.func26 rfl rfl ?_; intro Q hret hnorm
  refine tc tbk 2 (.mk ?_)
  refine sB 1 fun v3 => ?_
  refine sB 2 fun v4 => ?_
  refine tr tbk 3 (.mk ?_)
  refine jn h0 [] [] (fun (a : Bool) (k : Unit) => [(4, boo a)]) (fun a k => []) ⟨fun j5 h1 => ?_, ?_⟩
  refine tc tbk 5 (.mk ?_)
  refine nb tbk h1 fun x6 h1 => ?_
  refine tr tbk 1 (.mk ?_)
  cases x6
  replace h1 := cf h1
  refine tr tbk 29 (.mk ?_)
  exact lf h1 () leA
  replace h1 := ct h1
  refine tr tbk 4 (.mk ?_)
  refine nb tbk h1 fun x7 h1 => ?_
  refine tr tbk 2 (.mk ?_)
  cases x7
  replace h1 := cf h1
  refine tr tbk 22 (.mk ?_)
  exact lf h1 () leA
  replace h1 := ct h1
  refine tr tbk 4 (.mk ?_)
  obtain ⟨x8, e8, h1⟩ := bind_e h1
  refine sC cal50 (d_ref04_SameInts_c e8) ?_
  refine tr tbk 2 (.mk ?_)
  cases x8
  replace h1 := cf h1
  refine tr tbk 15 (.mk ?_)
  exact lf h1 () leA
  replace h1 := ct h1
  refine tr tbk 4 (.mk ?_)
  obtain ⟨x9, e9, h1⟩ := bind_e h1
  refine sC cal51 (d_ref04_sameLists_c e9) ?_
  refine tr tbk 2 (.mk ?_)
  cases x9
  replace h1 := cf h1
  refine tr tbk 8 (.mk ?_)
  exact lf h1 () leA
  replace h1 := ct h1
  refine tr tbk 4 (.mk ?_)
  obtain ⟨x10, e10, h1⟩ := bind_e h1
  refine sC cal51 (d_ref04_sameLists_c e10) ?_
  refine tr tbk 3 (.mk ?_)
  exact lf h1 () leA
  rintro y0_1 _ h0
  obtain rfl := nxt_e h0
  refine wR hret (rT .nil) ?_
  exact .refl _
def d_ref14_samePapers_L0 (a1 : GState) (a2 : GState) : Nat → Int → Option (Unit)
  | 0, _ => none
  | n + 1, y1_1 =>
    bnd (decide (y1_1 < (a1.Receipts.length : Int))) fun x10 =>
    cond x10 ((ix a1.Receipts y1_1).bind fun x11 =>
    (ix a2.Receipts y1_1).bind fun x12 =>
    bnd (!decide ((x11 : GReceipt) = (x12 : GReceipt))) fun x13 =>
    asrt (x13 = false) <|
    bnd (w64 (y1_1 + 1)) fun x14 =>
    d_ref14_samePapers_L0 a1 a2 n (x14 : Int)) (some ())
def d_ref14_samePapers_L1 (a1 : GState) : Nat → Option (Unit)
  | 0 => none
  | n + 1 =>
    bnd (decide (0 < (a1.Sales.length : Int))) fun x16 =>
    asrt (x16 = false) <|
    some ()
def d_ref14_samePapers_L2 (a1 : GState) : Nat → Option (Unit)
  | 0 => none
  | n + 1 =>
    bnd (decide (0 < (a1.Transits.length : Int))) fun x18 =>
    asrt (x18 = false) <|
    some ()
def d_ref14_samePapers (n : Nat) (a1 : GState) (a2 : GState) : Option (Bool) :=
(show Option (Bool) from
bnd (decide ((a1.Receipts.length : Int) ≠ (a2.Receipts.length : Int))) fun x6 =>
cond x6 (some (true : Bool)) (bnd (decide ((a1.Sales.length : Int) ≠ (a2.Sales.length : Int))) fun x7 =>
cond x7 (some (true : Bool)) (bnd (decide ((a1.Transits.length : Int) ≠ (a2.Transits.length : Int))) fun x8 =>
some (x8 : Bool)))).bind <| fun y0_1 =>
asrt (y0_1 = false) <|
(show Option (Unit) from
d_ref14_samePapers_L0 a1 a2 n (0 : Int)).bind <| fun _ =>
(show Option (Unit) from
d_ref14_samePapers_L1 a1 n).bind <| fun _ =>
(show Option (Unit) from
d_ref14_samePapers_L2 a1 n).bind <| fun _ =>
some ((true : Bool))
theorem d_ref14_samePapers_c {n : Nat} {a1 : GState} {a2 : GState} {r : Bool} (h0 : d_ref14_samePapers n a1 a2 = some r) : PP Tryz.prog 27 [.agg (GState.av a1), .agg (GState.av a2)] (fun y => y = boo r) := by
  unfold d_ref14_samePapers at h0
  refine pp_of_pc (R0 := fun y H => Cv (frzH H) y (boo r)) ?_ (fun y H hc => ⟨_, rfl, pvB r, hc⟩)
  refine pcw (c := _) Tryz.func27 rfl rfl ?_; intro Q hret hnorm
  refine tc tbk 2 (.mk ?_)
  refine sB 1 fun v3 => ?_
  refine sB 2 fun v4 => ?_
  refine tr tbk 4 (.mk ?_)
  refine jn h0 [2, 3, 4] [1, 2] (fun (a : Bool) (k : Unit) => [(32, boo a)]) (fun a k => []) ⟨fun j5 h1 => ?_, ?_⟩
  refine tc tbk 3 (.mk ?_)
  refine sY (yv_len_sl rfl Tryz.underlying28 rfl (lst_len _)) ?_
  refine tr tbk 2 (.mk ?_)
  refine sY (yv_len_sl rfl Tryz.underlying28 rfl (lst_len _)) ?_
  refine nb tbk h1 fun x6 h1 => ?_
  refine tr tbk 1 (.mk ?_)
  cases x6
  replace h1 := cf h1
  refine tr tbk 2 (.mk ?_)
  refine sY (yv_len_sl rfl Tryz.underlying29 rfl (lst_len _)) ?_
  refine tr tbk 2 (.mk ?_)
  refine sY (yv_len_sl rfl Tryz.underlying29 rfl (lst_len _)) ?_
  refine nb tbk h1 fun x7 h1 => ?_
  refine tr tbk 2 (.mk ?_)
  cases x7
  replace h1 := cf h1
  refine tr tbk 2 (.mk ?_)
  refine sY (yv_len_sl rfl Tryz.underlying30 rfl (lst_len _)) ?_
  refine tr tbk 2 (.mk ?_)
  refine sY (yv_len_sl rfl Tryz.underlying30 rfl (lst_len _)) ?_
  refine nb tbk h1 fun x8 h1 => ?_
  refine tr tbk 2 (.mk ?_)
  exact lf h1 () leA
  replace h1 := ct h1
  refine tr tbk 9 (.mk ?_)
  exact lf h1 () leA
  replace h1 := ct h1
  refine tr tbk 18 (.mk ?_)
  exact lf h1 () leA
  rintro y0_1 _ h0
  replace h0 := asrt_e h0
  obtain ⟨rfl, h0⟩ := h0
  refine tc tbk 7 (.mk ?_)
  refine jn h0 [2, 3, 4] [1, 2] (fun (a : Unit) (k : Unit) => []) (fun a k => []) ⟨fun j9 h1 => ?_, ?_⟩
  refine tc tbk 1 (.mk ?_)
  refine lp (fun n (a : Int) => d_ref14_samePapers_L0 a1 a2 n a) (0 : Int) () h1 [2, 3, 4] [1, 2] (fun (a : Int) (k : Unit) => [(5, int a)]) (fun a k => []) (fun _ => rfl) ⟨leA, ?_⟩
  rintro n y1_1 _ hm h1
  replace h1 : d_ref14_samePapers_L0 a1 a2 (n + 1) y1_1 = some _ := h1
  rw [d_ref14_samePapers_L0] at h1
  refine tc tbk 6 (.mk ?_)
  refine sY (yv_len_sl rfl Tryz.underlying28 rfl (lst_len _)) ?_
  refine nb tbk h1 fun x10 h1 => ?_
  refine tr tbk 1 (.mk ?_)
  cases x10
  replace h1 := cf h1
  refine tc tbk 2 (.mk ?_)
  exact lf h1 () leA
  replace h1 := ct h1
  refine tc tbk 5 (.mk ?_)
  refine c_drawE [0, 1, 0, 7, 15, 0, 32, 0, 224, 480, 1023] (rl [(0, [1]), (1, [1]), (5, [2]), (6, [2])] []) (fun i => [1, 2]) (fun i => true) [0, 1, 2, 3, 4, 5, 6, 7, 8, 9, 10] mixed (by kernel_rfl) ?_; intro K hK
  refine eF fo32_2 ?_
  refine eL sh28 ?_
  refine eM ?_
  obtain ⟨x11, e11, h1⟩ := bind_e h1
  refine eP (fun H hH => yv_ixT rfl Tryz.underlying28 sh49 rfl rfl e11) ?_
  refine eP (fun H hH => yv_load rfl sh49 rfl (.pp _) rfl) ?_
  refine eF fo32_2 ?_
  refine eL sh28 ?_
  refine eM ?_
  obtain ⟨x12, e12, h1⟩ := bind_e h1
  refine eP (fun H hH => yv_ixT rfl Tryz.underlying28 sh49 rfl rfl e12) ?_
  refine eP (fun H hH => yv_load rfl sh49 rfl (.pp _) rfl) ?_
  obtain ⟨x13, e13, h1⟩ := bnd_e h1
  refine eP (fun H hH => yv_aneq (r' := x13) rfl fl49 rfl rfl (.cons (.int Tryz.underlying3) sh3 (.cons (.int Tryz.underlying3) sh3 (.cons (.int Tryz.underlying3) sh3 (.cons (.int Tryz.underlying3) sh3 (.cons (.int Tryz.underlying3) sh3 (.cons (.int Tryz.underlying3) sh3 (.cons (.int Tryz.underlying3) sh3 (.cons (.int Tryz.underlying3) sh3 (.nil _))))))))) ((congrArg Bool.not (GReceipt.eqv (x11 : GReceipt) (x12 : GReceipt))).trans e13)) ?_
  refine de_nil (hK _ ?_)
  replace h1 := asrt_e h1
  obtain ⟨rfl, h1⟩ := h1
  refine tc tbk 5 (.mk ?_)
  refine ni tbk h1 fun x14 h1 => ?_
  refine tr tbk 2 (.mk ?_)
  exact bk x14 () h1 leA
  rintro _ _ h0
  refine tc tbk 5 (.mk ?_)
  refine jn h0 [2, 3, 4] [1, 2] (fun (a : Unit) (k : Unit) => []) (fun a k => []) ⟨fun j15 h1 => ?_, ?_⟩
  refine tc tbk 1 (.mk ?_)
  refine lp (fun n (a : Unit) => d_ref14_samePapers_L1 a1 n) () () h1 [2, 3, 4, 6] [1, 2] (fun (a : Unit) (k : Unit) => []) (fun a k => []) (fun _ => rfl) ⟨leA, ?_⟩
  rintro n _ _ hm h1
  replace h1 : d_ref14_samePapers_L1 a1 (n + 1) = some _ := h1
  rw [d_ref14_samePapers_L1] at h1
  refine tc tbk 6 (.mk ?_)
  refine sY (yv_len_sl rfl Tryz.underlying29 rfl (lst_len _)) ?_
  refine nb tbk h1 fun x16 h1 => ?_
  refine tr tbk 1 (.mk ?_)
  replace h1 := asrt_e h1
  obtain ⟨rfl, h1⟩ := h1
  refine tc tbk 2 (.mk ?_)
  exact lf h1 () leA
  rintro _ _ h0
  refine tc tbk 5 (.mk ?_)
  refine jn h0 [4] [] (fun (a : Unit) (k : Unit) => []) (fun a k => []) ⟨fun j17 h1 => ?_, ?_⟩
  refine tc tbk 1 (.mk ?_)
  refine lp (fun n (a : Unit) => d_ref14_samePapers_L2 a1 n) () () h1 [2, 3, 4, 7] [1, 2] (fun (a : Unit) (k : Unit) => []) (fun a k => []) (fun _ => rfl) ⟨leA, ?_⟩
  rintro n _ _ hm h1
  replace h1 : d_ref14_samePapers_L2 a1 (n + 1) = some _ := h1
  rw [d_ref14_samePapers_L2] at h1
  refine tc tbk 6 (.mk ?_)
  refine sY (yv_len_sl rfl Tryz.underlying30 rfl (lst_len _)) ?_
  refine nb tbk h1 fun x18 h1 => ?_
  refine tr tbk 1 (.mk ?_)
  replace h1 := asrt_e h1
  obtain ⟨rfl, h1⟩ := h1
  refine tc tbk 2 (.mk ?_)
  exact lf h1 () leA
  rintro _ _ h0
  refine tc tbk 4 (.mk ?_)
  obtain rfl := nxt_e h0
  refine wR hret (rT .nil) ?_
  exact .refl _
def d_ref09_Same_L0 (a1 : List GLayer) : Nat → Option (Unit)
  | 0 => none
  | n + 1 =>
    bnd (decide (0 < (a1.length : Int))) fun x5 =>
    asrt (x5 = false) <|
    some ()
def d_ref09_Same (n : Nat) (a1 : List GLayer) (a2 : List GLayer) : Option (Bool) :=
bnd (decide ((a1.length : Int) ≠ (a2.length : Int))) fun x3 =>
asrt (x3 = false) <|
(show Option (Unit) from
d_ref09_Same_L0 a1 n).bind <| fun _ =>
some ((true : Bool))
theorem d_ref09_Same_c {n : Nat} {a1 : List GLayer} {a2 : List GLayer} {r : Bool} (h0 : d_ref09_Same n a1 a2 = some r) : PP Tryz.prog 88 [lst 3 GLayer.av a1, lst 3 GLayer.av a2] (fun y => y = boo r) := by
  unfold d_ref09_Same at h0
  refine pp_of_pc (R0 := fun y H => Cv (frzH H) y (boo r)) ?_ (fun y H hc => ⟨_, rfl, pvB r, hc⟩)
  refine pcw (c := _) Tryz.func88 rfl rfl ?_; intro Q hret hnorm
  refine tc tbk 8 (.mk ?_)
  refine sY (yv_len_sl rfl Tryz.underlying79 rfl (lst_len _)) ?_
  refine tr tbk 1 (.mk ?_)
  refine sY (yv_len_sl rfl Tryz.underlying79 rfl (lst_len _)) ?_
  refine nb tbk h0 fun x3 h0 => ?_
  refine tr tbk 1 (.mk ?_)
  replace h0 := asrt_e h0
  obtain ⟨rfl, h0⟩ := h0
  refine tc tbk 7 (.mk ?_)
  refine jn h0 [4] [] (fun (a : Unit) (k : Unit) => []) (fun a k => []) ⟨fun j4 h1 => ?_, ?_⟩
  refine tc tbk 1 (.mk ?_)
  refine lp (fun n (a : Unit) => d_ref09_Same_L0 a1 n) () () h1 [0, 1, 4, 5] [] (fun (a : Unit) (k : Unit) => []) (fun a k => []) (fun _ => rfl) ⟨leA, ?_⟩
  rintro n _ _ hm h1
  replace h1 : d_ref09_Same_L0 a1 (n + 1) = some _ := h1
  rw [d_ref09_Same_L0] at h1
  refine tc tbk 5 (.mk ?_)
  refine sY (yv_len_sl rfl Tryz.underlying79 rfl (lst_len _)) ?_
  refine nb tbk h1 fun x5 h1 => ?_
  refine tr tbk 1 (.mk ?_)
  replace h1 := asrt_e h1
  obtain ⟨rfl, h1⟩ := h1
  refine tc tbk 2 (.mk ?_)
  exact lf h1 () leA
  rintro _ _ h0
  refine tc tbk 4 (.mk ?_)
  obtain rfl := nxt_e h0
  refine wR hret (rT .nil) ?_
  exact .refl _
def d_ref11_Same (n : Nat) (a1 : GPool) (a2 : GPool) : Option (Bool) :=
(show Option (Bool) from
(d_ref09_Same n a1.Layers a2.Layers).bind fun x6 =>
cond x6 (bnd (decide (a1.Pend.a0 = a2.Pend.a0)) fun x7 =>
cond x7 (bnd (decide (a1.Pend.a1 = a2.Pend.a1)) fun x8 =>
cond x8 (bnd (decide (a1.Pend.a2 = a2.Pend.a2)) fun x9 =>
some (x9 : Bool)) (some (false : Bool))) (some (false : Bool))) (some (false : Bool))).bind <| fun y0_1 =>
some ((y0_1 : Bool))
theorem d_ref11_Same_c {n : Nat} {a1 : GPool} {a2 : GPool} {r : Bool} (h0 : d_ref11_Same n a1 a2 = some r) : PP Tryz.prog 52 [.agg (GPool.av a1), .agg (GPool.av a2)] (fun y => y = boo r) := by
  unfold d_ref11_Same at h0
  refine pp_of_pc (R0 := fun y H => Cv (frzH H) y (boo r)) ?_ (fun y H hc => ⟨_, rfl, pvB r, hc⟩)
  refine pcw (c := _) Tryz.func52 rfl rfl ?_; intro Q hret hnorm
  refine tc tbk 2 (.mk ?_)
  refine sB 1 fun v3 => ?_
  refine sB 2 fun v4 => ?_
  refine tr tbk 3 (.mk ?_)
  refine jn h0 [] [] (fun (a : Bool) (k : Unit) => [(4, boo a)]) (fun a k => []) ⟨fun j5 h1 => ?_, ?_⟩
  refine tc tbk 5 (.mk ?_)
  obtain ⟨x6, e6, h1⟩ := bind_e h1
  refine sC cal88 (d_ref09_Same_c e6) ?_
  refine tr tbk 1 (.mk ?_)
  cases x6
  replace h1 := cf h1
  refine tr tbk 28 (.mk ?_)
  exact lf h1 () leA
  replace h1 := ct h1
  refine tr tbk 1 (.mk ?_)
  refine sY (yv_to (y := .pt 1 v3 0 1) (yv_indexAddrA rfl Tryz.underlying80 sh3 rfl rfl rfl rfl rfl (by decide)) rfl) ?_
  refine tr tbk 2 (.mk ?_)
  refine sY (yv_to (y := .pt 2 v4 0 1) (yv_indexAddrA rfl Tryz.underlying80 sh3 rfl rfl rfl rfl rfl (by decide)) rfl) ?_
  refine tr tbk 1 (.mk ?_)
  refine nb tbk h1 fun x7 h1 => ?_
  refine tr tbk 2 (.mk ?_)
  cases x7
  replace h1 := cf h1
  refine tr tbk 19 (.mk ?_)
  exact lf h1 () leA
  replace h1 := ct h1
  refine tr tbk 1 (.mk ?_)
  refine sY (yv_to (y := .pt 1 v3 0 2) (yv_indexAddrA rfl Tryz.underlying80 sh3 rfl rfl rfl rfl rfl (by decide)) rfl) ?_
  refine tr tbk 2 (.mk ?_)
  refine sY (yv_to (y := .pt 2 v4 0 2) (yv_indexAddrA rfl Tryz.underlying80 sh3 rfl rfl rfl rfl rfl (by decide)) rfl) ?_
  refine tr tbk 1 (.mk ?_)
  refine nb tbk h1 fun x8 h1 => ?_
  refine tr tbk 2 (.mk ?_)
  cases x8
  replace h1 := cf h1
  refine tr tbk 10 (.mk ?_)
  exact lf h1 () leA
  replace h1 := ct h1
  refine tr tbk 1 (.mk ?_)
  refine sY (yv_to (y := .pt 1 v3 0 3) (yv_indexAddrA rfl Tryz.underlying80 sh3 rfl rfl rfl rfl rfl (by decide)) rfl) ?_
  refine tr tbk 2 (.mk ?_)
  refine sY (yv_to (y := .pt 2 v4 0 3) (yv_indexAddrA rfl Tryz.underlying80 sh3 rfl rfl rfl rfl rfl (by decide)) rfl) ?_
  refine tr tbk 1 (.mk ?_)
  refine nb tbk h1 fun x9 h1 => ?_
  refine tr tbk 3 (.mk ?_)
  exact lf h1 () leA
  rintro y0_1 _ h0
  obtain rfl := nxt_e h0
  refine wR hret (rT .nil) ?_
  exact .refl _
def d_ref14_Numbers (a1 : GRoll) : Option (A11_Int) :=
some (((⟨a1.Open, a1.Bought, a1.Landed, a1.Arrived, a1.Returned, a1.Sold, a1.Shipped, a1.SentBack, a1.Scrapped, a1.Lost, a1.Revalued⟩ : A11_Int) : A11_Int))
theorem d_ref14_Numbers_c {a1 : GRoll} {r : A11_Int} (h0 : d_ref14_Numbers a1 = some r) : PP Tryz.prog 53 [.agg (GRoll.av a1)] (fun y => y = .agg (A11_Int.av r)) := by
  unfold d_ref14_Numbers at h0
  refine pp_of_pc (R0 := fun y H => Cv (frzH H) y (.agg (A11_Int.av r))) ?_ (fun y H hc => ⟨_, rfl, (fun (a : A11_Int) => PV.agg (A11_Int.pvc a)) r, hc⟩)
  refine pcw (c := _) Tryz.func53 rfl rfl ?_; intro Q hret hnorm
  refine tc tbk 2 (.mk ?_)
  refine sB 1 fun v2 => ?_
  refine sA 2 z108 fun v3 => ?_
  refine tr tbk 25 (.mk ?_)
  refine sY (yv_buildA (cs := [int a1.Open, int a1.Bought, int a1.Landed, int a1.Arrived, int a1.Returned, int a1.Sold, int a1.Shipped, int a1.SentBack, int a1.Scrapped, int a1.Lost, int a1.Revalued]) (ps := [(0, _), (1, _), (2, _), (3, _), (4, _), (5, _), (6, _), (7, _), (8, _), (9, _), (10, _)]) rfl Tryz.underlying108 sh3 z108 rfl (.cons rfl (.cons rfl (.cons rfl (.cons rfl (.cons rfl (.cons rfl (.cons rfl (.cons rfl (.cons rfl (.cons rfl (.cons rfl .nil))))))))))) (by kernel_rfl)) ?_
  refine sS ⟨108, 11, true, true, v3, [[int a1.Open, int a1.Bought, int a1.Landed, int a1.Arrived, int a1.Returned, int a1.Sold, int a1.Shipped, int a1.SentBack, int a1.Scrapped, int a1.Lost, int a1.Revalued]]⟩ sh108 ?_
  refine tr tbk 1 (.mk ?_)
  obtain rfl := nxt_e h0
  refine wR hret (rC sh108 .nil) ?_
  exact .refl _
mutual
def d_ref14_sameEnt_L0 (a1 : GEnt) (a2 : GEnt) : Nat → Int → Option (Unit)
  | 0, _ => none
  | n + 1, y1_1 =>
    bnd (decide (y1_1 < (a1.Pools.length : Int))) fun x12 =>
    cond x12 ((ix a1.Pools y1_1).bind fun x13 =>
    (ix a2.Pools y1_1).bind fun x14 =>
    (d_ref11_Same n x13 x14).bind fun x15 =>
    bnd (!x15) fun x16 =>
    asrt (x16 = false) <|
    bnd (w64 (y1_1 + 1)) fun x17 =>
    d_ref14_sameEnt_L0 a1 a2 n (x17 : Int)) (some ())
def d_ref14_sameEnt_L1 (a1 : GEnt) (a2 : GEnt) : Nat → Int → Option (Unit)
  | 0, _ => none
  | n + 1, y3_1 =>
    bnd (decide (y3_1 < (a1.Rolls.length : Int))) fun x19 =>
    cond x19 ((ix a1.Rolls y3_1).bind fun x20 =>
    (d_ref14_Numbers x20).bind fun x21 =>
    (ix a2.Rolls y3_1).bind fun x22 =>
    (d_ref14_Numbers x22).bind fun x23 =>
    bnd (!decide ((x21 : A11_Int) = (x23 : A11_Int))) fun x24 =>
    asrt (x24 = false) <|
    bnd (w64 (y3_1 + 1)) fun x25 =>
    d_ref14_sameEnt_L1 a1 a2 n (x25 : Int)) (some ())
def d_ref14_sameEnt_L2 (a1 : GEnt) (a2 : GEnt) : Nat → Int → Option (Unit)
  | 0, _ => none
  | n + 1, y5_1 =>
    bnd (decide (y5_1 < (a1.Ahead.length : Int))) fun x27 =>
    cond x27 ((ix a1.Ahead y5_1).bind fun x28 =>
    (ix a2.Ahead y5_1).bind fun x29 =>
    (d_ref14_sameEnt n x28 x29).bind fun x30 =>
    bnd (!x30) fun x31 =>
    asrt (x31 = false) <|
    bnd (w64 (y5_1 + 1)) fun x32 =>
    d_ref14_sameEnt_L2 a1 a2 n (x32 : Int)) (some ())
def d_ref14_sameEnt : Nat → GEnt → GEnt → Option (Bool)
  | 0, _, _ => none
  | n + 1, a1, a2 =>
    (show Option (Bool) from
    bnd (decide (a1.Now ≠ a2.Now)) fun x6 =>
    cond x6 (some (true : Bool)) (bnd (decide (a1.Closed ≠ a2.Closed)) fun x7 =>
    cond x7 (some (true : Bool)) (bnd (decide ((a1.Pools.length : Int) ≠ (a2.Pools.length : Int))) fun x8 =>
    cond x8 (some (true : Bool)) (bnd (decide ((a1.Rolls.length : Int) ≠ (a2.Rolls.length : Int))) fun x9 =>
    cond x9 (some (true : Bool)) (bnd (decide ((a1.Ahead.length : Int) ≠ (a2.Ahead.length : Int))) fun x10 =>
    some (x10 : Bool)))))).bind <| fun y0_1 =>
    asrt (y0_1 = false) <|
    (show Option (Unit) from
    d_ref14_sameEnt_L0 a1 a2 n (0 : Int)).bind <| fun _ =>
    (show Option (Unit) from
    d_ref14_sameEnt_L1 a1 a2 n (0 : Int)).bind <| fun _ =>
    (show Option (Unit) from
    d_ref14_sameEnt_L2 a1 a2 n (0 : Int)).bind <| fun _ =>
    (show Option (Bool) from
    (d_ref04_SameInts n a1.Bal a2.Bal).bind fun x34 =>
    cond x34 ((d_ref04_SameInts n a1.Prices a2.Prices).bind fun x35 =>
    cond x35 ((d_ref04_SameInts n a1.Down a2.Down).bind fun x36 =>
    some (x36 : Bool)) (some (false : Bool))) (some (false : Bool))).bind <| fun y7_1 =>
    some ((y7_1 : Bool))
end
theorem d_ref14_sameEnt_c {n : Nat} {a1 : GEnt} {a2 : GEnt} {r : Bool} (h0 : d_ref14_sameEnt n a1 a2 = some r) : PP Tryz.prog 28 [.agg [int a1.Now, boo a1.Closed, lst 4 GPool.av a1.Pools, lst 1 fI a1.Bal, lst 11 GRoll.av a1.Rolls, lst 1 fI a1.Prices, lst 1 fI a1.Down, lst 8 GEnt.av a1.Ahead], .agg [int a2.Now, boo a2.Closed, lst 4 GPool.av a2.Pools, lst 1 fI a2.Bal, lst 11 GRoll.av a2.Rolls, lst 1 fI a2.Prices, lst 1 fI a2.Down, lst 8 GEnt.av a2.Ahead]] (fun y => y = boo r) := by
  induction n using Nat.strongRecOn generalizing a1 a2 r with
  | ind n ih =>
    cases n with
    | zero => rw [d_ref14_sameEnt] at h0; cases h0
    | succ n =>
    have hN : n < n + 1 := Nat.lt_succ_self n
    rw [d_ref14_sameEnt] at h0
    refine pp_of_pc (R0 := fun y H => Cv (frzH H) y (boo r)) ?_ (fun y H hc => ⟨_, rfl, pvB r, hc⟩)
    refine pcw (c := _) Tryz.func28 rfl rfl ?_; intro Q hret hnorm
    refine tc tbk 2 (.mk ?_)
    refine sB 1 fun v3 => ?_
    refine sB 2 fun v4 => ?_
    refine tr tbk 4 (.mk ?_)
    refine jn h0 [2, 3, 4] [1, 2] (fun (a : Bool) (k : Unit) => [(46, boo a)]) (fun a k => []) ⟨fun j5 h1 => ?_, ?_⟩
    refine tc tbk 5 (.mk ?_)
    refine nb tbk h1 fun x6 h1 => ?_
    refine tr tbk 1 (.mk ?_)
    cases x6
    replace h1 := cf h1
    refine tr tbk 4 (.mk ?_)
    obtain ⟨x7, e7, h1⟩ := bnd_e h1
    refine sY (yv_to (y := boo x7) (yv_bneq rfl Tryz.underlying4 rfl rfl) (congrArg boo e7)) ?_
    refine tr tbk 2 (.mk ?_)
    cases x7
    replace h1 := cf h1
    refine tr tbk 2 (.mk ?_)
    refine sY (yv_len_sl rfl Tryz.underlying37 rfl (lst_len _)) ?_
    refine tr tbk 2 (.mk ?_)
    refine sY (yv_len_sl rfl Tryz.underlying37 rfl (lst_len _)) ?_
    refine nb tbk h1 fun x8 h1 => ?_
    refine tr tbk 2 (.mk ?_)
    cases x8
    replace h1 := cf h1
    refine tr tbk 2 (.mk ?_)
    refine sY (yv_len_sl rfl Tryz.underlying38 rfl (lst_len _)) ?_
    refine tr tbk 2 (.mk ?_)
    refine sY (yv_len_sl rfl Tryz.underlying38 rfl (lst_len _)) ?_
    refine nb tbk h1 fun x9 h1 => ?_
    refine tr tbk 2 (.mk ?_)
    cases x9
    replace h1 := cf h1
    refine tr tbk 2 (.mk ?_)
    refine sY (yv_len_sl rfl Tryz.underlying27 rfl (lst_len _)) ?_
    refine tr tbk 2 (.mk ?_)
    refine sY (yv_len_sl rfl Tryz.underlying27 rfl (lst_len _)) ?_
    refine nb tbk h1 fun x10 h1 => ?_
    refine tr tbk 2 (.mk ?_)
    exact lf h1 () leA
    replace h1 := ct h1
    refine tr tbk 9 (.mk ?_)
    exact lf h1 () leA
    replace h1 := ct h1
    refine tr tbk 18 (.mk ?_)
    exact lf h1 () leA
    replace h1 := ct h1
    refine tr tbk 27 (.mk ?_)
    exact lf h1 () leA
    replace h1 := ct h1
    refine tr tbk 34 (.mk ?_)
    exact lf h1 () leA
    rintro y0_1 _ h0
    replace h0 := asrt_e h0
    obtain ⟨rfl, h0⟩ := h0
    refine tc tbk 7 (.mk ?_)
    refine jn h0 [2, 3, 4] [1, 2] (fun (a : Unit) (k : Unit) => []) (fun a k => []) ⟨fun j11 h1 => ?_, ?_⟩
    refine tc tbk 1 (.mk ?_)
    refine lp (fun n (a : Int) => d_ref14_sameEnt_L0 a1 a2 n a) (0 : Int) () h1 [2, 3, 4] [1, 2] (fun (a : Int) (k : Unit) => [(5, int a)]) (fun a k => []) (fun _ => rfl) ⟨leA, ?_⟩
    rintro n y1_1 _ hm h1
    replace h1 : d_ref14_sameEnt_L0 a1 a2 (n + 1) y1_1 = some _ := h1
    replace hN := Nat.lt_trans (Nat.lt_of_succ_le hm) hN
    rw [d_ref14_sameEnt_L0] at h1
    refine tc tbk 6 (.mk ?_)
    refine sY (yv_len_sl rfl Tryz.underlying37 rfl (lst_len _)) ?_
    refine nb tbk h1 fun x12 h1 => ?_
    refine tr tbk 1 (.mk ?_)
    cases x12
    replace h1 := cf h1
    refine tc tbk 2 (.mk ?_)
    exact lf h1 () leA
    replace h1 := ct h1
    refine tc tbk 5 (.mk ?_)
    refine c_drawE [0, 1, 0, 7, 15, 0, 32, 0, 224, 480, 1023, 2047] (fun i => bif Nat.beq i 0 then ([1]) else bif Nat.beq i 1 then ([1]) else bif Nat.beq i 5 then ([2]) else bif Nat.beq i 6 then ([2]) else []) (fun i => [1, 2]) (fun i => true) [0, 1, 2, 3, 4, 5, 6, 7, 8, 9, 10, 11] mixed (by kernel_rfl) ?_; intro K hK
    refine de_pure rfl rfl rfl rfl (fun H hH => yv_fieldAddr rfl fo40_2 rfl (.pt ((hH _ (by decide)).trans rfl) rfl rfl) (.pt _ _ _ _ _)) ?_
    refine de_pure rfl rfl rfl rfl (fun H hH => yv_load rfl sh37 rfl (.pt ((hH _ (by decide)).trans rfl) rfl rfl) rfl) ?_
    refine de_pure rfl rfl rfl rfl (fun H hH => yv_move rfl rfl) ?_
    obtain ⟨x13, e13, h1⟩ := bind_e h1
    refine de_pure rfl rfl rfl rfl (fun H hH => yv_ixT rfl Tryz.underlying37 sh82 rfl rfl e13) ?_
    refine de_pure rfl rfl rfl rfl (fun H hH => yv_load rfl sh82 rfl (.pp _) rfl) ?_
    refine de_pure rfl rfl rfl rfl (fun H hH => yv_fieldAddr rfl fo40_2 rfl (.pt ((hH _ (by decide)).trans rfl) rfl rfl) (.pt _ _ _ _ _)) ?_
    refine de_pure rfl rfl rfl rfl (fun H hH => yv_load rfl sh37 rfl (.pt ((hH _ (by decide)).trans rfl) rfl rfl) rfl) ?_
    refine de_pure rfl rfl rfl rfl (fun H hH => yv_move rfl rfl) ?_
    obtain ⟨x14, e14, h1⟩ := bind_e h1
    refine de_pure rfl rfl rfl rfl (fun H hH => yv_ixT rfl Tryz.underlying37 sh82 rfl rfl e14) ?_
    refine de_pure rfl rfl rfl rfl (fun H hH => yv_load rfl sh82 rfl (.pp _) rfl) ?_
    obtain ⟨x15, e15, h1⟩ := bind_e h1
    refine de_pure rfl rfl rfl rfl (fun H hH => yv_callP rfl rfl (.cons rfl (.cons rfl .nil)) cal52 (CvL.refl _) (d_ref11_Same_c e15)) ?_
    obtain ⟨x16, e16, h1⟩ := bnd_e h1
    refine de_pure rfl rfl rfl rfl (fun H hH => yv_not rfl rfl e16) ?_
    refine de_nil (hK _ ?_)
    replace h1 := asrt_e h1
    obtain ⟨rfl, h1⟩ := h1
    refine tc tbk 5 (.mk ?_)
    refine ni tbk h1 fun x17 h1 => ?_
    refine tr tbk 2 (.mk ?_)
    exact bk x17 () h1 leA
    rintro _ _ h0
    refine tc tbk 5 (.mk ?_)
    refine jn h0 [2, 3, 4] [1, 2] (fun (a : Unit) (k : Unit) => []) (fun a k => []) ⟨fun j18 h1 => ?_, ?_⟩
    refine tc tbk 1 (.mk ?_)
    refine lp (fun n (a : Int) => d_ref14_sameEnt_L1 a1 a2 n a) (0 : Int) () h1 [2, 3, 4] [1, 2] (fun (a : Int) (k : Unit) => [(6, int a)]) (fun a k => []) (fun _ => rfl) ⟨leA, ?_⟩
    rintro n y3_1 _ hm h1
    replace h1 : d_ref14_sameEnt_L1 a1 a2 (n + 1) y3_1 = some _ := h1
    replace hN := Nat.lt_trans (Nat.lt_of_succ_le hm) hN
    rw [d_ref14_sameEnt_L1] at h1
    refine tc tbk 6 (.mk ?_)
    refine sY (yv_len_sl rfl Tryz.underlying38 rfl (lst_len _)) ?_
    refine nb tbk h1 fun x19 h1 => ?_
    refine tr tbk 1 (.mk ?_)
    cases x19
    replace h1 := cf h1
    refine tc tbk 2 (.mk ?_)
    exact lf h1 () leA
    replace h1 := ct h1
    refine tc tbk 5 (.mk ?_)
    refine c_drawE [0, 1, 0, 7, 15, 31, 0, 64, 0, 448, 960, 2047, 4095] (fun i => bif Nat.beq i 0 then ([1]) else bif Nat.beq i 1 then ([1]) else bif Nat.beq i 6 then ([2]) else bif Nat.beq i 7 then ([2]) else []) (fun i => [1, 2]) (fun i => true) [0, 1, 2, 3, 4, 5, 6, 7, 8, 9, 10, 11, 12] mixed (by kernel_rfl) ?_; intro K hK
    refine de_pure rfl rfl rfl rfl (fun H hH => yv_fieldAddr rfl fo40_4 rfl (.pt ((hH _ (by decide)).trans rfl) rfl rfl) (.pt _ _ _ _ _)) ?_
    refine de_pure rfl rfl rfl rfl (fun H hH => yv_load rfl sh38 rfl (.pt ((hH _ (by decide)).trans rfl) rfl rfl) rfl) ?_
    refine de_pure rfl rfl rfl rfl (fun H hH => yv_move rfl rfl) ?_
    obtain ⟨x20, e20, h1⟩ := bind_e h1
    refine de_pure rfl rfl rfl rfl (fun H hH => yv_ixT rfl Tryz.underlying38 sh67 rfl rfl e20) ?_
    refine de_pure rfl rfl rfl rfl (fun H hH => yv_load rfl sh67 rfl (.pp _) rfl) ?_
    obtain ⟨x21, e21, h1⟩ := bind_e h1
    refine de_pure rfl rfl rfl rfl (fun H hH => yv_callP rfl rfl (.cons rfl .nil) cal53 (CvL.refl _) (d_ref14_Numbers_c e21)) ?_
    refine de_pure rfl rfl rfl rfl (fun H hH => yv_fieldAddr rfl fo40_4 rfl (.pt ((hH _ (by decide)).trans rfl) rfl rfl) (.pt _ _ _ _ _)) ?_
    refine de_pure rfl rfl rfl rfl (fun H hH => yv_load rfl sh38 rfl (.pt ((hH _ (by decide)).trans rfl) rfl rfl) rfl) ?_
    refine de_pure rfl rfl rfl rfl (fun H hH => yv_move rfl rfl) ?_
    obtain ⟨x22, e22, h1⟩ := bind_e h1
    refine de_pure rfl rfl rfl rfl (fun H hH => yv_ixT rfl Tryz.underlying38 sh67 rfl rfl e22) ?_
    refine de_pure rfl rfl rfl rfl (fun H hH => yv_load rfl sh67 rfl (.pp _) rfl) ?_
    obtain ⟨x23, e23, h1⟩ := bind_e h1
    refine de_pure rfl rfl rfl rfl (fun H hH => yv_callP rfl rfl (.cons rfl .nil) cal53 (CvL.refl _) (d_ref14_Numbers_c e23)) ?_
    obtain ⟨x24, e24, h1⟩ := bnd_e h1
    refine de_pure rfl rfl rfl rfl (fun H hH => yv_arneq (r' := x24) rfl Tryz.underlying108 sz3 c3 (by decide) rfl rfl (.cons (.int Tryz.underlying3) sh3 (.cons (.int Tryz.underlying3) sh3 (.cons (.int Tryz.underlying3) sh3 (.cons (.int Tryz.underlying3) sh3 (.cons (.int Tryz.underlying3) sh3 (.cons (.int Tryz.underlying3) sh3 (.cons (.int Tryz.underlying3) sh3 (.cons (.int Tryz.underlying3) sh3 (.cons (.int Tryz.underlying3) sh3 (.cons (.int Tryz.underlying3) sh3 (.cons (.int Tryz.underlying3) sh3 (.nil _)))))))))))) ((congrArg Bool.not (A11_Int.eqv (x21 : A11_Int) (x23 : A11_Int))).trans e24)) ?_
    refine de_nil (hK _ ?_)
    replace h1 := asrt_e h1
    obtain ⟨rfl, h1⟩ := h1
    refine tc tbk 5 (.mk ?_)
    refine ni tbk h1 fun x25 h1 => ?_
    refine tr tbk 2 (.mk ?_)
    exact bk x25 () h1 leA
    rintro _ _ h0
    refine tc tbk 5 (.mk ?_)
    refine jn h0 [2, 3, 4] [1, 2] (fun (a : Unit) (k : Unit) => []) (fun a k => []) ⟨fun j26 h1 => ?_, ?_⟩
    refine tc tbk 1 (.mk ?_)
    refine lp (fun n (a : Int) => d_ref14_sameEnt_L2 a1 a2 n a) (0 : Int) () h1 [2, 3, 4] [1, 2] (fun (a : Int) (k : Unit) => [(7, int a)]) (fun a k => []) (fun _ => rfl) ⟨leA, ?_⟩
    rintro n y5_1 _ hm h1
    replace h1 : d_ref14_sameEnt_L2 a1 a2 (n + 1) y5_1 = some _ := h1
    replace hN := Nat.lt_trans (Nat.lt_of_succ_le hm) hN
    rw [d_ref14_sameEnt_L2] at h1
    refine tc tbk 6 (.mk ?_)
    refine sY (yv_len_sl rfl Tryz.underlying27 rfl (lst_len _)) ?_
    refine nb tbk h1 fun x27 h1 => ?_
    refine tr tbk 1 (.mk ?_)
    cases x27
    replace h1 := cf h1
    refine tc tbk 2 (.mk ?_)
    exact lf h1 () leA
    replace h1 := ct h1
    refine tc tbk 5 (.mk ?_)
    refine c_drawE [0, 1, 0, 7, 15, 0, 32, 0, 224, 480, 1023, 2047] (fun i => bif Nat.beq i 0 then ([1]) else bif Nat.beq i 1 then ([1]) else bif Nat.beq i 5 then ([2]) else bif Nat.beq i 6 then ([2]) else []) (fun i => [1, 2]) (fun i => true) [0, 1, 2, 3, 4, 5, 6, 7, 8, 9, 10, 11] mixed (by kernel_rfl) ?_; intro K hK
    refine de_pure rfl rfl rfl rfl (fun H hH => yv_fieldAddr rfl fo40_7 rfl (.pt ((hH _ (by decide)).trans rfl) rfl rfl) (.pt _ _ _ _ _)) ?_
    refine de_pure rfl rfl rfl rfl (fun H hH => yv_load rfl sh27 rfl (.pt ((hH _ (by decide)).trans rfl) rfl rfl) rfl) ?_
    refine de_pure rfl rfl rfl rfl (fun H hH => yv_move rfl rfl) ?_
    obtain ⟨x28, e28, h1⟩ := bind_e h1
    refine de_pure rfl rfl rfl rfl (fun H hH => yv_to (y := .pp [int x28.Now, boo x28.Closed, lst 4 GPool.av x28.Pools, lst 1 fI x28.Bal, lst 11 GRoll.av x28.Rolls, lst 1 fI x28.Prices, lst 1 fI x28.Down, lst 8 GEnt.av x28.Ahead]) (yv_ixT rfl Tryz.underlying27 sh40 rfl rfl e28) (congrArg AV.pp (GEnt.av_eq x28))) ?_
    refine de_pure rfl rfl rfl rfl (fun H hH => yv_load rfl sh40 rfl (.pp _) rfl) ?_
    refine de_pure rfl rfl rfl rfl (fun H hH => yv_fieldAddr rfl fo40_7 rfl (.pt ((hH _ (by decide)).trans rfl) rfl rfl) (.pt _ _ _ _ _)) ?_
    refine de_pure rfl rfl rfl rfl (fun H hH => yv_load rfl sh27 rfl (.pt ((hH _ (by decide)).trans rfl) rfl rfl) rfl) ?_
    refine de_pure rfl rfl rfl rfl (fun H hH => yv_move rfl rfl) ?_
    obtain ⟨x29, e29, h1⟩ := bind_e h1
    refine de_pure rfl rfl rfl rfl (fun H hH => yv_to (y := .pp [int x29.Now, boo x29.Closed, lst 4 GPool.av x29.Pools, lst 1 fI x29.Bal, lst 11 GRoll.av x29.Rolls, lst 1 fI x29.Prices, lst 1 fI x29.Down, lst 8 GEnt.av x29.Ahead]) (yv_ixT rfl Tryz.underlying27 sh40 rfl rfl e29) (congrArg AV.pp (GEnt.av_eq x29))) ?_
    refine de_pure rfl rfl rfl rfl (fun H hH => yv_load rfl sh40 rfl (.pp _) rfl) ?_
    obtain ⟨x30, e30, h1⟩ := bind_e h1
    refine de_pure rfl rfl rfl rfl (fun H hH => yv_callP rfl rfl (.cons rfl (.cons rfl .nil)) cal28 (CvL.refl _) (ih _ hN e30)) ?_
    obtain ⟨x31, e31, h1⟩ := bnd_e h1
    refine de_pure rfl rfl rfl rfl (fun H hH => yv_not rfl rfl e31) ?_
    refine de_nil (hK _ ?_)
    replace h1 := asrt_e h1
    obtain ⟨rfl, h1⟩ := h1
    refine tc tbk 5 (.mk ?_)
    refine ni tbk h1 fun x32 h1 => ?_
    refine tr tbk 2 (.mk ?_)
    exact bk x32 () h1 leA
    rintro _ _ h0
    refine tc tbk 1 (.mk ?_)
    refine jn h0 [] [] (fun (a : Bool) (k : Unit) => [(4, boo a)]) (fun a k => []) ⟨fun j33 h1 => ?_, ?_⟩
    refine tc tbk 5 (.mk ?_)
    obtain ⟨x34, e34, h1⟩ := bind_e h1
    refine sC cal50 (d_ref04_SameInts_c e34) ?_
    refine tr tbk 1 (.mk ?_)
    cases x34
    replace h1 := cf h1
    refine tr tbk 15 (.mk ?_)
    exact lf h1 () leA
    replace h1 := ct h1
    refine tr tbk 4 (.mk ?_)
    obtain ⟨x35, e35, h1⟩ := bind_e h1
    refine sC cal50 (d_ref04_SameInts_c e35) ?_
    refine tr tbk 2 (.mk ?_)
    cases x35
    replace h1 := cf h1
    refine tr tbk 8 (.mk ?_)
    exact lf h1 () leA
    replace h1 := ct h1
    refine tr tbk 4 (.mk ?_)
    obtain ⟨x36, e36, h1⟩ := bind_e h1
    refine sC cal50 (d_ref04_SameInts_c e36) ?_
    refine tr tbk 3 (.mk ?_)
    exact lf h1 () leA
    rintro y7_1 _ h0
    obtain rfl := nxt_e h0
    refine wR hret (rT .nil) ?_
    exact .refl _
def d_ref14_Same_L0 (a1 : GState) (a2 : GState) : Nat → Int → Option (Unit)
  | 0, _ => none
  | n + 1, y1_1 =>
    bnd (decide (y1_1 < (a1.Ents.length : Int))) fun x13 =>
    cond x13 ((ix a1.Ents y1_1).bind fun x14 =>
    (ix a2.Ents y1_1).bind fun x15 =>
    (d_ref14_sameEnt n x14 x15).bind fun x16 =>
    bnd (!x16) fun x17 =>
    asrt (x17 = false) <|
    bnd (w64 (y1_1 + 1)) fun x18 =>
    d_ref14_Same_L0 a1 a2 n (x18 : Int)) (some ())
def d_ref14_Same (n : Nat) (a1 : GState) (a2 : GState) : Option (Bool) :=
(show Option (Bool) from
(d_ref04_Same n a1.Master a2.Master).bind fun x6 =>
bnd (!x6) fun x7 =>
cond x7 (some (true : Bool)) (bnd (decide ((a1.Ents.length : Int) ≠ (a2.Ents.length : Int))) fun x8 =>
cond x8 (some (true : Bool)) (bnd (decide (a1.Done ≠ a2.Done)) fun x9 =>
cond x9 (some (true : Bool)) ((d_ref14_samePapers n a1 a2).bind fun x10 =>
bnd (!x10) fun x11 =>
some (x11 : Bool))))).bind <| fun y0_1 =>
asrt (y0_1 = false) <|
(show Option (Unit) from
d_ref14_Same_L0 a1 a2 n (0 : Int)).bind <| fun _ =>
some ((true : Bool))
theorem d_ref14_Same_c {n : Nat} {a1 : GState} {a2 : GState} {r : Bool} (h0 : d_ref14_Same n a1 a2 = some r) : PP Tryz.prog 9 [.agg (GState.av a1), .agg (GState.av a2)] (fun y => y = boo r) := by
  unfold d_ref14_Same at h0
  refine pp_of_pc (R0 := fun y H => Cv (frzH H) y (boo r)) ?_ (fun y H hc => ⟨_, rfl, pvB r, hc⟩)
  refine pcw (c := _) Tryz.func9 rfl rfl ?_; intro Q hret hnorm
  refine tc tbk 2 (.mk ?_)
  refine sB 1 fun v3 => ?_
  refine sB 2 fun v4 => ?_
  refine tr tbk 4 (.mk ?_)
  refine jn h0 [2, 3, 4] [1, 2] (fun (a : Bool) (k : Unit) => [(33, boo a)]) (fun a k => []) ⟨fun j5 h1 => ?_, ?_⟩
  refine tc tbk 5 (.mk ?_)
  obtain ⟨x6, e6, h1⟩ := bind_e h1
  refine sC cal26 (d_ref04_Same_c e6) ?_
  refine nb tbk h1 fun x7 h1 => ?_
  refine tr tbk 1 (.mk ?_)
  cases x7
  replace h1 := cf h1
  refine tr tbk 2 (.mk ?_)
  refine sY (yv_len_sl rfl Tryz.underlying27 rfl (lst_len _)) ?_
  refine tr tbk 2 (.mk ?_)
  refine sY (yv_len_sl rfl Tryz.underlying27 rfl (lst_len _)) ?_
  refine nb tbk h1 fun x8 h1 => ?_
  refine tr tbk 2 (.mk ?_)
  cases x8
  replace h1 := cf h1
  refine tr tbk 4 (.mk ?_)
  refine nb tbk h1 fun x9 h1 => ?_
  refine tr tbk 2 (.mk ?_)
  cases x9
  replace h1 := cf h1
  refine tr tbk 2 (.mk ?_)
  obtain ⟨x10, e10, h1⟩ := bind_e h1
  refine sC cal27 (d_ref14_samePapers_c e10) ?_
  refine nb tbk h1 fun x11 h1 => ?_
  refine tr tbk 2 (.mk ?_)
  exact lf h1 () leA
  replace h1 := ct h1
  refine tr tbk 6 (.mk ?_)
  exact lf h1 () leA
  replace h1 := ct h1
  refine tr tbk 13 (.mk ?_)
  exact lf h1 () leA
  replace h1 := ct h1
  refine tr tbk 22 (.mk ?_)
  exact lf h1 () leA
  rintro y0_1 _ h0
  replace h0 := asrt_e h0
  obtain ⟨rfl, h0⟩ := h0
  refine tc tbk 7 (.mk ?_)
  refine jn h0 [4] [] (fun (a : Unit) (k : Unit) => []) (fun a k => []) ⟨fun j12 h1 => ?_, ?_⟩
  refine tc tbk 1 (.mk ?_)
  refine lp (fun n (a : Int) => d_ref14_Same_L0 a1 a2 n a) (0 : Int) () h1 [2, 3, 4] [1, 2] (fun (a : Int) (k : Unit) => [(5, int a)]) (fun a k => []) (fun _ => rfl) ⟨leA, ?_⟩
  rintro n y1_1 _ hm h1
  replace h1 : d_ref14_Same_L0 a1 a2 (n + 1) y1_1 = some _ := h1
  rw [d_ref14_Same_L0] at h1
  refine tc tbk 6 (.mk ?_)
  refine sY (yv_len_sl rfl Tryz.underlying27 rfl (lst_len _)) ?_
  refine nb tbk h1 fun x13 h1 => ?_
  refine tr tbk 1 (.mk ?_)
  cases x13
  replace h1 := cf h1
  refine tc tbk 2 (.mk ?_)
  exact lf h1 () leA
  replace h1 := ct h1
  refine tc tbk 5 (.mk ?_)
  refine c_drawE [0, 1, 0, 7, 15, 0, 32, 0, 224, 480, 1023, 2047] (rl [(0, [1]), (1, [1]), (5, [2]), (6, [2])] []) (fun i => [1, 2]) (fun i => true) [0, 1, 2, 3, 4, 5, 6, 7, 8, 9, 10, 11] mixed (by kernel_rfl) ?_; intro K hK
  refine eF fo32_1 ?_
  refine eL sh27 ?_
  refine eM ?_
  obtain ⟨x14, e14, h1⟩ := bind_e h1
  refine eP (fun H hH => yv_to (y := .pp [int x14.Now, boo x14.Closed, lst 4 GPool.av x14.Pools, lst 1 fI x14.Bal, lst 11 GRoll.av x14.Rolls, lst 1 fI x14.Prices, lst 1 fI x14.Down, lst 8 GEnt.av x14.Ahead]) (yv_ixT rfl Tryz.underlying27 sh40 rfl rfl e14) (congrArg AV.pp (GEnt.av_eq x14))) ?_
  refine eP (fun H hH => yv_load rfl sh40 rfl (.pp _) rfl) ?_
  refine eF fo32_1 ?_
  refine eL sh27 ?_
  refine eM ?_
  obtain ⟨x15, e15, h1⟩ := bind_e h1
  refine eP (fun H hH => yv_to (y := .pp [int x15.Now, boo x15.Closed, lst 4 GPool.av x15.Pools, lst 1 fI x15.Bal, lst 11 GRoll.av x15.Rolls, lst 1 fI x15.Prices, lst 1 fI x15.Down, lst 8 GEnt.av x15.Ahead]) (yv_ixT rfl Tryz.underlying27 sh40 rfl rfl e15) (congrArg AV.pp (GEnt.av_eq x15))) ?_
  refine eP (fun H hH => yv_load rfl sh40 rfl (.pp _) rfl) ?_
  obtain ⟨x16, e16, h1⟩ := bind_e h1
  refine eP (fun H hH => yv_callP rfl rfl (.cons rfl (.cons rfl .nil)) cal28 (CvL.refl _) (d_ref14_sameEnt_c e16)) ?_
  obtain ⟨x17, e17, h1⟩ := bnd_e h1
  refine eP (fun H hH => yv_not rfl rfl e17) ?_
  refine de_nil (hK _ ?_)
  replace h1 := asrt_e h1
  obtain ⟨rfl, h1⟩ := h1
  refine tc tbk 5 (.mk ?_)
  refine ni tbk h1 fun x18 h1 => ?_
  refine tr tbk 2 (.mk ?_)
  exact bk x18 () h1 leA
  rintro _ _ h0
  refine tc tbk 4 (.mk ?_)
  obtain rfl := nxt_e h0
  refine wR hret (rT .nil) ?_
  exact .refl _
def d_ref04_Start_L1 (a1 : GMaster) : Nat → Int → (List Int) → Option ((List Int))
  | 0, _, _ => none
  | n + 1, y1_1, y1_2 =>
    bnd (decide (y1_1 < (a1.Weights.length : Int))) fun x29 =>
    cond x29 ((ix y1_2 y1_1).bind fun x30 =>
    bnd (y1_2.set (Int.toNat y1_1) ((-1) : Int)) fun x31 =>
    bnd (w64 (y1_1 + 1)) fun x32 =>
    d_ref04_Start_L1 a1 n (x32 : Int) (x31 : List Int)) (some (y1_2 : List Int))
def d_ref04_Start_L0 (a1 : GMaster) : Nat → Int → (List GEnt) → Option ((List GEnt))
  | 0, _, _ => none
  | n + 1, y0_1, y0_3 =>
    bnd (decide (y0_1 < a1.Entities)) fun x9 =>
    cond x9 ((show Option ((List GEnt)) from
    bnd (w64 ((a1.Weights.length : Int) * 2)) fun x11 =>
    asrt ((0 : Int) ≤ x11 ∧ (x11 : Int) ≤ 1048576) <|
    bnd (List.replicate (Int.toNat x11) ((⟨[], (⟨0, 0, 0⟩ : A3_Int)⟩ : GPool) : GPool)) fun x13 =>
    asrt ((0 : Int) ≤ 17 ∧ (17 : Int) ≤ 1048576) <|
    bnd (List.replicate (Int.toNat 17) (0 : Int)) fun x16 =>
    asrt ((0 : Int) ≤ (a1.Weights.length : Int) ∧ ((a1.Weights.length : Int) : Int) ≤ 1048576) <|
    bnd (List.replicate (Int.toNat (a1.Weights.length : Int)) ((⟨0, 0, 0, 0, 0, 0, 0, 0, 0, 0, 0⟩ : GRoll) : GRoll)) fun x19 =>
    asrt ((0 : Int) ≤ (a1.Weights.length : Int) ∧ ((a1.Weights.length : Int) : Int) ≤ 1048576) <|
    bnd (List.replicate (Int.toNat (a1.Weights.length : Int)) (0 : Int)) fun x22 =>
    asrt ((0 : Int) ≤ (a1.Weights.length : Int) ∧ ((a1.Weights.length : Int) : Int) ≤ 1048576) <|
    bnd (List.replicate (Int.toNat (a1.Weights.length : Int)) (0 : Int)) fun x25 =>
    (show Option ((List Int)) from
    d_ref04_Start_L1 a1 n (0 : Int) (x22 : List Int)).bind <| fun y2_1 =>
    bnd (y0_3 ++ [(⟨1, false, x13, x16, x19, y2_1, x25, []⟩ : GEnt)]) fun x33 =>
    asrt (x33.length ≤ 68719476736) <|
    some (x33 : List GEnt)).bind <| fun y3_2 =>
    bnd (w64 (y0_1 + 1)) fun x36 =>
    d_ref04_Start_L0 a1 n (x36 : Int) (y3_2 : List GEnt)) (some (y0_3 : List GEnt))
def d_ref04_Start (n : Nat) (a1 : GMaster) : Option (GState × Int) :=
(d_ref04_Check n a1).bind fun x4 =>
bnd (!x4) fun x5 =>
asrt (x5 = false) <|
(show Option ((List GEnt)) from
d_ref04_Start_L0 a1 n (0 : Int) (([] : List GEnt) : List GEnt)).bind <| fun y4_2 =>
some (((⟨a1, y4_2, [], [], [], 0⟩ : GState) : GState), (0 : Int))
theorem d_ref04_Start_c {n : Nat} {a1 : GMaster} {r : GState × Int} (h0 : d_ref04_Start n a1 = some r) : PP Tryz.prog 15 [.agg (GMaster.av a1)] (fun y => y = .tup [.agg (GState.av r.1), int r.2]) := by
  unfold d_ref04_Start at h0
  refine pp_of_pc (R0 := fun y H => Cv (frzH H) y (.tup [.agg (GState.av r.1), int r.2])) ?_ (fun y H hc => ⟨_, rfl, .tup (pvl2 ((fun (a : GState) => PV.agg (GState.pvc a)) (r.1)) (pvI (r.2))), hc⟩)
  refine pcw (c := _) Tryz.func15 rfl rfl ?_; intro Q hret hnorm
  refine tc tbk 2 (.mk ?_)
  refine sB 1 fun v2 => ?_
  refine sA 2 z32 fun v3 => ?_
  refine tr tbk 6 (.mk ?_)
  obtain ⟨x4, e4, h0⟩ := bind_e h0
  refine sC cal36 (d_ref04_Check_c e4) ?_
  refine nb tbk h0 fun x5 h0 => ?_
  refine tr tbk 1 (.mk ?_)
  replace h0 := asrt_e h0
  obtain ⟨rfl, h0⟩ := h0
  refine tc tbk 5 (.mk ?_)
  refine sY (yv_build (cs := [int a1.Entities, int a1.Periods, lst 1 fI a1.Weights, lst 1 (fL 1 fI) a1.Methods, lst 1 (fL 1 fI) a1.Costs, .sc (.slice none 0 0), .sc (.slice none 0 0), .sc (.slice none 0 0), .sc (.slice none 0 0), int 0]) (ps := [(0, _)]) rfl pl32 z32 rfl (.cons rfl .nil) (by kernel_rfl)) ?_
  refine sA 3 z32 fun v6 => ?_
  refine sS ⟨32, 10, true, true, v6, [[int a1.Entities, int a1.Periods, lst 1 fI a1.Weights, lst 1 (fL 1 fI) a1.Methods, lst 1 (fL 1 fI) a1.Costs, .sc (.slice none 0 0), .sc (.slice none 0 0), .sc (.slice none 0 0), .sc (.slice none 0 0), int 0]]⟩ sh32 ?_
  refine tr tbk 5 (.mk ?_)
  refine sY (yv_len_sl rfl Tryz.underlying23 rfl (lst_len _)) ?_
  refine tr tbk 7 (.mk ?_)
  refine jn h0 [2, 3, 4] [2] (fun (a : (List GEnt)) (k : Nat) => []) (fun a k => [(3, ⟨32, 10, true, true, v6, [[int a1.Entities, int a1.Periods, lst 1 fI a1.Weights, lst 1 (fL 1 fI) a1.Methods, lst 1 (fL 1 fI) a1.Costs, .sl 11 k 0 a.length, .sc (.slice none 0 0), .sc (.slice none 0 0), .sc (.slice none 0 0), int 0]]⟩), (11, ⟨40, 8, true, true, k, a.map GEnt.av⟩)]) ⟨fun j7 h1 => ?_, ?_⟩
  refine tc tbk 1 (.mk ?_)
  refine c_nilcell 3 0 5 11 40 8 (rows := fun v8 => [[int a1.Entities, int a1.Periods, lst 1 fI a1.Weights, lst 1 (fL 1 fI) a1.Methods, lst 1 (fL 1 fI) a1.Costs, .sl 11 v8 0 0, .sc (.slice none 0 0), .sc (.slice none 0 0), .sc (.slice none 0 0), int 0]]) rfl rfl rfl rfl (fun _ => rfl) ?_; intro v8
  refine lp (fun n (a : Int × (List GEnt)) => d_ref04_Start_L0 a1 n a.1 a.2) ((0 : Int), (([] : List GEnt) : List GEnt)) v8 h1 [1, 2, 3, 4, 5] [1, 2] (fun (a : Int × (List GEnt)) (k : Nat) => [(6, int a.1)]) (fun a k => [(3, ⟨32, 10, true, true, v6, [[int a1.Entities, int a1.Periods, lst 1 fI a1.Weights, lst 1 (fL 1 fI) a1.Methods, lst 1 (fL 1 fI) a1.Costs, .sl 11 k 0 a.2.length, .sc (.slice none 0 0), .sc (.slice none 0 0), .sc (.slice none 0 0), int 0]]⟩), (11, ⟨40, 8, true, true, k, a.2.map GEnt.av⟩)]) (fun _ => rfl) ⟨leA, ?_⟩
  rintro n ⟨y0_1, y0_3⟩ w0_2 hm h1
  replace h1 : d_ref04_Start_L0 a1 (n + 1) y0_1 y0_3 = some _ := h1
  rw [d_ref04_Start_L0] at h1
  refine tc tbk 6 (.mk ?_)
  refine nb tbk h1 fun x9 h1 => ?_
  refine tr tbk 1 (.mk ?_)
  cases x9
  replace h1 := cf h1
  refine tc tbk 2 (.mk ?_)
  exact lf h1 w0_2 leA
  replace h1 := ct h1
  refine tc tbk 3 (.mk ?_)
  refine jn h1 [1, 2, 3, 4, 5, 6] [1, 2] (fun (a : (List GEnt)) (k : Nat) => []) (fun a k => [(3, ⟨32, 10, true, true, v6, [[int a1.Entities, int a1.Periods, lst 1 fI a1.Weights, lst 1 (fL 1 fI) a1.Methods, lst 1 (fL 1 fI) a1.Costs, .sl 11 k 0 a.length, .sc (.slice none 0 0), .sc (.slice none 0 0), .sc (.slice none 0 0), int 0]]⟩), (11, ⟨40, 8, true, true, k, a.map GEnt.av⟩)]) ⟨fun j10 h2 => ?_, ?_⟩
  refine tc tbk 2 (.mk ?_)
  refine c_draw [0, 1, 3, 0, 0, 16, 0, 64, 0, 256, 1023, 0, 4095] (fun i k => bif Nat.beq i 12 then (Nat.beq k 4 || Nat.beq k 5 || Nat.beq k 6 || Nat.beq k 7 || Nat.beq k 8 || Nat.beq k 9) else false) (fun i => bif Nat.beq i 2 then (some 4) else bif Nat.beq i 3 then (some 5) else bif Nat.beq i 5 then (some 6) else bif Nat.beq i 7 then (some 7) else bif Nat.beq i 9 then (some 8) else bif Nat.beq i 11 then (some 9) else bif Nat.beq i 12 then (some 9) else none) mixed (by kernel_rfl) ?_; intro C K hK
  refine dg_pure rfl (fun H hH => yv_move rfl rfl) ?_
  obtain ⟨x11, e11, h2⟩ := bnd_e h2
  refine dg_pure rfl (fun H hH => yv_mul rfl rfl rfl e11) ?_
  obtain ⟨p12, h2⟩ := asrt_e h2
  obtain ⟨x13, e13, h2⟩ := bnd_e h2
  have lx13 : x13.length = (Int.toNat x11) := by rw [← e13]; exact List.length_replicate
  refine dg_eff rfl rfl (fun H hH => yl_one (yl_make 4 (g := GPool.av) (z0 := ((⟨[], (⟨0, 0, 0⟩ : A3_Int)⟩ : GPool) : GPool)) (.one _) rfl Tryz.underlying37 bz82 by82 rfl rfl rfl p12 (.cons (.nil _) (.cons (.sc _) (.cons (.sc _) (.cons (.sc _) .nil)))) e13)) ?_; generalize C + 2 = v14
  obtain ⟨p15, h2⟩ := asrt_e h2
  obtain ⟨x16, e16, h2⟩ := bnd_e h2
  have lx16 : x16.length = (Int.toNat 17) := by rw [← e16]; exact List.length_replicate
  refine dg_eff rfl rfl (fun H hH => yl_one (yl_make 5 (g := fI) (z0 := (0 : Int)) (.one _) rfl Tryz.underlying23 bz3 by3 rfl rfl rfl p15 (.cons (.sc _) .nil) e16)) ?_; generalize C + 3 = v17
  refine dg_pure rfl (fun H hH => yv_move rfl rfl) ?_
  obtain ⟨p18, h2⟩ := asrt_e h2
  obtain ⟨x19, e19, h2⟩ := bnd_e h2
  have lx19 : x19.length = (Int.toNat (a1.Weights.length : Int)) := by rw [← e19]; exact List.length_replicate
  refine dg_eff rfl rfl (fun H hH => yl_one (yl_make 6 (g := GRoll.av) (z0 := ((⟨0, 0, 0, 0, 0, 0, 0, 0, 0, 0, 0⟩ : GRoll) : GRoll)) (.one _) rfl Tryz.underlying38 bz67 by67 rfl rfl rfl p18 (.cons (.sc _) (.cons (.sc _) (.cons (.sc _) (.cons (.sc _) (.cons (.sc _) (.cons (.sc _) (.cons (.sc _) (.cons (.sc _) (.cons (.sc _) (.cons (.sc _) (.cons (.sc _) .nil))))))))))) e19)) ?_; generalize C + 5 = v20
  refine dg_pure rfl (fun H hH => yv_move rfl rfl) ?_
  obtain ⟨p21, h2⟩ := asrt_e h2
  obtain ⟨x22, e22, h2⟩ := bnd_e h2
  have lx22 : x22.length = (Int.toNat (a1.Weights.length : Int)) := by rw [← e22]; exact List.length_replicate
  refine dg_eff rfl rfl (fun H hH => yl_one (yl_make 7 (g := fI) (z0 := (0 : Int)) (.one _) rfl Tryz.underlying23 bz3 by3 rfl rfl rfl p21 (.cons (.sc _) .nil) e22)) ?_; generalize C + 7 = v23
  refine dg_pure rfl (fun H hH => yv_move rfl rfl) ?_
  obtain ⟨p24, h2⟩ := asrt_e h2
  obtain ⟨x25, e25, h2⟩ := bnd_e h2
  have lx25 : x25.length = (Int.toNat (a1.Weights.length : Int)) := by rw [← e25]; exact List.length_replicate
  refine dg_eff rfl rfl (fun H hH => yl_one (yl_make 8 (g := fI) (z0 := (0 : Int)) (.one _) rfl Tryz.underlying23 bz3 by3 rfl rfl rfl p24 (.cons (.sc _) .nil) e25)) ?_; generalize C + 9 = v26
  refine dg_pure rfl (fun H hH => yv_build (cs := [int 1, boo false, .sl 4 v14 0 (Int.toNat x11), .sl 5 v17 0 (Int.toNat 17), .sl 6 v20 0 (Int.toNat (a1.Weights.length : Int)), .sl 7 v23 0 (Int.toNat (a1.Weights.length : Int)), .sl 8 v26 0 (Int.toNat (a1.Weights.length : Int)), .sc (.slice none 0 0)]) (ps := [(0, _), (2, _), (3, _), (4, _), (5, _), (6, _)]) rfl pl40 z40 rfl (.cons rfl (.cons rfl (.cons rfl (.cons rfl (.cons rfl (.cons rfl .nil)))))) (by kernel_rfl)) ?_
  refine dg_eff rfl rfl (fun H hH => yl_alloc1 9 rfl z40 rfl) ?_; generalize C + 11 = v27
  refine dg_store rfl rfl rfl (fun H hH => yl_ob (ob' := (⟨40, 8, true, true, v27, [[int 1, boo false, .sl 4 v14 0 (Int.toNat x11), .sl 5 v17 0 (Int.toNat 17), .sl 6 v20 0 (Int.toNat (a1.Weights.length : Int)), .sl 7 v23 0 (Int.toNat (a1.Weights.length : Int)), .sl 8 v26 0 (Int.toNat (a1.Weights.length : Int)), .sc (.slice none 0 0)]]⟩ : AObj)) (yl_store rfl sh40 rfl rfl ((hH _ rfl).trans rfl) rfl rfl rfl rfl rfl rfl) rfl) ?_
  refine dg_nil (hK _ ?_)
  refine tc tbk 5 (.mk ?_)
  refine jn h2 [1, 2, 3, 4, 5, 6, 7] [1, 2, 3, 4, 5, 6, 8, 11] (fun (a : (List Int)) (k : Unit) => []) (fun a k => [(7, ⟨3, 1, true, true, v23, a.map fI⟩), (9, ⟨40, 8, true, true, v27, [[int 1, boo false, .sl 4 v14 0 (Int.toNat x11), .sl 5 v17 0 (Int.toNat 17), .sl 6 v20 0 (Int.toNat (a1.Weights.length : Int)), .sl 7 v23 0 a.length, .sl 8 v26 0 (Int.toNat (a1.Weights.length : Int)), .sc (.slice none 0 0)]]⟩)]) ⟨fun j28 h3 => ?_, ?_⟩
  refine tc tbk 1 (.mk ?_)
  refine lp (fun n (a : Int × (List Int)) => d_ref04_Start_L1 a1 n a.1 a.2) ((0 : Int), (x22 : List Int)) () h3 [1, 2, 3, 4, 5, 6, 7] [1, 2, 3, 4, 5, 6, 8, 11] (fun (a : Int × (List Int)) (k : Unit) => [(8, int a.1)]) (fun a k => [(7, ⟨3, 1, true, true, v23, a.2.map fI⟩), (9, ⟨40, 8, true, true, v27, [[int 1, boo false, .sl 4 v14 0 (Int.toNat x11), .sl 5 v17 0 (Int.toNat 17), .sl 6 v20 0 (Int.toNat (a1.Weights.length : Int)), .sl 7 v23 0 a.2.length, .sl 8 v26 0 (Int.toNat (a1.Weights.length : Int)), .sc (.slice none 0 0)]]⟩)]) (fun _ => rfl) ⟨leH_kn ⟨⟨_, rfl, (.refl _)⟩, ⟨_, rfl, (.refl _)⟩, ⟨_, rfl, (.refl _)⟩, ⟨_, rfl, (.refl _)⟩, ⟨_, rfl, (.refl _)⟩, ⟨_, rfl, (.refl _)⟩, ⟨_, rfl, (.refl _)⟩, ⟨_, rfl, (.refl _)⟩, trivial⟩ ⟨⟨_, rfl, (.refl _)⟩, ⟨_, rfl, ⟨rfl, (.cons (.cons (.refl _) (.cons (.refl _) (.cons (.refl _) (.cons (.refl _) (.cons (.refl _) (.cons (cv_slen (Eq.symm lx22)) (.cons (.refl _) (.cons (.refl _) .nil)))))))) .nil)⟩⟩, ⟨_, rfl, (.refl _)⟩, ⟨_, rfl, (.refl _)⟩, ⟨_, rfl, (.refl _)⟩, ⟨_, rfl, (.refl _)⟩, ⟨_, rfl, (.refl _)⟩, ⟨_, rfl, (.refl _)⟩, ⟨_, rfl, (.refl _)⟩, ⟨_, rfl, (.refl _)⟩, trivial⟩, ?_⟩
  rintro n ⟨y1_1, y1_2⟩ _ hm h3
  replace h3 : d_ref04_Start_L1 a1 (n + 1) y1_1 y1_2 = some _ := h3
  rw [d_ref04_Start_L1] at h3
  refine tc tbk 5 (.mk ?_)
  refine nb tbk h3 fun x29 h3 => ?_
  refine tr tbk 1 (.mk ?_)
  cases x29
  replace h3 := cf h3
  refine tc tbk 2 (.mk ?_)
  exact lf h3 () leA
  replace h3 := ct h3
  refine tc tbk 8 (.mk ?_)
  obtain ⟨x30, e30, h3⟩ := bind_e h3
  refine sY (yv_ixO rfl Tryz.underlying23 sh3 rfl rfl rfl rfl rfl (Eq.symm rfl) (List.length_map _) e30) ?_
  obtain ⟨x31, e31, h3⟩ := bnd_e h3
  have fx31 := ix_set e30 e31; have lx31 := len_setV e31 (rfl : y1_2.length = y1_2.length)
  refine rsstore rfl rfl (yl_ob (ob' := (⟨3, 1, true, true, v23, x31.map fI⟩ : AObj)) (yl_store rfl sh3 rfl rfl rfl rfl rfl (ix_get e30) rfl rfl rfl) (ob_eq (map_setV e31))) ?_
  refine tr tbk 4 (.mk ?_)
  refine ni tbk h3 fun x32 h3 => ?_
  refine tr tbk 2 (.mk ?_)
  exact bk (x32, x31) () h3 (leH_kn ⟨⟨_, rfl, (.refl _)⟩, ⟨_, rfl, (.refl _)⟩, ⟨_, rfl, (.refl _)⟩, ⟨_, rfl, (.refl _)⟩, ⟨_, rfl, (.refl _)⟩, ⟨_, rfl, (.refl _)⟩, ⟨_, rfl, (.refl _)⟩, ⟨_, rfl, (.refl _)⟩, trivial⟩ ⟨⟨_, rfl, (.refl _)⟩, ⟨_, rfl, ⟨rfl, (.cons (.cons (.refl _) (.cons (.refl _) (.cons (.refl _) (.cons (.refl _) (.cons (.refl _) (.cons (cv_slen (Eq.symm lx31)) (.cons (.refl _) (.cons (.refl _) .nil)))))))) .nil)⟩⟩, ⟨_, rfl, (.refl _)⟩, ⟨_, rfl, (.refl _)⟩, ⟨_, rfl, (.refl _)⟩, ⟨_, rfl, (.refl _)⟩, ⟨_, rfl, (.refl _)⟩, ⟨_, rfl, (.refl _)⟩, ⟨_, rfl, (.refl _)⟩, ⟨_, rfl, (.refl _)⟩, trivial⟩)
  rintro y2_1 _ h2
  refine tc tbk 4 (.mk ?_)
  refine sY (yv_buildSlice (ps := [(0, _)]) (rows := [[int 1, boo false, .sl 4 v14 0 (Int.toNat x11), .sl 5 v17 0 (Int.toNat 17), .sl 6 v20 0 (Int.toNat (a1.Weights.length : Int)), .sl 7 v23 0 y2_1.length, .sl 8 v26 0 (Int.toNat (a1.Weights.length : Int)), .sc (.slice none 0 0)]]) rfl Tryz.underlying27 bz40 (.cons rfl .nil) (by kernel_rfl) rfl rfl rfl) ?_
  obtain ⟨x33, e33, h2⟩ := bnd_e h2
  obtain ⟨p34, h2⟩ := asrt_e h2
  refine rse rfl rfl rfl (Yield.frz 4 rfl (Yield.frz 5 rfl (Yield.frz 6 rfl (Yield.frz 7 rfl (Yield.frz 8 rfl (yl_appT (g := GEnt.av) (l := y0_3) (m := [(⟨1, false, x13, x16, x19, y2_1, x25, []⟩ : GEnt)]) .any rfl Tryz.underlying27 bz40 by40 rfl rfl rfl rfl rfl rfl rfl rfl rfl rfl (Eq.symm rfl) (CvLL.list (ys := [GEnt.av (⟨1, false, x13, x16, x19, y2_1, x25, []⟩ : GEnt)]) (.cons (cvl_to (.cons (.refl _) (.cons (.refl _) (.cons (cv_lst rfl rfl rfl rfl rfl (Eq.symm lx13)) (.cons (cv_lst rfl rfl rfl rfl rfl (Eq.symm lx16)) (.cons (cv_lst rfl rfl rfl rfl rfl (Eq.symm lx19)) (.cons (cv_lst rfl rfl rfl rfl rfl (Eq.symm rfl)) (.cons (cv_lst rfl rfl rfl rfl rfl (Eq.symm lx25)) (.cons (.nil _) .nil)))))))) (GEnt.av_eq _)) .nil)) GEnt.one e33 p34)))))) ?_; rintro _ _ ⟨v35, -, rfl, rfl⟩
  refine tr tbk 1 (.mk ?_)
  refine sS ⟨32, 10, true, true, v6, [[int a1.Entities, int a1.Periods, lst 1 fI a1.Weights, lst 1 (fL 1 fI) a1.Methods, lst 1 (fL 1 fI) a1.Costs, .sl 11 v35 0 x33.length, .sc (.slice none 0 0), .sc (.slice none 0 0), .sc (.slice none 0 0), int 0]]⟩ sh27 ?_
  refine tr tbk 2 (.mk ?_)
  exact lf h2 v35 leA
  rintro y3_2 w3_1 h1
  refine tc tbk 2 (.mk ?_)
  refine ni tbk h1 fun x36 h1 => ?_
  refine tr tbk 2 (.mk ?_)
  exact bk (x36, y3_2) w3_1 h1 leA
  rintro y4_2 w4_1 h0
  refine tc tbk 3 (.mk ?_)
  refine sS ⟨32, 10, true, true, v3, [[int a1.Entities, int a1.Periods, lst 1 fI a1.Weights, lst 1 (fL 1 fI) a1.Methods, lst 1 (fL 1 fI) a1.Costs, .sl 11 w4_1 0 y4_2.length, .sc (.slice none 0 0), .sc (.slice none 0 0), .sc (.slice none 0 0), int 0]]⟩ sh32 ?_
  refine tr tbk 2 (.mk ?_)
  obtain rfl := nxt_e h0
  refine wR hret (rC sh32 (rT .nil)) ?_
  exact CvL.tup (.cons (CvL.agg (.cons (.refl _) (.cons (.refl _) (.cons (.refl _) (.cons (.refl _) (.cons (.refl _) (.cons (cv_lst rfl rfl rfl rfl rfl (Eq.symm rfl)) (.cons (.nil _) (.cons (.nil _) (.cons (.nil _) (.cons (.refl _) .nil))))))))))) (.cons (.refl _) .nil))
def d_law15_start_L0 : Nat → Int → (List (List Int)) → (List (List Int)) → Option ((List (List Int)) × (List (List Int)))
  | 0, _, _, _ => none
  | n + 1, y0_1, y0_4, y0_5 =>
    bnd (decide (y0_1 < 2)) fun x6 =>
    cond x6 (bnd (y0_4 ++ ([([1, 2, 3, 4] : List Int)] : List (List Int))) fun x7 =>
    asrt (x7.length ≤ 68719476736) <|
    bnd (y0_5 ++ ([([10, 10, 10, 10] : List Int)] : List (List Int))) fun x10 =>
    asrt (x10.length ≤ 68719476736) <|
    bnd (w64 (y0_1 + 1)) fun x13 =>
    d_law15_start_L0 n (x13 : Int) (x7 : List (List Int)) (x10 : List (List Int))) (some ((y0_4 : List (List Int)), (y0_5 : List (List Int))))
def d_law15_start (n : Nat)  : Option (GState) :=
(show Option ((List (List Int)) × (List (List Int))) from
d_law15_start_L0 n (0 : Int) (([] : List (List Int)) : List (List Int)) (([] : List (List Int)) : List (List Int))).bind <| p2 fun (y1_3 : List (List Int)) (y1_4 : List (List Int)) =>
(d_ref04_Start n (⟨2, 3, ([1, 2, 3, 0] : List Int), y1_3, y1_4⟩ : GMaster)).bind fun x14 =>
some ((x14.1 : GState))
theorem d_law15_start_c {n : Nat}  {r : GState} (h0 : d_law15_start n  = some r) : PP Tryz.prog 7 [] (fun y => y = .agg (GState.av r)) := by
  unfold d_law15_start at h0
  refine pp_of_pc (R0 := fun y H => Cv (frzH H) y (.agg (GState.av r))) ?_ (fun y H hc => ⟨_, rfl, (fun (a : GState) => PV.agg (GState.pvc a)) r, hc⟩)
  refine pcw (c := _) Tryz.func7 rfl rfl ?_; intro Q hret hnorm
  refine tc tbk 2 (.mk ?_)
  refine sA 1 z32 fun v1 => ?_
  refine tr tbk 3 (.mk ?_)
  refine sY (yv_to (y := lst 1 fI ([1, 2, 3, 0] : List Int)) (yv_buildSlice (ps := [(0, _), (1, _), (2, _), (3, _)]) (rows := [[int 1], [int 2], [int 3], [int 0]]) rfl Tryz.underlying23 bz3 (.cons rfl (.cons rfl (.cons rfl (.cons rfl .nil)))) (by kernel_rfl) rfl rfl rfl) rfl) ?_
  refine tr tbk 1 (.mk ?_)
  refine sA 2 z26 fun v2 => ?_
  refine sS ⟨26, 5, true, true, v2, [[int 2, int 3, lst 1 fI ([1, 2, 3, 0] : List Int), .sc (.slice none 0 0), .sc (.slice none 0 0)]]⟩ sh26 ?_
  refine tr tbk 6 (.mk ?_)
  refine jn h0 [0, 1] [1] (fun (a : (List (List Int)) × (List (List Int))) (k : Nat × Nat) => []) (fun a k => [(2, ⟨26, 5, true, true, v2, [[int 2, int 3, lst 1 fI ([1, 2, 3, 0] : List Int), .sl 5 k.1 0 a.1.length, .sl 6 k.2 0 a.2.length]]⟩), (5, ⟨23, 1, true, true, k.1, a.1.map (fL 1 fI)⟩), (6, ⟨23, 1, true, true, k.2, a.2.map (fL 1 fI)⟩)]) ⟨fun j3 h1 => ?_, ?_⟩
  refine tc tbk 1 (.mk ?_)
  refine c_nilcell 2 0 3 5 23 1 (rows := fun v4 => [[int 2, int 3, lst 1 fI ([1, 2, 3, 0] : List Int), .sl 5 v4 0 0, .sc (.slice none 0 0)]]) rfl rfl rfl rfl (fun _ => rfl) ?_; intro v4
  refine c_nilcell 2 0 4 6 23 1 (rows := fun v5 => [[int 2, int 3, lst 1 fI ([1, 2, 3, 0] : List Int), .sl 5 v4 0 0, .sl 6 v5 0 0]]) rfl rfl rfl rfl (fun _ => rfl) ?_; intro v5
  refine lp (fun n (a : Int × (List (List Int)) × (List (List Int))) => d_law15_start_L0 n a.1 a.2.1 a.2.2) ((0 : Int), (([] : List (List Int)) : List (List Int)), (([] : List (List Int)) : List (List Int))) (v4, v5) h1 [0, 1] [1] (fun (a : Int × (List (List Int)) × (List (List Int))) (k : Nat × Nat) => [(2, int a.1)]) (fun a k => [(2, ⟨26, 5, true, true, v2, [[int 2, int 3, lst 1 fI ([1, 2, 3, 0] : List Int), .sl 5 k.1 0 a.2.1.length, .sl 6 k.2 0 a.2.2.length]]⟩), (5, ⟨23, 1, true, true, k.1, a.2.1.map (fL 1 fI)⟩), (6, ⟨23, 1, true, true, k.2, a.2.2.map (fL 1 fI)⟩)]) (fun _ => rfl) ⟨leA, ?_⟩
  rintro n ⟨y0_1, y0_4, y0_5⟩ ⟨w0_2, w0_3⟩ hm h1
  replace h1 : d_law15_start_L0 (n + 1) y0_1 y0_4 y0_5 = some _ := h1
  rw [d_law15_start_L0] at h1
  refine tc tbk 4 (.mk ?_)
  refine nb tbk h1 fun x6 h1 => ?_
  refine tr tbk 1 (.mk ?_)
  cases x6
  replace h1 := cf h1
  refine tc tbk 2 (.mk ?_)
  exact lf h1 (w0_2, w0_3) leA
  replace h1 := ct h1
  refine tc tbk 4 (.mk ?_)
  refine c_drawE [0, 1, 0, 4, 15, 0, 32, 0, 128, 511, 127, 2047, 4095, 8191] (rl [(0, [2]), (1, [2]), (5, [2]), (6, [2]), (10, [2]), (12, [2])] []) (rl [(11, []), (13, [])] [2]) (rl [(4, false), (9, false), (11, false), (13, false)] true) [0, 1, 2, 3, 5, 6, 7, 8, 4, 10, 9, 11, 12, 13] mixed (by kernel_rfl) ?_; intro K hK
  refine eF fo26_3 ?_
  refine eL sh24 ?_
  refine eP (fun H hH => yv_to (y := lst 1 fI ([1, 2, 3, 4] : List Int)) (yv_buildSlice (ps := [(0, _), (1, _), (2, _), (3, _)]) (rows := [[int 1], [int 2], [int 3], [int 4]]) rfl Tryz.underlying23 bz3 (.cons rfl (.cons rfl (.cons rfl (.cons rfl .nil)))) (by kernel_rfl) rfl rfl rfl) rfl) ?_
  refine eP (fun H hH => yv_to (y := lst 1 (fL 1 fI) ([([1, 2, 3, 4] : List Int)] : List (List Int))) (yv_buildSlice (ps := [(0, _)]) (rows := [[lst 1 fI ([1, 2, 3, 4] : List Int)]]) rfl Tryz.underlying24 bz23 (.cons rfl .nil) (by kernel_rfl) rfl rfl rfl) rfl) ?_
  refine eF fo26_4 ?_
  refine eL sh24 ?_
  refine eP (fun H hH => yv_to (y := lst 1 fI ([10, 10, 10, 10] : List Int)) (yv_buildSlice (ps := [(0, _), (1, _), (2, _), (3, _)]) (rows := [[int 10], [int 10], [int 10], [int 10]]) rfl Tryz.underlying23 bz3 (.cons rfl (.cons rfl (.cons rfl (.cons rfl .nil)))) (by kernel_rfl) rfl rfl rfl) rfl) ?_
  refine eP (fun H hH => yv_to (y := lst 1 (fL 1 fI) ([([10, 10, 10, 10] : List Int)] : List (List Int))) (yv_buildSlice (ps := [(0, _)]) (rows := [[lst 1 fI ([10, 10, 10, 10] : List Int)]]) rfl Tryz.underlying24 bz23 (.cons rfl .nil) (by kernel_rfl) rfl rfl rfl) rfl) ?_
  obtain ⟨x7, e7, h1⟩ := bnd_e h1
  obtain ⟨p8, h1⟩ := asrt_e h1
  refine de_eff rfl rfl rfl rfl (yl_appT (g := (fL 1 fI)) (l := y0_4) (m := ([([1, 2, 3, 4] : List Int)] : List (List Int))) .any rfl Tryz.underlying24 bz23 by23 rfl rfl rfl rfl rfl rfl rfl rfl rfl rfl (Eq.symm rfl) (.refl _) (fun _ => rfl) e7 p8) (by rintro _ _ ⟨v9, -, rfl, rfl⟩; exact ⟨rfl, trivial⟩) ?_; rintro _ _ ⟨v9, -, rfl, rfl⟩
  refine eF fo26_3 ?_
  obtain ⟨x10, e10, h1⟩ := bnd_e h1
  obtain ⟨p11, h1⟩ := asrt_e h1
  refine de_eff rfl rfl rfl rfl (yl_appT (g := (fL 1 fI)) (l := y0_5) (m := ([([10, 10, 10, 10] : List Int)] : List (List Int))) .any rfl Tryz.underlying24 bz23 by23 rfl rfl rfl rfl rfl rfl rfl rfl rfl rfl (Eq.symm rfl) (.refl _) (fun _ => rfl) e10 p11) (by rintro _ _ ⟨v12, -, rfl, rfl⟩; exact ⟨rfl, trivial⟩) ?_; rintro _ _ ⟨v12, -, rfl, rfl⟩
  refine de_eff0 rfl rfl rfl rfl (Yield.weak (yl_ob (ob' := (⟨26, 5, true, true, v2, [[int 2, int 3, lst 1 fI ([1, 2, 3, 0] : List Int), .sl 5 v9 0 x7.length, .sl 6 w0_3 0 y0_5.length]]⟩ : AObj)) (yl_store rfl sh24 rfl rfl rfl rfl rfl rfl rfl rfl rfl) rfl) (fun _ h => h) (fun _ _ => trivial)) (by rintro _ _ ⟨rfl, rfl⟩; exact trivial) ?_; rintro _ _ ⟨rfl, rfl⟩
  refine eF fo26_4 ?_
  refine de_eff0 rfl rfl rfl rfl (Yield.weak (yl_ob (ob' := (⟨26, 5, true, true, v2, [[int 2, int 3, lst 1 fI ([1, 2, 3, 0] : List Int), .sl 5 v9 0 x7.length, .sl 6 v12 0 x10.length]]⟩ : AObj)) (yl_store rfl sh24 rfl rfl rfl rfl rfl rfl rfl rfl rfl) rfl) (fun _ h => h) (fun _ _ => trivial)) (by rintro _ _ ⟨rfl, rfl⟩; exact trivial) ?_; rintro _ _ ⟨rfl, rfl⟩
  refine de_nil (hK _ ?_)
  refine tc tbk 3 (.mk ?_)
  refine ni tbk h1 fun x13 h1 => ?_
  refine tr tbk 2 (.mk ?_)
  exact bk (x13, x7, x10) (v9, v12) h1 leA
  rintro ⟨y1_3, y1_4⟩ ⟨w1_1, w1_2⟩ h0
  replace h0 := p2_e h0
  refine tc tbk 3 (.mk ?_)
  obtain ⟨x14, e14, h0⟩ := bind_e h0
  refine rse rfl rfl rfl (Yield.frz 5 rfl (Yield.frz 6 rfl (Yield.weak (yv_callP rfl rfl (.cons rfl .nil) cal15 (.cons (CvL.agg (.cons (.refl _) (.cons (.refl _) (.cons (.refl _) (.cons (cv_lst rfl rfl rfl rfl rfl (Eq.symm rfl)) (.cons (cv_lst rfl rfl rfl rfl rfl (Eq.symm rfl)) .nil)))))) .nil) (d_ref04_Start_c e14)) (fun _ h => h) (fun _ h => h.elim)))) ?_; rintro _ _ ⟨rfl, rfl⟩
  refine tr tbk 3 (.mk ?_)
  refine sA 7 z32 fun v15 => ?_
  refine sS ⟨32, 10, true, true, v15, [(GState.av x14.1)]⟩ sh32 ?_
  refine tr tbk 5 (.mk ?_)
  refine sS ⟨32, 10, true, true, v1, [(GState.av x14.1)]⟩ sh32 ?_
  refine tr tbk 1 (.mk ?_)
  obtain rfl := nxt_e h0
  refine wR hret (rC sh32 .nil) ?_
  exact .refl _
def d_law15_awake (n : Nat)  : Option (Bool) :=
(d_law15_start n).bind fun x1 =>
(d_receive_Do n x1 (⟨1, 0, 0, 0, 0, 10, 100, 0, []⟩ : GOp)).bind fun x2 =>
(d_law15_start n).bind fun x4 =>
(d_receive_Do n x4 (⟨4, 0, 0, 0, 0, 1, 0, 0, []⟩ : GOp)).bind fun x5 =>
(show Option (Bool) from
bnd (decide (x2.2 = 0)) fun x8 =>
cond x8 (bnd (decide ((x2.1.Receipts.length : Int) = 1)) fun x9 =>
cond x9 (bnd (decide ((x2.1.Ents.length : Int) = 2)) fun x10 =>
cond x10 ((ix x2.1.Ents 0).bind fun x11 =>
(ix x11.Bal 0).bind fun x12 =>
bnd (decide (x12 = 100)) fun x13 =>
cond x13 ((ix x2.1.Ents 0).bind fun x14 =>
(ix x14.Bal 1).bind fun x15 =>
bnd (decide (x15 = (-100))) fun x16 =>
cond x16 (bnd (decide (x5.2 = 1)) fun x17 =>
some (x17 : Bool)) (some (false : Bool))) (some (false : Bool))) (some (false : Bool))) (some (false : Bool))) (some (false : Bool))).bind <| fun y0_1 =>
some ((y0_1 : Bool))
theorem d_law15_awake_c {n : Nat}  {r : Bool} (h0 : d_law15_awake n  = some r) : PP Tryz.prog 10 [] (fun y => y = boo r) := by
  unfold d_law15_awake at h0
  refine pp_of_pc (R0 := fun y H => Cv (frzH H) y (boo r)) ?_ (fun y H hc => ⟨_, rfl, pvB r, hc⟩)
  refine pcw (c := _) Tryz.func10 rfl rfl ?_; intro Q hret hnorm
  refine tc tbk 6 (.mk ?_)
  obtain ⟨x1, e1, h0⟩ := bind_e h0
  refine sC cal7 (d_law15_start_c e1) ?_
  refine sY (yv_build (cs := [int 1, int 0, int 0, int 0, int 0, int 10, int 100, int 0, .sc (.slice none 0 0)]) (ps := [(0, _), (5, _), (6, _)]) rfl pl35 z35 rfl (.cons rfl (.cons rfl (.cons rfl .nil))) (by kernel_rfl)) ?_
  obtain ⟨x2, e2, h0⟩ := bind_e h0
  refine sY (yv_callP rfl rfl (.cons rfl (.cons rfl .nil)) cal8 (.cons (.refl _) (.cons (CvL.agg (.cons (.refl _) (.cons (.refl _) (.cons (.refl _) (.cons (.refl _) (.cons (.refl _) (.cons (.refl _) (.cons (.refl _) (.cons (.refl _) (.cons (.nil _) .nil)))))))))) .nil)) (d_receive_Do_c e2)) ?_
  refine tr tbk 3 (.mk ?_)
  refine sA 1 z32 fun v3 => ?_
  refine sS ⟨32, 10, true, true, v3, [(GState.av x2.1)]⟩ sh32 ?_
  refine tr tbk 4 (.mk ?_)
  obtain ⟨x4, e4, h0⟩ := bind_e h0
  refine sC cal7 (d_law15_start_c e4) ?_
  refine sY (yv_build (cs := [int 4, int 0, int 0, int 0, int 0, int 1, int 0, int 0, .sc (.slice none 0 0)]) (ps := [(0, _), (5, _)]) rfl pl35 z35 rfl (.cons rfl (.cons rfl .nil)) (by kernel_rfl)) ?_
  obtain ⟨x5, e5, h0⟩ := bind_e h0
  refine sY (yv_callP rfl rfl (.cons rfl (.cons rfl .nil)) cal8 (.cons (.refl _) (.cons (CvL.agg (.cons (.refl _) (.cons (.refl _) (.cons (.refl _) (.cons (.refl _) (.cons (.refl _) (.cons (.refl _) (.cons (.refl _) (.cons (.refl _) (.cons (.nil _) .nil)))))))))) .nil)) (d_receive_Do_c e5)) ?_
  refine tr tbk 3 (.mk ?_)
  refine sA 2 z32 fun v6 => ?_
  refine sS ⟨32, 10, true, true, v6, [(GState.av x5.1)]⟩ sh32 ?_
  refine tr tbk 3 (.mk ?_)
  refine jn h0 [] [] (fun (a : Bool) (k : Unit) => [(0, boo a)]) (fun a k => []) ⟨fun j7 h1 => ?_, ?_⟩
  refine tc tbk 2 (.mk ?_)
  refine nb tbk h1 fun x8 h1 => ?_
  refine tr tbk 1 (.mk ?_)
  cases x8
  replace h1 := cf h1
  refine tr tbk 37 (.mk ?_)
  exact lf h1 () leA
  replace h1 := ct h1
  refine tr tbk 2 (.mk ?_)
  refine sY (yv_len_sl rfl Tryz.underlying28 rfl (lst_len _)) ?_
  refine nb tbk h1 fun x9 h1 => ?_
  refine tr tbk 2 (.mk ?_)
  cases x9
  replace h1 := cf h1
  refine tr tbk 31 (.mk ?_)
  exact lf h1 () leA
  replace h1 := ct h1
  refine tr tbk 2 (.mk ?_)
  refine sY (yv_len_sl rfl Tryz.underlying27 rfl (lst_len _)) ?_
  refine nb tbk h1 fun x10 h1 => ?_
  refine tr tbk 2 (.mk ?_)
  cases x10
  replace h1 := cf h1
  refine tr tbk 25 (.mk ?_)
  exact lf h1 () leA
  replace h1 := ct h1
  refine tr tbk 2 (.mk ?_)
  obtain ⟨x11, e11, h1⟩ := bind_e h1
  refine sY (yv_to (y := .pp [int x11.Now, boo x11.Closed, lst 4 GPool.av x11.Pools, lst 1 fI x11.Bal, lst 11 GRoll.av x11.Rolls, lst 1 fI x11.Prices, lst 1 fI x11.Down, lst 8 GEnt.av x11.Ahead]) (yv_ixT rfl Tryz.underlying27 sh40 rfl rfl e11) (congrArg AV.pp (GEnt.av_eq x11))) ?_
  refine tr tbk 2 (.mk ?_)
  obtain ⟨x12, e12, h1⟩ := bind_e h1
  refine sY (yv_ixT rfl Tryz.underlying23 sh3 rfl rfl e12) ?_
  refine tr tbk 1 (.mk ?_)
  refine nb tbk h1 fun x13 h1 => ?_
  refine tr tbk 2 (.mk ?_)
  cases x13
  replace h1 := cf h1
  refine tr tbk 15 (.mk ?_)
  exact lf h1 () leA
  replace h1 := ct h1
  refine tr tbk 2 (.mk ?_)
  obtain ⟨x14, e14, h1⟩ := bind_e h1
  refine sY (yv_to (y := .pp [int x14.Now, boo x14.Closed, lst 4 GPool.av x14.Pools, lst 1 fI x14.Bal, lst 11 GRoll.av x14.Rolls, lst 1 fI x14.Prices, lst 1 fI x14.Down, lst 8 GEnt.av x14.Ahead]) (yv_ixT rfl Tryz.underlying27 sh40 rfl rfl e14) (congrArg AV.pp (GEnt.av_eq x14))) ?_
  refine tr tbk 2 (.mk ?_)
  obtain ⟨x15, e15, h1⟩ := bind_e h1
  refine sY (yv_ixT rfl Tryz.underlying23 sh3 rfl rfl e15) ?_
  refine tr tbk 1 (.mk ?_)
  refine nb tbk h1 fun x16 h1 => ?_
  refine tr tbk 2 (.mk ?_)
  cases x16
  replace h1 := cf h1
  refine tr tbk 5 (.mk ?_)
  exact lf h1 () leA
  replace h1 := ct h1
  refine tr tbk 1 (.mk ?_)
  refine nb tbk h1 fun x17 h1 => ?_
  refine tr tbk 3 (.mk ?_)
  exact lf h1 () leA
  rintro y0_1 _ h0
  obtain rfl := nxt_e h0
  refine wR hret (rT .nil) ?_
  exact .refl _
end Go.Pv
