import Derived.Test.YtkinibckmebacaaGreatK43b
set_option linter.unusedVariables false
namespace Go.Pv
open Go.Proofs
set_option maxRecDepth 10000
set_option maxHeartbeats 1000000
def d_receive_Do (n : Nat) (a1 : GState) (a2 : GOp) : Option (GState × Int) :=
bnd (decide (a2.Kind ≠ 1)) fun x6 =>
asrt (x6 = false) <|
(show Option (GState × Int) from
(show Option ((Int)) from
(d_stock_Ready a1 a2.E a2.Item).bind fun x13 =>
some (x13 : Int)).bind <| fun y0_1 =>
bnd (decide (y0_1 ≠ 0)) fun x14 =>
cond x14 (some ((a1 : GState), (y0_1 : Int))) ((show Option ((Unit)) from
bnd (decide ((a1.Receipts.length : Int) ≥ 40)) fun x16 =>
asrt (x16 = false) <|
some ()).bind <| fun _ =>
bnd (decide (y0_1 ≠ 0)) fun x17 =>
cond x17 (some ((a1 : GState), (y0_1 : Int))) ((show Option ((GState × Int × Int × Int)) from
(d_stock_Bring n a1 a2.E a2.Item a2.Loc (⟨a2.Qty, a2.Amount, 0⟩ : GLayer)).bind fun x19 =>
some ((x19.1 : GState), (x19.2.1 : Int), (x19.2.2.1 : Int), (x19.2.2.2 : Int))).bind <| p2 fun (y2_1 : GState) (q0 : Int × Int × Int) => (p2 fun (y2_2 : Int) (q1 : Int × Int) => (p2 fun (y2_3 : Int) (y2_4 : Int) =>
bnd (decide (y2_4 ≠ 0)) fun x20 =>
cond x20 (some ((y2_1 : GState), (y2_4 : Int))) ((show Option ((GState × Int)) from
bnd (w64 (0 - a2.Amount)) fun x22 =>
(d_stock_Post n y2_1 a2.E ([(⟨0, y2_2⟩ : GLine), (⟨6, y2_3⟩ : GLine), (⟨1, x22⟩ : GLine)] : List GLine)).bind fun x23 =>
some ((x23.1 : GState), (x23.2 : Int))).bind <| p2 fun (y3_1 : GState) (y3_2 : Int) =>
bnd (decide (y3_2 ≠ 0)) fun x24 =>
cond x24 (some ((y3_1 : GState), (y3_2 : Int))) ((show Option ((GState × Int)) from
(d_stock_Turn y3_1 a2.E a2.Item (⟨0, y2_2, 0, 0, 0, 0, 0, 0, 0, 0, 0⟩ : GRoll)).bind fun x26 =>
some ((x26.1 : GState), (x26.2 : Int))).bind <| p2 fun (y4_1 : GState) (y4_2 : Int) =>
bnd (decide (y4_2 ≠ 0)) fun x27 =>
cond x27 (some ((y4_1 : GState), (y4_2 : Int))) (some ((y4_1 : GState), (y4_2 : Int)))))) q1) q0))).bind <| p2 fun (y5_1 : GState) (y5_2 : Int) =>
bnd (decide (y5_2 ≠ 0)) fun x28 =>
asrt (x28 = false) <|
asrt (y5_1.Receipts.length ≤ 68719476736) <|
bnd (y5_1.Receipts ++ ([(⟨a2.E, a2.Item, a2.Loc, a2.Qty, a2.Amount, a2.Qty, a2.Amount, 0⟩ : GReceipt)] : List GReceipt)) fun x32 =>
asrt (x32.length ≤ 68719476736) <|
some (((⟨y5_1.Master, y5_1.Ents, x32, y5_1.Sales, y5_1.Transits, y5_1.Done⟩ : GState) : GState), (0 : Int))
theorem d_receive_Do_c {n : Nat} {a1 : GState} {a2 : GOp} {r : GState × Int} (h0 : d_receive_Do n a1 a2 = some r) : PP Tryz.prog 36 [.agg (GState.av a1), .agg (GOp.av a2)] (fun y => y = .tup [.agg (GState.av r.1), int r.2]) := by
  unfold d_receive_Do at h0
  refine pp_of_pc (R0 := fun y H => Cv (frzH H) y (.tup [.agg (GState.av r.1), int r.2])) ?_ (fun y H hc => ⟨_, rfl, .tup (pvl2 ((fun (a : GState) => PV.agg (GState.pvc a)) (r.1)) (pvI (r.2))), hc⟩)
  refine pcw (c := _) Tryz.func36 rfl rfl ?_; intro Q hret hnorm
  refine tc tbk 2 (.mk ?_)
  refine sB 1 fun v3 => ?_
  refine sB 2 fun v4 => ?_
  refine sA 3 z31 fun v5 => ?_
  refine tr tbk 8 (.mk ?_)
  refine nb tbk h0 fun x6 h0 => ?_
  refine tr tbk 1 (.mk ?_)
  replace h0 := asrt_e h0
  obtain ⟨rfl, h0⟩ := h0
  refine tc tbk 5 (.mk ?_)
  refine sA 4 z31 fun v7 => ?_
  refine sA 5 z3 fun v8 => ?_
  refine sA 6 z3 fun v9 => ?_
  refine sS ⟨31, 10, true, true, v7, [(GState.av a1)]⟩ sh31 ?_
  refine sS ⟨3, 1, true, true, v8, [[int 0]]⟩ sh3 ?_
  refine sS ⟨3, 1, true, true, v9, [[int 0]]⟩ sh3 ?_
  refine tr tbk 3 (.mk ?_)
  refine sA 7 z33 fun v10 => ?_
  refine tr tbk 8 (.mk ?_)
  refine sY (yv_buildSlice (ps := [(0, _), (1, _), (2, _), (3, _), (4, _)]) (rows := [[.fn (.func 70) [] [.pt 1 v3 0 0, .pt 2 v4 0 0, .pt 7 v10 0 0]], [.fn (.func 72) [] [.pt 1 v3 0 0, .pt 7 v10 0 0]], [.fn (.func 73) [] [.pt 1 v3 0 0, .pt 2 v4 0 0, .pt 4 v7 0 0, .pt 5 v8 0 0, .pt 6 v9 0 0, .pt 7 v10 0 0]], [.fn (.func 75) [] [.pt 4 v7 0 0, .pt 2 v4 0 0, .pt 5 v8 0 0, .pt 6 v9 0 0, .pt 7 v10 0 0]], [.fn (.func 77) [] [.pt 4 v7 0 0, .pt 2 v4 0 0, .pt 5 v8 0 0, .pt 7 v10 0 0]]]) rfl Tryz.underlying128 bz1 (.cons rfl (.cons rfl (.cons rfl (.cons rfl (.cons rfl .nil))))) (by kernel_rfl) rfl rfl rfl) ?_
  refine tr tbk 8 (.mk ?_)
  refine sY (yv_to (y := int 5) (yv_len_sl rfl Tryz.underlying128 rfl (.list _ _)) rfl) ?_
  refine tr tbk 2 (.mk ?_)
  refine jn h0 [2, 3, 4, 5, 6, 9] [1, 2, 3] (fun (a : GState × Int) (k : Unit) => []) (fun a k => [(4, ⟨31, 10, true, true, v7, [(GState.av a.1)]⟩), (7, ⟨33, 1, true, true, v10, [[int a.2]]⟩)]) ⟨fun j11 h1 => ?_, ?_⟩
  refine tc tbk 4 (.mk ?_)
  refine sY (yv_to (y := boo true) (yv_lss rfl rfl rfl) (congrArg boo (by decide))) ?_
  refine tr tbk 8 (.mk ?_)
  refine sY (yv_indexAddr (j := 0) rfl Tryz.underlying128 sh1 rfl rfl rfl (.list rfl)) ?_
  refine tr tbk 6 (.mk ?_)
  obtain ⟨j12, h2, h1⟩ := bind_e h1
  refine rse (Out := fun y H' => (∃ (a : Int) (k : Unit), a = j12 ∧ y = .tup [] ∧ H' = hk [(1, ⟨31, 10, true, true, v3, [(GState.av a1)]⟩), (2, ⟨37, 9, true, true, v4, [[int a2.Kind, int a2.E, int a2.Item, int a2.Loc, int a2.To, int a2.Qty, int a2.Amount, int a2.Ref, lst 1 fI a2.Refs]]⟩), (3, ⟨31, 10, true, true, v5, [[int 0, int 0, .sc (.slice none 0 0), .sc (.slice none 0 0), .sc (.slice none 0 0), .sc (.slice none 0 0), .sc (.slice none 0 0), .sc (.slice none 0 0), .sc (.slice none 0 0), int 0]]⟩), (4, ⟨31, 10, true, true, v7, [(GState.av a1)]⟩), (5, ⟨3, 1, true, true, v8, [[int 0]]⟩), (6, ⟨3, 1, true, true, v9, [[int 0]]⟩), (7, ⟨33, 1, true, true, v10, [[int a]]⟩)])) rfl rfl rfl (yl_call rfl rfl .nil cal70 ?_) ?_
  refine pcw (c := _) Tryz.func70 rfl rfl ?_; intro Q hret hnorm
  refine tc tbk 6 (.mk ?_)
  obtain ⟨x13, e13, h2⟩ := bind_e h2
  refine sC cal71 (d_stock_Ready_c e13) ?_
  refine sS ⟨33, 1, true, true, v10, [[int x13]]⟩ sh33 ?_
  refine tr tbk 1 (.mk ?_)
  obtain rfl := nxt_e h2
  refine g_nil (hnorm _ _ (hk [(1, ⟨31, 10, true, true, v3, [(GState.av a1)]⟩), (2, ⟨37, 9, true, true, v4, [[int a2.Kind, int a2.E, int a2.Item, int a2.Loc, int a2.To, int a2.Qty, int a2.Amount, int a2.Ref, lst 1 fI a2.Refs]]⟩), (3, ⟨31, 10, true, true, v5, [[int 0, int 0, .sc (.slice none 0 0), .sc (.slice none 0 0), .sc (.slice none 0 0), .sc (.slice none 0 0), .sc (.slice none 0 0), .sc (.slice none 0 0), .sc (.slice none 0 0), int 0]]⟩), (4, ⟨31, 10, true, true, v7, [(GState.av a1)]⟩), (5, ⟨3, 1, true, true, v8, [[int 0]]⟩), (6, ⟨3, 1, true, true, v9, [[int 0]]⟩), (7, ⟨33, 1, true, true, v10, [[int x13]]⟩)]) .nil (HK.le ⟨rfl, rfl, rfl, rfl, rfl, rfl, rfl, trivial⟩) ?_)
  exact ⟨x13, (), rfl, rfl, rfl⟩
  rintro y _ ⟨y0_1, _, rfl, hc, rfl⟩
  subst hc
  refine tr tbk 4 (.mk ?_)
  refine nb tbk h1 fun x14 h1 => ?_
  refine tr tbk 1 (.mk ?_)
  cases x14
  replace h1 := cf h1
  refine tc tbk 4 (.mk ?_)
  refine sY (yv_add (r := 1) rfl rfl rfl (by decide)) ?_
  refine tr tbk 5 (.mk ?_)
  refine sY (yv_to (y := boo true) (yv_lss rfl rfl rfl) (congrArg boo (by decide))) ?_
  refine tr tbk 8 (.mk ?_)
  refine sY (yv_indexAddr (j := 1) rfl Tryz.underlying128 sh1 rfl rfl rfl (.list rfl)) ?_
  refine tr tbk 6 (.mk ?_)
  obtain ⟨j15, h2, h1⟩ := bind_e h1
  refine rse (Out := fun y H' => (∃ (a : Unit) (k : Unit), a = j15 ∧ y = .tup [] ∧ H' = hk [(1, ⟨31, 10, true, true, v3, [(GState.av a1)]⟩), (2, ⟨37, 9, true, true, v4, [[int a2.Kind, int a2.E, int a2.Item, int a2.Loc, int a2.To, int a2.Qty, int a2.Amount, int a2.Ref, lst 1 fI a2.Refs]]⟩), (3, ⟨31, 10, true, true, v5, [[int 0, int 0, .sc (.slice none 0 0), .sc (.slice none 0 0), .sc (.slice none 0 0), .sc (.slice none 0 0), .sc (.slice none 0 0), .sc (.slice none 0 0), .sc (.slice none 0 0), int 0]]⟩), (4, ⟨31, 10, true, true, v7, [(GState.av a1)]⟩), (5, ⟨3, 1, true, true, v8, [[int 0]]⟩), (6, ⟨3, 1, true, true, v9, [[int 0]]⟩), (7, ⟨33, 1, true, true, v10, [[int y0_1]]⟩)])) rfl rfl rfl (yl_call rfl rfl .nil cal72 ?_) ?_
  refine pcw (c := _) Tryz.func72 rfl rfl ?_; intro Q hret hnorm
  refine tc tbk 4 (.mk ?_)
  refine sY (yv_len_sl rfl Tryz.underlying27 rfl (lst_len _)) ?_
  refine nb tbk h2 fun x16 h2 => ?_
  refine tr tbk 1 (.mk ?_)
  replace h2 := asrt_e h2
  obtain ⟨rfl, h2⟩ := h2
  refine tc tbk 2 (.mk ?_)
  obtain rfl := nxt_e h2
  refine g_nil (hnorm _ _ (hk [(1, ⟨31, 10, true, true, v3, [(GState.av a1)]⟩), (2, ⟨37, 9, true, true, v4, [[int a2.Kind, int a2.E, int a2.Item, int a2.Loc, int a2.To, int a2.Qty, int a2.Amount, int a2.Ref, lst 1 fI a2.Refs]]⟩), (3, ⟨31, 10, true, true, v5, [[int 0, int 0, .sc (.slice none 0 0), .sc (.slice none 0 0), .sc (.slice none 0 0), .sc (.slice none 0 0), .sc (.slice none 0 0), .sc (.slice none 0 0), .sc (.slice none 0 0), int 0]]⟩), (4, ⟨31, 10, true, true, v7, [(GState.av a1)]⟩), (5, ⟨3, 1, true, true, v8, [[int 0]]⟩), (6, ⟨3, 1, true, true, v9, [[int 0]]⟩), (7, ⟨33, 1, true, true, v10, [[int y0_1]]⟩)]) .nil (HK.le ⟨rfl, rfl, rfl, rfl, rfl, rfl, rfl, trivial⟩) ?_)
  exact ⟨(), (), rfl, rfl, rfl⟩
  rintro y _ ⟨_, _, rfl, hc, rfl⟩
  subst hc
  refine tr tbk 4 (.mk ?_)
  refine nb tbk h1 fun x17 h1 => ?_
  refine tr tbk 1 (.mk ?_)
  cases x17
  replace h1 := cf h1
  refine tc tbk 4 (.mk ?_)
  refine sY (yv_add (r := 2) rfl rfl rfl (by decide)) ?_
  refine tr tbk 5 (.mk ?_)
  refine sY (yv_to (y := boo true) (yv_lss rfl rfl rfl) (congrArg boo (by decide))) ?_
  refine tr tbk 8 (.mk ?_)
  refine sY (yv_indexAddr (j := 2) rfl Tryz.underlying128 sh1 rfl rfl rfl (.list rfl)) ?_
  refine tr tbk 6 (.mk ?_)
  obtain ⟨j18, h2, h1⟩ := bind_e h1
  refine rse (Out := fun y H' => (∃ (a : GState × Int × Int × Int) (k : Unit), a = j18 ∧ y = .tup [] ∧ H' = hk [(1, ⟨31, 10, true, true, v3, [(GState.av a1)]⟩), (2, ⟨37, 9, true, true, v4, [[int a2.Kind, int a2.E, int a2.Item, int a2.Loc, int a2.To, int a2.Qty, int a2.Amount, int a2.Ref, lst 1 fI a2.Refs]]⟩), (3, ⟨31, 10, true, true, v5, [[int 0, int 0, .sc (.slice none 0 0), .sc (.slice none 0 0), .sc (.slice none 0 0), .sc (.slice none 0 0), .sc (.slice none 0 0), .sc (.slice none 0 0), .sc (.slice none 0 0), int 0]]⟩), (4, ⟨31, 10, true, true, v7, [(GState.av a.1)]⟩), (5, ⟨3, 1, true, true, v8, [[int a.2.1]]⟩), (6, ⟨3, 1, true, true, v9, [[int a.2.2.1]]⟩), (7, ⟨33, 1, true, true, v10, [[int a.2.2.2]]⟩)])) rfl rfl rfl (yl_call rfl rfl .nil cal73 ?_) ?_
  refine pcw (c := _) Tryz.func73 rfl rfl ?_; intro Q hret hnorm
  refine tc tbk 13 (.mk ?_)
  obtain ⟨x19, e19, h2⟩ := bind_e h2
  refine sC cal74 (d_stock_Bring_c e19) ?_
  refine tr tbk 5 (.mk ?_)
  refine sS ⟨31, 10, true, true, v7, [(GState.av x19.1)]⟩ sh31 ?_
  refine sS ⟨3, 1, true, true, v8, [[int x19.2.1]]⟩ sh3 ?_
  refine sS ⟨3, 1, true, true, v9, [[int x19.2.2.1]]⟩ sh3 ?_
  refine sS ⟨33, 1, true, true, v10, [[int x19.2.2.2]]⟩ sh33 ?_
  refine tr tbk 1 (.mk ?_)
  obtain rfl := nxt_e h2
  refine g_nil (hnorm _ _ (hk [(1, ⟨31, 10, true, true, v3, [(GState.av a1)]⟩), (2, ⟨37, 9, true, true, v4, [[int a2.Kind, int a2.E, int a2.Item, int a2.Loc, int a2.To, int a2.Qty, int a2.Amount, int a2.Ref, lst 1 fI a2.Refs]]⟩), (3, ⟨31, 10, true, true, v5, [[int 0, int 0, .sc (.slice none 0 0), .sc (.slice none 0 0), .sc (.slice none 0 0), .sc (.slice none 0 0), .sc (.slice none 0 0), .sc (.slice none 0 0), .sc (.slice none 0 0), int 0]]⟩), (4, ⟨31, 10, true, true, v7, [(GState.av x19.1)]⟩), (5, ⟨3, 1, true, true, v8, [[int x19.2.1]]⟩), (6, ⟨3, 1, true, true, v9, [[int x19.2.2.1]]⟩), (7, ⟨33, 1, true, true, v10, [[int x19.2.2.2]]⟩)]) .nil (HK.le ⟨rfl, rfl, rfl, rfl, rfl, rfl, rfl, trivial⟩) ?_)
  exact ⟨(x19.1, x19.2.1, x19.2.2.1, x19.2.2.2), (), rfl, rfl, rfl⟩
  rintro y _ ⟨⟨y2_1, y2_2, y2_3, y2_4⟩, _, rfl, hc, rfl⟩
  replace h1 := p2_e h1
  replace h1 := p2_e h1
  replace h1 := p2_e h1
  subst hc
  refine tr tbk 4 (.mk ?_)
  refine nb tbk h1 fun x20 h1 => ?_
  refine tr tbk 1 (.mk ?_)
  cases x20
  replace h1 := cf h1
  refine tc tbk 4 (.mk ?_)
  refine sY (yv_add (r := 3) rfl rfl rfl (by decide)) ?_
  refine tr tbk 5 (.mk ?_)
  refine sY (yv_to (y := boo true) (yv_lss rfl rfl rfl) (congrArg boo (by decide))) ?_
  refine tr tbk 8 (.mk ?_)
  refine sY (yv_indexAddr (j := 3) rfl Tryz.underlying128 sh1 rfl rfl rfl (.list rfl)) ?_
  refine tr tbk 6 (.mk ?_)
  obtain ⟨j21, h2, h1⟩ := bind_e h1
  refine rse (Out := fun y H' => (∃ (a : GState × Int) (k : Unit), a = j21 ∧ y = .tup [] ∧ H' = hk [(1, ⟨31, 10, true, true, v3, [(GState.av a1)]⟩), (2, ⟨37, 9, true, true, v4, [[int a2.Kind, int a2.E, int a2.Item, int a2.Loc, int a2.To, int a2.Qty, int a2.Amount, int a2.Ref, lst 1 fI a2.Refs]]⟩), (3, ⟨31, 10, true, true, v5, [[int 0, int 0, .sc (.slice none 0 0), .sc (.slice none 0 0), .sc (.slice none 0 0), .sc (.slice none 0 0), .sc (.slice none 0 0), .sc (.slice none 0 0), .sc (.slice none 0 0), int 0]]⟩), (4, ⟨31, 10, true, true, v7, [(GState.av a.1)]⟩), (5, ⟨3, 1, true, true, v8, [[int y2_2]]⟩), (6, ⟨3, 1, true, true, v9, [[int y2_3]]⟩), (7, ⟨33, 1, true, true, v10, [[int a.2]]⟩)])) rfl rfl rfl (yl_call rfl rfl .nil cal75 ?_) ?_
  refine pcw (c := _) Tryz.func75 rfl rfl ?_; intro Q hret hnorm
  refine tc tbk 10 (.mk ?_)
  refine ni tbk h2 fun x22 h2 => ?_
  refine tr tbk 1 (.mk ?_)
  refine sY (yv_to (y := lst 2 GLine.av ([(⟨0, y2_2⟩ : GLine), (⟨6, y2_3⟩ : GLine), (⟨1, x22⟩ : GLine)] : List GLine)) (yv_buildSlice (ps := [(0, _), (1, _), (2, _)]) (rows := [[int 0, int y2_2], [int 6, int y2_3], [int 1, int x22]]) rfl Tryz.underlying126 bz125 (.cons rfl (.cons rfl (.cons rfl .nil))) (by kernel_rfl) rfl rfl rfl) rfl) ?_
  obtain ⟨x23, e23, h2⟩ := bind_e h2
  refine sC cal76 (d_stock_Post_c e23) ?_
  refine tr tbk 3 (.mk ?_)
  refine sS ⟨31, 10, true, true, v7, [(GState.av x23.1)]⟩ sh31 ?_
  refine sS ⟨33, 1, true, true, v10, [[int x23.2]]⟩ sh33 ?_
  refine tr tbk 1 (.mk ?_)
  obtain rfl := nxt_e h2
  refine g_nil (hnorm _ _ (hk [(1, ⟨31, 10, true, true, v3, [(GState.av a1)]⟩), (2, ⟨37, 9, true, true, v4, [[int a2.Kind, int a2.E, int a2.Item, int a2.Loc, int a2.To, int a2.Qty, int a2.Amount, int a2.Ref, lst 1 fI a2.Refs]]⟩), (3, ⟨31, 10, true, true, v5, [[int 0, int 0, .sc (.slice none 0 0), .sc (.slice none 0 0), .sc (.slice none 0 0), .sc (.slice none 0 0), .sc (.slice none 0 0), .sc (.slice none 0 0), .sc (.slice none 0 0), int 0]]⟩), (4, ⟨31, 10, true, true, v7, [(GState.av x23.1)]⟩), (5, ⟨3, 1, true, true, v8, [[int y2_2]]⟩), (6, ⟨3, 1, true, true, v9, [[int y2_3]]⟩), (7, ⟨33, 1, true, true, v10, [[int x23.2]]⟩)]) .nil (HK.le ⟨rfl, rfl, rfl, rfl, rfl, rfl, rfl, trivial⟩) ?_)
  exact ⟨(x23.1, x23.2), (), rfl, rfl, rfl⟩
  rintro y _ ⟨⟨y3_1, y3_2⟩, _, rfl, hc, rfl⟩
  replace h1 := p2_e h1
  subst hc
  refine tr tbk 4 (.mk ?_)
  refine nb tbk h1 fun x24 h1 => ?_
  refine tr tbk 1 (.mk ?_)
  cases x24
  replace h1 := cf h1
  refine tc tbk 4 (.mk ?_)
  refine sY (yv_add (r := 4) rfl rfl rfl (by decide)) ?_
  refine tr tbk 5 (.mk ?_)
  refine sY (yv_to (y := boo true) (yv_lss rfl rfl rfl) (congrArg boo (by decide))) ?_
  refine tr tbk 8 (.mk ?_)
  refine sY (yv_indexAddr (j := 4) rfl Tryz.underlying128 sh1 rfl rfl rfl (.list rfl)) ?_
  refine tr tbk 6 (.mk ?_)
  obtain ⟨j25, h2, h1⟩ := bind_e h1
  refine rse (Out := fun y H' => (∃ (a : GState × Int) (k : Unit), a = j25 ∧ y = .tup [] ∧ H' = hk [(1, ⟨31, 10, true, true, v3, [(GState.av a1)]⟩), (2, ⟨37, 9, true, true, v4, [[int a2.Kind, int a2.E, int a2.Item, int a2.Loc, int a2.To, int a2.Qty, int a2.Amount, int a2.Ref, lst 1 fI a2.Refs]]⟩), (3, ⟨31, 10, true, true, v5, [[int 0, int 0, .sc (.slice none 0 0), .sc (.slice none 0 0), .sc (.slice none 0 0), .sc (.slice none 0 0), .sc (.slice none 0 0), .sc (.slice none 0 0), .sc (.slice none 0 0), int 0]]⟩), (4, ⟨31, 10, true, true, v7, [(GState.av a.1)]⟩), (5, ⟨3, 1, true, true, v8, [[int y2_2]]⟩), (6, ⟨3, 1, true, true, v9, [[int y2_3]]⟩), (7, ⟨33, 1, true, true, v10, [[int a.2]]⟩)])) rfl rfl rfl (yl_call rfl rfl .nil cal77 ?_) ?_
  refine pcw (c := _) Tryz.func77 rfl rfl ?_; intro Q hret hnorm
  refine tc tbk 7 (.mk ?_)
  refine sY (yv_build (cs := [int 0, int y2_2, int 0, int 0, int 0, int 0, int 0, int 0, int 0, int 0, int 0]) (ps := [(1, _)]) rfl pl55 z55 rfl (.cons rfl .nil) (by kernel_rfl)) ?_
  obtain ⟨x26, e26, h2⟩ := bind_e h2
  refine sC cal78 (d_stock_Turn_c e26) ?_
  refine tr tbk 3 (.mk ?_)
  refine sS ⟨31, 10, true, true, v7, [(GState.av x26.1)]⟩ sh31 ?_
  refine sS ⟨33, 1, true, true, v10, [[int x26.2]]⟩ sh33 ?_
  refine tr tbk 1 (.mk ?_)
  obtain rfl := nxt_e h2
  refine g_nil (hnorm _ _ (hk [(1, ⟨31, 10, true, true, v3, [(GState.av a1)]⟩), (2, ⟨37, 9, true, true, v4, [[int a2.Kind, int a2.E, int a2.Item, int a2.Loc, int a2.To, int a2.Qty, int a2.Amount, int a2.Ref, lst 1 fI a2.Refs]]⟩), (3, ⟨31, 10, true, true, v5, [[int 0, int 0, .sc (.slice none 0 0), .sc (.slice none 0 0), .sc (.slice none 0 0), .sc (.slice none 0 0), .sc (.slice none 0 0), .sc (.slice none 0 0), .sc (.slice none 0 0), int 0]]⟩), (4, ⟨31, 10, true, true, v7, [(GState.av x26.1)]⟩), (5, ⟨3, 1, true, true, v8, [[int y2_2]]⟩), (6, ⟨3, 1, true, true, v9, [[int y2_3]]⟩), (7, ⟨33, 1, true, true, v10, [[int x26.2]]⟩)]) .nil (HK.le ⟨rfl, rfl, rfl, rfl, rfl, rfl, rfl, trivial⟩) ?_)
  exact ⟨(x26.1, x26.2), (), rfl, rfl, rfl⟩
  rintro y _ ⟨⟨y4_1, y4_2⟩, _, rfl, hc, rfl⟩
  replace h1 := p2_e h1
  subst hc
  refine tr tbk 4 (.mk ?_)
  refine nb tbk h1 fun x27 h1 => ?_
  refine tr tbk 1 (.mk ?_)
  cases x27
  replace h1 := cf h1
  refine tc tbk 4 (.mk ?_)
  refine sY (yv_add (r := 5) rfl rfl rfl (by decide)) ?_
  refine tr tbk 5 (.mk ?_)
  refine sY (yv_to (y := boo false) (yv_lss rfl rfl rfl) (congrArg boo (by decide))) ?_
  refine tr tbk 4 (.mk ?_)
  exact lf h1 () leA
  replace h1 := ct h1
  refine tc tbk 2 (.mk ?_)
  exact lf h1 () leA
  replace h1 := ct h1
  refine tc tbk 2 (.mk ?_)
  exact lf h1 () leA
  replace h1 := ct h1
  refine tc tbk 2 (.mk ?_)
  exact lf h1 () leA
  replace h1 := ct h1
  refine tc tbk 2 (.mk ?_)
  exact lf h1 () leA
  replace h1 := ct h1
  refine tc tbk 2 (.mk ?_)
  exact lf h1 () leA
  rintro ⟨y5_1, y5_2⟩ _ h0
  replace h0 := p2_e h0
  refine tc tbk 4 (.mk ?_)
  refine nb tbk h0 fun x28 h0 => ?_
  refine tr tbk 1 (.mk ?_)
  replace h0 := asrt_e h0
  obtain ⟨rfl, h0⟩ := h0
  refine tc tbk 18 (.mk ?_)
  refine sY (yv_build (cs := [int a2.E, int a2.Item, int a2.Loc, int a2.Qty, int a2.Amount, int a2.Qty, int a2.Amount, int 0]) (ps := [(0, _), (1, _), (2, _), (3, _), (4, _), (5, _), (6, _)]) rfl pl130 z130 rfl (.cons rfl (.cons rfl (.cons rfl (.cons rfl (.cons rfl (.cons rfl (.cons rfl .nil))))))) (by kernel_rfl)) ?_
  refine sA 8 z130 fun v29 => ?_
  refine sS ⟨130, 8, true, true, v29, [[int a2.E, int a2.Item, int a2.Loc, int a2.Qty, int a2.Amount, int a2.Qty, int a2.Amount, int 0]]⟩ sh130 ?_
  refine tr tbk 2 (.mk ?_)
  refine c_drawE [0, 1, 3, 0, 8, 31, 63, 127] (rl [(0, [4]), (1, [4]), (3, [8]), (6, [4])] []) (rl [(2, [8]), (5, []), (7, [])] [4, 8]) (rl [(2, false), (5, false), (7, false)] true) [0, 1, 3, 4, 2, 5, 6, 7] mixed (by kernel_rfl) ?_; intro K hK
  refine eF fo31_2 ?_
  refine eL sh27 ?_
  refine eL sh130 ?_
  refine eP (fun H hH => yv_to (y := lst 8 GReceipt.av ([(⟨a2.E, a2.Item, a2.Loc, a2.Qty, a2.Amount, a2.Qty, a2.Amount, 0⟩ : GReceipt)] : List GReceipt)) (yv_buildSlice (ps := [(0, _)]) (rows := [[int a2.E, int a2.Item, int a2.Loc, int a2.Qty, int a2.Amount, int a2.Qty, int a2.Amount, int 0]]) rfl Tryz.underlying27 bz130 (.cons rfl .nil) (by kernel_rfl) rfl rfl rfl) rfl) ?_
  obtain ⟨p30, h0⟩ := asrt_e h0
  refine de_eff rfl rfl rfl rfl (yl_call rfl rfl (.cons rfl .nil) cal79 (pc_cv (clone79_c (id := 9) (l := y5_1.Receipts) rfl p30) (.cons (.refl _) .nil))) (by rintro _ _ ⟨v31, rfl, rfl⟩; exact ⟨rfl, trivial⟩) ?_; rintro _ _ ⟨v31, rfl, rfl⟩
  obtain ⟨x32, e32, h0⟩ := bnd_e h0
  obtain ⟨p33, h0⟩ := asrt_e h0
  refine de_eff rfl rfl rfl rfl (yl_appT (g := GReceipt.av) (l := y5_1.Receipts) (m := ([(⟨a2.E, a2.Item, a2.Loc, a2.Qty, a2.Amount, a2.Qty, a2.Amount, 0⟩ : GReceipt)] : List GReceipt)) .any rfl Tryz.underlying27 bz130 by130 rfl rfl rfl rfl rfl rfl rfl rfl rfl rfl (Eq.symm rfl) (.refl _) (fun _ => rfl) e32 p33) (by rintro _ _ ⟨v34, -, rfl, rfl⟩; exact trivial) ?_; rintro _ _ ⟨v34, -, rfl, rfl⟩
  refine eF fo31_2 ?_
  refine de_eff0 rfl rfl rfl rfl (Yield.weak (yl_ob (ob' := (⟨31, 10, true, true, v7, [[int y5_1.Master.Entities, int y5_1.Master.Periods, lst 1 fI y5_1.Master.Weights, lst 1 (fL 1 fI) y5_1.Master.Methods, lst 1 (fL 1 fI) y5_1.Master.Costs, lst 8 GEnt.av y5_1.Ents, .sl 9 v34 0 x32.length, lst 9 GSale.av y5_1.Sales, lst 6 GTransit.av y5_1.Transits, int y5_1.Done]]⟩ : AObj)) (yl_store rfl sh27 rfl rfl rfl rfl rfl rfl rfl rfl rfl) rfl) (fun _ h => h) (fun _ _ => trivial)) (by rintro _ _ ⟨rfl, rfl⟩; exact trivial) ?_; rintro _ _ ⟨rfl, rfl⟩
  refine de_nil (hK _ ?_)
  refine tc tbk 3 (.mk ?_)
  refine sS ⟨31, 10, true, true, v5, [[int y5_1.Master.Entities, int y5_1.Master.Periods, lst 1 fI y5_1.Master.Weights, lst 1 (fL 1 fI) y5_1.Master.Methods, lst 1 (fL 1 fI) y5_1.Master.Costs, lst 8 GEnt.av y5_1.Ents, .sl 9 v34 0 x32.length, lst 9 GSale.av y5_1.Sales, lst 6 GTransit.av y5_1.Transits, int y5_1.Done]]⟩ sh31 ?_
  refine tr tbk 2 (.mk ?_)
  obtain rfl := nxt_e h0
  refine wR hret (rC sh31 (rT .nil)) ?_
  exact CvL.tup (.cons (CvL.agg (.cons (.refl _) (.cons (.refl _) (.cons (.refl _) (.cons (.refl _) (.cons (.refl _) (.cons (.refl _) (.cons (cv_lst rfl rfl rfl rfl rfl (Eq.symm rfl)) (.cons (.refl _) (.cons (.refl _) (.cons (.refl _) .nil))))))))))) (.cons (.refl _) .nil))
def d_apply_Do (n : Nat) (a1 : GState) (a2 : GOp) : Option (GState × Int) :=
(show Option ((Unit) ⊕ (Unit) ⊕ (Unit)) from
bnd (decide (a2.Kind = 1)) fun x7 =>
cond x7 (some (.inr (.inr ()))) (bnd (decide (a2.Kind = 4)) fun x8 =>
(show Option (Bool) from
cond x8 (some (true : Bool)) (bnd (decide (a2.Kind = 5)) fun x10 =>
some (x10 : Bool))).bind <| fun y0_1 =>
cond y0_1 (some (.inr (.inl ()))) (bnd (decide (a2.Kind = 6)) fun x11 =>
(show Option (Bool) from
cond x11 (some (true : Bool)) (bnd (decide (a2.Kind = 7)) fun x13 =>
cond x13 (some (true : Bool)) (bnd (decide (a2.Kind = 8)) fun x14 =>
cond x14 (some (true : Bool)) (bnd (decide (a2.Kind = 9)) fun x15 =>
some (x15 : Bool))))).bind <| fun y1_1 =>
asrt (y1_1 = false) <|
bnd (decide (a2.Kind = 2)) fun x16 =>
(show Option (Bool) from
cond x16 (some (true : Bool)) (bnd (decide (a2.Kind = 3)) fun x18 =>
some (x18 : Bool))).bind <| fun y2_1 =>
asrt (y2_1 = false) <|
bnd (decide (a2.Kind = 11)) fun x19 =>
asrt (x19 = false) <|
bnd (decide (a2.Kind = 12)) fun x20 =>
(show Option (Bool) from
cond x20 (some (true : Bool)) (bnd (decide (a2.Kind = 13)) fun x22 =>
some (x22 : Bool))).bind <| fun y3_1 =>
asrt (y3_1 = false) <|
bnd (decide (a2.Kind = 10)) fun x23 =>
asrt (x23 = false) <|
some (.inl ())))).bind <| selr (fun _ =>
(show Option (Unit) from
(d_ops_Check a2).bind fun x25 =>
bnd (!x25) fun x26 =>
cond x26 (some ()) (some ())).bind <| fun _ =>
some ((a1 : GState), (1 : Int))) <| selr (fun _ =>
(show Option (Bool) from
(d_ops_Check a2).bind fun x28 =>
bnd (!x28) fun x29 =>
cond x29 (some (true : Bool)) (some (false : Bool))).bind <| fun y7_1 =>
asrt (y7_1 = false) <|
(show Option ((GState × Int)) from
(d_sell_Do n a1 a2).bind fun x34 =>
some ((x34.1 : GState), (x34.2 : Int))).bind <| p2 fun (y8_1 : GState) (y8_2 : Int) =>
bnd (decide (y8_2 ≠ 0)) fun x36 =>
cond x36 (some ((a1 : GState), (y8_2 : Int))) (bnd (w64 (y8_1.Done + 1)) fun x37 =>
bnd (if 288230376151711744 < x37 then 288230376151711744 else x37) fun x38 =>
some (((⟨y8_1.Master, y8_1.Ents, y8_1.Receipts, y8_1.Sales, y8_1.Transits, x38⟩ : GState) : GState), (0 : Int)))) <| fun _ =>
(show Option (Bool) from
(d_ops_Check a2).bind fun x40 =>
bnd (!x40) fun x41 =>
cond x41 (some (true : Bool)) (some (false : Bool))).bind <| fun y7_1 =>
asrt (y7_1 = false) <|
(show Option ((GState × Int)) from
(d_receive_Do n a1 a2).bind fun x46 =>
some ((x46.1 : GState), (x46.2 : Int))).bind <| p2 fun (y9_1 : GState) (y9_2 : Int) =>
bnd (decide (y9_2 ≠ 0)) fun x48 =>
cond x48 (some ((a1 : GState), (y9_2 : Int))) (bnd (w64 (y9_1.Done + 1)) fun x49 =>
bnd (if 288230376151711744 < x49 then 288230376151711744 else x49) fun x50 =>
some (((⟨y9_1.Master, y9_1.Ents, y9_1.Receipts, y9_1.Sales, y9_1.Transits, x50⟩ : GState) : GState), (0 : Int)))
theorem d_apply_Do_c {n : Nat} {a1 : GState} {a2 : GOp} {r : GState × Int} (h0 : d_apply_Do n a1 a2 = some r) : PP Tryz.prog 8 [.agg (GState.av a1), .agg (GOp.av a2)] (fun y => y = .tup [.agg (GState.av r.1), int r.2]) := by
  unfold d_apply_Do at h0
  refine pp_of_pc (R0 := fun y H => Cv (frzH H) y (.tup [.agg (GState.av r.1), int r.2])) ?_ (fun y H hc => ⟨_, rfl, .tup (pvl2 ((fun (a : GState) => PV.agg (GState.pvc a)) (r.1)) (pvI (r.2))), hc⟩)
  refine pcw (c := _) Tryz.func8 rfl rfl ?_; intro Q hret hnorm
  refine tc tbk 2 (.mk ?_)
  refine sB 1 fun v3 => ?_
  refine sB 2 fun v4 => ?_
  refine sA 3 z31 fun v5 => ?_
  refine tr tbk 6 (.mk ?_)
  obtain ⟨j6, h1, h0⟩ := bind_e h0
  refine rse (Out := fun y H' => (∃ (a : Unit) (k : Unit), (.inl a) = j6 ∧ y = .sc .nilIface ∧ H' = hk [(1, ⟨31, 10, true, true, v3, [(GState.av a1)]⟩), (2, ⟨37, 9, true, true, v4, [[int a2.Kind, int a2.E, int a2.Item, int a2.Loc, int a2.To, int a2.Qty, int a2.Amount, int a2.Ref, lst 1 fI a2.Refs]]⟩), (3, ⟨31, 10, true, true, v5, [[int 0, int 0, .sc (.slice none 0 0), .sc (.slice none 0 0), .sc (.slice none 0 0), .sc (.slice none 0 0), .sc (.slice none 0 0), .sc (.slice none 0 0), .sc (.slice none 0 0), int 0]]⟩)]) ∨ (∃ (a : Unit) (k : Unit), (.inr (.inl a)) = j6 ∧ y = .ifc 82 (.fn (.func 37) [] []) ∧ H' = hk [(1, ⟨31, 10, true, true, v3, [(GState.av a1)]⟩), (2, ⟨37, 9, true, true, v4, [[int a2.Kind, int a2.E, int a2.Item, int a2.Loc, int a2.To, int a2.Qty, int a2.Amount, int a2.Ref, lst 1 fI a2.Refs]]⟩), (3, ⟨31, 10, true, true, v5, [[int 0, int 0, .sc (.slice none 0 0), .sc (.slice none 0 0), .sc (.slice none 0 0), .sc (.slice none 0 0), .sc (.slice none 0 0), .sc (.slice none 0 0), .sc (.slice none 0 0), int 0]]⟩)]) ∨ (∃ (a : Unit) (k : Unit), (.inr (.inr a)) = j6 ∧ y = .ifc 82 (.fn (.func 36) [] []) ∧ H' = hk [(1, ⟨31, 10, true, true, v3, [(GState.av a1)]⟩), (2, ⟨37, 9, true, true, v4, [[int a2.Kind, int a2.E, int a2.Item, int a2.Loc, int a2.To, int a2.Qty, int a2.Amount, int a2.Ref, lst 1 fI a2.Refs]]⟩), (3, ⟨31, 10, true, true, v5, [[int 0, int 0, .sc (.slice none 0 0), .sc (.slice none 0 0), .sc (.slice none 0 0), .sc (.slice none 0 0), .sc (.slice none 0 0), .sc (.slice none 0 0), .sc (.slice none 0 0), int 0]]⟩)])) rfl rfl rfl (yl_call rfl rfl (.cons rfl .nil) cal18 ?_) ?_
  refine pcw (c := _) Tryz.func18 rfl rfl ?_; intro Q hret hnorm
  refine tc tbk 12 (.mk ?_)
  refine nb tbk h1 fun x7 h1 => ?_
  refine tr tbk 2 (.mk ?_)
  cases x7
  replace h1 := cf h1
  refine tc tbk 4 (.mk ?_)
  refine nb tbk h1 fun x8 h1 => ?_
  refine tr tbk 2 (.mk ?_)
  refine jn h1 [2, 3] [1, 2, 3] (fun (a : Bool) (k : Unit) => [(7, boo a)]) (fun a k => []) ⟨fun j9 h2 => ?_, ?_⟩
  cases x8
  replace h2 := cf h2
  refine tc tbk 2 (.mk ?_)
  refine nb tbk h2 fun x10 h2 => ?_
  refine tr tbk 2 (.mk ?_)
  exact lf h2 () leA
  replace h2 := ct h2
  refine tc tbk 2 (.mk ?_)
  exact lf h2 () leA
  rintro y0_1 _ h1
  cases y0_1
  replace h1 := cf h1
  refine tc tbk 4 (.mk ?_)
  refine nb tbk h1 fun x11 h1 => ?_
  refine tr tbk 2 (.mk ?_)
  refine jn h1 [2, 3] [1, 2, 3] (fun (a : Bool) (k : Unit) => [(11, boo a)]) (fun a k => []) ⟨fun j12 h2 => ?_, ?_⟩
  cases x11
  replace h2 := cf h2
  refine tc tbk 3 (.mk ?_)
  refine nb tbk h2 fun x13 h2 => ?_
  refine tr tbk 2 (.mk ?_)
  cases x13
  replace h2 := cf h2
  refine tc tbk 3 (.mk ?_)
  refine nb tbk h2 fun x14 h2 => ?_
  refine tr tbk 2 (.mk ?_)
  cases x14
  replace h2 := cf h2
  refine tc tbk 2 (.mk ?_)
  refine nb tbk h2 fun x15 h2 => ?_
  refine tr tbk 2 (.mk ?_)
  exact lf h2 () leA
  replace h2 := ct h2
  refine tc tbk 2 (.mk ?_)
  exact lf h2 () leA
  replace h2 := ct h2
  refine tc tbk 2 (.mk ?_)
  exact lf h2 () leA
  replace h2 := ct h2
  refine tc tbk 2 (.mk ?_)
  exact lf h2 () leA
  rintro y1_1 _ h1
  replace h1 := asrt_e h1
  obtain ⟨rfl, h1⟩ := h1
  refine tc tbk 4 (.mk ?_)
  refine nb tbk h1 fun x16 h1 => ?_
  refine tr tbk 2 (.mk ?_)
  refine jn h1 [2, 3] [1, 2, 3] (fun (a : Bool) (k : Unit) => [(17, boo a)]) (fun a k => []) ⟨fun j17 h2 => ?_, ?_⟩
  cases x16
  replace h2 := cf h2
  refine tc tbk 2 (.mk ?_)
  refine nb tbk h2 fun x18 h2 => ?_
  refine tr tbk 2 (.mk ?_)
  exact lf h2 () leA
  replace h2 := ct h2
  refine tc tbk 2 (.mk ?_)
  exact lf h2 () leA
  rintro y2_1 _ h1
  replace h1 := asrt_e h1
  obtain ⟨rfl, h1⟩ := h1
  refine tc tbk 3 (.mk ?_)
  refine nb tbk h1 fun x19 h1 => ?_
  refine tr tbk 2 (.mk ?_)
  replace h1 := asrt_e h1
  obtain ⟨rfl, h1⟩ := h1
  refine tc tbk 4 (.mk ?_)
  refine nb tbk h1 fun x20 h1 => ?_
  refine tr tbk 2 (.mk ?_)
  refine jn h1 [2, 3] [1, 2, 3] (fun (a : Bool) (k : Unit) => [(24, boo a)]) (fun a k => []) ⟨fun j21 h2 => ?_, ?_⟩
  cases x20
  replace h2 := cf h2
  refine tc tbk 2 (.mk ?_)
  refine nb tbk h2 fun x22 h2 => ?_
  refine tr tbk 2 (.mk ?_)
  exact lf h2 () leA
  replace h2 := ct h2
  refine tc tbk 2 (.mk ?_)
  exact lf h2 () leA
  rintro y3_1 _ h1
  replace h1 := asrt_e h1
  obtain ⟨rfl, h1⟩ := h1
  refine tc tbk 3 (.mk ?_)
  refine nb tbk h1 fun x23 h1 => ?_
  refine tr tbk 2 (.mk ?_)
  replace h1 := asrt_e h1
  obtain ⟨rfl, h1⟩ := h1
  refine tc tbk 7 (.mk ?_)
  obtain rfl := nxt_e h1
  refine w_ret (hret _ _ (hk [(1, ⟨31, 10, true, true, v3, [(GState.av a1)]⟩), (2, ⟨37, 9, true, true, v4, [[int a2.Kind, int a2.E, int a2.Item, int a2.Loc, int a2.To, int a2.Qty, int a2.Amount, int a2.Ref, lst 1 fI a2.Refs]]⟩), (3, ⟨31, 10, true, true, v5, [[int 0, int 0, .sc (.slice none 0 0), .sc (.slice none 0 0), .sc (.slice none 0 0), .sc (.slice none 0 0), .sc (.slice none 0 0), .sc (.slice none 0 0), .sc (.slice none 0 0), int 0]]⟩)]) (.tmp rfl .nil) (HK.le ⟨rfl, rfl, rfl, trivial⟩) ?_)
  exact (.inl ⟨(), (), rfl, rfl, rfl⟩)
  replace h1 := ct h1
  refine tc tbk 3 (.mk ?_)
  refine sY (yv_makeIface rfl Tryz.underlying82 (by intro _ h; cases h) rfl) ?_
  refine tr tbk 2 (.mk ?_)
  obtain rfl := nxt_e h1
  refine w_ret (hret _ _ (hk [(1, ⟨31, 10, true, true, v3, [(GState.av a1)]⟩), (2, ⟨37, 9, true, true, v4, [[int a2.Kind, int a2.E, int a2.Item, int a2.Loc, int a2.To, int a2.Qty, int a2.Amount, int a2.Ref, lst 1 fI a2.Refs]]⟩), (3, ⟨31, 10, true, true, v5, [[int 0, int 0, .sc (.slice none 0 0), .sc (.slice none 0 0), .sc (.slice none 0 0), .sc (.slice none 0 0), .sc (.slice none 0 0), .sc (.slice none 0 0), .sc (.slice none 0 0), int 0]]⟩)]) (.tmp rfl .nil) (HK.le ⟨rfl, rfl, rfl, trivial⟩) ?_)
  exact (.inr (.inl ⟨(), (), rfl, rfl, rfl⟩))
  replace h1 := ct h1
  refine tc tbk 3 (.mk ?_)
  refine sY (yv_makeIface rfl Tryz.underlying82 (by intro _ h; cases h) rfl) ?_
  refine tr tbk 2 (.mk ?_)
  obtain rfl := nxt_e h1
  refine w_ret (hret _ _ (hk [(1, ⟨31, 10, true, true, v3, [(GState.av a1)]⟩), (2, ⟨37, 9, true, true, v4, [[int a2.Kind, int a2.E, int a2.Item, int a2.Loc, int a2.To, int a2.Qty, int a2.Amount, int a2.Ref, lst 1 fI a2.Refs]]⟩), (3, ⟨31, 10, true, true, v5, [[int 0, int 0, .sc (.slice none 0 0), .sc (.slice none 0 0), .sc (.slice none 0 0), .sc (.slice none 0 0), .sc (.slice none 0 0), .sc (.slice none 0 0), .sc (.slice none 0 0), int 0]]⟩)]) (.tmp rfl .nil) (HK.le ⟨rfl, rfl, rfl, trivial⟩) ?_)
  exact (.inr (.inr ⟨(), (), rfl, rfl, rfl⟩))
  rintro y _ (⟨_, _, rfl, hc, rfl⟩ | ⟨_, _, rfl, hc, rfl⟩ | ⟨_, _, rfl, hc, rfl⟩)
  replace h0 := selr_l h0
  subst hc
  refine tr tbk 4 (.mk ?_)
  refine jn h0 [2, 3, 4, 5, 6] [1, 2, 3] (fun (a : Unit) (k : Unit) => [(18, boo true)]) (fun a k => []) ⟨fun j24 h1 => ?_, ?_⟩
  refine tc tbk 2 (.mk ?_)
  obtain ⟨x25, e25, h1⟩ := bind_e h1
  refine sC cal19 (d_ops_Check_c e25) ?_
  refine nb tbk h1 fun x26 h1 => ?_
  refine tr tbk 1 (.mk ?_)
  cases x26
  replace h1 := cf h1
  refine tr tbk 1 (.mk ?_)
  refine sY (yv_ifeqN rfl Tryz.underlying65 rfl rfl) ?_
  refine tr tbk 2 (.mk ?_)
  exact lf h1 () leA
  replace h1 := ct h1
  refine tr tbk 4 (.mk ?_)
  exact lf h1 () leA
  rintro _ _ h0
  refine tc tbk 4 (.mk ?_)
  refine sS ⟨31, 10, true, true, v5, [(GState.av a1)]⟩ sh31 ?_
  refine tr tbk 2 (.mk ?_)
  obtain rfl := nxt_e h0
  refine wR hret (rC sh31 (rT .nil)) ?_
  exact .refl _
  replace h0 := selr_r h0
  replace h0 := selr_l h0
  subst hc
  refine tr tbk 4 (.mk ?_)
  refine jn h0 [2, 3, 4, 5, 6] [1, 2, 3] (fun (a : Bool) (k : Unit) => [(18, boo a)]) (fun a k => []) ⟨fun j27 h1 => ?_, ?_⟩
  refine tc tbk 2 (.mk ?_)
  obtain ⟨x28, e28, h1⟩ := bind_e h1
  refine sC cal19 (d_ops_Check_c e28) ?_
  refine nb tbk h1 fun x29 h1 => ?_
  refine tr tbk 1 (.mk ?_)
  cases x29
  replace h1 := cf h1
  refine tr tbk 1 (.mk ?_)
  refine sY (yv_ifeq rfl Tryz.underlying65 rfl rfl) ?_
  refine tr tbk 2 (.mk ?_)
  exact lf h1 () leA
  replace h1 := ct h1
  refine tr tbk 4 (.mk ?_)
  exact lf h1 () leA
  rintro y7_1 _ h0
  replace h0 := asrt_e h0
  obtain ⟨rfl, h0⟩ := h0
  refine tc tbk 7 (.mk ?_)
  obtain ⟨j30, h1, h0⟩ := bind_e h0
  refine rse (Out := fun y H' => (∃ (a : GState × Int) (k : Unit), a = j30 ∧ y = .tup [.agg (GState.av a.1), int a.2] ∧ H' = hk [(1, ⟨31, 10, true, true, v3, [(GState.av a1)]⟩), (2, ⟨37, 9, true, true, v4, [[int a2.Kind, int a2.E, int a2.Item, int a2.Loc, int a2.To, int a2.Qty, int a2.Amount, int a2.Ref, lst 1 fI a2.Refs]]⟩), (3, ⟨31, 10, true, true, v5, [[int 0, int 0, .sc (.slice none 0 0), .sc (.slice none 0 0), .sc (.slice none 0 0), .sc (.slice none 0 0), .sc (.slice none 0 0), .sc (.slice none 0 0), .sc (.slice none 0 0), int 0]]⟩)])) rfl rfl rfl (yl_callI rfl rfl mth82_301 (.cons rfl (.cons rfl .nil)) cal301 ?_) ?_
  refine pcw (c := _) Tryz.func301 rfl rfl ?_; intro Q hret hnorm
  refine tc tbk 2 (.mk ?_)
  refine sB 4 fun v31 => ?_
  refine sB 5 fun v32 => ?_
  refine sA 6 z31 fun v33 => ?_
  refine tr tbk 7 (.mk ?_)
  obtain ⟨x34, e34, h1⟩ := bind_e h1
  refine sC cal37 (d_sell_Do_c e34) ?_
  refine tr tbk 2 (.mk ?_)
  refine sS ⟨31, 10, true, true, v33, [(GState.av x34.1)]⟩ sh31 ?_
  refine tr tbk 2 (.mk ?_)
  obtain rfl := nxt_e h1
  refine w_ret (hret _ _ (hk [(1, ⟨31, 10, true, true, v3, [(GState.av a1)]⟩), (2, ⟨37, 9, true, true, v4, [[int a2.Kind, int a2.E, int a2.Item, int a2.Loc, int a2.To, int a2.Qty, int a2.Amount, int a2.Ref, lst 1 fI a2.Refs]]⟩), (3, ⟨31, 10, true, true, v5, [[int 0, int 0, .sc (.slice none 0 0), .sc (.slice none 0 0), .sc (.slice none 0 0), .sc (.slice none 0 0), .sc (.slice none 0 0), .sc (.slice none 0 0), .sc (.slice none 0 0), int 0]]⟩)]) (.cell rfl (.pt rfl rfl rfl) sh31 rfl (.tmp rfl .nil)) (HK.le ⟨rfl, rfl, rfl, trivial⟩) ?_)
  exact ⟨(x34.1, x34.2), (), rfl, rfl, rfl⟩
  rintro y _ ⟨⟨y8_1, y8_2⟩, _, rfl, hc, rfl⟩
  replace h0 := p2_e h0
  subst hc
  refine tr tbk 3 (.mk ?_)
  refine sA 7 z31 fun v35 => ?_
  refine sS ⟨31, 10, true, true, v35, [(GState.av y8_1)]⟩ sh31 ?_
  refine tr tbk 6 (.mk ?_)
  refine nb tbk h0 fun x36 h0 => ?_
  refine tr tbk 1 (.mk ?_)
  cases x36
  replace h0 := cf h0
  refine tc tbk 6 (.mk ?_)
  refine ni tbk h0 fun x37 h0 => ?_
  obtain ⟨x38, e38, h0⟩ := bnd_e h0
  refine sY (yv_min rfl rfl rfl e38) ?_
  refine tr tbk 1 (.mk ?_)
  refine sS ⟨31, 10, true, true, v35, [[int y8_1.Master.Entities, int y8_1.Master.Periods, lst 1 fI y8_1.Master.Weights, lst 1 (fL 1 fI) y8_1.Master.Methods, lst 1 (fL 1 fI) y8_1.Master.Costs, lst 8 GEnt.av y8_1.Ents, lst 8 GReceipt.av y8_1.Receipts, lst 9 GSale.av y8_1.Sales, lst 6 GTransit.av y8_1.Transits, int x38]]⟩ sh3 ?_
  refine tr tbk 4 (.mk ?_)
  refine sS ⟨31, 10, true, true, v5, [[int y8_1.Master.Entities, int y8_1.Master.Periods, lst 1 fI y8_1.Master.Weights, lst 1 (fL 1 fI) y8_1.Master.Methods, lst 1 (fL 1 fI) y8_1.Master.Costs, lst 8 GEnt.av y8_1.Ents, lst 8 GReceipt.av y8_1.Receipts, lst 9 GSale.av y8_1.Sales, lst 6 GTransit.av y8_1.Transits, int x38]]⟩ sh31 ?_
  refine tr tbk 2 (.mk ?_)
  obtain rfl := nxt_e h0
  refine wR hret (rC sh31 (rT .nil)) ?_
  exact .refl _
  replace h0 := ct h0
  refine tc tbk 5 (.mk ?_)
  refine sS ⟨31, 10, true, true, v5, [(GState.av a1)]⟩ sh31 ?_
  refine tr tbk 2 (.mk ?_)
  obtain rfl := nxt_e h0
  refine wR hret (rC sh31 (rT .nil)) ?_
  exact .refl _
  replace h0 := selr_r h0
  replace h0 := selr_r h0
  subst hc
  refine tr tbk 4 (.mk ?_)
  refine jn h0 [2, 3, 4, 5, 6] [1, 2, 3] (fun (a : Bool) (k : Unit) => [(18, boo a)]) (fun a k => []) ⟨fun j39 h1 => ?_, ?_⟩
  refine tc tbk 2 (.mk ?_)
  obtain ⟨x40, e40, h1⟩ := bind_e h1
  refine sC cal19 (d_ops_Check_c e40) ?_
  refine nb tbk h1 fun x41 h1 => ?_
  refine tr tbk 1 (.mk ?_)
  cases x41
  replace h1 := cf h1
  refine tr tbk 1 (.mk ?_)
  refine sY (yv_ifeq rfl Tryz.underlying65 rfl rfl) ?_
  refine tr tbk 2 (.mk ?_)
  exact lf h1 () leA
  replace h1 := ct h1
  refine tr tbk 4 (.mk ?_)
  exact lf h1 () leA
  rintro y7_1 _ h0
  replace h0 := asrt_e h0
  obtain ⟨rfl, h0⟩ := h0
  refine tc tbk 7 (.mk ?_)
  obtain ⟨j42, h1, h0⟩ := bind_e h0
  refine rse (Out := fun y H' => (∃ (a : GState × Int) (k : Unit), a = j42 ∧ y = .tup [.agg (GState.av a.1), int a.2] ∧ H' = hk [(1, ⟨31, 10, true, true, v3, [(GState.av a1)]⟩), (2, ⟨37, 9, true, true, v4, [[int a2.Kind, int a2.E, int a2.Item, int a2.Loc, int a2.To, int a2.Qty, int a2.Amount, int a2.Ref, lst 1 fI a2.Refs]]⟩), (3, ⟨31, 10, true, true, v5, [[int 0, int 0, .sc (.slice none 0 0), .sc (.slice none 0 0), .sc (.slice none 0 0), .sc (.slice none 0 0), .sc (.slice none 0 0), .sc (.slice none 0 0), .sc (.slice none 0 0), int 0]]⟩)])) rfl rfl rfl (yl_callI rfl rfl mth82_301 (.cons rfl (.cons rfl .nil)) cal301 ?_) ?_
  refine pcw (c := _) Tryz.func301 rfl rfl ?_; intro Q hret hnorm
  refine tc tbk 2 (.mk ?_)
  refine sB 8 fun v43 => ?_
  refine sB 9 fun v44 => ?_
  refine sA 10 z31 fun v45 => ?_
  refine tr tbk 7 (.mk ?_)
  obtain ⟨x46, e46, h1⟩ := bind_e h1
  refine sC cal36 (d_receive_Do_c e46) ?_
  refine tr tbk 2 (.mk ?_)
  refine sS ⟨31, 10, true, true, v45, [(GState.av x46.1)]⟩ sh31 ?_
  refine tr tbk 2 (.mk ?_)
  obtain rfl := nxt_e h1
  refine w_ret (hret _ _ (hk [(1, ⟨31, 10, true, true, v3, [(GState.av a1)]⟩), (2, ⟨37, 9, true, true, v4, [[int a2.Kind, int a2.E, int a2.Item, int a2.Loc, int a2.To, int a2.Qty, int a2.Amount, int a2.Ref, lst 1 fI a2.Refs]]⟩), (3, ⟨31, 10, true, true, v5, [[int 0, int 0, .sc (.slice none 0 0), .sc (.slice none 0 0), .sc (.slice none 0 0), .sc (.slice none 0 0), .sc (.slice none 0 0), .sc (.slice none 0 0), .sc (.slice none 0 0), int 0]]⟩)]) (.cell rfl (.pt rfl rfl rfl) sh31 rfl (.tmp rfl .nil)) (HK.le ⟨rfl, rfl, rfl, trivial⟩) ?_)
  exact ⟨(x46.1, x46.2), (), rfl, rfl, rfl⟩
  rintro y _ ⟨⟨y9_1, y9_2⟩, _, rfl, hc, rfl⟩
  replace h0 := p2_e h0
  subst hc
  refine tr tbk 3 (.mk ?_)
  refine sA 7 z31 fun v47 => ?_
  refine sS ⟨31, 10, true, true, v47, [(GState.av y9_1)]⟩ sh31 ?_
  refine tr tbk 6 (.mk ?_)
  refine nb tbk h0 fun x48 h0 => ?_
  refine tr tbk 1 (.mk ?_)
  cases x48
  replace h0 := cf h0
  refine tc tbk 6 (.mk ?_)
  refine ni tbk h0 fun x49 h0 => ?_
  obtain ⟨x50, e50, h0⟩ := bnd_e h0
  refine sY (yv_min rfl rfl rfl e50) ?_
  refine tr tbk 1 (.mk ?_)
  refine sS ⟨31, 10, true, true, v47, [[int y9_1.Master.Entities, int y9_1.Master.Periods, lst 1 fI y9_1.Master.Weights, lst 1 (fL 1 fI) y9_1.Master.Methods, lst 1 (fL 1 fI) y9_1.Master.Costs, lst 8 GEnt.av y9_1.Ents, lst 8 GReceipt.av y9_1.Receipts, lst 9 GSale.av y9_1.Sales, lst 6 GTransit.av y9_1.Transits, int x50]]⟩ sh3 ?_
  refine tr tbk 4 (.mk ?_)
  refine sS ⟨31, 10, true, true, v5, [[int y9_1.Master.Entities, int y9_1.Master.Periods, lst 1 fI y9_1.Master.Weights, lst 1 (fL 1 fI) y9_1.Master.Methods, lst 1 (fL 1 fI) y9_1.Master.Costs, lst 8 GEnt.av y9_1.Ents, lst 8 GReceipt.av y9_1.Receipts, lst 9 GSale.av y9_1.Sales, lst 6 GTransit.av y9_1.Transits, int x50]]⟩ sh31 ?_
  refine tr tbk 2 (.mk ?_)
  obtain rfl := nxt_e h0
  refine wR hret (rC sh31 (rT .nil)) ?_
  exact .refl _
  replace h0 := ct h0
  refine tc tbk 5 (.mk ?_)
  refine sS ⟨31, 10, true, true, v5, [(GState.av a1)]⟩ sh31 ?_
  refine tr tbk 2 (.mk ?_)
  obtain rfl := nxt_e h0
  refine wR hret (rC sh31 (rT .nil)) ?_
  exact .refl _
def d_close_is (a1 : GState) (a2 : Int) : Option (Bool) :=
(show Option (Bool) from
bnd (decide (a2 ≥ 0)) fun x5 =>
cond x5 (bnd (decide (a2 < (a1.Ents.length : Int))) fun x6 =>
cond x6 (bnd (decide (a2 < (a1.Master.Methods.length : Int))) fun x7 =>
some (x7 : Bool)) (some (false : Bool))) (some (false : Bool))).bind <| fun y0_1 =>
some ((y0_1 : Bool))
theorem d_close_is_c {a1 : GState} {a2 : Int} {r : Bool} (h0 : d_close_is a1 a2 = some r) : PP Tryz.prog 49 [.agg (GState.av a1), int a2] (fun y => y = boo r) := by
  unfold d_close_is at h0
  refine pp_of_pc (R0 := fun y H => Cv (frzH H) y (boo r)) ?_ (fun y H hc => ⟨_, rfl, pvB r, hc⟩)
  refine pcw (c := _) Tryz.func49 rfl rfl ?_; intro Q hret hnorm
  refine tc tbk 2 (.mk ?_)
  refine sB 1 fun v3 => ?_
  refine tr tbk 3 (.mk ?_)
  refine jn h0 [] [] (fun (a : Bool) (k : Unit) => [(4, boo a)]) (fun a k => []) ⟨fun j4 h1 => ?_, ?_⟩
  refine tc tbk 2 (.mk ?_)
  refine nb tbk h1 fun x5 h1 => ?_
  refine tr tbk 1 (.mk ?_)
  cases x5
  replace h1 := cf h1
  refine tr tbk 16 (.mk ?_)
  exact lf h1 () leA
  replace h1 := ct h1
  refine tr tbk 3 (.mk ?_)
  refine sY (yv_len_sl rfl Tryz.underlying26 rfl (lst_len _)) ?_
  refine nb tbk h1 fun x6 h1 => ?_
  refine tr tbk 2 (.mk ?_)
  cases x6
  replace h1 := cf h1
  refine tr tbk 9 (.mk ?_)
  exact lf h1 () leA
  replace h1 := ct h1
  refine tr tbk 4 (.mk ?_)
  refine sY (yv_len_sl rfl Tryz.underlying23 rfl (lst_len _)) ?_
  refine nb tbk h1 fun x7 h1 => ?_
  refine tr tbk 3 (.mk ?_)
  exact lf h1 () leA
  rintro y0_1 _ h0
  obtain rfl := nxt_e h0
  refine wR hret (rT .nil) ?_
  exact .refl _
def d_fifo_has_L0 (a1 : List GLayer) : Nat → Int → Int → Option ((Unit) ⊕ (Bool))
  | 0, _, _ => none
  | n + 1, y0_1, y0_2 =>
    bnd (decide (y0_2 < (a1.length : Int))) fun x4 =>
    cond x4 ((ix a1 y0_2).bind fun x5 =>
    bnd (if 0 > x5.Qty then 0 else x5.Qty) fun x7 =>
    bnd (if y0_1 < x7 then y0_1 else x7) fun x8 =>
    bnd (w64 (y0_1 - x8)) fun x9 =>
    bnd (decide (x9 = 0)) fun x10 =>
    cond x10 (esc (some ((true : Bool)))) (bnd (w64 (y0_2 + 1)) fun x11 =>
    d_fifo_has_L0 a1 n (x9 : Int) (x11 : Int))) (brk ())
def d_fifo_has (n : Nat) (a1 : List GLayer) (a2 : Int) : Option (Bool) :=
(show Option ((Unit) ⊕ (Bool)) from
d_fifo_has_L0 a1 n (a2 : Int) (0 : Int)).bind <| sel <| fun _ =>
some ((false : Bool))
theorem d_fifo_has_c {n : Nat} {a1 : List GLayer} {a2 : Int} {r : Bool} (h0 : d_fifo_has n a1 a2 = some r) : PP Tryz.prog 275 [lst 3 GLayer.av a1, int a2] (fun y => y = boo r) := by
  unfold d_fifo_has at h0
  refine pp_of_pc (R0 := fun y H => Cv (frzH H) y (boo r)) ?_ (fun y H hc => ⟨_, rfl, pvB r, hc⟩)
  refine pcw (c := _) Tryz.func275 rfl rfl ?_; intro Q hret hnorm
  refine tc tbk 8 (.mk ?_)
  refine sY (yv_len_sl rfl Tryz.underlying95 rfl (lst_len _)) ?_
  refine tr tbk 2 (.mk ?_)
  refine jnE h0 [4] [] (fun (a : Unit) (k : Unit) => []) (fun a k => []) ⟨fun j3 h1 h0 => ?_, ?_⟩
  refine tc tbk 1 (.mk ?_)
  refine lp (fun n (a : Int × Int) => d_fifo_has_L0 a1 n a.1 a.2) ((a2 : Int), (0 : Int)) () h1 [4, 7, 8] [] (fun (a : Int × Int) (k : Unit) => [(1, int a.1), (9, int a.2)]) (fun a k => []) (fun _ => rfl) ⟨leA, ?_⟩
  rintro n ⟨y0_1, y0_2⟩ _ hm h1
  replace h1 : d_fifo_has_L0 a1 (n + 1) y0_1 y0_2 = some _ := h1
  rw [d_fifo_has_L0] at h1
  refine tc tbk 2 (.mk ?_)
  refine nb tbk h1 fun x4 h1 => ?_
  refine tr tbk 2 (.mk ?_)
  cases x4
  replace h1 := cf h1
  refine tc tbk 2 (.mk ?_)
  exact lfE h1 () leA
  replace h1 := ct h1
  refine tc tbk 6 (.mk ?_)
  obtain ⟨x5, e5, h1⟩ := bind_e h1
  refine sY (yv_ixT rfl Tryz.underlying95 sh57 rfl rfl e5) ?_
  refine tr tbk 1 (.mk ?_)
  refine sA 1 z57 fun v6 => ?_
  refine sS ⟨57, 3, true, true, v6, [[int x5.Qty, int x5.Value, int x5.Profit]]⟩ sh57 ?_
  refine tr tbk 6 (.mk ?_)
  obtain ⟨x7, e7, h1⟩ := bnd_e h1
  refine sY (yv_max rfl rfl rfl e7) ?_
  refine tr tbk 1 (.mk ?_)
  obtain ⟨x8, e8, h1⟩ := bnd_e h1
  refine sY (yv_min rfl rfl rfl e8) ?_
  refine ni tbk h1 fun x9 h1 => ?_
  refine tr tbk 5 (.mk ?_)
  refine nb tbk h1 fun x10 h1 => ?_
  refine tr tbk 1 (.mk ?_)
  cases x10
  replace h1 := cf h1
  refine tc tbk 4 (.mk ?_)
  refine ni tbk h1 fun x11 h1 => ?_
  refine tr tbk 2 (.mk ?_)
  exact bk (x9, x11) () h1 leA
  replace h1 := ct h1
  refine tc tbk 5 (.mk ?_)
  obtain ⟨c12, hX, hj⟩ := esc_e h1; subst hj; replace h0 := hX.trans (sel_r h0)
  obtain rfl := nxt_e h0
  refine wR hret (rT .nil) ?_
  exact .refl _
  rintro _ _ h0
  refine tc tbk 4 (.mk ?_)
  obtain rfl := nxt_e h0
  refine wR hret (rT .nil) ?_
  exact .refl _
def d_money_Wide (a1 : Int) (a2 : Int) : Option (Int × Int) :=
bnd (wu64 a1) fun x3 =>
bnd (wu64 a2) fun x4 =>
bnd (x3.tmod 4294967296) fun x5 =>
bnd (x4.tmod 4294967296) fun x6 =>
bnd (wu64 (x5 * x6)) fun x7 =>
bnd (wu64 (x3.tdiv 4294967296)) fun x8 =>
bnd (x4.tmod 4294967296) fun x9 =>
bnd (wu64 (x8 * x9)) fun x10 =>
bnd (x3.tmod 4294967296) fun x11 =>
bnd (wu64 (x4.tdiv 4294967296)) fun x12 =>
bnd (wu64 (x11 * x12)) fun x13 =>
bnd (wu64 (x3.tdiv 4294967296)) fun x14 =>
bnd (wu64 (x4.tdiv 4294967296)) fun x15 =>
bnd (wu64 (x14 * x15)) fun x16 =>
bnd (wu64 (x7.tdiv 4294967296)) fun x18 =>
bnd (x10.tmod 4294967296) fun x19 =>
bnd (wu64 (x18 + x19)) fun x20 =>
bnd (x13.tmod 4294967296) fun x21 =>
bnd (wu64 (x20 + x21)) fun x22 =>
bnd (wu64 (x10.tdiv 4294967296)) fun x23 =>
bnd (wu64 (x16 + x23)) fun x24 =>
bnd (wu64 (x13.tdiv 4294967296)) fun x25 =>
bnd (wu64 (x24 + x25)) fun x26 =>
bnd (wu64 (x22.tdiv 4294967296)) fun x27 =>
bnd (wu64 (x26 + x27)) fun x28 =>
bnd (wu64 (x3 * x4)) fun x29 =>
some ((x28 : Int), (x29 : Int))
theorem d_money_Wide_c {a1 : Int} {a2 : Int} {r : Int × Int} (h0 : d_money_Wide a1 a2 = some r) : PP Tryz.prog 170 [int a1, int a2] (fun y => y = .tup [.sc (.int .u64 r.1), .sc (.int .u64 r.2)]) := by
  unfold d_money_Wide at h0
  refine pp_of_pc (R0 := fun y H => Cv (frzH H) y (.tup [.sc (.int .u64 r.1), .sc (.int .u64 r.2)])) ?_ (fun y H hc => ⟨_, rfl, .tup (pvl2 ((pvK .u64) (r.1)) ((pvK .u64) (r.2))), hc⟩)
  refine pcw (c := _) Tryz.func170 rfl rfl ?_; intro Q hret hnorm
  refine tc tbk 8 (.mk ?_)
  refine ni tbk h0 fun x3 h0 => ?_
  refine tr tbk 1 (.mk ?_)
  refine ni tbk h0 fun x4 h0 => ?_
  refine tr tbk 6 (.mk ?_)
  refine ni tbk h0 fun x5 h0 => ?_
  refine tr tbk 1 (.mk ?_)
  refine ni tbk h0 fun x6 h0 => ?_
  refine ni tbk h0 fun x7 h0 => ?_
  refine tr tbk 1 (.mk ?_)
  refine ni tbk h0 fun x8 h0 => ?_
  refine tr tbk 1 (.mk ?_)
  refine ni tbk h0 fun x9 h0 => ?_
  refine ni tbk h0 fun x10 h0 => ?_
  refine tr tbk 1 (.mk ?_)
  refine ni tbk h0 fun x11 h0 => ?_
  refine tr tbk 1 (.mk ?_)
  refine ni tbk h0 fun x12 h0 => ?_
  refine ni tbk h0 fun x13 h0 => ?_
  refine tr tbk 1 (.mk ?_)
  refine ni tbk h0 fun x14 h0 => ?_
  refine tr tbk 1 (.mk ?_)
  refine ni tbk h0 fun x15 h0 => ?_
  refine ni tbk h0 fun x16 h0 => ?_
  refine sY (yv_buildA (cs := [.sc (.int .u64 x7), .sc (.int .u64 x10), .sc (.int .u64 x13), .sc (.int .u64 x16)]) (ps := [(0, _), (1, _), (2, _), (3, _)]) rfl Tryz.underlying246 sh105 z246 rfl (.cons rfl (.cons rfl (.cons rfl (.cons rfl .nil)))) (by kernel_rfl)) ?_
  refine sA 1 z246 fun v17 => ?_
  refine sS ⟨246, 4, true, true, v17, [[.sc (.int .u64 x7), .sc (.int .u64 x10), .sc (.int .u64 x13), .sc (.int .u64 x16)]]⟩ sh246 ?_
  refine tr tbk 3 (.mk ?_)
  refine sY (yv_to (y := .pt 1 v17 0 0) (yv_indexAddrA rfl Tryz.underlying246 sh105 rfl rfl rfl rfl rfl (by decide)) rfl) ?_
  refine tr tbk 1 (.mk ?_)
  refine ni tbk h0 fun x18 h0 => ?_
  refine sY (yv_to (y := .pt 1 v17 0 1) (yv_indexAddrA rfl Tryz.underlying246 sh105 rfl rfl rfl rfl rfl (by decide)) rfl) ?_
  refine tr tbk 1 (.mk ?_)
  refine ni tbk h0 fun x19 h0 => ?_
  refine ni tbk h0 fun x20 h0 => ?_
  refine sY (yv_to (y := .pt 1 v17 0 2) (yv_indexAddrA rfl Tryz.underlying246 sh105 rfl rfl rfl rfl rfl (by decide)) rfl) ?_
  refine tr tbk 1 (.mk ?_)
  refine ni tbk h0 fun x21 h0 => ?_
  refine ni tbk h0 fun x22 h0 => ?_
  refine tr tbk 4 (.mk ?_)
  refine sY (yv_to (y := .pt 1 v17 0 3) (yv_indexAddrA rfl Tryz.underlying246 sh105 rfl rfl rfl rfl rfl (by decide)) rfl) ?_
  refine tr tbk 1 (.mk ?_)
  refine sY (yv_to (y := .pt 1 v17 0 1) (yv_indexAddrA rfl Tryz.underlying246 sh105 rfl rfl rfl rfl rfl (by decide)) rfl) ?_
  refine tr tbk 1 (.mk ?_)
  refine ni tbk h0 fun x23 h0 => ?_
  refine ni tbk h0 fun x24 h0 => ?_
  refine sY (yv_to (y := .pt 1 v17 0 2) (yv_indexAddrA rfl Tryz.underlying246 sh105 rfl rfl rfl rfl rfl (by decide)) rfl) ?_
  refine tr tbk 1 (.mk ?_)
  refine ni tbk h0 fun x25 h0 => ?_
  refine ni tbk h0 fun x26 h0 => ?_
  refine tr tbk 1 (.mk ?_)
  refine ni tbk h0 fun x27 h0 => ?_
  refine ni tbk h0 fun x28 h0 => ?_
  refine tr tbk 2 (.mk ?_)
  refine ni tbk h0 fun x29 h0 => ?_
  refine tr tbk 3 (.mk ?_)
  obtain rfl := nxt_e h0
  refine wR hret (rT (rT .nil)) ?_
  exact .refl _
def d_math_bits_Len64 (a1 : Int) : Option (Int) :=
bnd (decide (a1 ≥ 4294967296)) fun x2 =>
(show Option (Int × Int) from
cond x2 (bnd (a1.fdiv (2 ^ (min (32 : Int).toNat IntKind.u64.bits))) fun x4 =>
some ((x4 : Int), (32 : Int))) (some ((a1 : Int), (0 : Int)))).bind <| p2 fun (y0_1 : Int) (y0_2 : Int) =>
bnd (decide (y0_1 ≥ 65536)) fun x5 =>
(show Option (Int × Int) from
cond x5 (bnd (y0_1.fdiv (2 ^ (min (16 : Int).toNat IntKind.u64.bits))) fun x7 =>
bnd (w64 (y0_2 + 16)) fun x8 =>
some ((x7 : Int), (x8 : Int))) (some ((y0_1 : Int), (y0_2 : Int)))).bind <| p2 fun (y1_1 : Int) (y1_2 : Int) =>
bnd (decide (y1_1 ≥ 256)) fun x9 =>
(show Option (Int × Int) from
cond x9 (bnd (y1_1.fdiv (2 ^ (min (8 : Int).toNat IntKind.u64.bits))) fun x11 =>
bnd (w64 (y1_2 + 8)) fun x12 =>
some ((x11 : Int), (x12 : Int))) (some ((y1_1 : Int), (y1_2 : Int)))).bind <| p2 fun (y2_1 : Int) (y2_2 : Int) =>
bnd (wu8 y2_1) fun x13 =>
(ix ([0, 1, 2, 2, 3, 3, 3, 3, 4, 4, 4, 4, 4, 4, 4, 4, 5, 5, 5, 5, 5, 5, 5, 5, 5, 5, 5, 5, 5, 5, 5, 5, 6, 6, 6, 6, 6, 6, 6, 6, 6, 6, 6, 6, 6, 6, 6, 6, 6, 6, 6, 6, 6, 6, 6, 6, 6, 6, 6, 6, 6, 6, 6, 6, 7, 7, 7, 7, 7, 7, 7, 7, 7, 7, 7, 7, 7, 7, 7, 7, 7, 7, 7, 7, 7, 7, 7, 7, 7, 7, 7, 7, 7, 7, 7, 7, 7, 7, 7, 7, 7, 7, 7, 7, 7, 7, 7, 7, 7, 7, 7, 7, 7, 7, 7, 7, 7, 7, 7, 7, 7, 7, 7, 7, 7, 7, 7, 7, 8, 8, 8, 8, 8, 8, 8, 8, 8, 8, 8, 8, 8, 8, 8, 8, 8, 8, 8, 8, 8, 8, 8, 8, 8, 8, 8, 8, 8, 8, 8, 8, 8, 8, 8, 8, 8, 8, 8, 8, 8, 8, 8, 8, 8, 8, 8, 8, 8, 8, 8, 8, 8, 8, 8, 8, 8, 8, 8, 8, 8, 8, 8, 8, 8, 8, 8, 8, 8, 8, 8, 8, 8, 8, 8, 8, 8, 8, 8, 8, 8, 8, 8, 8, 8, 8, 8, 8, 8, 8, 8, 8, 8, 8, 8, 8, 8, 8, 8, 8, 8, 8, 8, 8, 8, 8, 8, 8, 8, 8, 8, 8, 8, 8, 8, 8, 8, 8, 8, 8, 8, 8, 8, 8, 8, 8, 8, 8] : List UInt8) x13).bind fun x14 =>
bnd (w64 (x14.toNat : Int)) fun x15 =>
bnd (w64 (y2_2 + x15)) fun x16 =>
some ((x16 : Int))
theorem d_math_bits_Len64_c {a1 : Int} {r : Int} (h0 : d_math_bits_Len64 a1 = some r) : PP Tryz.prog 269 [.sc (.int .u64 a1)] (fun y => y = int r) := by
  unfold d_math_bits_Len64 at h0
  refine pp_of_pc (R0 := fun y H => Cv (frzH H) y (int r)) ?_ (fun y H hc => ⟨_, rfl, pvI r, hc⟩)
  refine pcw (c := _) Tryz.func269 rfl rfl ?_; intro Q hret hnorm
  refine tc tbk 8 (.mk ?_)
  refine nb tbk h0 fun x2 h0 => ?_
  refine tr tbk 1 (.mk ?_)
  refine jn h0 [] [] (fun (a : Int × Int) (k : Unit) => [(0, .sc (.int .u64 a.1)), (2, int a.2)]) (fun a k => []) ⟨fun j3 h1 => ?_, ?_⟩
  cases x2
  replace h1 := cf h1
  refine tc tbk 2 (.mk ?_)
  exact lf h1 () leA
  replace h1 := ct h1
  refine tc tbk 4 (.mk ?_)
  refine ni tbk h1 fun x4 h1 => ?_
  refine tr tbk 5 (.mk ?_)
  exact lf h1 () leA
  rintro ⟨y0_1, y0_2⟩ _ h0
  replace h0 := p2_e h0
  refine tc tbk 4 (.mk ?_)
  refine nb tbk h0 fun x5 h0 => ?_
  refine tr tbk 1 (.mk ?_)
  refine jn h0 [] [] (fun (a : Int × Int) (k : Unit) => [(0, .sc (.int .u64 a.1)), (2, int a.2)]) (fun a k => []) ⟨fun j6 h1 => ?_, ?_⟩
  cases x5
  replace h1 := cf h1
  refine tc tbk 2 (.mk ?_)
  exact lf h1 () leA
  replace h1 := ct h1
  refine tc tbk 4 (.mk ?_)
  refine ni tbk h1 fun x7 h1 => ?_
  refine tr tbk 4 (.mk ?_)
  refine ni tbk h1 fun x8 h1 => ?_
  refine tr tbk 2 (.mk ?_)
  exact lf h1 () leA
  rintro ⟨y1_1, y1_2⟩ _ h0
  replace h0 := p2_e h0
  refine tc tbk 4 (.mk ?_)
  refine nb tbk h0 fun x9 h0 => ?_
  refine tr tbk 1 (.mk ?_)
  refine jn h0 [] [] (fun (a : Int × Int) (k : Unit) => [(0, .sc (.int .u64 a.1)), (2, int a.2)]) (fun a k => []) ⟨fun j10 h1 => ?_, ?_⟩
  cases x9
  replace h1 := cf h1
  refine tc tbk 2 (.mk ?_)
  exact lf h1 () leA
  replace h1 := ct h1
  refine tc tbk 4 (.mk ?_)
  refine ni tbk h1 fun x11 h1 => ?_
  refine tr tbk 4 (.mk ?_)
  refine ni tbk h1 fun x12 h1 => ?_
  refine tr tbk 2 (.mk ?_)
  exact lf h1 () leA
  rintro ⟨y2_1, y2_2⟩ _ h0
  replace h0 := p2_e h0
  refine tc tbk 4 (.mk ?_)
  refine ni tbk h0 fun x13 h0 => ?_
  obtain ⟨x14, e14, h0⟩ := bind_e h0
  refine sY (yv_index_str rfl Tryz.underlying9 rfl rfl (ix_e e14).1 (ix_e e14).2) ?_
  refine ni tbk h0 fun x15 h0 => ?_
  refine ni tbk h0 fun x16 h0 => ?_
  refine tr tbk 2 (.mk ?_)
  obtain rfl := nxt_e h0
  refine wR hret (rT .nil) ?_
  exact .refl _
def d_math_bits_LeadingZeros64 (a1 : Int) : Option (Int) :=
(d_math_bits_Len64 a1).bind fun x2 =>
bnd (w64 (64 - x2)) fun x3 =>
some ((x3 : Int))
theorem d_math_bits_LeadingZeros64_c {a1 : Int} {r : Int} (h0 : d_math_bits_LeadingZeros64 a1 = some r) : PP Tryz.prog 253 [.sc (.int .u64 a1)] (fun y => y = int r) := by
  unfold d_math_bits_LeadingZeros64 at h0
  refine pp_of_pc (R0 := fun y H => Cv (frzH H) y (int r)) ?_ (fun y H hc => ⟨_, rfl, pvI r, hc⟩)
  refine pcw (c := _) Tryz.func253 rfl rfl ?_; intro Q hret hnorm
  refine tc tbk 7 (.mk ?_)
  obtain ⟨x2, e2, h0⟩ := bind_e h0
  refine sC cal269 (d_math_bits_Len64_c e2) ?_
  refine ni tbk h0 fun x3 h0 => ?_
  refine tr tbk 2 (.mk ?_)
  obtain rfl := nxt_e h0
  refine wR hret (rT .nil) ?_
  exact .refl _
def d_math_bits_Div64_L0 (x11 : Int) (x12 : Int) (x21 : Int) : Nat → Int → Int → Option (Int)
  | 0, _, _ => none
  | n + 1, y0_1, y0_2 =>
    (show Option (Bool) from
    bnd (decide (y0_1 ≥ 4294967296)) fun x29 =>
    cond x29 (some (true : Bool)) (bnd (wu64 (y0_1 * x12)) fun x30 =>
    bnd (wu64 (4294967296 * y0_2)) fun x31 =>
    bnd (wu64 (x31 + x21)) fun x32 =>
    bnd (decide (x30 > x32)) fun x33 =>
    some (x33 : Bool))).bind <| fun y1_1 =>
    cond y1_1 (bnd (wu64 (y0_1 - 1)) fun x34 =>
    bnd (wu64 (y0_2 + x11)) fun x35 =>
    bnd (decide (x35 ≥ 4294967296)) fun x36 =>
    cond x36 (some (x34 : Int)) (d_math_bits_Div64_L0 x11 x12 x21 n (x34 : Int) (x35 : Int))) (some (y0_1 : Int))
def d_math_bits_Div64_L1 (x11 : Int) (x12 : Int) (x22 : Int) : Nat → Int → Int → Option (Int)
  | 0, _, _ => none
  | n + 1, y3_1, y3_2 =>
    (show Option (Bool) from
    bnd (decide (y3_2 ≥ 4294967296)) fun x47 =>
    cond x47 (some (true : Bool)) (bnd (wu64 (y3_2 * x12)) fun x48 =>
    bnd (wu64 (4294967296 * y3_1)) fun x49 =>
    bnd (wu64 (x49 + x22)) fun x50 =>
    bnd (decide (x48 > x50)) fun x51 =>
    some (x51 : Bool))).bind <| fun y4_1 =>
    cond y4_1 (bnd (wu64 (y3_2 - 1)) fun x52 =>
    bnd (wu64 (y3_1 + x11)) fun x53 =>
    bnd (decide (x53 ≥ 4294967296)) fun x54 =>
    cond x54 (some (x52 : Int)) (d_math_bits_Div64_L1 x11 x12 x22 n (x53 : Int) (x52 : Int))) (some (y3_2 : Int))
def d_math_bits_Div64 (n : Nat) (a1 : Int) (a2 : Int) (a3 : Int) : Option (Int × Int) :=
bnd (decide (a3 = 0)) fun x4 =>
cond x4 (none) (bnd (decide (a3 ≤ a1)) fun x5 =>
cond x5 (none) (bnd (decide (a1 = 0)) fun x6 =>
cond x6 (asrt (a3 ≠ 0) <|
bnd (wu64 (a2.tdiv a3)) fun x64 =>
asrt (a3 ≠ 0) <|
bnd (a2.tmod a3) fun x66 =>
some ((x64 : Int), (x66 : Int))) ((d_math_bits_LeadingZeros64 a3).bind fun x7 =>
bnd (wu64 x7) fun x8 =>
asrt ((0 : Int) ≤ x8) <|
bnd (wu64 (a3 * (2 ^ (min x8.toNat IntKind.u64.bits)))) fun x10 =>
bnd (x10.fdiv (2 ^ (min (32 : Int).toNat IntKind.u64.bits))) fun x11 =>
bnd (wu64 ((BitVec.ofInt IntKind.u64.bits x10 &&& BitVec.ofInt IntKind.u64.bits 4294967295).toNat : Int)) fun x12 =>
asrt ((0 : Int) ≤ x8) <|
bnd (wu64 (a1 * (2 ^ (min x8.toNat IntKind.u64.bits)))) fun x14 =>
bnd (wu64 (64 - x8)) fun x15 =>
asrt ((0 : Int) ≤ x15) <|
bnd (a2.fdiv (2 ^ (min x15.toNat IntKind.u64.bits))) fun x17 =>
bnd (wu64 ((BitVec.ofInt IntKind.u64.bits x14 ||| BitVec.ofInt IntKind.u64.bits x17).toNat : Int)) fun x18 =>
asrt ((0 : Int) ≤ x8) <|
bnd (wu64 (a2 * (2 ^ (min x8.toNat IntKind.u64.bits)))) fun x20 =>
bnd (x20.fdiv (2 ^ (min (32 : Int).toNat IntKind.u64.bits))) fun x21 =>
bnd (wu64 ((BitVec.ofInt IntKind.u64.bits x20 &&& BitVec.ofInt IntKind.u64.bits 4294967295).toNat : Int)) fun x22 =>
asrt (x11 ≠ 0) <|
bnd (wu64 (x18.tdiv x11)) fun x24 =>
bnd (wu64 (x24 * x11)) fun x25 =>
bnd (wu64 (x18 - x25)) fun x26 =>
(show Option (Int) from
d_math_bits_Div64_L0 x11 x12 x21 n (x24 : Int) (x26 : Int)).bind <| fun y2_1 =>
bnd (wu64 (x18 * 4294967296)) fun x37 =>
bnd (wu64 (x37 + x21)) fun x38 =>
bnd (wu64 (y2_1 * x10)) fun x39 =>
bnd (wu64 (x38 - x39)) fun x40 =>
asrt (x11 ≠ 0) <|
bnd (wu64 (x40.tdiv x11)) fun x42 =>
bnd (wu64 (x42 * x11)) fun x43 =>
bnd (wu64 (x40 - x43)) fun x44 =>
(show Option (Int) from
d_math_bits_Div64_L1 x11 x12 x22 n (x44 : Int) (x42 : Int)).bind <| fun y5_1 =>
bnd (wu64 (y2_1 * 4294967296)) fun x55 =>
bnd (wu64 (x55 + y5_1)) fun x56 =>
bnd (wu64 (x40 * 4294967296)) fun x57 =>
bnd (wu64 (x57 + x22)) fun x58 =>
bnd (wu64 (y5_1 * x10)) fun x59 =>
bnd (wu64 (x58 - x59)) fun x60 =>
asrt ((0 : Int) ≤ x8) <|
bnd (x60.fdiv (2 ^ (min x8.toNat IntKind.u64.bits))) fun x62 =>
some ((x56 : Int), (x62 : Int)))))
theorem d_math_bits_Div64_c {n : Nat} {a1 : Int} {a2 : Int} {a3 : Int} {r : Int × Int} (h0 : d_math_bits_Div64 n a1 a2 a3 = some r) : PP Tryz.prog 219 [.sc (.int .u64 a1), .sc (.int .u64 a2), .sc (.int .u64 a3)] (fun y => y = .tup [.sc (.int .u64 r.1), .sc (.int .u64 r.2)]) := by
  unfold d_math_bits_Div64 at h0
  refine pp_of_pc (R0 := fun y H => Cv (frzH H) y (.tup [.sc (.int .u64 r.1), .sc (.int .u64 r.2)])) ?_ (fun y H hc => ⟨_, rfl, .tup (pvl2 ((pvK .u64) (r.1)) ((pvK .u64) (r.2))), hc⟩)
  refine pcw (c := _) Tryz.func219 rfl rfl ?_; intro Q hret hnorm
  refine tc tbk 9 (.mk ?_)
  refine nb tbk h0 fun x4 h0 => ?_
  refine tr tbk 1 (.mk ?_)
  cases x4
  replace h0 := cf h0
  refine tc tbk 7 (.mk ?_)
  refine nb tbk h0 fun x5 h0 => ?_
  refine tr tbk 1 (.mk ?_)
  cases x5
  replace h0 := cf h0
  refine tc tbk 6 (.mk ?_)
  refine nb tbk h0 fun x6 h0 => ?_
  refine tr tbk 1 (.mk ?_)
  cases x6
  replace h0 := cf h0
  refine tc tbk 5 (.mk ?_)
  obtain ⟨x7, e7, h0⟩ := bind_e h0
  refine sC cal253 (d_math_bits_LeadingZeros64_c e7) ?_
  refine ni tbk h0 fun x8 h0 => ?_
  refine tr tbk 6 (.mk ?_)
  obtain ⟨p9, h0⟩ := asrt_e h0
  obtain ⟨x10, e10, h0⟩ := bnd_e h0
  refine sY (yv_shl rfl rfl rfl p9 e10) ?_
  refine tr tbk 5 (.mk ?_)
  refine ni tbk h0 fun x11 h0 => ?_
  refine tr tbk 5 (.mk ?_)
  obtain ⟨x12, e12, h0⟩ := bnd_e h0
  refine sY (yv_and rfl rfl rfl e12) ?_
  refine tr tbk 6 (.mk ?_)
  obtain ⟨p13, h0⟩ := asrt_e h0
  obtain ⟨x14, e14, h0⟩ := bnd_e h0
  refine sY (yv_shl rfl rfl rfl p13 e14) ?_
  refine tr tbk 2 (.mk ?_)
  refine ni tbk h0 fun x15 h0 => ?_
  obtain ⟨p16, h0⟩ := asrt_e h0
  obtain ⟨x17, e17, h0⟩ := bnd_e h0
  refine sY (yv_shr rfl rfl rfl p16 e17) ?_
  obtain ⟨x18, e18, h0⟩ := bnd_e h0
  refine sY (yv_or rfl rfl rfl e18) ?_
  refine tr tbk 6 (.mk ?_)
  obtain ⟨p19, h0⟩ := asrt_e h0
  obtain ⟨x20, e20, h0⟩ := bnd_e h0
  refine sY (yv_shl rfl rfl rfl p19 e20) ?_
  refine tr tbk 5 (.mk ?_)
  refine ni tbk h0 fun x21 h0 => ?_
  refine tr tbk 5 (.mk ?_)
  obtain ⟨x22, e22, h0⟩ := bnd_e h0
  refine sY (yv_and rfl rfl rfl e22) ?_
  refine tr tbk 6 (.mk ?_)
  obtain ⟨p23, h0⟩ := asrt_e h0
  obtain ⟨x24, e24, h0⟩ := bnd_e h0
  refine sY (yv_quo rfl rfl rfl p23 e24) ?_
  refine tr tbk 7 (.mk ?_)
  refine ni tbk h0 fun x25 h0 => ?_
  refine ni tbk h0 fun x26 h0 => ?_
  refine tr tbk 3 (.mk ?_)
  refine jn h0 [2, 6, 7, 8, 9, 10, 11, 13, 14] [] (fun (a : Int) (k : Unit) => [(15, .sc (.int .u64 a))]) (fun a k => []) ⟨fun j27 h1 => ?_, ?_⟩
  refine tc tbk 1 (.mk ?_)
  refine lp (fun n (a : Int × Int) => d_math_bits_Div64_L0 x11 x12 x21 n a.1 a.2) ((x24 : Int), (x26 : Int)) () h1 [2, 6, 7, 8, 9, 10, 11, 13, 14] [] (fun (a : Int × Int) (k : Unit) => [(15, .sc (.int .u64 a.1)), (16, .sc (.int .u64 a.2))]) (fun a k => []) (fun _ => rfl) ⟨leA, ?_⟩
  rintro n ⟨y0_1, y0_2⟩ _ hm h1
  replace h1 : d_math_bits_Div64_L0 x11 x12 x21 (n + 1) y0_1 y0_2 = some _ := h1
  rw [d_math_bits_Div64_L0] at h1
  refine tc tbk 2 (.mk ?_)
  refine jn h1 [2, 6, 7, 8, 9, 10, 11, 13, 14, 15, 16] [] (fun (a : Bool) (k : Unit) => [(78, boo a)]) (fun a k => []) ⟨fun j28 h2 => ?_, ?_⟩
  refine tc tbk 2 (.mk ?_)
  refine nb tbk h2 fun x29 h2 => ?_
  refine tr tbk 1 (.mk ?_)
  cases x29
  replace h2 := cf h2
  refine tr tbk 2 (.mk ?_)
  refine ni tbk h2 fun x30 h2 => ?_
  refine tr tbk 1 (.mk ?_)
  refine ni tbk h2 fun x31 h2 => ?_
  refine tr tbk 1 (.mk ?_)
  refine ni tbk h2 fun x32 h2 => ?_
  refine nb tbk h2 fun x33 h2 => ?_
  refine tr tbk 2 (.mk ?_)
  exact lf h2 () leA
  replace h2 := ct h2
  refine tr tbk 10 (.mk ?_)
  exact lf h2 () leA
  rintro y1_1 _ h1
  cases y1_1
  replace h1 := cf h1
  refine tc tbk 2 (.mk ?_)
  exact lf h1 () leA
  replace h1 := ct h1
  refine tc tbk 6 (.mk ?_)
  refine ni tbk h1 fun x34 h1 => ?_
  refine tr tbk 6 (.mk ?_)
  refine ni tbk h1 fun x35 h1 => ?_
  refine tr tbk 5 (.mk ?_)
  refine nb tbk h1 fun x36 h1 => ?_
  refine tr tbk 1 (.mk ?_)
  cases x36
  replace h1 := cf h1
  refine tc tbk 3 (.mk ?_)
  exact bk (x34, x35) () h1 leA
  replace h1 := ct h1
  refine tc tbk 2 (.mk ?_)
  exact lf h1 () leA
  rintro y2_1 _ h0
  refine tc tbk 3 (.mk ?_)
  refine ni tbk h0 fun x37 h0 => ?_
  refine tr tbk 1 (.mk ?_)
  refine ni tbk h0 fun x38 h0 => ?_
  refine tr tbk 2 (.mk ?_)
  refine ni tbk h0 fun x39 h0 => ?_
  refine ni tbk h0 fun x40 h0 => ?_
  refine tr tbk 6 (.mk ?_)
  obtain ⟨p41, h0⟩ := asrt_e h0
  obtain ⟨x42, e42, h0⟩ := bnd_e h0
  refine sY (yv_quo rfl rfl rfl p41 e42) ?_
  refine tr tbk 7 (.mk ?_)
  refine ni tbk h0 fun x43 h0 => ?_
  refine ni tbk h0 fun x44 h0 => ?_
  refine tr tbk 3 (.mk ?_)
  refine jn h0 [2, 6, 7, 8, 14, 15, 17] [] (fun (a : Int) (k : Unit) => [(18, .sc (.int .u64 a))]) (fun a k => []) ⟨fun j45 h1 => ?_, ?_⟩
  refine tc tbk 1 (.mk ?_)
  refine lp (fun n (a : Int × Int) => d_math_bits_Div64_L1 x11 x12 x22 n a.1 a.2) ((x44 : Int), (x42 : Int)) () h1 [2, 6, 7, 8, 9, 10, 14, 15, 17] [] (fun (a : Int × Int) (k : Unit) => [(16, .sc (.int .u64 a.1)), (18, .sc (.int .u64 a.2))]) (fun a k => []) (fun _ => rfl) ⟨leA, ?_⟩
  rintro n ⟨y3_1, y3_2⟩ _ hm h1
  replace h1 : d_math_bits_Div64_L1 x11 x12 x22 (n + 1) y3_1 y3_2 = some _ := h1
  rw [d_math_bits_Div64_L1] at h1
  refine tc tbk 2 (.mk ?_)
  refine jn h1 [2, 6, 7, 8, 9, 10, 14, 15, 16, 17, 18] [] (fun (a : Bool) (k : Unit) => [(113, boo a)]) (fun a k => []) ⟨fun j46 h2 => ?_, ?_⟩
  refine tc tbk 2 (.mk ?_)
  refine nb tbk h2 fun x47 h2 => ?_
  refine tr tbk 1 (.mk ?_)
  cases x47
  replace h2 := cf h2
  refine tr tbk 2 (.mk ?_)
  refine ni tbk h2 fun x48 h2 => ?_
  refine tr tbk 1 (.mk ?_)
  refine ni tbk h2 fun x49 h2 => ?_
  refine tr tbk 1 (.mk ?_)
  refine ni tbk h2 fun x50 h2 => ?_
  refine nb tbk h2 fun x51 h2 => ?_
  refine tr tbk 2 (.mk ?_)
  exact lf h2 () leA
  replace h2 := ct h2
  refine tr tbk 10 (.mk ?_)
  exact lf h2 () leA
  rintro y4_1 _ h1
  cases y4_1
  replace h1 := cf h1
  refine tc tbk 2 (.mk ?_)
  exact lf h1 () leA
  replace h1 := ct h1
  refine tc tbk 6 (.mk ?_)
  refine ni tbk h1 fun x52 h1 => ?_
  refine tr tbk 6 (.mk ?_)
  refine ni tbk h1 fun x53 h1 => ?_
  refine tr tbk 5 (.mk ?_)
  refine nb tbk h1 fun x54 h1 => ?_
  refine tr tbk 1 (.mk ?_)
  cases x54
  replace h1 := cf h1
  refine tc tbk 3 (.mk ?_)
  exact bk (x53, x52) () h1 leA
  replace h1 := ct h1
  refine tc tbk 2 (.mk ?_)
  exact lf h1 () leA
  rintro y5_1 _ h0
  refine tc tbk 3 (.mk ?_)
  refine ni tbk h0 fun x55 h0 => ?_
  refine tr tbk 1 (.mk ?_)
  refine ni tbk h0 fun x56 h0 => ?_
  refine tr tbk 1 (.mk ?_)
  refine ni tbk h0 fun x57 h0 => ?_
  refine tr tbk 1 (.mk ?_)
  refine ni tbk h0 fun x58 h0 => ?_
  refine tr tbk 2 (.mk ?_)
  refine ni tbk h0 fun x59 h0 => ?_
  refine ni tbk h0 fun x60 h0 => ?_
  refine tr tbk 1 (.mk ?_)
  obtain ⟨p61, h0⟩ := asrt_e h0
  obtain ⟨x62, e62, h0⟩ := bnd_e h0
  refine sY (yv_shr rfl rfl rfl p61 e62) ?_
  refine tr tbk 3 (.mk ?_)
  obtain rfl := nxt_e h0
  refine wR hret (rT (rT .nil)) ?_
  exact .refl _
  replace h0 := ct h0
  refine tc tbk 2 (.mk ?_)
  refine c_drawE [0, 0, 3, 0, 0, 24, 7, 127] (fun i => []) (fun i => []) (fun i => true) [0, 1, 2, 3, 4, 5, 6, 7] mixed (by kernel_rfl) ?_; intro K hK
  iterate 2 refine eM ?_
  obtain ⟨p63, h0⟩ := asrt_e h0
  obtain ⟨x64, e64, h0⟩ := bnd_e h0
  refine eP (fun H hH => yv_quo rfl rfl rfl p63 e64) ?_
  iterate 2 refine eM ?_
  obtain ⟨p65, h0⟩ := asrt_e h0
  obtain ⟨x66, e66, h0⟩ := bnd_e h0
  refine eP (fun H hH => yv_rem rfl rfl rfl p65 e66) ?_
  iterate 2 refine eA ?_
  refine de_nil (hK _ ?_)
  obtain rfl := nxt_e h0
  refine wR hret (rT (rT .nil)) ?_
  exact .refl _
  replace h0 := ct h0
  refine tc tbk 1 (.mk ?_)
  cases h0
  replace h0 := ct h0
  refine tc tbk 1 (.mk ?_)
  cases h0
def d_money_MulDiv (n : Nat) (a1 : Int) (a2 : Int) (a3 : Int) : Option (Int × Int × Int) :=
(show Option (Bool) from
bnd (decide (a1 < 0)) fun x5 =>
cond x5 (some (true : Bool)) (bnd (decide (a2 < 0)) fun x6 =>
cond x6 (some (true : Bool)) (bnd (decide (a3 < 1)) fun x7 =>
some (x7 : Bool)))).bind <| fun y0_1 =>
asrt (y0_1 = false) <|
(d_money_Wide a1 a2).bind fun x8 =>
bnd (wu64 a3) fun x9 =>
bnd (decide (x8.1 ≥ x9)) fun x10 =>
asrt (x10 = false) <|
bnd (wu64 a3) fun x11 =>
(d_math_bits_Div64 n x8.1 x8.2 x11).bind fun x12 =>
bnd (decide (x12.1 > 288230376151711744)) fun x13 =>
asrt (x13 = false) <|
bnd (w64 x12.1) fun x14 =>
bnd (w64 x12.2) fun x15 =>
some ((x14 : Int), (x15 : Int), (0 : Int))
theorem d_money_MulDiv_c {n : Nat} {a1 : Int} {a2 : Int} {a3 : Int} {r : Int × Int × Int} (h0 : d_money_MulDiv n a1 a2 a3 = some r) : PP Tryz.prog 154 [int a1, int a2, int a3] (fun y => y = .tup [int r.1, int r.2.1, int r.2.2]) := by
  unfold d_money_MulDiv at h0
  refine pp_of_pc (R0 := fun y H => Cv (frzH H) y (.tup [int r.1, int r.2.1, int r.2.2])) ?_ (fun y H hc => ⟨_, rfl, .tup (pvl3 (pvI (r.1)) (pvI (r.2.1)) (pvI (r.2.2))), hc⟩)
  refine pcw (c := _) Tryz.func154 rfl rfl ?_; intro Q hret hnorm
  refine tc tbk 8 (.mk ?_)
  refine jn h0 [0, 1, 2, 6, 7, 8] [] (fun (a : Bool) (k : Unit) => [(22, boo a)]) (fun a k => []) ⟨fun j4 h1 => ?_, ?_⟩
  refine tc tbk 2 (.mk ?_)
  refine nb tbk h1 fun x5 h1 => ?_
  refine tr tbk 1 (.mk ?_)
  cases x5
  replace h1 := cf h1
  refine tr tbk 1 (.mk ?_)
  refine nb tbk h1 fun x6 h1 => ?_
  refine tr tbk 2 (.mk ?_)
  cases x6
  replace h1 := cf h1
  refine tr tbk 1 (.mk ?_)
  refine nb tbk h1 fun x7 h1 => ?_
  refine tr tbk 2 (.mk ?_)
  exact lf h1 () leA
  replace h1 := ct h1
  refine tr tbk 4 (.mk ?_)
  exact lf h1 () leA
  replace h1 := ct h1
  refine tr tbk 8 (.mk ?_)
  exact lf h1 () leA
  rintro y0_1 _ h0
  replace h0 := asrt_e h0
  obtain ⟨rfl, h0⟩ := h0
  refine tc tbk 6 (.mk ?_)
  obtain ⟨x8, e8, h0⟩ := bind_e h0
  refine sC cal170 (d_money_Wide_c e8) ?_
  refine tr tbk 11 (.mk ?_)
  refine ni tbk h0 fun x9 h0 => ?_
  refine nb tbk h0 fun x10 h0 => ?_
  refine tr tbk 1 (.mk ?_)
  replace h0 := asrt_e h0
  obtain ⟨rfl, h0⟩ := h0
  refine tc tbk 7 (.mk ?_)
  refine ni tbk h0 fun x11 h0 => ?_
  obtain ⟨x12, e12, h0⟩ := bind_e h0
  refine sC cal219 (d_math_bits_Div64_c e12) ?_
  refine tr tbk 10 (.mk ?_)
  refine nb tbk h0 fun x13 h0 => ?_
  refine tr tbk 1 (.mk ?_)
  replace h0 := asrt_e h0
  obtain ⟨rfl, h0⟩ := h0
  refine tc tbk 5 (.mk ?_)
  refine ni tbk h0 fun x14 h0 => ?_
  refine tr tbk 1 (.mk ?_)
  refine ni tbk h0 fun x15 h0 => ?_
  refine tr tbk 4 (.mk ?_)
  obtain rfl := nxt_e h0
  refine wR hret (rT (rT (rT .nil))) ?_
  exact .refl _
def d_money_Part (n : Nat) (a1 : Int) (a2 : Int) (a3 : Int) : Option (Int) :=
(show Option (Bool) from
bnd (decide (a3 < 1)) fun x5 =>
cond x5 (some (true : Bool)) (bnd (decide (a2 < 0)) fun x6 =>
cond x6 (some (true : Bool)) (bnd (decide (a2 > a3)) fun x7 =>
cond x7 (some (true : Bool)) ((d_money_in a1).bind fun x8 =>
bnd (!x8) fun x9 =>
some (x9 : Bool))))).bind <| fun y0_1 =>
asrt (y0_1 = false) <|
bnd (decide (a2 = a3)) fun x10 =>
asrt (x10 = false) <|
bnd (decide (a1 < 0)) fun x11 =>
asrt (x11 = false) <|
(d_money_MulDiv n a1 a2 a3).bind fun x12 =>
some ((x12.1 : Int))
theorem d_money_Part_c {n : Nat} {a1 : Int} {a2 : Int} {a3 : Int} {r : Int} (h0 : d_money_Part n a1 a2 a3 = some r) : PP Tryz.prog 141 [int a1, int a2, int a3] (fun y => y = int r) := by
  unfold d_money_Part at h0
  refine pp_of_pc (R0 := fun y H => Cv (frzH H) y (int r)) ?_ (fun y H hc => ⟨_, rfl, pvI r, hc⟩)
  refine pcw (c := _) Tryz.func141 rfl rfl ?_; intro Q hret hnorm
  refine tc tbk 7 (.mk ?_)
  refine jn h0 [0, 1, 2, 6] [] (fun (a : Bool) (k : Unit) => [(13, boo a)]) (fun a k => []) ⟨fun j4 h1 => ?_, ?_⟩
  refine tc tbk 2 (.mk ?_)
  refine nb tbk h1 fun x5 h1 => ?_
  refine tr tbk 1 (.mk ?_)
  cases x5
  replace h1 := cf h1
  refine tr tbk 1 (.mk ?_)
  refine nb tbk h1 fun x6 h1 => ?_
  refine tr tbk 2 (.mk ?_)
  cases x6
  replace h1 := cf h1
  refine tr tbk 2 (.mk ?_)
  refine nb tbk h1 fun x7 h1 => ?_
  refine tr tbk 2 (.mk ?_)
  cases x7
  replace h1 := cf h1
  refine tr tbk 1 (.mk ?_)
  obtain ⟨x8, e8, h1⟩ := bind_e h1
  refine sC cal208 (d_money_in_c e8) ?_
  refine nb tbk h1 fun x9 h1 => ?_
  refine tr tbk 3 (.mk ?_)
  exact lf h1 () leA
  replace h1 := ct h1
  refine tr tbk 6 (.mk ?_)
  exact lf h1 () leA
  replace h1 := ct h1
  refine tr tbk 11 (.mk ?_)
  exact lf h1 () leA
  replace h1 := ct h1
  refine tr tbk 15 (.mk ?_)
  exact lf h1 () leA
  rintro y0_1 _ h0
  replace h0 := asrt_e h0
  obtain ⟨rfl, h0⟩ := h0
  refine tc tbk 5 (.mk ?_)
  refine nb tbk h0 fun x10 h0 => ?_
  refine tr tbk 2 (.mk ?_)
  replace h0 := asrt_e h0
  obtain ⟨rfl, h0⟩ := h0
  refine tc tbk 4 (.mk ?_)
  refine nb tbk h0 fun x11 h0 => ?_
  refine tr tbk 2 (.mk ?_)
  replace h0 := asrt_e h0
  obtain ⟨rfl, h0⟩ := h0
  refine tc tbk 8 (.mk ?_)
  obtain ⟨x12, e12, h0⟩ := bind_e h0
  refine sC cal154 (d_money_MulDiv_c e12) ?_
  refine tr tbk 13 (.mk ?_)
  obtain rfl := nxt_e h0
  refine wR hret (rT .nil) ?_
  exact .refl _
def d_fifo_Out_L0 : Nat → Nat → Nat → Int → (List GLayer) → GLayer → Option (Nat × Nat × (List GLayer) × GLayer)
  | 0, _, _, _, _, _ => none
  | n + 1, y0_1, y0_2, y0_3, y0_4, y0_5 =>
    (show Option (Bool) from
    bnd (decide ((y0_2 : Int) > 0)) fun x12 =>
    cond x12 (bnd (decide (y0_3 > 0)) fun x13 =>
    some (x13 : Bool)) (some (false : Bool))).bind <| fun y1_1 =>
    cond y1_1 (asrt ((0 : Int) ≤ 0 ∧ 0 < (y0_2 : Int)) <|
    (ix y0_4 (((y0_1 : Nat) : Int) + 0)).bind fun x15 =>
    bnd (decide (x15.Qty > y0_3)) fun x17 =>
    (show Option (Nat × Nat × (List GLayer) × GLayer) from
    cond x17 ((d_money_Part n x15.Value y0_3 x15.Qty).bind fun x21 =>
    (d_money_Part n x15.Profit y0_3 x15.Qty).bind fun x22 =>
    asrt ((0 : Int) ≤ 0 ∧ 0 < (y0_2 : Int)) <|
    bnd (w64 (x15.Qty - y0_3)) fun x24 =>
    asrt ((0 : Int) ≤ 0 ∧ 0 < (y0_2 : Int)) <|
    bnd (w64 (x15.Value - x21)) fun x26 =>
    asrt ((0 : Int) ≤ 0 ∧ 0 < (y0_2 : Int)) <|
    bnd (w64 (x15.Profit - x22)) fun x28 =>
    asrt ((0 : Int) ≤ 0 ∧ 0 < (y0_2 : Int)) <|
    bnd (y0_4.set (Int.toNat (((y0_1 : Nat) : Int) + 0)) ((⟨x24, x15.Value, x15.Profit⟩ : GLayer) : GLayer)) fun x30 =>
    asrt ((0 : Int) ≤ 0 ∧ 0 < (y0_2 : Int)) <|
    bnd (x30.set (Int.toNat (((y0_1 : Nat) : Int) + 0)) ((⟨x24, x26, x15.Profit⟩ : GLayer) : GLayer)) fun x32 =>
    asrt ((0 : Int) ≤ 0 ∧ 0 < (y0_2 : Int)) <|
    bnd (x32.set (Int.toNat (((y0_1 : Nat) : Int) + 0)) ((⟨x24, x26, x28⟩ : GLayer) : GLayer)) fun x34 =>
    some ((y0_1 : Nat), (y0_2 : Nat), (x34 : List GLayer), ((⟨y0_3, x21, x22⟩ : GLayer) : GLayer))) (asrt ((0 : Int) ≤ 1 ∧ 1 ≤ (y0_2 : Int) ∧ (y0_2 : Int) ≤ (y0_2 : Int) ∧ 1 < (y0_2 + 1 : Int)) <|
    bnd (if (Int.toNat (y0_2 : Int)) = 1 then y0_1 else y0_1 + 1) fun x20 =>
    some ((x20 : Nat), (((Int.toNat (y0_2 : Int)) - 1) : Nat), (y0_4 : List GLayer), (x15 : GLayer)))).bind <| p2 fun (y2_1 : Nat) (q0 : Nat × (List GLayer) × GLayer) => (p2 fun (y2_2 : Nat) (q1 : (List GLayer) × GLayer) => (p2 fun (y2_3 : List GLayer) (y2_4 : GLayer) =>
    bnd (w64 (y0_5.Qty + y2_4.Qty)) fun x35 =>
    bnd (w64 (y0_5.Value + y2_4.Value)) fun x36 =>
    bnd (w64 (y0_5.Profit + y2_4.Profit)) fun x37 =>
    bnd (w64 (y0_3 - y2_4.Qty)) fun x38 =>
    d_fifo_Out_L0 n (y2_1 : Nat) (y2_2 : Nat) (x38 : Int) (y2_3 : List GLayer) ((⟨x35, x36, x37⟩ : GLayer) : GLayer)) q1) q0) (some ((y0_1 : Nat), (y0_2 : Nat), (y0_4 : List GLayer), (y0_5 : GLayer)))
def d_fifo_Out (n : Nat) (a1 : List GLayer) (a2 : Int) : Option ((List GLayer) × GLayer × Int) :=
asrt (a1.length ≤ 68719476736) <|
bnd (decide (a2 < 1)) fun x6 =>
cond x6 (some ((a1 : List GLayer), ((⟨0, 0, 0⟩ : GLayer) : GLayer), (1 : Int))) ((d_fifo_has n a1 a2).bind fun x7 =>
bnd (!x7) fun x8 =>
asrt (x8 = false) <|
(show Option (Nat × Nat × (List GLayer) × GLayer) from
d_fifo_Out_L0 n (0 : Nat) (a1.length : Nat) (a2 : Int) (a1 : List GLayer) ((⟨0, 0, 0⟩ : GLayer) : GLayer)).bind <| p2 fun (y3_1 : Nat) (q0 : Nat × (List GLayer) × GLayer) => (p2 fun (y3_2 : Nat) (q1 : (List GLayer) × GLayer) => (p2 fun (y3_3 : List GLayer) (y3_4 : GLayer) =>
asrt (y3_1 + y3_2 ≤ y3_3.length) <|
some (((((y3_3).drop y3_1).take y3_2) : List GLayer), (y3_4 : GLayer), (0 : Int))) q1) q0)
theorem d_fifo_Out_c {n : Nat} {a1 : List GLayer} {a2 : Int} {r : (List GLayer) × GLayer × Int} (h0 : d_fifo_Out n a1 a2 = some r) : PP Tryz.prog 259 [lst 3 GLayer.av a1, int a2] (fun y => y = .tup [lst 3 GLayer.av r.1, .agg (GLayer.av r.2.1), int r.2.2]) := by
  unfold d_fifo_Out at h0
  refine pp_of_pc (R0 := fun y H => Cv (frzH H) y (.tup [lst 3 GLayer.av r.1, .agg (GLayer.av r.2.1), int r.2.2])) ?_ (fun y H hc => ⟨_, rfl, .tup (pvl3 ((pvLs GLayer.pvc) (r.1)) ((fun (a : GLayer) => PV.agg (GLayer.pvc a)) (r.2.1)) (pvI (r.2.2))), hc⟩)
  refine pcw (c := _) Tryz.func259 rfl rfl ?_; intro Q hret hnorm
  refine tc tbk 3 (.mk ?_)
  refine sA 1 z57 fun v3 => ?_
  refine tr tbk 5 (.mk ?_)
  obtain ⟨p4, h0⟩ := asrt_e h0
  refine rse rfl rfl rfl (yl_call rfl rfl (.cons rfl .nil) cal211 (pc_cv (clone211_c (id := 2) (l := a1) rfl p4) (.cons (.refl _) .nil))) ?_; rintro _ _ ⟨v5, rfl, rfl⟩
  refine tr tbk 6 (.mk ?_)
  refine nb tbk h0 fun x6 h0 => ?_
  refine tr tbk 1 (.mk ?_)
  cases x6
  replace h0 := cf h0
  refine tc tbk 7 (.mk ?_)
  obtain ⟨x7, e7, h0⟩ := bind_e h0
  refine sY (yv_callT (v := boo x7) rfl rfl (.cons rfl (.cons rfl .nil)) cal275 (.cons (cv_lst rfl rfl rfl rfl rfl (Eq.symm rfl)) (.cons (.refl _) .nil)) (d_fifo_has_c e7) rfl) ?_
  refine nb tbk h0 fun x8 h0 => ?_
  refine tr tbk 1 (.mk ?_)
  replace h0 := asrt_e h0
  obtain ⟨rfl, h0⟩ := h0
  refine tc tbk 4 (.mk ?_)
  refine sA 3 z57 fun v9 => ?_
  refine tr tbk 2 (.mk ?_)
  refine jn h0 [4, 5, 6, 7] [1] (fun (a : Nat × Nat × (List GLayer) × GLayer) (k : Unit) => [(0, .sl 2 v5 a.1 a.2.1)]) (fun a k => [(2, ⟨57, 3, true, true, v5, a.2.2.1.map GLayer.av⟩), (3, ⟨57, 3, true, true, v9, [[int a.2.2.2.Qty, int a.2.2.2.Value, int a.2.2.2.Profit]]⟩)]) ⟨fun j10 h1 => ?_, ?_⟩
  refine tc tbk 1 (.mk ?_)
  refine lp (fun n (a : Nat × Nat × Int × (List GLayer) × GLayer) => d_fifo_Out_L0 n a.1 a.2.1 a.2.2.1 a.2.2.2.1 a.2.2.2.2) ((0 : Nat), (a1.length : Nat), (a2 : Int), (a1 : List GLayer), ((⟨0, 0, 0⟩ : GLayer) : GLayer)) () h1 [4, 5, 6, 7] [1] (fun (a : Nat × Nat × Int × (List GLayer) × GLayer) (k : Unit) => [(0, .sl 2 v5 a.1 a.2.1), (1, int a.2.2.1)]) (fun a k => [(2, ⟨57, 3, true, true, v5, a.2.2.2.1.map GLayer.av⟩), (3, ⟨57, 3, true, true, v9, [[int a.2.2.2.2.Qty, int a.2.2.2.2.Value, int a.2.2.2.2.Profit]]⟩)]) (fun _ => rfl) ⟨leA, ?_⟩
  rintro n ⟨y0_1, y0_2, y0_3, y0_4, y0_5⟩ _ hm h1
  replace h1 : d_fifo_Out_L0 (n + 1) y0_1 y0_2 y0_3 y0_4 y0_5 = some _ := h1
  rw [d_fifo_Out_L0] at h1
  refine tc tbk 2 (.mk ?_)
  refine jn h1 [0, 1, 4, 5, 6, 7] [1, 2, 3] (fun (a : Bool) (k : Unit) => [(27, boo a)]) (fun a k => []) ⟨fun j11 h2 => ?_, ?_⟩
  refine tc tbk 2 (.mk ?_)
  refine sY (yv_len_sl rfl Tryz.underlying95 rfl (.sl rfl rfl)) ?_
  refine nb tbk h2 fun x12 h2 => ?_
  refine tr tbk 1 (.mk ?_)
  cases x12
  replace h2 := cf h2
  refine tr tbk 4 (.mk ?_)
  exact lf h2 () leA
  replace h2 := ct h2
  refine tr tbk 1 (.mk ?_)
  refine nb tbk h2 fun x13 h2 => ?_
  refine tr tbk 2 (.mk ?_)
  exact lf h2 () leA
  rintro y1_1 _ h1
  cases y1_1
  replace h1 := cf h1
  refine tc tbk 2 (.mk ?_)
  exact lf h1 () leA
  replace h1 := ct h1
  refine tc tbk 6 (.mk ?_)
  obtain ⟨p14, h1⟩ := asrt_e h1
  obtain ⟨x15, e15, h1⟩ := bind_e h1
  refine sY (yv_ixW rfl Tryz.underlying95 sh57 rfl rfl rfl rfl rfl p14 (List.length_map _) e15) ?_
  refine sY (yv_load rfl sh57 rfl (.pt rfl rfl (ix_get e15)) rfl) ?_
  refine sA 4 z57 fun v16 => ?_
  refine sS ⟨57, 3, true, true, v16, [[int x15.Qty, int x15.Value, int x15.Profit]]⟩ sh57 ?_
  refine tr tbk 7 (.mk ?_)
  refine nb tbk h1 fun x17 h1 => ?_
  refine tr tbk 1 (.mk ?_)
  refine jn h1 [1, 4, 5, 6, 7, 8] [1, 3] (fun (a : Nat × Nat × (List GLayer) × GLayer) (k : Unit) => [(0, .sl 2 v5 a.1 a.2.1)]) (fun a k => [(2, ⟨57, 3, true, true, v5, a.2.2.1.map GLayer.av⟩), (4, ⟨57, 3, true, true, v16, [[int a.2.2.2.Qty, int a.2.2.2.Value, int a.2.2.2.Profit]]⟩)]) ⟨fun j18 h2 => ?_, ?_⟩
  cases x17
  replace h2 := cf h2
  refine tc tbk 4 (.mk ?_)
  refine sY (yv_len_sl rfl Tryz.underlying95 rfl (.sl rfl rfl)) ?_
  refine tr tbk 1 (.mk ?_)
  refine sY (yv_len_sl rfl Tryz.underlying95 rfl (.sl rfl rfl)) ?_
  obtain ⟨p19, h2⟩ := asrt_e h2
  obtain ⟨x20, e20, h2⟩ := bnd_e h2
  refine sY (yv_slO3 (len := y0_2) (i := 1) (j := (Int.toNat (y0_2 : Int))) rfl Tryz.underlying95 sh57 rfl rfl rfl rfl (.yes rfl (by first | omega | (dsimp only; omega) | (dsimp only at *; omega))) (.yes rfl (by first | omega | (dsimp only; omega) | (dsimp only at *; omega))) (.yes rfl (by first | omega | (dsimp only; omega) | (dsimp only at *; omega))) (by first | omega | (dsimp only; omega) | (dsimp only at *; omega)) (by first | omega | (dsimp only; omega) | (dsimp only at *; omega)) e20) ?_
  refine tr tbk 2 (.mk ?_)
  exact lf h2 () leA
  replace h2 := ct h2
  refine tc tbk 2 (.mk ?_)
  refine c_drawE [0, 0, 2, 0, 0, 16, 62, 0, 128, 0, 0, 1024, 4094, 8191, 16383] (rl [(1, [4]), (2, [4]), (4, [4]), (5, [4]), (7, [4]), (8, [4]), (10, [4]), (11, [4])] []) (rl [(14, [])] [4]) (rl [(14, false)] true) [0, 1, 2, 3, 4, 5, 6, 7, 8, 9, 10, 11, 12, 13, 14] mixed (by kernel_rfl) ?_; intro K hK
  refine eM ?_
  refine eF fo57_1 ?_
  refine eL sh3 ?_
  refine eM ?_
  refine eF fo57_0 ?_
  refine eL sh3 ?_
  obtain ⟨x21, e21, h2⟩ := bind_e h2
  refine eP (fun H hH => yv_callP rfl rfl (.cons rfl (.cons rfl (.cons rfl .nil))) cal141 (CvL.refl _) (d_money_Part_c e21)) ?_
  refine eF fo57_2 ?_
  refine eL sh3 ?_
  refine eM ?_
  refine eF fo57_0 ?_
  refine eL sh3 ?_
  obtain ⟨x22, e22, h2⟩ := bind_e h2
  refine eP (fun H hH => yv_callP rfl rfl (.cons rfl (.cons rfl (.cons rfl .nil))) cal141 (CvL.refl _) (d_money_Part_c e22)) ?_
  refine eP (fun H hH => yv_build (cs := [int y0_3, int x21, int x22]) (ps := [(0, _), (1, _), (2, _)]) rfl pl57 z57 rfl (.cons rfl (.cons rfl (.cons rfl .nil))) (by kernel_rfl)) ?_
  refine de_eff0 rfl rfl rfl rfl (Yield.weak (yl_ob (ob' := (⟨57, 3, true, true, v16, [[int y0_3, int x21, int x22]]⟩ : AObj)) (yl_store rfl sh57 rfl rfl rfl rfl rfl rfl rfl rfl rfl) rfl) (fun _ h => h) (fun _ _ => trivial)) (by rintro _ _ ⟨rfl, rfl⟩; exact trivial) ?_; rintro _ _ ⟨rfl, rfl⟩
  refine de_nil (hK _ ?_)
  refine c_drawE [0, 0, 0, 0, 8, 24, 56, 0, 128, 504, 0, 1024, 3072, 7168, 0, 16384, 64512, 0, 131072, 393216, 917504, 0, 2097152, 8257536, 1982457, 18759673, 52314105, 119537659, 253755387, 522190843, 1073741823, 2147483647, 4294967295] (rl [(4, [2]), (5, [2]), (6, [2]), (7, [4]), (8, [4]), (11, [2]), (12, [2]), (13, [2]), (14, [4]), (15, [4]), (18, [2]), (19, [2]), (20, [2]), (21, [4]), (22, [4]), (24, [2]), (25, [2]), (27, [2]), (28, [2]), (30, [2]), (31, [2])] []) (rl [(26, [4]), (29, [4]), (32, [])] [2, 4]) (rl [(26, false), (29, false), (32, false)] true) [0, 1, 2, 3, 4, 5, 6, 7, 8, 9, 10, 11, 12, 13, 14, 15, 16, 17, 18, 19, 20, 21, 22, 23, 24, 25, 26, 27, 28, 29, 30, 31, 32] mixed (by kernel_rfl) ?_; intro K hK
  iterate 4 refine eM ?_
  obtain ⟨p23, h2⟩ := asrt_e h2
  refine de_pure rfl rfl rfl rfl (fun H hH => yv_ixW rfl Tryz.underlying95 sh57 rfl rfl ((hH _ (by decide)).trans rfl) rfl rfl p23 (List.length_map _) e15) ?_
  refine eF fo57_0 (hr := ix_get e15) ?_
  refine eL sh3 (hr := ix_get e15) ?_
  refine eF fo57_0 ?_
  refine eL sh3 ?_
  obtain ⟨x24, e24, h2⟩ := bnd_e h2
  refine eP (fun H hH => yv_sub rfl rfl rfl e24) ?_
  refine eM ?_
  obtain ⟨p25, h2⟩ := asrt_e h2
  refine de_pure rfl rfl rfl rfl (fun H hH => yv_ixW rfl Tryz.underlying95 sh57 rfl rfl ((hH _ (by decide)).trans rfl) rfl rfl p25 (List.length_map _) e15) ?_
  refine eF fo57_1 (hr := ix_get e15) ?_
  refine eL sh3 (hr := ix_get e15) ?_
  refine eF fo57_1 ?_
  refine eL sh3 ?_
  obtain ⟨x26, e26, h2⟩ := bnd_e h2
  refine eP (fun H hH => yv_sub rfl rfl rfl e26) ?_
  refine eM ?_
  obtain ⟨p27, h2⟩ := asrt_e h2
  refine de_pure rfl rfl rfl rfl (fun H hH => yv_ixW rfl Tryz.underlying95 sh57 rfl rfl ((hH _ (by decide)).trans rfl) rfl rfl p27 (List.length_map _) e15) ?_
  refine eF fo57_2 (hr := ix_get e15) ?_
  refine eL sh3 (hr := ix_get e15) ?_
  refine eF fo57_2 ?_
  refine eL sh3 ?_
  obtain ⟨x28, e28, h2⟩ := bnd_e h2
  refine eP (fun H hH => yv_sub rfl rfl rfl e28) ?_
  obtain ⟨p29, h2⟩ := asrt_e h2
  refine de_pure rfl rfl rfl rfl (fun H hH => yv_ixW rfl Tryz.underlying95 sh57 rfl rfl ((hH _ (by decide)).trans rfl) rfl rfl p29 (List.length_map _) e15) ?_
  refine eF fo57_0 (hr := ix_get e15) ?_
  obtain ⟨x30, e30, h2⟩ := bnd_e h2
  have fx30 := ix_set e15 e30; have lx30 := len_setV e30 (rfl : y0_4.length = y0_4.length)
  refine de_eff0 rfl rfl rfl rfl (Yield.weak (yl_ob (ob' := (⟨57, 3, true, true, v5, x30.map GLayer.av⟩ : AObj)) (yl_store rfl sh3 rfl rfl rfl rfl rfl (ix_get e15) rfl rfl rfl) (ob_eq (map_setV e30))) (fun _ h => h) (fun _ _ => trivial)) (by rintro _ _ ⟨rfl, rfl⟩; exact ⟨rfl, trivial⟩) ?_; rintro _ _ ⟨rfl, rfl⟩
  obtain ⟨p31, h2⟩ := asrt_e h2
  refine de_pure rfl rfl rfl rfl (fun H hH => yv_ixW rfl Tryz.underlying95 sh57 rfl rfl ((hH _ (by decide)).trans rfl) rfl rfl p31 (List.length_map _) fx30) ?_
  refine eF fo57_1 (hr := ix_get fx30) ?_
  obtain ⟨x32, e32, h2⟩ := bnd_e h2
  have fx32 := ix_set fx30 e32; have lx32 := len_setV e32 lx30
  refine de_eff0 rfl rfl rfl rfl (Yield.weak (yl_ob (ob' := (⟨57, 3, true, true, v5, x32.map GLayer.av⟩ : AObj)) (yl_store rfl sh3 rfl rfl rfl rfl rfl (ix_get fx30) rfl rfl rfl) (ob_eq (map_setV e32))) (fun _ h => h) (fun _ _ => trivial)) (by rintro _ _ ⟨rfl, rfl⟩; exact ⟨rfl, trivial⟩) ?_; rintro _ _ ⟨rfl, rfl⟩
  obtain ⟨p33, h2⟩ := asrt_e h2
  refine de_pure rfl rfl rfl rfl (fun H hH => yv_ixW rfl Tryz.underlying95 sh57 rfl rfl ((hH _ (by decide)).trans rfl) rfl rfl p33 (List.length_map _) fx32) ?_
  refine eF fo57_2 (hr := ix_get fx32) ?_
  obtain ⟨x34, e34, h2⟩ := bnd_e h2
  have fx34 := ix_set fx32 e34; have lx34 := len_setV e34 lx32
  refine de_eff0 rfl rfl rfl rfl (Yield.weak (yl_ob (ob' := (⟨57, 3, true, true, v5, x34.map GLayer.av⟩ : AObj)) (yl_store rfl sh3 rfl rfl rfl rfl rfl (ix_get fx32) rfl rfl rfl) (ob_eq (map_setV e34))) (fun _ h => h) (fun _ _ => trivial)) (by rintro _ _ ⟨rfl, rfl⟩; exact trivial) ?_; rintro _ _ ⟨rfl, rfl⟩
  refine de_nil (hK _ ?_)
  exact lf h2 () leA
  rintro ⟨y2_1, y2_2, y2_3, y2_4⟩ _ h1
  replace h1 := p2_e h1
  replace h1 := p2_e h1
  replace h1 := p2_e h1
  refine tc tbk 1 (.mk ?_)
  refine c_drawE [0, 1, 0, 4, 15, 0, 32, 0, 128, 480, 0, 1024, 0, 4096, 15360, 3199, 35967, 102399, 233471, 524287, 1048575] (rl [(0, [3]), (1, [3]), (2, [4]), (3, [4]), (5, [3]), (6, [3]), (7, [4]), (8, [4]), (10, [3]), (11, [3]), (12, [4]), (13, [4]), (15, [3]), (17, [3]), (19, [3])] []) (rl [(16, [4]), (18, [4]), (20, [])] [3, 4]) (rl [(16, false), (18, false), (20, false)] true) [0, 1, 2, 3, 4, 5, 6, 7, 8, 9, 10, 11, 12, 13, 14, 15, 16, 17, 18, 19, 20] mixed (by kernel_rfl) ?_; intro K hK
  refine eF fo57_0 ?_
  refine eL sh3 ?_
  refine eF fo57_0 ?_
  refine eL sh3 ?_
  obtain ⟨x35, e35, h1⟩ := bnd_e h1
  refine eP (fun H hH => yv_add rfl rfl rfl e35) ?_
  refine eF fo57_1 ?_
  refine eL sh3 ?_
  refine eF fo57_1 ?_
  refine eL sh3 ?_
  obtain ⟨x36, e36, h1⟩ := bnd_e h1
  refine eP (fun H hH => yv_add rfl rfl rfl e36) ?_
  refine eF fo57_2 ?_
  refine eL sh3 ?_
  refine eF fo57_2 ?_
  refine eL sh3 ?_
  obtain ⟨x37, e37, h1⟩ := bnd_e h1
  refine eP (fun H hH => yv_add rfl rfl rfl e37) ?_
  refine eF fo57_0 ?_
  refine de_eff0 rfl rfl rfl rfl (Yield.weak (yl_ob (ob' := (⟨57, 3, true, true, v9, [[int x35, int y0_5.Value, int y0_5.Profit]]⟩ : AObj)) (yl_store rfl sh3 rfl rfl rfl rfl rfl rfl rfl rfl rfl) rfl) (fun _ h => h) (fun _ _ => trivial)) (by rintro _ _ ⟨rfl, rfl⟩; exact ⟨rfl, trivial⟩) ?_; rintro _ _ ⟨rfl, rfl⟩
  refine eF fo57_1 ?_
  refine de_eff0 rfl rfl rfl rfl (Yield.weak (yl_ob (ob' := (⟨57, 3, true, true, v9, [[int x35, int x36, int y0_5.Profit]]⟩ : AObj)) (yl_store rfl sh3 rfl rfl rfl rfl rfl rfl rfl rfl rfl) rfl) (fun _ h => h) (fun _ _ => trivial)) (by rintro _ _ ⟨rfl, rfl⟩; exact ⟨rfl, trivial⟩) ?_; rintro _ _ ⟨rfl, rfl⟩
  refine eF fo57_2 ?_
  refine de_eff0 rfl rfl rfl rfl (Yield.weak (yl_ob (ob' := (⟨57, 3, true, true, v9, [[int x35, int x36, int x37]]⟩ : AObj)) (yl_store rfl sh3 rfl rfl rfl rfl rfl rfl rfl rfl rfl) rfl) (fun _ h => h) (fun _ _ => trivial)) (by rintro _ _ ⟨rfl, rfl⟩; exact trivial) ?_; rintro _ _ ⟨rfl, rfl⟩
  refine de_nil (hK _ ?_)
  refine tc tbk 4 (.mk ?_)
  refine ni tbk h1 fun x38 h1 => ?_
  refine tr tbk 3 (.mk ?_)
  exact bk (y2_1, y2_2, x38, y2_3, (⟨x35, x36, x37⟩ : GLayer)) () h1 leA
  rintro ⟨y3_1, y3_2, y3_3, y3_4⟩ _ h0
  replace h0 := p2_e h0
  replace h0 := p2_e h0
  replace h0 := p2_e h0
  refine tc tbk 1 (.mk ?_)
  refine c_drawE [0, 0, 1, 7, 15] (rl [(1, [3])] []) (rl [(3, [])] [3]) (rl [(3, false)] true) [0, 1, 2, 3, 4] mixed (by kernel_rfl) ?_; intro K hK
  refine eM ?_
  refine eL sh57 ?_
  refine eA ?_
  refine de_eff0 rfl rfl rfl rfl (Yield.weak (yl_ob (ob' := (⟨57, 3, true, true, v3, [[int y3_4.Qty, int y3_4.Value, int y3_4.Profit]]⟩ : AObj)) (yl_store rfl sh57 rfl rfl rfl rfl rfl rfl rfl rfl rfl) rfl) (fun _ h => h) (fun _ _ => trivial)) (by rintro _ _ ⟨rfl, rfl⟩; exact trivial) ?_; rintro _ _ ⟨rfl, rfl⟩
  refine eA ?_
  refine de_nil (hK _ ?_)
  obtain ⟨p39, h0⟩ := asrt_e h0
  obtain rfl := nxt_e h0
  refine wR hret (rT (rC sh57 (rT .nil))) ?_
  exact CvL.tup (.cons (cv_win (l := y3_3) rfl rfl rfl rfl (CvLL.refl _) (by first | omega | (simp only [List.length_set]; omega)) rfl) (.cons (.refl _) (.cons (.refl _) .nil)))
  replace h0 := ct h0
  refine tc tbk 6 (.mk ?_)
  refine sS ⟨57, 3, true, true, v3, [[int 0, int 0, int 0]]⟩ sh57 ?_
  refine tr tbk 2 (.mk ?_)
  obtain rfl := nxt_e h0
  refine wR hret (rT (rC sh57 (rT .nil))) ?_
  exact CvL.tup (.cons (cv_lst rfl rfl rfl rfl rfl (Eq.symm rfl)) (.cons (.refl _) (.cons (.refl _) .nil)))
def d_mavg_Out (n : Nat) (a1 : List GLayer) (a2 : Int) : Option ((List GLayer) × GLayer × Int) :=
(show Option ((Unit)) from
some ()).bind <| fun _ =>
(d_fifo_Out n a1 a2).bind fun x6 =>
some ((x6.1 : List GLayer), (x6.2.1 : GLayer), (x6.2.2 : Int))
theorem d_mavg_Out_c {n : Nat} {a1 : List GLayer} {a2 : Int} {r : (List GLayer) × GLayer × Int} (h0 : d_mavg_Out n a1 a2 = some r) : PP Tryz.prog 169 [lst 3 GLayer.av a1, int a2] (fun y => y = .tup [lst 3 GLayer.av r.1, .agg (GLayer.av r.2.1), int r.2.2]) := by
  unfold d_mavg_Out at h0
  refine pp_of_pc (R0 := fun y H => Cv (frzH H) y (.tup [lst 3 GLayer.av r.1, .agg (GLayer.av r.2.1), int r.2.2])) ?_ (fun y H hc => ⟨_, rfl, .tup (pvl3 ((pvLs GLayer.pvc) (r.1)) ((fun (a : GLayer) => PV.agg (GLayer.pvc a)) (r.2.1)) (pvI (r.2.2))), hc⟩)
  refine pcw (c := _) Tryz.func169 rfl rfl ?_; intro Q hret hnorm
  refine tc tbk 3 (.mk ?_)
  refine sA 1 z57 fun v3 => ?_
  refine tr tbk 4 (.mk ?_)
  obtain ⟨j4, h1, h0⟩ := bind_e h0
  refine rse (Out := fun y H' => (∃ (a : Unit) (k : Unit), a = j4 ∧ y = .agg [.fn (.func 258) [] [], .fn (.func 259) [] [], .fn (.func 171) [] []] ∧ H' = hk [(1, ⟨57, 3, true, true, v3, [[int 0, int 0, int 0]]⟩)])) rfl rfl rfl (yl_call rfl rfl .nil cal225 ?_) ?_
  refine pcw (c := _) Tryz.func225 rfl rfl ?_; intro Q hret hnorm
  refine tc tbk 2 (.mk ?_)
  refine sA 2 z244 fun v5 => ?_
  refine tr tbk 4 (.mk ?_)
  refine sS ⟨244, 3, true, true, v5, [[.fn (.func 258) [] [], .fn (.func 259) [] [], .fn (.func 171) [] []]]⟩ sh244 ?_
  refine tr tbk 1 (.mk ?_)
  obtain rfl := nxt_e h1
  refine w_ret (hret _ _ (hk [(1, ⟨57, 3, true, true, v3, [[int 0, int 0, int 0]]⟩)]) (.cell rfl (.pt rfl rfl rfl) sh244 rfl .nil) (HK.le ⟨rfl, trivial⟩) ?_)
  exact ⟨(), (), rfl, rfl, rfl⟩
  rintro y _ ⟨_, _, rfl, hc, rfl⟩
  subst hc
  refine tr tbk 3 (.mk ?_)
  obtain ⟨x6, e6, h0⟩ := bind_e h0
  refine sC cal259 (d_fifo_Out_c e6) ?_
  refine tr tbk 4 (.mk ?_)
  refine sS ⟨57, 3, true, true, v3, [[int x6.2.1.Qty, int x6.2.1.Value, int x6.2.1.Profit]]⟩ sh57 ?_
  refine tr tbk 2 (.mk ?_)
  obtain rfl := nxt_e h0
  refine wR hret (rT (rC sh57 (rT .nil))) ?_
  exact .refl _
def d_pavg_Settle (n : Nat) (a1 : GPool) : Option (GPool × A3_GLayer) :=
(d_pavg_own a1 a1.Layers).bind fun x6 =>
(show Option ((Unit)) from
some ()).bind <| fun _ =>
(show Option ((Unit)) from
some ()).bind <| fun _ =>
(show Option ((Unit)) from
some ()).bind <| fun _ =>
(show Option (GPool × Int × Int × Int × Int × Int × Int × Int × Int × Int) from
(show Option ((GPool × Int × Int × Int)) from
(d_mavg_Out n x6.Layers x6.Pend.a0).bind fun x15 =>
bnd (decide (x15.2.2 = 0)) fun x17 =>
cond x17 (some (((⟨x15.1, x6.Pend⟩ : GPool) : GPool), (x15.2.1.Qty : Int), (x15.2.1.Value : Int), (x15.2.1.Profit : Int))) (some ((x6 : GPool), (0 : Int), (0 : Int), (0 : Int)))).bind <| p2 fun (y4_1 : GPool) (q0 : Int × Int × Int) => (p2 fun (y4_2 : Int) (q1 : Int × Int) => (p2 fun (y4_3 : Int) (y4_4 : Int) =>
(show Option ((GPool × Int × Int × Int)) from
(d_mavg_Out n y4_1.Layers y4_1.Pend.a1).bind fun x19 =>
bnd (decide (x19.2.2 = 0)) fun x21 =>
cond x21 (some (((⟨x19.1, y4_1.Pend⟩ : GPool) : GPool), (x19.2.1.Qty : Int), (x19.2.1.Value : Int), (x19.2.1.Profit : Int))) (some ((y4_1 : GPool), (0 : Int), (0 : Int), (0 : Int)))).bind <| p2 fun (y4_1_1 : GPool) (q0 : Int × Int × Int) => (p2 fun (y4_2_1 : Int) (q1 : Int × Int) => (p2 fun (y4_3_1 : Int) (y4_4_1 : Int) =>
(show Option ((GPool × Int × Int × Int)) from
(d_mavg_Out n y4_1_1.Layers y4_1_1.Pend.a2).bind fun x23 =>
bnd (decide (x23.2.2 = 0)) fun x25 =>
cond x25 (some (((⟨x23.1, y4_1_1.Pend⟩ : GPool) : GPool), (x23.2.1.Qty : Int), (x23.2.1.Value : Int), (x23.2.1.Profit : Int))) (some ((y4_1_1 : GPool), (0 : Int), (0 : Int), (0 : Int)))).bind <| p2 fun (y4_1_2 : GPool) (q0 : Int × Int × Int) => (p2 fun (y4_2_2 : Int) (q1 : Int × Int) => (p2 fun (y4_3_2 : Int) (y4_4_2 : Int) =>
some ((y4_1_2 : GPool), (y4_2 : Int), (y4_3 : Int), (y4_4 : Int), (y4_2_1 : Int), (y4_3_1 : Int), (y4_4_1 : Int), (y4_2_2 : Int), (y4_3_2 : Int), (y4_4_2 : Int))) q1) q0) q1) q0) q1) q0).bind <| p2 fun (y5_1 : GPool) (q0 : Int × Int × Int × Int × Int × Int × Int × Int × Int) => (p2 fun (y5_2 : Int) (q1 : Int × Int × Int × Int × Int × Int × Int × Int) => (p2 fun (y5_3 : Int) (q2 : Int × Int × Int × Int × Int × Int × Int) => (p2 fun (y5_4 : Int) (q3 : Int × Int × Int × Int × Int × Int) => (p2 fun (y5_5 : Int) (q4 : Int × Int × Int × Int × Int) => (p2 fun (y5_6 : Int) (q5 : Int × Int × Int × Int) => (p2 fun (y5_7 : Int) (q6 : Int × Int × Int) => (p2 fun (y5_8 : Int) (q7 : Int × Int) => (p2 fun (y5_9 : Int) (y5_10 : Int) =>
some (((⟨y5_1.Layers, (⟨0, 0, 0⟩ : A3_Int)⟩ : GPool) : GPool), ((⟨(⟨y5_2, y5_3, y5_4⟩ : GLayer), (⟨y5_5, y5_6, y5_7⟩ : GLayer), (⟨y5_8, y5_9, y5_10⟩ : GLayer)⟩ : A3_GLayer) : A3_GLayer))) q7) q6) q5) q4) q3) q2) q1) q0
theorem d_pavg_Settle_c {n : Nat} {a1 : GPool} {r : GPool × A3_GLayer} (h0 : d_pavg_Settle n a1 = some r) : PP Tryz.prog 95 [.agg (GPool.av a1)] (fun y => y = .tup [.agg (GPool.av r.1), .agg (A3_GLayer.av r.2)]) := by
  unfold d_pavg_Settle at h0
  refine pp_of_pc (R0 := fun y H => Cv (frzH H) y (.tup [.agg (GPool.av r.1), .agg (A3_GLayer.av r.2)])) ?_ (fun y H hc => ⟨_, rfl, .tup (pvl2 ((fun (a : GPool) => PV.agg (GPool.pvc a)) (r.1)) ((fun (a : A3_GLayer) => PV.agg (A3_GLayer.pvc a)) (r.2))), hc⟩)
  refine pcw (c := _) Tryz.func95 rfl rfl ?_; intro Q hret hnorm
  refine tc tbk 2 (.mk ?_)
  refine sB 1 fun v2 => ?_
  refine sA 2 z98 fun v3 => ?_
  refine sA 3 z151 fun v4 => ?_
  refine tr tbk 3 (.mk ?_)
  refine sA 4 z151 fun v5 => ?_
  refine tr tbk 6 (.mk ?_)
  obtain ⟨x6, e6, h0⟩ := bind_e h0
  refine sC cal166 (d_pavg_own_c e6) ?_
  refine sS ⟨98, 4, true, true, v2, [[lst 3 GLayer.av x6.Layers, int x6.Pend.a0, int x6.Pend.a1, int x6.Pend.a2]]⟩ sh98 ?_
  refine tr tbk 10 (.mk ?_)
  obtain ⟨j7, h1, h0⟩ := bind_e h0
  refine rse (Out := fun y H' => (∃ (a : Unit) (k : Nat), a = j7 ∧ y = .fn (.func 168) [] [.pt 1 v2 0 0, .pt 5 k 0 0, .pt 4 v5 0 0] ∧ H' = hk [(1, ⟨98, 4, true, true, v2, [[lst 3 GLayer.av x6.Layers, int x6.Pend.a0, int x6.Pend.a1, int x6.Pend.a2]]⟩), (2, ⟨98, 4, true, true, v3, [[.sc (.slice none 0 0), int 0, int 0, int 0]]⟩), (3, ⟨151, 9, true, true, v4, [[int 0, int 0, int 0, int 0, int 0, int 0, int 0, int 0, int 0]]⟩), (4, ⟨151, 9, true, true, v5, [[int 0, int 0, int 0, int 0, int 0, int 0, int 0, int 0, int 0]]⟩), (5, ⟨3, 1, true, true, k, [[int 0]]⟩)])) rfl rfl rfl (yl_call rfl rfl (.cons rfl .nil) cal167 ?_) ?_
  refine pcw (c := _) Tryz.func167 rfl rfl ?_; intro Q hret hnorm
  refine tc tbk 2 (.mk ?_)
  refine sB 5 fun v8 => ?_
  refine tr tbk 7 (.mk ?_)
  obtain rfl := nxt_e h1
  refine w_ret (hret _ _ (hk [(1, ⟨98, 4, true, true, v2, [[lst 3 GLayer.av x6.Layers, int x6.Pend.a0, int x6.Pend.a1, int x6.Pend.a2]]⟩), (2, ⟨98, 4, true, true, v3, [[.sc (.slice none 0 0), int 0, int 0, int 0]]⟩), (3, ⟨151, 9, true, true, v4, [[int 0, int 0, int 0, int 0, int 0, int 0, int 0, int 0, int 0]]⟩), (4, ⟨151, 9, true, true, v5, [[int 0, int 0, int 0, int 0, int 0, int 0, int 0, int 0, int 0]]⟩), (5, ⟨3, 1, true, true, v8, [[int 0]]⟩)]) (.tmp rfl .nil) (HK.le ⟨rfl, rfl, rfl, rfl, rfl, trivial⟩) ?_)
  exact ⟨(), v8, rfl, rfl, rfl⟩
  rintro y _ ⟨_, w0_1, rfl, hc, rfl⟩
  subst hc
  refine tr tbk 1 (.mk ?_)
  obtain ⟨j9, h1, h0⟩ := bind_e h0
  refine rse (Out := fun y H' => (∃ (a : Unit) (k : Nat), a = j9 ∧ y = .fn (.func 168) [] [.pt 1 v2 0 0, .pt 6 k 0 0, .pt 4 v5 0 0] ∧ H' = hk [(1, ⟨98, 4, true, true, v2, [[lst 3 GLayer.av x6.Layers, int x6.Pend.a0, int x6.Pend.a1, int x6.Pend.a2]]⟩), (2, ⟨98, 4, true, true, v3, [[.sc (.slice none 0 0), int 0, int 0, int 0]]⟩), (3, ⟨151, 9, true, true, v4, [[int 0, int 0, int 0, int 0, int 0, int 0, int 0, int 0, int 0]]⟩), (4, ⟨151, 9, true, true, v5, [[int 0, int 0, int 0, int 0, int 0, int 0, int 0, int 0, int 0]]⟩), (5, ⟨3, 1, true, true, w0_1, [[int 0]]⟩), (6, ⟨3, 1, true, true, k, [[int 1]]⟩)])) rfl rfl rfl (yl_call rfl rfl (.cons rfl .nil) cal167 ?_) ?_
  refine pcw (c := _) Tryz.func167 rfl rfl ?_; intro Q hret hnorm
  refine tc tbk 2 (.mk ?_)
  refine sB 6 fun v10 => ?_
  refine tr tbk 7 (.mk ?_)
  obtain rfl := nxt_e h1
  refine w_ret (hret _ _ (hk [(1, ⟨98, 4, true, true, v2, [[lst 3 GLayer.av x6.Layers, int x6.Pend.a0, int x6.Pend.a1, int x6.Pend.a2]]⟩), (2, ⟨98, 4, true, true, v3, [[.sc (.slice none 0 0), int 0, int 0, int 0]]⟩), (3, ⟨151, 9, true, true, v4, [[int 0, int 0, int 0, int 0, int 0, int 0, int 0, int 0, int 0]]⟩), (4, ⟨151, 9, true, true, v5, [[int 0, int 0, int 0, int 0, int 0, int 0, int 0, int 0, int 0]]⟩), (5, ⟨3, 1, true, true, w0_1, [[int 0]]⟩), (6, ⟨3, 1, true, true, v10, [[int 1]]⟩)]) (.tmp rfl .nil) (HK.le ⟨rfl, rfl, rfl, rfl, rfl, rfl, trivial⟩) ?_)
  exact ⟨(), v10, rfl, rfl, rfl⟩
  rintro y _ ⟨_, w1_1, rfl, hc, rfl⟩
  subst hc
  refine tr tbk 1 (.mk ?_)
  obtain ⟨j11, h1, h0⟩ := bind_e h0
  refine rse (Out := fun y H' => (∃ (a : Unit) (k : Nat), a = j11 ∧ y = .fn (.func 168) [] [.pt 1 v2 0 0, .pt 7 k 0 0, .pt 4 v5 0 0] ∧ H' = hk [(1, ⟨98, 4, true, true, v2, [[lst 3 GLayer.av x6.Layers, int x6.Pend.a0, int x6.Pend.a1, int x6.Pend.a2]]⟩), (2, ⟨98, 4, true, true, v3, [[.sc (.slice none 0 0), int 0, int 0, int 0]]⟩), (3, ⟨151, 9, true, true, v4, [[int 0, int 0, int 0, int 0, int 0, int 0, int 0, int 0, int 0]]⟩), (4, ⟨151, 9, true, true, v5, [[int 0, int 0, int 0, int 0, int 0, int 0, int 0, int 0, int 0]]⟩), (5, ⟨3, 1, true, true, w0_1, [[int 0]]⟩), (6, ⟨3, 1, true, true, w1_1, [[int 1]]⟩), (7, ⟨3, 1, true, true, k, [[int 2]]⟩)])) rfl rfl rfl (yl_call rfl rfl (.cons rfl .nil) cal167 ?_) ?_
  refine pcw (c := _) Tryz.func167 rfl rfl ?_; intro Q hret hnorm
  refine tc tbk 2 (.mk ?_)
  refine sB 7 fun v12 => ?_
  refine tr tbk 7 (.mk ?_)
  obtain rfl := nxt_e h1
  refine w_ret (hret _ _ (hk [(1, ⟨98, 4, true, true, v2, [[lst 3 GLayer.av x6.Layers, int x6.Pend.a0, int x6.Pend.a1, int x6.Pend.a2]]⟩), (2, ⟨98, 4, true, true, v3, [[.sc (.slice none 0 0), int 0, int 0, int 0]]⟩), (3, ⟨151, 9, true, true, v4, [[int 0, int 0, int 0, int 0, int 0, int 0, int 0, int 0, int 0]]⟩), (4, ⟨151, 9, true, true, v5, [[int 0, int 0, int 0, int 0, int 0, int 0, int 0, int 0, int 0]]⟩), (5, ⟨3, 1, true, true, w0_1, [[int 0]]⟩), (6, ⟨3, 1, true, true, w1_1, [[int 1]]⟩), (7, ⟨3, 1, true, true, v12, [[int 2]]⟩)]) (.tmp rfl .nil) (HK.le ⟨rfl, rfl, rfl, rfl, rfl, rfl, rfl, trivial⟩) ?_)
  exact ⟨(), v12, rfl, rfl, rfl⟩
  rintro y _ ⟨_, w2_1, rfl, hc, rfl⟩
  subst hc
  refine sY (yv_buildA (cs := [.fn (.func 168) [] [.pt 1 v2 0 0, .pt 5 w0_1 0 0, .pt 4 v5 0 0], .fn (.func 168) [] [.pt 1 v2 0 0, .pt 6 w1_1 0 0, .pt 4 v5 0 0], .fn (.func 168) [] [.pt 1 v2 0 0, .pt 7 w2_1 0 0, .pt 4 v5 0 0]]) (ps := [(0, _), (1, _), (2, _)]) rfl Tryz.underlying209 sh1 z209 rfl (.cons rfl (.cons rfl (.cons rfl .nil))) (by kernel_rfl)) ?_
  refine tr tbk 2 (.mk ?_)
  refine jn h0 [1, 2, 3, 4] [2, 3] (fun (a : GPool × Int × Int × Int × Int × Int × Int × Int × Int × Int) (k : Unit) => []) (fun a k => [(1, ⟨98, 4, true, true, v2, [[lst 3 GLayer.av a.1.Layers, int a.1.Pend.a0, int a.1.Pend.a1, int a.1.Pend.a2]]⟩), (4, ⟨151, 9, true, true, v5, [[int a.2.1, int a.2.2.1, int a.2.2.2.1, int a.2.2.2.2.1, int a.2.2.2.2.2.1, int a.2.2.2.2.2.2.1, int a.2.2.2.2.2.2.2.1, int a.2.2.2.2.2.2.2.2.1, int a.2.2.2.2.2.2.2.2.2]]⟩)]) ⟨fun j13 h1 => ?_, ?_⟩
  refine tc tbk 4 (.mk ?_)
  refine sY (yv_to (y := boo true) (yv_lss rfl rfl rfl) (congrArg boo (by decide))) ?_
  refine tr tbk 8 (.mk ?_)
  refine sY (yv_indexA rfl Tryz.underlying209 sh1 rfl rfl (by decide) rfl) ?_
  refine tr tbk 4 (.mk ?_)
  obtain ⟨j14, h2, h1⟩ := bind_e h1
  refine rse (Out := fun y H' => (∃ (a : GPool × Int × Int × Int) (k : Unit), a = j14 ∧ y = .tup [] ∧ H' = hk [(1, ⟨98, 4, true, true, v2, [[lst 3 GLayer.av a.1.Layers, int a.1.Pend.a0, int a.1.Pend.a1, int a.1.Pend.a2]]⟩), (2, ⟨98, 4, true, true, v3, [[.sc (.slice none 0 0), int 0, int 0, int 0]]⟩), (3, ⟨151, 9, true, true, v4, [[int 0, int 0, int 0, int 0, int 0, int 0, int 0, int 0, int 0]]⟩), (4, ⟨151, 9, true, true, v5, [[int a.2.1, int a.2.2.1, int a.2.2.2, int 0, int 0, int 0, int 0, int 0, int 0]]⟩), (5, ⟨3, 1, true, true, w0_1, [[int 0]]⟩), (6, ⟨3, 1, true, true, w1_1, [[int 1]]⟩), (7, ⟨3, 1, true, true, w2_1, [[int 2]]⟩)])) rfl rfl rfl (yl_call rfl rfl .nil cal168 ?_) ?_
  refine pcw (c := _) Tryz.func168 rfl rfl ?_; intro Q hret hnorm
  refine tc tbk 1 (.mk ?_)
  refine c_drawE [0, 1, 0, 0, 12, 28, 63, 127, 255, 255, 255, 0, 2559, 7167, 16383] (rl [(0, [1]), (1, [1]), (2, [5]), (3, [1]), (4, [1]), (5, [1])] []) (rl [(13, [])] [1, 5]) (rl [(11, false), (13, false)] true) [0, 1, 2, 3, 4, 5, 6, 7, 8, 9, 10, 11, 12, 13, 14] mixed (by kernel_rfl) ?_; intro K hK
  refine eF fo98_0 ?_
  refine eL sh95 ?_
  refine eL sh3 ?_
  refine eF fo98_1 ?_
  refine de_pure rfl rfl rfl rfl (fun H hH => yv_to (y := .pt 1 v2 0 1) (yv_indexAddrA rfl Tryz.underlying96 sh3 rfl rfl ((hH _ (by decide)).trans rfl) rfl rfl (by decide)) rfl) ?_
  refine eL sh3 ?_
  obtain ⟨x15, e15, h2⟩ := bind_e h2
  refine eP (fun H hH => yv_callP rfl rfl (.cons rfl (.cons rfl .nil)) cal169 (CvL.refl _) (d_mavg_Out_c e15)) ?_
  refine eM ?_
  iterate 3 refine eX ?_
  refine de_eff rfl rfl rfl rfl (yl_alloc 8 .any rfl z57 rfl) (by rintro _ _ ⟨v16, -, rfl, rfl⟩; exact ⟨rfl, rfl, trivial⟩) ?_; rintro _ _ ⟨v16, -, rfl, rfl⟩
  refine eA ?_
  refine de_eff0 rfl rfl rfl rfl (Yield.weak (yl_ob (ob' := (⟨57, 3, true, true, v16, [[int x15.2.1.Qty, int x15.2.1.Value, int x15.2.1.Profit]]⟩ : AObj)) (yl_store rfl sh57 rfl rfl rfl rfl rfl rfl rfl rfl rfl) rfl) (fun _ h => h) (fun _ _ => trivial)) (by rintro _ _ ⟨rfl, rfl⟩; exact trivial) ?_; rintro _ _ ⟨rfl, rfl⟩
  refine eA ?_
  refine de_nil (hK _ ?_)
  refine tc tbk 3 (.mk ?_)
  refine nb tbk h2 fun x17 h2 => ?_
  refine tr tbk 1 (.mk ?_)
  cases x17
  replace h2 := cf h2
  refine tc tbk 2 (.mk ?_)
  obtain rfl := nxt_e h2
  refine g_nil (hnorm _ _ (hk [(1, ⟨98, 4, true, true, v2, [[lst 3 GLayer.av x6.Layers, int x6.Pend.a0, int x6.Pend.a1, int x6.Pend.a2]]⟩), (2, ⟨98, 4, true, true, v3, [[.sc (.slice none 0 0), int 0, int 0, int 0]]⟩), (3, ⟨151, 9, true, true, v4, [[int 0, int 0, int 0, int 0, int 0, int 0, int 0, int 0, int 0]]⟩), (4, ⟨151, 9, true, true, v5, [[int 0, int 0, int 0, int 0, int 0, int 0, int 0, int 0, int 0]]⟩), (5, ⟨3, 1, true, true, w0_1, [[int 0]]⟩), (6, ⟨3, 1, true, true, w1_1, [[int 1]]⟩), (7, ⟨3, 1, true, true, w2_1, [[int 2]]⟩)]) .nil (HK.le ⟨rfl, rfl, rfl, rfl, rfl, rfl, rfl, trivial⟩) ?_)
  exact ⟨(x6, 0, 0, 0), (), rfl, rfl, rfl⟩
  replace h2 := ct h2
  refine tc tbk 1 (.mk ?_)
  refine c_drawE [0, 0, 0, 2, 10, 31, 63] (rl [(0, [5]), (2, [8]), (3, [1]), (5, [4])] []) (rl [(4, [5, 8]), (6, [])] [1, 4, 5, 8]) (rl [(4, false), (6, false)] true) [0, 1, 2, 3, 4, 5, 6] mixed (by kernel_rfl) ?_; intro K hK
  refine eL sh3 ?_
  refine eM ?_
  refine eL sh57 ?_
  refine eF fo98_0 ?_
  refine de_eff0 rfl rfl rfl rfl (Yield.weak (yl_ob (ob' := (⟨98, 4, true, true, v2, [[lst 3 GLayer.av x15.1, int x6.Pend.a0, int x6.Pend.a1, int x6.Pend.a2]]⟩ : AObj)) (yl_store rfl sh95 rfl rfl rfl rfl rfl rfl rfl rfl rfl) rfl) (fun _ h => h) (fun _ _ => trivial)) (by rintro _ _ ⟨rfl, rfl⟩; exact ⟨rfl, rfl, trivial⟩) ?_; rintro _ _ ⟨rfl, rfl⟩
  refine de_pure rfl rfl rfl rfl (fun H hH => yv_to (y := .pt 4 v5 0 0) (yv_indexAddrA rfl Tryz.underlying151 sh57 rfl rfl ((hH _ (by decide)).trans rfl) rfl rfl (by decide)) rfl) ?_
  refine de_eff0 rfl rfl rfl rfl (Yield.weak (yl_ob (ob' := (⟨151, 9, true, true, v5, [[int x15.2.1.Qty, int x15.2.1.Value, int x15.2.1.Profit, int 0, int 0, int 0, int 0, int 0, int 0]]⟩ : AObj)) (yl_store rfl sh57 rfl rfl rfl rfl rfl rfl rfl rfl rfl) rfl) (fun _ h => h) (fun _ _ => trivial)) (by rintro _ _ ⟨rfl, rfl⟩; exact trivial) ?_; rintro _ _ ⟨rfl, rfl⟩
  refine de_nil (hK _ ?_)
  obtain rfl := nxt_e h2
  refine c_nil (hnorm _ _ (hk [(1, ⟨98, 4, true, true, v2, [[lst 3 GLayer.av (⟨x15.1, x6.Pend⟩ : GPool).Layers, int (⟨x15.1, x6.Pend⟩ : GPool).Pend.a0, int (⟨x15.1, x6.Pend⟩ : GPool).Pend.a1, int (⟨x15.1, x6.Pend⟩ : GPool).Pend.a2]]⟩), (2, ⟨98, 4, true, true, v3, [[.sc (.slice none 0 0), int 0, int 0, int 0]]⟩), (3, ⟨151, 9, true, true, v4, [[int 0, int 0, int 0, int 0, int 0, int 0, int 0, int 0, int 0]]⟩), (4, ⟨151, 9, true, true, v5, [[int x15.2.1.Qty, int x15.2.1.Value, int x15.2.1.Profit, int 0, int 0, int 0, int 0, int 0, int 0]]⟩), (5, ⟨3, 1, true, true, w0_1, [[int 0]]⟩), (6, ⟨3, 1, true, true, w1_1, [[int 1]]⟩), (7, ⟨3, 1, true, true, w2_1, [[int 2]]⟩)]) .nil (HK.le ⟨(by first | rfl), rfl, rfl, rfl, rfl, rfl, rfl, trivial⟩) ?_)
  exact ⟨((⟨x15.1, x6.Pend⟩ : GPool), x15.2.1.Qty, x15.2.1.Value, x15.2.1.Profit), (), rfl, rfl, rfl⟩
  rintro y _ ⟨⟨y4_1, y4_2, y4_3, y4_4⟩, _, rfl, hc, rfl⟩
  replace h1 := p2_e h1
  replace h1 := p2_e h1
  replace h1 := p2_e h1
  subst hc
  refine tr tbk 3 (.mk ?_)
  refine sY (yv_add (r := 1) rfl rfl rfl (by decide)) ?_
  refine tr tbk 5 (.mk ?_)
  refine sY (yv_to (y := boo true) (yv_lss rfl rfl rfl) (congrArg boo (by decide))) ?_
  refine tr tbk 8 (.mk ?_)
  refine sY (yv_indexA rfl Tryz.underlying209 sh1 rfl rfl (by decide) rfl) ?_
  refine tr tbk 4 (.mk ?_)
  obtain ⟨j18, h2, h1⟩ := bind_e h1
  refine rse (Out := fun y H' => (∃ (a : GPool × Int × Int × Int) (k : Unit), a = j18 ∧ y = .tup [] ∧ H' = hk [(1, ⟨98, 4, true, true, v2, [[lst 3 GLayer.av a.1.Layers, int a.1.Pend.a0, int a.1.Pend.a1, int a.1.Pend.a2]]⟩), (2, ⟨98, 4, true, true, v3, [[.sc (.slice none 0 0), int 0, int 0, int 0]]⟩), (3, ⟨151, 9, true, true, v4, [[int 0, int 0, int 0, int 0, int 0, int 0, int 0, int 0, int 0]]⟩), (4, ⟨151, 9, true, true, v5, [[int y4_2, int y4_3, int y4_4, int a.2.1, int a.2.2.1, int a.2.2.2, int 0, int 0, int 0]]⟩), (5, ⟨3, 1, true, true, w0_1, [[int 0]]⟩), (6, ⟨3, 1, true, true, w1_1, [[int 1]]⟩), (7, ⟨3, 1, true, true, w2_1, [[int 2]]⟩)])) rfl rfl rfl (yl_call rfl rfl .nil cal168 ?_) ?_
  refine pcw (c := _) Tryz.func168 rfl rfl ?_; intro Q hret hnorm
  refine tc tbk 1 (.mk ?_)
  refine c_drawE [0, 1, 0, 0, 12, 28, 63, 127, 255, 255, 255, 0, 2559, 7167, 16383] (rl [(0, [1]), (1, [1]), (2, [6]), (3, [1]), (4, [1]), (5, [1])] []) (rl [(13, [])] [1, 6]) (rl [(11, false), (13, false)] true) [0, 1, 2, 3, 4, 5, 6, 7, 8, 9, 10, 11, 12, 13, 14] mixed (by kernel_rfl) ?_; intro K hK
  refine eF fo98_0 ?_
  refine eL sh95 ?_
  refine eL sh3 ?_
  refine eF fo98_1 ?_
  refine de_pure rfl rfl rfl rfl (fun H hH => yv_to (y := .pt 1 v2 0 2) (yv_indexAddrA rfl Tryz.underlying96 sh3 rfl rfl ((hH _ (by decide)).trans rfl) rfl rfl (by decide)) rfl) ?_
  refine eL sh3 ?_
  obtain ⟨x19, e19, h2⟩ := bind_e h2
  refine eP (fun H hH => yv_callP rfl rfl (.cons rfl (.cons rfl .nil)) cal169 (CvL.refl _) (d_mavg_Out_c e19)) ?_
  refine eM ?_
  iterate 3 refine eX ?_
  refine de_eff rfl rfl rfl rfl (yl_alloc 8 .any rfl z57 rfl) (by rintro _ _ ⟨v20, -, rfl, rfl⟩; exact ⟨rfl, rfl, trivial⟩) ?_; rintro _ _ ⟨v20, -, rfl, rfl⟩
  refine eA ?_
  refine de_eff0 rfl rfl rfl rfl (Yield.weak (yl_ob (ob' := (⟨57, 3, true, true, v20, [[int x19.2.1.Qty, int x19.2.1.Value, int x19.2.1.Profit]]⟩ : AObj)) (yl_store rfl sh57 rfl rfl rfl rfl rfl rfl rfl rfl rfl) rfl) (fun _ h => h) (fun _ _ => trivial)) (by rintro _ _ ⟨rfl, rfl⟩; exact trivial) ?_; rintro _ _ ⟨rfl, rfl⟩
  refine eA ?_
  refine de_nil (hK _ ?_)
  refine tc tbk 3 (.mk ?_)
  refine nb tbk h2 fun x21 h2 => ?_
  refine tr tbk 1 (.mk ?_)
  cases x21
  replace h2 := cf h2
  refine tc tbk 2 (.mk ?_)
  obtain rfl := nxt_e h2
  refine g_nil (hnorm _ _ (hk [(1, ⟨98, 4, true, true, v2, [[lst 3 GLayer.av y4_1.Layers, int y4_1.Pend.a0, int y4_1.Pend.a1, int y4_1.Pend.a2]]⟩), (2, ⟨98, 4, true, true, v3, [[.sc (.slice none 0 0), int 0, int 0, int 0]]⟩), (3, ⟨151, 9, true, true, v4, [[int 0, int 0, int 0, int 0, int 0, int 0, int 0, int 0, int 0]]⟩), (4, ⟨151, 9, true, true, v5, [[int y4_2, int y4_3, int y4_4, int 0, int 0, int 0, int 0, int 0, int 0]]⟩), (5, ⟨3, 1, true, true, w0_1, [[int 0]]⟩), (6, ⟨3, 1, true, true, w1_1, [[int 1]]⟩), (7, ⟨3, 1, true, true, w2_1, [[int 2]]⟩)]) .nil (HK.le ⟨rfl, rfl, rfl, rfl, rfl, rfl, rfl, trivial⟩) ?_)
  exact ⟨(y4_1, 0, 0, 0), (), rfl, rfl, rfl⟩
  replace h2 := ct h2
  refine tc tbk 1 (.mk ?_)
  refine c_drawE [0, 0, 0, 2, 10, 31, 63] (rl [(0, [6]), (2, [8]), (3, [1]), (5, [4])] []) (rl [(4, [6, 8]), (6, [])] [1, 4, 6, 8]) (rl [(4, false), (6, false)] true) [0, 1, 2, 3, 4, 5, 6] mixed (by kernel_rfl) ?_; intro K hK
  refine eL sh3 ?_
  refine eM ?_
  refine eL sh57 ?_
  refine eF fo98_0 ?_
  refine de_eff0 rfl rfl rfl rfl (Yield.weak (yl_ob (ob' := (⟨98, 4, true, true, v2, [[lst 3 GLayer.av x19.1, int y4_1.Pend.a0, int y4_1.Pend.a1, int y4_1.Pend.a2]]⟩ : AObj)) (yl_store rfl sh95 rfl rfl rfl rfl rfl rfl rfl rfl rfl) rfl) (fun _ h => h) (fun _ _ => trivial)) (by rintro _ _ ⟨rfl, rfl⟩; exact ⟨rfl, rfl, trivial⟩) ?_; rintro _ _ ⟨rfl, rfl⟩
  refine de_pure rfl rfl rfl rfl (fun H hH => yv_to (y := .pt 4 v5 0 3) (yv_indexAddrA rfl Tryz.underlying151 sh57 rfl rfl ((hH _ (by decide)).trans rfl) rfl rfl (by decide)) rfl) ?_
  refine de_eff0 rfl rfl rfl rfl (Yield.weak (yl_ob (ob' := (⟨151, 9, true, true, v5, [[int y4_2, int y4_3, int y4_4, int x19.2.1.Qty, int x19.2.1.Value, int x19.2.1.Profit, int 0, int 0, int 0]]⟩ : AObj)) (yl_store rfl sh57 rfl rfl rfl rfl rfl rfl rfl rfl rfl) rfl) (fun _ h => h) (fun _ _ => trivial)) (by rintro _ _ ⟨rfl, rfl⟩; exact trivial) ?_; rintro _ _ ⟨rfl, rfl⟩
  refine de_nil (hK _ ?_)
  obtain rfl := nxt_e h2
  refine c_nil (hnorm _ _ (hk [(1, ⟨98, 4, true, true, v2, [[lst 3 GLayer.av (⟨x19.1, y4_1.Pend⟩ : GPool).Layers, int (⟨x19.1, y4_1.Pend⟩ : GPool).Pend.a0, int (⟨x19.1, y4_1.Pend⟩ : GPool).Pend.a1, int (⟨x19.1, y4_1.Pend⟩ : GPool).Pend.a2]]⟩), (2, ⟨98, 4, true, true, v3, [[.sc (.slice none 0 0), int 0, int 0, int 0]]⟩), (3, ⟨151, 9, true, true, v4, [[int 0, int 0, int 0, int 0, int 0, int 0, int 0, int 0, int 0]]⟩), (4, ⟨151, 9, true, true, v5, [[int y4_2, int y4_3, int y4_4, int x19.2.1.Qty, int x19.2.1.Value, int x19.2.1.Profit, int 0, int 0, int 0]]⟩), (5, ⟨3, 1, true, true, w0_1, [[int 0]]⟩), (6, ⟨3, 1, true, true, w1_1, [[int 1]]⟩), (7, ⟨3, 1, true, true, w2_1, [[int 2]]⟩)]) .nil (HK.le ⟨(by first | rfl), rfl, rfl, rfl, rfl, rfl, rfl, trivial⟩) ?_)
  exact ⟨((⟨x19.1, y4_1.Pend⟩ : GPool), x19.2.1.Qty, x19.2.1.Value, x19.2.1.Profit), (), rfl, rfl, rfl⟩
  rintro y _ ⟨⟨y4_1_1, y4_2_1, y4_3_1, y4_4_1⟩, _, rfl, hc, rfl⟩
  replace h1 := p2_e h1
  replace h1 := p2_e h1
  replace h1 := p2_e h1
  subst hc
  refine tr tbk 3 (.mk ?_)
  refine sY (yv_add (r := 2) rfl rfl rfl (by decide)) ?_
  refine tr tbk 5 (.mk ?_)
  refine sY (yv_to (y := boo true) (yv_lss rfl rfl rfl) (congrArg boo (by decide))) ?_
  refine tr tbk 8 (.mk ?_)
  refine sY (yv_indexA rfl Tryz.underlying209 sh1 rfl rfl (by decide) rfl) ?_
  refine tr tbk 4 (.mk ?_)
  obtain ⟨j22, h2, h1⟩ := bind_e h1
  refine rse (Out := fun y H' => (∃ (a : GPool × Int × Int × Int) (k : Unit), a = j22 ∧ y = .tup [] ∧ H' = hk [(1, ⟨98, 4, true, true, v2, [[lst 3 GLayer.av a.1.Layers, int a.1.Pend.a0, int a.1.Pend.a1, int a.1.Pend.a2]]⟩), (2, ⟨98, 4, true, true, v3, [[.sc (.slice none 0 0), int 0, int 0, int 0]]⟩), (3, ⟨151, 9, true, true, v4, [[int 0, int 0, int 0, int 0, int 0, int 0, int 0, int 0, int 0]]⟩), (4, ⟨151, 9, true, true, v5, [[int y4_2, int y4_3, int y4_4, int y4_2_1, int y4_3_1, int y4_4_1, int a.2.1, int a.2.2.1, int a.2.2.2]]⟩), (5, ⟨3, 1, true, true, w0_1, [[int 0]]⟩), (6, ⟨3, 1, true, true, w1_1, [[int 1]]⟩), (7, ⟨3, 1, true, true, w2_1, [[int 2]]⟩)])) rfl rfl rfl (yl_call rfl rfl .nil cal168 ?_) ?_
  refine pcw (c := _) Tryz.func168 rfl rfl ?_; intro Q hret hnorm
  refine tc tbk 1 (.mk ?_)
  refine c_drawE [0, 1, 0, 0, 12, 28, 63, 127, 255, 255, 255, 0, 2559, 7167, 16383] (rl [(0, [1]), (1, [1]), (2, [7]), (3, [1]), (4, [1]), (5, [1])] []) (rl [(13, [])] [1, 7]) (rl [(11, false), (13, false)] true) [0, 1, 2, 3, 4, 5, 6, 7, 8, 9, 10, 11, 12, 13, 14] mixed (by kernel_rfl) ?_; intro K hK
  refine eF fo98_0 ?_
  refine eL sh95 ?_
  refine eL sh3 ?_
  refine eF fo98_1 ?_
  refine de_pure rfl rfl rfl rfl (fun H hH => yv_to (y := .pt 1 v2 0 3) (yv_indexAddrA rfl Tryz.underlying96 sh3 rfl rfl ((hH _ (by decide)).trans rfl) rfl rfl (by decide)) rfl) ?_
  refine eL sh3 ?_
  obtain ⟨x23, e23, h2⟩ := bind_e h2
  refine eP (fun H hH => yv_callP rfl rfl (.cons rfl (.cons rfl .nil)) cal169 (CvL.refl _) (d_mavg_Out_c e23)) ?_
  refine eM ?_
  iterate 3 refine eX ?_
  refine de_eff rfl rfl rfl rfl (yl_alloc 8 .any rfl z57 rfl) (by rintro _ _ ⟨v24, -, rfl, rfl⟩; exact ⟨rfl, rfl, trivial⟩) ?_; rintro _ _ ⟨v24, -, rfl, rfl⟩
  refine eA ?_
  refine de_eff0 rfl rfl rfl rfl (Yield.weak (yl_ob (ob' := (⟨57, 3, true, true, v24, [[int x23.2.1.Qty, int x23.2.1.Value, int x23.2.1.Profit]]⟩ : AObj)) (yl_store rfl sh57 rfl rfl rfl rfl rfl rfl rfl rfl rfl) rfl) (fun _ h => h) (fun _ _ => trivial)) (by rintro _ _ ⟨rfl, rfl⟩; exact trivial) ?_; rintro _ _ ⟨rfl, rfl⟩
  refine eA ?_
  refine de_nil (hK _ ?_)
  refine tc tbk 3 (.mk ?_)
  refine nb tbk h2 fun x25 h2 => ?_
  refine tr tbk 1 (.mk ?_)
  cases x25
  replace h2 := cf h2
  refine tc tbk 2 (.mk ?_)
  obtain rfl := nxt_e h2
  refine g_nil (hnorm _ _ (hk [(1, ⟨98, 4, true, true, v2, [[lst 3 GLayer.av y4_1_1.Layers, int y4_1_1.Pend.a0, int y4_1_1.Pend.a1, int y4_1_1.Pend.a2]]⟩), (2, ⟨98, 4, true, true, v3, [[.sc (.slice none 0 0), int 0, int 0, int 0]]⟩), (3, ⟨151, 9, true, true, v4, [[int 0, int 0, int 0, int 0, int 0, int 0, int 0, int 0, int 0]]⟩), (4, ⟨151, 9, true, true, v5, [[int y4_2, int y4_3, int y4_4, int y4_2_1, int y4_3_1, int y4_4_1, int 0, int 0, int 0]]⟩), (5, ⟨3, 1, true, true, w0_1, [[int 0]]⟩), (6, ⟨3, 1, true, true, w1_1, [[int 1]]⟩), (7, ⟨3, 1, true, true, w2_1, [[int 2]]⟩)]) .nil (HK.le ⟨rfl, rfl, rfl, rfl, rfl, rfl, rfl, trivial⟩) ?_)
  exact ⟨(y4_1_1, 0, 0, 0), (), rfl, rfl, rfl⟩
  replace h2 := ct h2
  refine tc tbk 1 (.mk ?_)
  refine c_drawE [0, 0, 0, 2, 10, 31, 63] (rl [(0, [7]), (2, [8]), (3, [1]), (5, [4])] []) (rl [(4, [7, 8]), (6, [])] [1, 4, 7, 8]) (rl [(4, false), (6, false)] true) [0, 1, 2, 3, 4, 5, 6] mixed (by kernel_rfl) ?_; intro K hK
  refine eL sh3 ?_
  refine eM ?_
  refine eL sh57 ?_
  refine eF fo98_0 ?_
  refine de_eff0 rfl rfl rfl rfl (Yield.weak (yl_ob (ob' := (⟨98, 4, true, true, v2, [[lst 3 GLayer.av x23.1, int y4_1_1.Pend.a0, int y4_1_1.Pend.a1, int y4_1_1.Pend.a2]]⟩ : AObj)) (yl_store rfl sh95 rfl rfl rfl rfl rfl rfl rfl rfl rfl) rfl) (fun _ h => h) (fun _ _ => trivial)) (by rintro _ _ ⟨rfl, rfl⟩; exact ⟨rfl, rfl, trivial⟩) ?_; rintro _ _ ⟨rfl, rfl⟩
  refine de_pure rfl rfl rfl rfl (fun H hH => yv_to (y := .pt 4 v5 0 6) (yv_indexAddrA rfl Tryz.underlying151 sh57 rfl rfl ((hH _ (by decide)).trans rfl) rfl rfl (by decide)) rfl) ?_
  refine de_eff0 rfl rfl rfl rfl (Yield.weak (yl_ob (ob' := (⟨151, 9, true, true, v5, [[int y4_2, int y4_3, int y4_4, int y4_2_1, int y4_3_1, int y4_4_1, int x23.2.1.Qty, int x23.2.1.Value, int x23.2.1.Profit]]⟩ : AObj)) (yl_store rfl sh57 rfl rfl rfl rfl rfl rfl rfl rfl rfl) rfl) (fun _ h => h) (fun _ _ => trivial)) (by rintro _ _ ⟨rfl, rfl⟩; exact trivial) ?_; rintro _ _ ⟨rfl, rfl⟩
  refine de_nil (hK _ ?_)
  obtain rfl := nxt_e h2
  refine c_nil (hnorm _ _ (hk [(1, ⟨98, 4, true, true, v2, [[lst 3 GLayer.av (⟨x23.1, y4_1_1.Pend⟩ : GPool).Layers, int (⟨x23.1, y4_1_1.Pend⟩ : GPool).Pend.a0, int (⟨x23.1, y4_1_1.Pend⟩ : GPool).Pend.a1, int (⟨x23.1, y4_1_1.Pend⟩ : GPool).Pend.a2]]⟩), (2, ⟨98, 4, true, true, v3, [[.sc (.slice none 0 0), int 0, int 0, int 0]]⟩), (3, ⟨151, 9, true, true, v4, [[int 0, int 0, int 0, int 0, int 0, int 0, int 0, int 0, int 0]]⟩), (4, ⟨151, 9, true, true, v5, [[int y4_2, int y4_3, int y4_4, int y4_2_1, int y4_3_1, int y4_4_1, int x23.2.1.Qty, int x23.2.1.Value, int x23.2.1.Profit]]⟩), (5, ⟨3, 1, true, true, w0_1, [[int 0]]⟩), (6, ⟨3, 1, true, true, w1_1, [[int 1]]⟩), (7, ⟨3, 1, true, true, w2_1, [[int 2]]⟩)]) .nil (HK.le ⟨(by first | rfl), rfl, rfl, rfl, rfl, rfl, rfl, trivial⟩) ?_)
  exact ⟨((⟨x23.1, y4_1_1.Pend⟩ : GPool), x23.2.1.Qty, x23.2.1.Value, x23.2.1.Profit), (), rfl, rfl, rfl⟩
  rintro y _ ⟨⟨y4_1_2, y4_2_2, y4_3_2, y4_4_2⟩, _, rfl, hc, rfl⟩
  replace h1 := p2_e h1
  replace h1 := p2_e h1
  replace h1 := p2_e h1
  subst hc
  refine tr tbk 3 (.mk ?_)
  refine sY (yv_add (r := 3) rfl rfl rfl (by decide)) ?_
  refine tr tbk 5 (.mk ?_)
  refine sY (yv_to (y := boo false) (yv_lss rfl rfl rfl) (congrArg boo (by decide))) ?_
  refine tr tbk 4 (.mk ?_)
  exact lf h1 () leA
  rintro ⟨y5_1, y5_2, y5_3, y5_4, y5_5, y5_6, y5_7, y5_8, y5_9, y5_10⟩ _ h0
  replace h0 := p2_e h0
  replace h0 := p2_e h0
  replace h0 := p2_e h0
  replace h0 := p2_e h0
  replace h0 := p2_e h0
  replace h0 := p2_e h0
  replace h0 := p2_e h0
  replace h0 := p2_e h0
  replace h0 := p2_e h0
  refine tc tbk 2 (.mk ?_)
  refine sY (yv_buildA (cs := [int 0, int 0, int 0]) (ps := []) rfl Tryz.underlying96 sh3 z96 rfl .nil (by kernel_rfl)) ?_
  refine tr tbk 1 (.mk ?_)
  refine sS ⟨98, 4, true, true, v2, [[lst 3 GLayer.av y5_1.Layers, int 0, int 0, int 0]]⟩ sh96 ?_
  refine tr tbk 2 (.mk ?_)
  refine c_drawE [0, 0, 1, 7] (rl [(0, [1]), (1, [4])] []) (rl [(2, [4]), (3, [])] [1, 4]) (rl [(2, false), (3, false)] true) [0, 1, 2, 3] mixed (by kernel_rfl) ?_; intro K hK
  refine eL sh98 ?_
  refine eL sh151 ?_
  refine de_eff0 rfl rfl rfl rfl (Yield.weak (yl_ob (ob' := (⟨98, 4, true, true, v3, [[lst 3 GLayer.av y5_1.Layers, int 0, int 0, int 0]]⟩ : AObj)) (yl_store rfl sh98 rfl rfl rfl rfl rfl rfl rfl rfl rfl) rfl) (fun _ h => h) (fun _ _ => trivial)) (by rintro _ _ ⟨rfl, rfl⟩; exact ⟨rfl, trivial⟩) ?_; rintro _ _ ⟨rfl, rfl⟩
  refine de_eff0 rfl rfl rfl rfl (Yield.weak (yl_ob (ob' := (⟨151, 9, true, true, v4, [[int y5_2, int y5_3, int y5_4, int y5_5, int y5_6, int y5_7, int y5_8, int y5_9, int y5_10]]⟩ : AObj)) (yl_store rfl sh151 rfl rfl rfl rfl rfl rfl rfl rfl rfl) rfl) (fun _ h => h) (fun _ _ => trivial)) (by rintro _ _ ⟨rfl, rfl⟩; exact trivial) ?_; rintro _ _ ⟨rfl, rfl⟩
  refine de_nil (hK _ ?_)
  obtain rfl := nxt_e h0
  refine wR hret (rC sh98 (rC sh151 .nil)) ?_
  exact .refl _
def d_close_waits (a1 : GSale) (a2 : Int) (a3 : Int) : Option (Bool) :=
(show Option (Bool) from
bnd a1.Waits fun x6 =>
cond x6 (bnd (decide (a1.Entity = a2)) fun x7 =>
cond x7 (bnd (decide (a1.Period = a3)) fun x8 =>
some (x8 : Bool)) (some (false : Bool))) (some (false : Bool))).bind <| fun y0_1 =>
some ((y0_1 : Bool))
theorem d_close_waits_c {a1 : GSale} {a2 : Int} {a3 : Int} {r : Bool} (h0 : d_close_waits a1 a2 a3 = some r) : PP Tryz.prog 54 [.agg (GSale.av a1), int a2, int a3] (fun y => y = boo r) := by
  unfold d_close_waits at h0
  refine pp_of_pc (R0 := fun y H => Cv (frzH H) y (boo r)) ?_ (fun y H hc => ⟨_, rfl, pvB r, hc⟩)
  refine pcw (c := _) Tryz.func54 rfl rfl ?_; intro Q hret hnorm
  refine tc tbk 2 (.mk ?_)
  refine sB 1 fun v4 => ?_
  refine tr tbk 3 (.mk ?_)
  refine jn h0 [] [] (fun (a : Bool) (k : Unit) => [(6, boo a)]) (fun a k => []) ⟨fun j5 h1 => ?_, ?_⟩
  refine tc tbk 4 (.mk ?_)
  obtain ⟨x6, e6, h1⟩ := bnd_e h1
  refine rsas 8 (boo x6) rfl (congrArg boo e6) ?_
  refine rsas 9 (boo x6) rfl (congrArg boo e6) ?_
  cases x6
  replace h1 := cf h1
  refine tr tbk 13 (.mk ?_)
  exact lf h1 () leA
  replace h1 := ct h1
  refine tr tbk 3 (.mk ?_)
  refine nb tbk h1 fun x7 h1 => ?_
  refine tr tbk 2 (.mk ?_)
  cases x7
  replace h1 := cf h1
  refine tr tbk 7 (.mk ?_)
  exact lf h1 () leA
  replace h1 := ct h1
  refine tr tbk 3 (.mk ?_)
  refine nb tbk h1 fun x8 h1 => ?_
  refine tr tbk 3 (.mk ?_)
  exact lf h1 () leA
  rintro y0_1 _ h0
  obtain rfl := nxt_e h0
  refine wR hret (rT .nil) ?_
  exact .refl _
def d_parts_Split_1 (a1 : Int) : Option (Bool) :=
(show Option (Bool) from
bnd (decide (a1 < 0)) fun x3 =>
cond x3 (some (true : Bool)) (bnd (decide (a1 > 288230376151711744)) fun x4 =>
some (x4 : Bool))).bind <| fun y0_1 =>
some ((y0_1 : Bool))
theorem d_parts_Split_1_c {a1 : Int} {r : Bool} (h0 : d_parts_Split_1 a1 = some r) : PP Tryz.prog 150 [int a1] (fun y => y = boo r) := by
  unfold d_parts_Split_1 at h0
  refine pp_of_pc (R0 := fun y H => Cv (frzH H) y (boo r)) ?_ (fun y H hc => ⟨_, rfl, pvB r, hc⟩)
  refine pcw (c := _) Tryz.func150 rfl rfl ?_; intro Q hret hnorm
  refine tc tbk 5 (.mk ?_)
  refine jn h0 [] [] (fun (a : Bool) (k : Unit) => [(2, boo a)]) (fun a k => []) ⟨fun j2 h1 => ?_, ?_⟩
  refine tc tbk 2 (.mk ?_)
  refine nb tbk h1 fun x3 h1 => ?_
  refine tr tbk 1 (.mk ?_)
  cases x3
  replace h1 := cf h1
  refine tr tbk 1 (.mk ?_)
  refine nb tbk h1 fun x4 h1 => ?_
  refine tr tbk 3 (.mk ?_)
  exact lf h1 () leA
  replace h1 := ct h1
  refine tr tbk 5 (.mk ?_)
  exact lf h1 () leA
  rintro y0_1 _ h0
  obtain rfl := nxt_e h0
  refine wR hret (rT .nil) ?_
  exact .refl _
def d_parts_Split_2 (a1 : Int) : Option (Bool) :=
bnd (decide (a1 ≠ 0)) fun x2 =>
some ((x2 : Bool))
theorem d_parts_Split_2_c {a1 : Int} {r : Bool} (h0 : d_parts_Split_2 a1 = some r) : PP Tryz.prog 151 [int a1] (fun y => y = boo r) := by
  unfold d_parts_Split_2 at h0
  refine pp_of_pc (R0 := fun y H => Cv (frzH H) y (boo r)) ?_ (fun y H hc => ⟨_, rfl, pvB r, hc⟩)
  refine pcw (c := _) Tryz.func151 rfl rfl ?_; intro Q hret hnorm
  refine tc tbk 7 (.mk ?_)
  refine nb tbk h0 fun x2 h0 => ?_
  refine tr tbk 2 (.mk ?_)
  obtain rfl := nxt_e h0
  refine wR hret (rT .nil) ?_
  exact .refl _
def d_parts_Split_3 (a1 : Int) : Option (Int) :=
some ((a1 : Int))
theorem d_parts_Split_3_c {a1 : Int} {r : Int} (h0 : d_parts_Split_3 a1 = some r) : PP Tryz.prog 156 [int a1] (fun y => y = int r) := by
  unfold d_parts_Split_3 at h0
  refine pp_of_pc (R0 := fun y H => Cv (frzH H) y (int r)) ?_ (fun y H hc => ⟨_, rfl, pvI r, hc⟩)
  refine pcw (c := _) Tryz.func156 rfl rfl ?_; intro Q hret hnorm
  refine tc tbk 9 (.mk ?_)
  obtain rfl := nxt_e h0
  refine wR hret (rT .nil) ?_
  exact .refl _
def d_parts_Split_L0 (a2 : List Int) : Nat → Int → Option ((Unit) ⊕ ((Int)))
  | 0, _ => none
  | n + 1, y0_1 =>
    bnd (decide (y0_1 < (a2.length : Int))) fun x8 =>
    cond x8 ((ix a2 y0_1).bind fun x9 =>
    (d_parts_Split_1 x9).bind fun x10 =>
    cond x10 (esc (some (y0_1 : Int))) (bnd (w64 (y0_1 + 1)) fun x11 =>
    d_parts_Split_L0 a2 n (x11 : Int))) (brk ())
def d_parts_Split_L1 (a2 : List Int) : Nat → Int → Option ((Unit) ⊕ ((Int)))
  | 0, _ => none
  | n + 1, y4_1 =>
    bnd (decide (y4_1 < (a2.length : Int))) fun x17 =>
    cond x17 ((ix a2 y4_1).bind fun x18 =>
    (d_parts_Split_2 x18).bind fun x19 =>
    cond x19 (esc (some (y4_1 : Int))) (bnd (w64 (y4_1 + 1)) fun x20 =>
    d_parts_Split_L1 a2 n (x20 : Int))) (brk ())
def d_parts_Split_L2 (a1 : Int) (a2 : List Int) (x24 : Int × Int) : Nat → Int → Int → (List Int) → (List Int) → Option (Int × (List Int) × (List Int))
  | 0, _, _, _, _ => none
  | n + 1, y9_1, y9_2, y9_3, y9_4 =>
    bnd (decide (y9_2 < (a2.length : Int))) fun x33 =>
    cond x33 ((ix a2 y9_2).bind fun x34 =>
    (d_money_MulDiv n a1 x34 x24.1).bind fun x35 =>
    (ix y9_3 y9_2).bind fun x36 =>
    bnd (y9_3.set (Int.toNat y9_2) (x35.1 : Int)) fun x37 =>
    (ix y9_4 y9_2).bind fun x38 =>
    bnd (y9_4.set (Int.toNat y9_2) (x35.2.1 : Int)) fun x39 =>
    bnd (w64 (y9_1 - (x35.1 : Int))) fun x40 =>
    bnd (w64 (y9_2 + 1)) fun x41 =>
    d_parts_Split_L2 a1 a2 x24 n (x40 : Int) (x41 : Int) (x37 : List Int) (x39 : List Int)) (some ((y9_1 : Int), (y9_3 : List Int), (y9_4 : List Int)))
def d_parts_Split_L3 (y10_3 : List Int) : Nat → Int → (List Int) → Option ((List Int))
  | 0, _, _ => none
  | n + 1, y11_1, y11_2 =>
    bnd (decide (y11_1 < (y10_3.length : Int))) fun x49 =>
    cond x49 ((ix y11_2 y11_1).bind fun x50 =>
    bnd (y11_2.set (Int.toNat y11_1) (y11_1 : Int)) fun x51 =>
    bnd (w64 (y11_1 + 1)) fun x52 =>
    d_parts_Split_L3 y10_3 n (x52 : Int) (x51 : List Int)) (some (y11_2 : List Int))
def d_parts_Split_L4 (y12_1 : List Int) : Nat → Option (Unit)
  | 0 => none
  | n + 1 =>
    bnd (decide (20 ≤ (y12_1.length : Int))) fun x56 =>
    asrt (x56 = false) <|
    some ()
def d_parts_Split_L6 (y10_3 : List Int) : Nat → Int → (List Int) → Option ((List Int))
  | 0, _, _ => none
  | n + 1, y16_1, y16_2 =>
    (show Option (Bool) from
    bnd (decide (y16_1 > 0)) fun x63 =>
    cond x63 ((ix y16_2 y16_1).bind fun x64 =>
    bnd (w64 (y16_1 - 1)) fun x65 =>
    (ix y16_2 x65).bind fun x66 =>
    (show Option ((Int)) from
    (ix y10_3 x66).bind fun x68 =>
    (d_parts_Split_3 x68).bind fun x69 =>
    (ix y10_3 x64).bind fun x70 =>
    (d_parts_Split_3 x70).bind fun x71 =>
    (d_cmp_Compare_int x69 x71).bind fun x72 =>
    some (x72 : Int)).bind <| fun y17_1 =>
    bnd (decide (y17_1 < 0)) fun x73 =>
    some (x73 : Bool)) (some (false : Bool))).bind <| fun y19_1 =>
    cond y19_1 (bnd (w64 (y16_1 - 1)) fun x74 =>
    bnd (w64 (y16_1 - 1)) fun x75 =>
    (ix y16_2 x75).bind fun x76 =>
    (ix y16_2 y16_1).bind fun x77 =>
    bnd (y16_2.set (Int.toNat y16_1) (x76 : Int)) fun x78 =>
    (ix x78 x74).bind fun x79 =>
    bnd (x78.set (Int.toNat x74) (x77 : Int)) fun x80 =>
    bnd (w64 (y16_1 - 1)) fun x81 =>
    d_parts_Split_L6 y10_3 n (x81 : Int) (x80 : List Int)) (some (y16_2 : List Int))
def d_parts_Split_L5 (y10_3 : List Int) (y12_1 : List Int) : Nat → Int → (List Int) → Option ((List Int))
  | 0, _, _ => none
  | n + 1, y15_1, y15_2 =>
    bnd (decide (y15_1 < (y12_1.length : Int))) fun x59 =>
    cond x59 ((show Option ((List Int)) from
    (show Option ((List Int)) from
    d_parts_Split_L6 y10_3 n (y15_1 : Int) (y15_2 : List Int)).bind <| fun y20_1 =>
    some (y20_1 : List Int)).bind <| fun y21_1 =>
    bnd (w64 (y15_1 + 1)) fun x82 =>
    d_parts_Split_L5 y10_3 y12_1 n (x82 : Int) (y21_1 : List Int)) (some (y15_2 : List Int))
def d_parts_Split_L7 (y12_1 : List Int) : Nat → Option (Unit)
  | 0 => none
  | n + 1 =>
    bnd (decide (20 < (y12_1.length : Int))) fun x85 =>
    asrt (x85 = false) <|
    some ()
def d_parts_Split_L8 (y28_2 : List Int) (x87 : Int) : Nat → Int → (List Int) → Option ((List Int))
  | 0, _, _ => none
  | n + 1, y29_1, y29_2 =>
    bnd (decide (y29_1 < (((x87.toNat - 0) : Nat) : Int))) fun x90 =>
    cond x90 (asrt ((0 : Int) ≤ y29_1 ∧ y29_1 < (((x87.toNat - 0) : Nat) : Int)) <|
    (ix y28_2 ((((0 + 0) : Nat) : Int) + y29_1)).bind fun x92 =>
    (ix y29_2 x92).bind fun x93 =>
    bnd (w64 (x93 + 1)) fun x94 =>
    bnd (y29_2.set (Int.toNat x92) (x94 : Int)) fun x95 =>
    bnd (w64 (y29_1 + 1)) fun x96 =>
    d_parts_Split_L8 y28_2 x87 n (x96 : Int) (x95 : List Int)) (some (y29_2 : List Int))
def d_parts_Split (n : Nat) (a1 : Int) (a2 : List Int) : Option ((List Int) × Int) :=
(show Option (Bool) from
(d_parts_Split_1 a1).bind fun x4 =>
cond x4 (some (true : Bool)) ((show Option ((Bool)) from
(show Option ((Int)) from
(show Option ((Unit) ⊕ ((Int))) from
d_parts_Split_L0 a2 n (0 : Int)).bind <| sel <| fun _ =>
some ((-1) : Int)).bind <| fun y2_1 =>
bnd (decide (y2_1 ≥ 0)) fun x13 =>
some (x13 : Bool)).bind <| fun y3_1 =>
cond y3_1 (some (true : Bool)) ((show Option ((Bool)) from
(show Option ((Int)) from
(show Option ((Unit) ⊕ ((Int))) from
d_parts_Split_L1 a2 n (0 : Int)).bind <| sel <| fun _ =>
some ((-1) : Int)).bind <| fun y6_1 =>
bnd (decide (y6_1 ≥ 0)) fun x22 =>
some (x22 : Bool)).bind <| fun y7_1 =>
bnd (!y7_1) fun x23 =>
some (x23 : Bool)))).bind <| fun y8_1 =>
asrt (y8_1 = false) <|
(d_money_Sum n a2).bind fun x24 =>
bnd (decide (x24.2 ≠ 0)) fun x25 =>
asrt (x25 = false) <|
asrt ((0 : Int) ≤ (a2.length : Int) ∧ ((a2.length : Int) : Int) ≤ 1048576) <|
bnd (List.replicate (Int.toNat (a2.length : Int)) (0 : Int)) fun x27 =>
asrt ((0 : Int) ≤ (a2.length : Int) ∧ ((a2.length : Int) : Int) ≤ 1048576) <|
bnd (List.replicate (Int.toNat (a2.length : Int)) (0 : Int)) fun x30 =>
(show Option (Int × (List Int) × (List Int)) from
d_parts_Split_L2 a1 a2 x24 n (a1 : Int) (0 : Int) (x27 : List Int) (x30 : List Int)).bind <| p2 fun (y10_1 : Int) (q0 : (List Int) × (List Int)) => (p2 fun (y10_2 : List Int) (y10_3 : List Int) =>
(show Option (((List Int))) from
asrt ((0 : Int) ≤ (y10_3.length : Int) ∧ ((y10_3.length : Int) : Int) ≤ 1048576) <|
bnd (List.replicate (Int.toNat (y10_3.length : Int)) (0 : Int)) fun x46 =>
(show Option ((List Int)) from
d_parts_Split_L3 y10_3 n (0 : Int) (x46 : List Int)).bind <| fun y12_1 =>
(show Option (((List Int))) from
(show Option (((List Int))) from
(show Option (Unit) from
d_parts_Split_L4 y12_1 n).bind <| fun _ =>
(show Option (((List Int))) from
(show Option ((List Int)) from
d_parts_Split_L5 y10_3 y12_1 n (1 : Int) (y12_1 : List Int)).bind <| fun y22_1 =>
some (y22_1 : List Int)).bind <| fun y23_1 =>
asrt (y23_1.length = y12_1.length) <|
(show Option (Unit) from
d_parts_Split_L7 y12_1 n).bind <| fun _ =>
some (y23_1 : List Int)).bind <| fun y26_1 =>
some (y26_1 : List Int)).bind <| fun y27_1 =>
asrt (y27_1.length = y12_1.length) <|
some (y27_1 : List Int)).bind <| fun y28_2 =>
bnd (if (y10_3.length : Int) < y10_1 then (y10_3.length : Int) else y10_1) fun x87 =>
asrt ((0 : Int) ≤ x87 ∧ x87 ≤ (y28_2.length : Int)) <|
(show Option ((List Int)) from
d_parts_Split_L8 y28_2 x87 n (0 : Int) (y10_2 : List Int)).bind <| fun y30_1 =>
some ((y30_1 : List Int), (0 : Int))) q0
theorem d_parts_Split_c {n : Nat} {a1 : Int} {a2 : List Int} {r : (List Int) × Int} (h0 : d_parts_Split n a1 a2 = some r) : PP Tryz.prog 87 [int a1, lst 1 fI a2] (fun y => y = .tup [lst 1 fI r.1, int r.2]) := by
  unfold d_parts_Split at h0
  refine pp_of_pc (R0 := fun y H => Cv (frzH H) y (.tup [lst 1 fI r.1, int r.2])) ?_ (fun y H hc => ⟨_, rfl, .tup (pvl2 ((pvLs pvcI) (r.1)) (pvI (r.2))), hc⟩)
  refine pcw (c := _) Tryz.func87 rfl rfl ?_; intro Q hret hnorm
  refine tc tbk 15 (.mk ?_)
  refine jn h0 [0, 1, 4, 5] [] (fun (a : Bool) (k : Unit) => [(30, boo a)]) (fun a k => []) ⟨fun j3 h1 => ?_, ?_⟩
  refine tc tbk 3 (.mk ?_)
  obtain ⟨x4, e4, h1⟩ := bind_e h1
  refine sC cal150 (d_parts_Split_1_c e4) ?_
  refine tr tbk 1 (.mk ?_)
  cases x4
  replace h1 := cf h1
  refine tr tbk 2 (.mk ?_)
  obtain ⟨j5, h2, h1⟩ := bind_e h1
  refine rse (Out := fun y H' => (∃ (a : Bool) (k : Unit), a = j5 ∧ y = boo a ∧ H' = hk [])) rfl rfl rfl (yl_call rfl rfl (.cons rfl (.cons rfl .nil)) cal152 ?_) ?_
  refine pcw (c := _) Tryz.func152 rfl rfl ?_; intro Q hret hnorm
  refine tc tbk 8 (.mk ?_)
  obtain ⟨j6, h3, h2⟩ := bind_e h2
  refine rse (Out := fun y H' => (∃ (a : Int) (k : Unit), a = j6 ∧ y = int a ∧ H' = hk [])) rfl rfl rfl (yl_call rfl rfl (.cons rfl (.cons rfl .nil)) cal218 ?_) ?_
  refine pcw (c := _) Tryz.func218 rfl rfl ?_; intro Q hret hnorm
  refine tc tbk 8 (.mk ?_)
  refine sY (yv_len_sl rfl Tryz.underlying22 rfl (lst_len _)) ?_
  refine tr tbk 2 (.mk ?_)
  refine jnE h3 [4] [] (fun (a : Unit) (k : Unit) => []) (fun a k => []) ⟨fun j7 h4 h3 => ?_, ?_⟩
  refine tc tbk 1 (.mk ?_)
  refine lp (fun n (a : Int) => d_parts_Split_L0 a2 n a) (0 : Int) () h4 [0, 1, 4, 7] [] (fun (a : Int) (k : Unit) => [(8, int a)]) (fun a k => []) (fun _ => rfl) ⟨leA, ?_⟩
  rintro n y0_1 _ hm h4
  replace h4 : d_parts_Split_L0 a2 (n + 1) y0_1 = some _ := h4
  rw [d_parts_Split_L0] at h4
  refine tc tbk 2 (.mk ?_)
  refine nb tbk h4 fun x8 h4 => ?_
  refine tr tbk 2 (.mk ?_)
  cases x8
  replace h4 := cf h4
  refine tc tbk 2 (.mk ?_)
  exact lfE h4 () leA
  replace h4 := ct h4
  refine tc tbk 14 (.mk ?_)
  obtain ⟨x9, e9, h4⟩ := bind_e h4
  refine sY (yv_ixT rfl Tryz.underlying22 sh3 rfl rfl e9) ?_
  refine tr tbk 1 (.mk ?_)
  obtain ⟨x10, e10, h4⟩ := bind_e h4
  refine sC cal150 (d_parts_Split_1_c e10) ?_
  refine tr tbk 1 (.mk ?_)
  cases x10
  replace h4 := cf h4
  refine tc tbk 4 (.mk ?_)
  refine ni tbk h4 fun x11 h4 => ?_
  refine tr tbk 2 (.mk ?_)
  exact bk x11 () h4 leA
  replace h4 := ct h4
  refine tc tbk 6 (.mk ?_)
  obtain ⟨c12, hX, hj⟩ := esc_e h4; subst hj; replace h3 := hX.trans (sel_r h3)
  obtain rfl := nxt_e h3
  refine w_ret (hret _ _ (hk []) (.tmp rfl .nil) (fun _ _ h => nomatch h) ?_)
  exact ⟨y0_1, (), rfl, rfl, rfl⟩
  rintro _ _ h3
  refine tc tbk 4 (.mk ?_)
  obtain rfl := nxt_e h3
  refine w_ret (hret _ _ (hk []) (.tmp rfl .nil) (fun _ _ h => nomatch h) ?_)
  exact ⟨(-1), (), rfl, rfl, rfl⟩
  rintro y _ ⟨y2_1, _, rfl, hc, rfl⟩
  subst hc
  refine nb tbk h2 fun x13 h2 => ?_
  refine tr tbk 2 (.mk ?_)
  obtain rfl := nxt_e h2
  refine w_ret (hret _ _ (hk []) (.tmp rfl .nil) (fun _ _ h => nomatch h) ?_)
  exact ⟨x13, (), rfl, rfl, rfl⟩
  rintro y _ ⟨y3_1, _, rfl, hc, rfl⟩
  subst hc
  refine tr tbk 2 (.mk ?_)
  cases y3_1
  replace h1 := cf h1
  refine tr tbk 2 (.mk ?_)
  obtain ⟨j14, h2, h1⟩ := bind_e h1
  refine rse (Out := fun y H' => (∃ (a : Bool) (k : Unit), a = j14 ∧ y = boo a ∧ H' = hk [])) rfl rfl rfl (yl_call rfl rfl (.cons rfl (.cons rfl .nil)) cal152 ?_) ?_
  refine pcw (c := _) Tryz.func152 rfl rfl ?_; intro Q hret hnorm
  refine tc tbk 8 (.mk ?_)
  obtain ⟨j15, h3, h2⟩ := bind_e h2
  refine rse (Out := fun y H' => (∃ (a : Int) (k : Unit), a = j15 ∧ y = int a ∧ H' = hk [])) rfl rfl rfl (yl_call rfl rfl (.cons rfl (.cons rfl .nil)) cal218 ?_) ?_
  refine pcw (c := _) Tryz.func218 rfl rfl ?_; intro Q hret hnorm
  refine tc tbk 8 (.mk ?_)
  refine sY (yv_len_sl rfl Tryz.underlying22 rfl (lst_len _)) ?_
  refine tr tbk 2 (.mk ?_)
  refine jnE h3 [4] [] (fun (a : Unit) (k : Unit) => []) (fun a k => []) ⟨fun j16 h4 h3 => ?_, ?_⟩
  refine tc tbk 1 (.mk ?_)
  refine lp (fun n (a : Int) => d_parts_Split_L1 a2 n a) (0 : Int) () h4 [0, 1, 4, 7] [] (fun (a : Int) (k : Unit) => [(8, int a)]) (fun a k => []) (fun _ => rfl) ⟨leA, ?_⟩
  rintro n y4_1 _ hm h4
  replace h4 : d_parts_Split_L1 a2 (n + 1) y4_1 = some _ := h4
  rw [d_parts_Split_L1] at h4
  refine tc tbk 2 (.mk ?_)
  refine nb tbk h4 fun x17 h4 => ?_
  refine tr tbk 2 (.mk ?_)
  cases x17
  replace h4 := cf h4
  refine tc tbk 2 (.mk ?_)
  exact lfE h4 () leA
  replace h4 := ct h4
  refine tc tbk 14 (.mk ?_)
  obtain ⟨x18, e18, h4⟩ := bind_e h4
  refine sY (yv_ixT rfl Tryz.underlying22 sh3 rfl rfl e18) ?_
  refine tr tbk 1 (.mk ?_)
  obtain ⟨x19, e19, h4⟩ := bind_e h4
  refine sC cal151 (d_parts_Split_2_c e19) ?_
  refine tr tbk 1 (.mk ?_)
  cases x19
  replace h4 := cf h4
  refine tc tbk 4 (.mk ?_)
  refine ni tbk h4 fun x20 h4 => ?_
  refine tr tbk 2 (.mk ?_)
  exact bk x20 () h4 leA
  replace h4 := ct h4
  refine tc tbk 6 (.mk ?_)
  obtain ⟨c21, hX, hj⟩ := esc_e h4; subst hj; replace h3 := hX.trans (sel_r h3)
  obtain rfl := nxt_e h3
  refine w_ret (hret _ _ (hk []) (.tmp rfl .nil) (fun _ _ h => nomatch h) ?_)
  exact ⟨y4_1, (), rfl, rfl, rfl⟩
  rintro _ _ h3
  refine tc tbk 4 (.mk ?_)
  obtain rfl := nxt_e h3
  refine w_ret (hret _ _ (hk []) (.tmp rfl .nil) (fun _ _ h => nomatch h) ?_)
  exact ⟨(-1), (), rfl, rfl, rfl⟩
  rintro y _ ⟨y6_1, _, rfl, hc, rfl⟩
  subst hc
  refine nb tbk h2 fun x22 h2 => ?_
  refine tr tbk 2 (.mk ?_)
  obtain rfl := nxt_e h2
  refine w_ret (hret _ _ (hk []) (.tmp rfl .nil) (fun _ _ h => nomatch h) ?_)
  exact ⟨x22, (), rfl, rfl, rfl⟩
  rintro y _ ⟨y7_1, _, rfl, hc, rfl⟩
  subst hc
  refine nb tbk h1 fun x23 h1 => ?_
  refine tr tbk 2 (.mk ?_)
  exact lf h1 () leA
  replace h1 := ct h1
  refine tr tbk 6 (.mk ?_)
  exact lf h1 () leA
  replace h1 := ct h1
  refine tr tbk 11 (.mk ?_)
  exact lf h1 () leA
  rintro y8_1 _ h0
  replace h0 := asrt_e h0
  obtain ⟨rfl, h0⟩ := h0
  refine tc tbk 5 (.mk ?_)
  obtain ⟨x24, e24, h0⟩ := bind_e h0
  refine sC cal153 (d_money_Sum_c e24) ?_
  refine tr tbk 10 (.mk ?_)
  refine nb tbk h0 fun x25 h0 => ?_
  refine tr tbk 1 (.mk ?_)
  replace h0 := asrt_e h0
  obtain ⟨rfl, h0⟩ := h0
  refine tc tbk 3 (.mk ?_)
  refine c_draw [0, 1, 3, 0, 8, 24, 0, 7, 191, 511] (fun i k => false) (fun i => bif Nat.beq i 2 then (some 1) else bif Nat.beq i 5 then (some 2) else none) mixed (by kernel_rfl) ?_; intro C K hK
  refine dg_pure rfl (fun H hH => yv_move rfl rfl) ?_
  refine dg_pure rfl (fun H hH => yv_len_sl rfl Tryz.underlying22 rfl (lst_len _)) ?_
  obtain ⟨p26, h0⟩ := asrt_e h0
  obtain ⟨x27, e27, h0⟩ := bnd_e h0
  have lx27 : x27.length = (Int.toNat (a2.length : Int)) := by rw [← e27]; exact List.length_replicate
  refine dg_eff rfl rfl (fun H hH => yl_one (yl_make 1 (g := fI) (z0 := (0 : Int)) (.one _) rfl Tryz.underlying22 bz3 by3 rfl rfl rfl p26 (.cons (.sc _) .nil) e27)) ?_; generalize C + 2 = v28
  refine dg_pure rfl (fun H hH => yv_move rfl rfl) ?_
  refine dg_pure rfl (fun H hH => yv_len_sl rfl Tryz.underlying22 rfl (lst_len _)) ?_
  obtain ⟨p29, h0⟩ := asrt_e h0
  obtain ⟨x30, e30, h0⟩ := bnd_e h0
  have lx30 : x30.length = (Int.toNat (a2.length : Int)) := by rw [← e30]; exact List.length_replicate
  refine dg_eff rfl rfl (fun H hH => yl_one (yl_make 2 (g := fI) (z0 := (0 : Int)) (.one _) rfl Tryz.underlying22 bz3 by3 rfl rfl rfl p29 (.cons (.sc _) .nil) e30)) ?_; generalize C + 5 = v31
  refine dg_pure rfl (fun H hH => yv_move rfl rfl) ?_
  refine dg_pure rfl (fun H hH => yv_assign rfl rfl) ?_
  refine dg_pure rfl (fun H hH => yv_assign rfl rfl) ?_
  refine dg_pure rfl (fun H hH => yv_assign rfl rfl) ?_
  refine dg_nil (hK _ ?_)
  refine tc tbk 4 (.mk ?_)
  refine sY (yv_len_sl rfl Tryz.underlying22 rfl (lst_len _)) ?_
  refine tr tbk 2 (.mk ?_)
  refine jn h0 [4, 5] [] (fun (a : Int × (List Int) × (List Int)) (k : Unit) => [(10, .sl 1 v28 0 a.2.1.length), (11, .sl 2 v31 0 a.2.2.length), (12, int a.1)]) (fun a k => [(1, ⟨3, 1, true, true, v28, a.2.1.map fI⟩), (2, ⟨3, 1, true, true, v31, a.2.2.map fI⟩)]) ⟨fun j32 h1 => ?_, ?_⟩
  refine tc tbk 1 (.mk ?_)
  refine lp (fun n (a : Int × Int × (List Int) × (List Int)) => d_parts_Split_L2 a1 a2 x24 n a.1 a.2.1 a.2.2.1 a.2.2.2) ((a1 : Int), (0 : Int), (x27 : List Int), (x30 : List Int)) () h1 [0, 4, 5, 8, 46, 47] [] (fun (a : Int × Int × (List Int) × (List Int)) (k : Unit) => [(10, .sl 1 v28 0 a.2.2.1.length), (11, .sl 2 v31 0 a.2.2.2.length), (12, int a.1), (48, int a.2.1)]) (fun a k => [(1, ⟨3, 1, true, true, v28, a.2.2.1.map fI⟩), (2, ⟨3, 1, true, true, v31, a.2.2.2.map fI⟩)]) (fun _ => rfl) ⟨leH_kn ⟨⟨_, rfl, (cv_slen (Eq.symm lx27))⟩, ⟨_, rfl, (cv_slen (Eq.symm lx30))⟩, ⟨_, rfl, (.refl _)⟩, ⟨_, rfl, (.refl _)⟩, ⟨_, rfl, (.refl _)⟩, ⟨_, rfl, (.refl _)⟩, ⟨_, rfl, (.refl _)⟩, ⟨_, rfl, (.refl _)⟩, ⟨_, rfl, (.refl _)⟩, ⟨_, rfl, (.refl _)⟩, trivial⟩ ⟨⟨_, rfl, (.refl _)⟩, ⟨_, rfl, (.refl _)⟩, trivial⟩, ?_⟩
  rintro n ⟨y9_1, y9_2, y9_3, y9_4⟩ _ hm h1
  replace h1 : d_parts_Split_L2 a1 a2 x24 (n + 1) y9_1 y9_2 y9_3 y9_4 = some _ := h1
  rw [d_parts_Split_L2] at h1
  refine tc tbk 2 (.mk ?_)
  refine nb tbk h1 fun x33 h1 => ?_
  refine tr tbk 2 (.mk ?_)
  cases x33
  replace h1 := cf h1
  refine tc tbk 2 (.mk ?_)
  exact lf h1 () leA
  replace h1 := ct h1
  refine tc tbk 7 (.mk ?_)
  obtain ⟨x34, e34, h1⟩ := bind_e h1
  refine sY (yv_ixT rfl Tryz.underlying22 sh3 rfl rfl e34) ?_
  refine tr tbk 13 (.mk ?_)
  obtain ⟨x35, e35, h1⟩ := bind_e h1
  refine sC cal154 (d_money_MulDiv_c e35) ?_
  refine tr tbk 4 (.mk ?_)
  obtain ⟨x36, e36, h1⟩ := bind_e h1
  refine sY (yv_ixO rfl Tryz.underlying22 sh3 rfl rfl rfl rfl rfl (Eq.symm rfl) (List.length_map _) e36) ?_
  obtain ⟨x37, e37, h1⟩ := bnd_e h1
  have fx37 := ix_set e36 e37; have lx37 := len_setV e37 (rfl : y9_3.length = y9_3.length)
  refine rsstore rfl rfl (yl_ob (ob' := (⟨3, 1, true, true, v28, x37.map fI⟩ : AObj)) (yl_store rfl sh3 rfl rfl rfl rfl rfl (ix_get e36) rfl rfl rfl) (ob_eq (map_setV e37))) ?_
  obtain ⟨x38, e38, h1⟩ := bind_e h1
  refine sY (yv_ixO rfl Tryz.underlying22 sh3 rfl rfl rfl rfl rfl (Eq.symm rfl) (List.length_map _) e38) ?_
  obtain ⟨x39, e39, h1⟩ := bnd_e h1
  have fx39 := ix_set e38 e39; have lx39 := len_setV e39 (rfl : y9_4.length = y9_4.length)
  refine rsstore rfl rfl (yl_ob (ob' := (⟨3, 1, true, true, v31, x39.map fI⟩ : AObj)) (yl_store rfl sh3 rfl rfl rfl rfl rfl (ix_get e38) rfl rfl rfl) (ob_eq (map_setV e39))) ?_
  refine tr tbk 5 (.mk ?_)
  refine sY (yv_ixO rfl Tryz.underlying22 sh3 rfl rfl rfl rfl rfl (Eq.symm lx37) (List.length_map _) fx37) ?_
  refine sY (yv_load rfl sh3 rfl (.pt rfl rfl (ix_get fx37)) rfl) ?_
  refine ni tbk h1 fun x40 h1 => ?_
  refine tr tbk 4 (.mk ?_)
  refine ni tbk h1 fun x41 h1 => ?_
  refine tr tbk 2 (.mk ?_)
  exact bk (x40, x41, x37, x39) () h1 (leH_kn ⟨⟨_, rfl, (cv_slen (Eq.symm lx37))⟩, ⟨_, rfl, (cv_slen (Eq.symm lx39))⟩, ⟨_, rfl, (.refl _)⟩, ⟨_, rfl, (.refl _)⟩, ⟨_, rfl, (.refl _)⟩, ⟨_, rfl, (.refl _)⟩, ⟨_, rfl, (.refl _)⟩, ⟨_, rfl, (.refl _)⟩, ⟨_, rfl, (.refl _)⟩, ⟨_, rfl, (.refl _)⟩, trivial⟩ ⟨⟨_, rfl, (.refl _)⟩, ⟨_, rfl, (.refl _)⟩, trivial⟩)
  rintro ⟨y10_1, y10_2, y10_3⟩ _ h0
  replace h0 := p2_e h0
  replace h0 := p2_e h0
  refine tc tbk 4 (.mk ?_)
  obtain ⟨j42, h1, h0⟩ := bind_e h0
  refine rse (Out := fun y H' => (∃ (a : (List Int)) (k : Nat), a = j42 ∧ Cv H' y (.sl 5 k 0 a.length) ∧ H' = hk [(1, ⟨3, 1, true, true, v28, y10_2.map fI⟩), (2, ⟨3, 1, true, true, v31, y10_3.map fI⟩), (5, ⟨3, 1, true, true, k, a.map fI⟩)])) rfl rfl rfl (yl_call rfl rfl (.cons rfl (.cons rfl .nil)) cal155 ?_) ?_
  refine pcw (c := _) Tryz.func155 rfl rfl ?_; intro Q hret hnorm
  refine tc tbk 2 (.mk ?_)
  refine sB 3 fun v43 => ?_
  refine sB 4 fun v44 => ?_
  refine tr tbk 5 (.mk ?_)
  refine sY (yv_len_sl rfl Tryz.underlying22 rfl (.sl rfl rfl)) ?_
  obtain ⟨p45, h1⟩ := asrt_e h1
  obtain ⟨x46, e46, h1⟩ := bnd_e h1
  have lx46 : x46.length = (Int.toNat (y10_3.length : Int)) := by rw [← e46]; exact List.length_replicate
  refine rse rfl rfl rfl (yl_make 5 (g := fI) (z0 := (0 : Int)) .any rfl Tryz.underlying22 bz3 by3 rfl rfl rfl p45 (.cons (.sc _) .nil) e46) ?_; rintro _ _ ⟨v47, -, rfl, rfl⟩
  refine tr tbk 6 (.mk ?_)
  refine sY (yv_len_sl rfl Tryz.underlying22 rfl (.sl rfl rfl)) ?_
  refine tr tbk 2 (.mk ?_)
  refine jn h1 [2, 3, 4] [1, 2, 3, 4] (fun (a : (List Int)) (k : Unit) => [(5, .sl 5 v47 0 a.length)]) (fun a k => [(5, ⟨3, 1, true, true, v47, a.map fI⟩)]) ⟨fun j48 h2 => ?_, ?_⟩
  refine tc tbk 1 (.mk ?_)
  refine lp (fun n (a : Int × (List Int)) => d_parts_Split_L3 y10_3 n a.1 a.2) ((0 : Int), (x46 : List Int)) () h2 [2, 3, 4, 11] [1, 2, 3, 4] (fun (a : Int × (List Int)) (k : Unit) => [(5, .sl 5 v47 0 a.2.length), (12, int a.1)]) (fun a k => [(5, ⟨3, 1, true, true, v47, a.2.map fI⟩)]) (fun _ => rfl) ⟨leH_kn ⟨⟨_, rfl, (cv_slen (Eq.symm lx46))⟩, ⟨_, rfl, (.refl _)⟩, ⟨_, rfl, (.refl _)⟩, ⟨_, rfl, (.refl _)⟩, ⟨_, rfl, (.refl _)⟩, ⟨_, rfl, (.refl _)⟩, trivial⟩ ⟨⟨_, rfl, (.refl _)⟩, ⟨_, rfl, (.refl _)⟩, ⟨_, rfl, (.refl _)⟩, ⟨_, rfl, (.refl _)⟩, ⟨_, rfl, (.refl _)⟩, trivial⟩, ?_⟩
  rintro n ⟨y11_1, y11_2⟩ _ hm h2
  replace h2 : d_parts_Split_L3 y10_3 (n + 1) y11_1 y11_2 = some _ := h2
  rw [d_parts_Split_L3] at h2
  refine tc tbk 2 (.mk ?_)
  refine nb tbk h2 fun x49 h2 => ?_
  refine tr tbk 2 (.mk ?_)
  cases x49
  replace h2 := cf h2
  refine tc tbk 2 (.mk ?_)
  exact lf h2 () leA
  replace h2 := ct h2
  refine tc tbk 13 (.mk ?_)
  obtain ⟨x50, e50, h2⟩ := bind_e h2
  refine sY (yv_ixO rfl Tryz.underlying22 sh3 rfl rfl rfl rfl rfl (Eq.symm rfl) (List.length_map _) e50) ?_
  obtain ⟨x51, e51, h2⟩ := bnd_e h2
  have fx51 := ix_set e50 e51; have lx51 := len_setV e51 (rfl : y11_2.length = y11_2.length)
  refine rsstore rfl rfl (yl_ob (ob' := (⟨3, 1, true, true, v47, x51.map fI⟩ : AObj)) (yl_store rfl sh3 rfl rfl rfl rfl rfl (ix_get e50) rfl rfl rfl) (ob_eq (map_setV e51))) ?_
  refine tr tbk 3 (.mk ?_)
  refine ni tbk h2 fun x52 h2 => ?_
  refine tr tbk 2 (.mk ?_)
  exact bk (x52, x51) () h2 (leH_kn ⟨⟨_, rfl, (cv_slen (Eq.symm lx51))⟩, ⟨_, rfl, (.refl _)⟩, ⟨_, rfl, (.refl _)⟩, ⟨_, rfl, (.refl _)⟩, ⟨_, rfl, (.refl _)⟩, ⟨_, rfl, (.refl _)⟩, trivial⟩ ⟨⟨_, rfl, (.refl _)⟩, ⟨_, rfl, (.refl _)⟩, ⟨_, rfl, (.refl _)⟩, ⟨_, rfl, (.refl _)⟩, ⟨_, rfl, (.refl _)⟩, trivial⟩)
  rintro y12_1 _ h1
  refine tc tbk 4 (.mk ?_)
  obtain ⟨j53, h2, h1⟩ := bind_e h1
  refine rse (Out := fun y H' => (∃ (a : (List Int)) (k : Unit), a = j53 ∧ y = .tup [] ∧ H' = hk [(1, ⟨3, 1, true, true, v28, y10_2.map fI⟩), (2, ⟨3, 1, true, true, v31, y10_3.map fI⟩), (3, ⟨22, 1, true, true, v43, [[.sl 2 v31 0 y10_3.length]]⟩), (4, ⟨157, 1, true, true, v44, [[.fn (.func 156) [] []]]⟩), (5, ⟨3, 1, true, true, v47, a.map fI⟩)])) rfl rfl rfl (yl_call rfl rfl (.cons rfl (.cons rfl .nil)) cal220 ?_) ?_
  refine pcw (c := _) Tryz.func220 rfl rfl ?_; intro Q hret hnorm
  refine tc tbk 3 (.mk ?_)
  refine sY (yv_len_sl rfl Tryz.underlying22 rfl (.sl rfl rfl)) ?_
  refine tr tbk 1 (.mk ?_)
  obtain ⟨j54, h3, h2⟩ := bind_e h2
  refine rse (Out := fun y H' => (∃ (a : (List Int)) (k : Unit), a = j54 ∧ y = .tup [] ∧ H' = hk [(1, ⟨3, 1, true, true, v28, y10_2.map fI⟩), (2, ⟨3, 1, true, true, v31, y10_3.map fI⟩), (3, ⟨22, 1, true, true, v43, [[.sl 2 v31 0 y10_3.length]]⟩), (4, ⟨157, 1, true, true, v44, [[.fn (.func 156) [] []]]⟩), (5, ⟨3, 1, true, true, v47, a.map fI⟩)])) rfl rfl rfl (yl_call rfl rfl (.cons rfl (.cons rfl (.cons rfl .nil))) cal254 ?_) ?_
  refine pcw (c := _) Tryz.func254 rfl rfl ?_; intro Q hret hnorm
  refine tc tbk 11 (.mk ?_)
  refine jn h3 [0, 1, 2, 6, 7] [1, 2, 3, 4, 5] (fun (a : Unit) (k : Unit) => []) (fun a k => []) ⟨fun j55 h4 => ?_, ?_⟩
  refine tc tbk 1 (.mk ?_)
  refine lp (fun n (a : Unit) => d_parts_Split_L4 y12_1 n) () () h4 [0, 1, 2, 6, 7, 8] [1, 2, 3, 4, 5] (fun (a : Unit) (k : Unit) => []) (fun a k => []) (fun _ => rfl) ⟨leA, ?_⟩
  rintro n _ _ hm h4
  replace h4 : d_parts_Split_L4 y12_1 (n + 1) = some _ := h4
  rw [d_parts_Split_L4] at h4
  refine tc tbk 5 (.mk ?_)
  refine nb tbk h4 fun x56 h4 => ?_
  refine tr tbk 1 (.mk ?_)
  replace h4 := asrt_e h4
  obtain ⟨rfl, h4⟩ := h4
  refine tc tbk 2 (.mk ?_)
  exact lf h4 () leA
  rintro _ _ h3
  refine tc tbk 6 (.mk ?_)
  obtain ⟨j57, h4, h3⟩ := bind_e h3
  refine rse (Out := fun y H' => (∃ (a : (List Int)) (k : Unit), a = j57 ∧ y = .tup [] ∧ H' = hk [(1, ⟨3, 1, true, true, v28, y10_2.map fI⟩), (2, ⟨3, 1, true, true, v31, y10_3.map fI⟩), (3, ⟨22, 1, true, true, v43, [[.sl 2 v31 0 y10_3.length]]⟩), (4, ⟨157, 1, true, true, v44, [[.fn (.func 156) [] []]]⟩), (5, ⟨3, 1, true, true, v47, a.map fI⟩)])) rfl rfl rfl (yl_call rfl rfl (.cons rfl (.cons rfl (.cons rfl (.cons rfl .nil)))) cal270 ?_) ?_
  refine pcw (c := _) Tryz.func270 rfl rfl ?_; intro Q hret hnorm
  refine tc tbk 3 (.mk ?_)
  refine sY (yv_add (r := 1) rfl rfl rfl (by decide)) ?_
  refine tr tbk 2 (.mk ?_)
  refine jn h4 [] [1, 2, 3, 4] (fun (a : (List Int)) (k : Unit) => []) (fun a k => [(5, ⟨3, 1, true, true, v47, a.map fI⟩)]) ⟨fun j58 h5 => ?_, ?_⟩
  refine tc tbk 1 (.mk ?_)
  refine lp (fun n (a : Int × (List Int)) => d_parts_Split_L5 y10_3 y12_1 n a.1 a.2) ((1 : Int), (y12_1 : List Int)) () h5 [1, 2, 3] [1, 2, 3, 4] (fun (a : Int × (List Int)) (k : Unit) => [(0, .sl 5 v47 0 a.2.length), (8, int a.1)]) (fun a k => [(5, ⟨3, 1, true, true, v47, a.2.map fI⟩)]) (fun _ => rfl) ⟨leA, ?_⟩
  rintro n ⟨y15_1, y15_2⟩ _ hm h5
  replace h5 : d_parts_Split_L5 y10_3 y12_1 (n + 1) y15_1 y15_2 = some _ := h5
  rw [d_parts_Split_L5] at h5
  refine tc tbk 5 (.mk ?_)
  refine nb tbk h5 fun x59 h5 => ?_
  refine tr tbk 1 (.mk ?_)
  cases x59
  replace h5 := cf h5
  refine tc tbk 2 (.mk ?_)
  exact lf h5 () leA
  replace h5 := ct h5
  refine tc tbk 3 (.mk ?_)
  refine jn h5 [1, 2, 3, 8] [1, 2, 3, 4] (fun (a : (List Int)) (k : Unit) => [(0, .sl 5 v47 0 a.length)]) (fun a k => [(5, ⟨3, 1, true, true, v47, a.map fI⟩)]) ⟨fun j60 h6 => ?_, ?_⟩
  refine tc tbk 6 (.mk ?_)
  refine jn h6 [1, 2, 3, 8] [1, 2, 3, 4] (fun (a : (List Int)) (k : Unit) => [(0, .sl 5 v47 0 a.length)]) (fun a k => [(5, ⟨3, 1, true, true, v47, a.map fI⟩)]) ⟨fun j61 h7 => ?_, ?_⟩
  refine tc tbk 1 (.mk ?_)
  refine lp (fun n (a : Int × (List Int)) => d_parts_Split_L6 y10_3 n a.1 a.2) ((y15_1 : Int), (y15_2 : List Int)) () h7 [1, 2, 3, 8] [1, 2, 3, 4] (fun (a : Int × (List Int)) (k : Unit) => [(0, .sl 5 v47 0 a.2.length), (9, int a.1)]) (fun a k => [(5, ⟨3, 1, true, true, v47, a.2.map fI⟩)]) (fun _ => rfl) ⟨leA, ?_⟩
  rintro n ⟨y16_1, y16_2⟩ _ hm h7
  replace h7 : d_parts_Split_L6 y10_3 (n + 1) y16_1 y16_2 = some _ := h7
  rw [d_parts_Split_L6] at h7
  refine tc tbk 2 (.mk ?_)
  refine jn h7 [0, 1, 2, 3, 8, 9] [1, 2, 3, 4, 5] (fun (a : Bool) (k : Unit) => [(34, boo a)]) (fun a k => []) ⟨fun j62 h8 => ?_, ?_⟩
  refine c_drawE [0, 0, 3, 7, 15, 15, 15, 111, 239, 15, 15, 1039, 3599, 7695, 16383, 32767, 65535] (rl [(7, [5]), (8, [5]), (12, [5]), (13, [5])] []) (rl [(14, [])] [5]) (rl [(14, false)] true) [0, 1, 2, 3, 4, 5, 6, 7, 8, 9, 10, 11, 12, 13, 14, 15, 16] mixed (by kernel_rfl) ?_; intro K hK
  iterate 2 refine eM ?_
  obtain ⟨x63, e63, h8⟩ := bnd_e h8
  refine eP (fun H hH => yv_to (y := boo x63) (yv_gtr rfl rfl rfl) (congrArg boo e63)) ?_
  refine eM ?_
  cases x63
  replace h8 := cf h8
  refine de_skip rfl rfl rfl ?_
  refine de_skip rfl rfl rfl ?_
  refine de_skip rfl rfl rfl ?_
  refine de_skip rfl rfl rfl ?_
  refine de_skip rfl rfl rfl ?_
  refine de_skip rfl rfl rfl ?_
  refine de_skip rfl rfl rfl ?_
  refine de_skip rfl rfl rfl ?_
  refine de_skip rfl rfl rfl ?_
  refine de_skip rfl rfl rfl ?_
  refine de_skip rfl rfl rfl ?_
  refine de_skip rfl rfl rfl ?_
  refine eP (fun H hH => yv_pick rfl rfl (fun _ => rfl) (fun _ => rfl) rfl) ?_
  refine de_nil (hK _ ?_)
  exact lf h8 () leA
  replace h8 := ct h8
  iterate 3 refine eM ?_
  obtain ⟨x64, e64, h8⟩ := bind_e h8
  refine de_pure rfl rfl rfl rfl (fun H hH => yv_ixO rfl Tryz.underlying22 sh3 rfl rfl ((hH _ (by decide)).trans rfl) rfl rfl (Eq.symm rfl) (List.length_map _) e64) ?_
  refine eL sh3 (hr := ix_get e64) ?_
  iterate 2 refine eM ?_
  obtain ⟨x65, e65, h8⟩ := bnd_e h8
  refine eP (fun H hH => yv_sub rfl rfl rfl e65) ?_
  obtain ⟨x66, e66, h8⟩ := bind_e h8
  refine de_pure rfl rfl rfl rfl (fun H hH => yv_ixO rfl Tryz.underlying22 sh3 rfl rfl ((hH _ (by decide)).trans rfl) rfl rfl (Eq.symm rfl) (List.length_map _) e66) ?_
  refine eL sh3 (hr := ix_get e66) ?_
  obtain ⟨j67, h9, h8⟩ := bind_e h8
  refine de_eff (Out := fun y H' => (∃ (a : Int) (k : Unit), a = j67 ∧ y = int a ∧ H' = hk [(1, ⟨3, 1, true, true, v28, y10_2.map fI⟩), (2, ⟨3, 1, true, true, v31, y10_3.map fI⟩), (3, ⟨22, 1, true, true, v43, [[.sl 2 v31 0 y10_3.length]]⟩), (4, ⟨157, 1, true, true, v44, [[.fn (.func 156) [] []]]⟩), (5, ⟨3, 1, true, true, v47, y16_2.map fI⟩)])) rfl rfl rfl rfl (yl_call rfl rfl (.cons rfl (.cons rfl .nil)) cal221 ?_) (by rintro y _ ⟨y17_1, _, rfl, hc, rfl⟩ <;> exact trivial) ?_
  refine pcw (c := _) Tryz.func221 rfl rfl ?_; intro Q hret hnorm
  refine tc tbk 5 (.mk ?_)
  refine c_drawE [0, 0, 0, 6, 14, 31, 0, 0, 0, 384, 896, 2047, 4095, 8191] (rl [(0, [4]), (1, [3]), (3, [2]), (4, [2]), (6, [4]), (7, [3]), (9, [2]), (10, [2])] []) (fun i => [2, 3, 4]) (fun i => true) [0, 1, 2, 3, 4, 5, 6, 7, 8, 9, 10, 11, 12, 13] mixed (by kernel_rfl) ?_; intro K hK
  refine eL sh157 ?_
  refine eL sh22 ?_
  refine eM ?_
  obtain ⟨x68, e68, h9⟩ := bind_e h9
  refine de_pure rfl rfl rfl rfl (fun H hH => yv_ixO rfl Tryz.underlying22 sh3 rfl rfl ((hH _ (by decide)).trans rfl) rfl rfl (Eq.symm rfl) (List.length_map _) e68) ?_
  refine eL sh3 (hr := ix_get e68) ?_
  obtain ⟨x69, e69, h9⟩ := bind_e h9
  refine eP (fun H hH => yv_callP rfl rfl (.cons rfl .nil) cal156 (CvL.refl _) (d_parts_Split_3_c e69)) ?_
  refine eL sh157 ?_
  refine eL sh22 ?_
  refine eM ?_
  obtain ⟨x70, e70, h9⟩ := bind_e h9
  refine de_pure rfl rfl rfl rfl (fun H hH => yv_ixO rfl Tryz.underlying22 sh3 rfl rfl ((hH _ (by decide)).trans rfl) rfl rfl (Eq.symm rfl) (List.length_map _) e70) ?_
  refine eL sh3 (hr := ix_get e70) ?_
  obtain ⟨x71, e71, h9⟩ := bind_e h9
  refine eP (fun H hH => yv_callP rfl rfl (.cons rfl .nil) cal156 (CvL.refl _) (d_parts_Split_3_c e71)) ?_
  obtain ⟨x72, e72, h9⟩ := bind_e h9
  refine eP (fun H hH => yv_callP rfl rfl (.cons rfl (.cons rfl .nil)) cal222 (CvL.refl _) (d_cmp_Compare_int_c e72)) ?_
  refine eA ?_
  refine de_nil (hK _ ?_)
  obtain rfl := nxt_e h9
  refine w_ret (hret _ _ (hk [(1, ⟨3, 1, true, true, v28, y10_2.map fI⟩), (2, ⟨3, 1, true, true, v31, y10_3.map fI⟩), (3, ⟨22, 1, true, true, v43, [[.sl 2 v31 0 y10_3.length]]⟩), (4, ⟨157, 1, true, true, v44, [[.fn (.func 156) [] []]]⟩), (5, ⟨3, 1, true, true, v47, y16_2.map fI⟩)]) (.tmp rfl .nil) (HK.le ⟨rfl, rfl, rfl, rfl, rfl, trivial⟩) ?_)
  exact ⟨x72, (), rfl, rfl, rfl⟩
  rintro y _ ⟨y17_1, _, rfl, hc, rfl⟩
  subst hc
  obtain ⟨x73, e73, h8⟩ := bnd_e h8
  refine eP (fun H hH => yv_to (y := boo x73) (yv_lss rfl rfl rfl) (congrArg boo e73)) ?_
  refine eP (fun H hH => yv_pick rfl rfl (fun _ => rfl) (fun _ => rfl) rfl) ?_
  refine de_nil (hK _ ?_)
  exact lf h8 () leA
  rintro y19_1 _ h7
  cases y19_1
  replace h7 := cf h7
  refine tc tbk 2 (.mk ?_)
  exact lf h7 () leA
  replace h7 := ct h7
  refine tc tbk 4 (.mk ?_)
  refine c_drawE [0, 0, 0, 0, 8, 0, 0, 64, 224, 480, 0, 0, 3072, 7168, 16355, 32739, 65535, 131071] (rl [(8, [5]), (9, [5]), (12, [5]), (13, [5]), (14, [5]), (16, [5])] []) (rl [(15, []), (17, [])] [5]) (rl [(15, false), (17, false)] true) [0, 1, 2, 3, 4, 5, 6, 7, 8, 9, 10, 11, 12, 13, 14, 15, 16, 17] mixed (by kernel_rfl) ?_; intro K hK
  iterate 4 refine eM ?_
  obtain ⟨x74, e74, h7⟩ := bnd_e h7
  refine eP (fun H hH => yv_sub rfl rfl rfl e74) ?_
  iterate 2 refine eM ?_
  obtain ⟨x75, e75, h7⟩ := bnd_e h7
  refine eP (fun H hH => yv_sub rfl rfl rfl e75) ?_
  obtain ⟨x76, e76, h7⟩ := bind_e h7
  refine de_pure rfl rfl rfl rfl (fun H hH => yv_ixO rfl Tryz.underlying22 sh3 rfl rfl ((hH _ (by decide)).trans rfl) rfl rfl (Eq.symm rfl) (List.length_map _) e76) ?_
  refine eL sh3 (hr := ix_get e76) ?_
  iterate 2 refine eM ?_
  obtain ⟨x77, e77, h7⟩ := bind_e h7
  refine de_pure rfl rfl rfl rfl (fun H hH => yv_ixO rfl Tryz.underlying22 sh3 rfl rfl ((hH _ (by decide)).trans rfl) rfl rfl (Eq.symm rfl) (List.length_map _) e77) ?_
  refine eL sh3 (hr := ix_get e77) ?_
  refine de_pure rfl rfl rfl rfl (fun H hH => yv_ixO rfl Tryz.underlying22 sh3 rfl rfl ((hH _ (by decide)).trans rfl) rfl rfl (Eq.symm rfl) (List.length_map _) e77) ?_
  obtain ⟨x78, e78, h7⟩ := bnd_e h7
  have fx78 := ix_set e77 e78; have lx78 := len_setV e78 (rfl : y16_2.length = y16_2.length)
  refine de_eff0 rfl rfl rfl rfl (Yield.weak (yl_ob (ob' := (⟨3, 1, true, true, v47, x78.map fI⟩ : AObj)) (yl_store rfl sh3 rfl rfl rfl rfl rfl (ix_get e77) rfl rfl rfl) (ob_eq (map_setV e78))) (fun _ h => h) (fun _ _ => trivial)) (by rintro _ _ ⟨rfl, rfl⟩; exact trivial) ?_; rintro _ _ ⟨rfl, rfl⟩
  obtain ⟨x79, e79, h7⟩ := bind_e h7
  refine de_pure rfl rfl rfl rfl (fun H hH => yv_ixO rfl Tryz.underlying22 sh3 rfl rfl ((hH _ (by decide)).trans rfl) rfl rfl (Eq.symm lx78) (List.length_map _) e79) ?_
  obtain ⟨x80, e80, h7⟩ := bnd_e h7
  have fx80 := ix_set e79 e80; have lx80 := len_setV e80 lx78
  refine de_eff0 rfl rfl rfl rfl (Yield.weak (yl_ob (ob' := (⟨3, 1, true, true, v47, x80.map fI⟩ : AObj)) (yl_store rfl sh3 rfl rfl rfl rfl rfl (ix_get e79) rfl rfl rfl) (ob_eq (map_setV e80))) (fun _ h => h) (fun _ _ => trivial)) (by rintro _ _ ⟨rfl, rfl⟩; exact trivial) ?_; rintro _ _ ⟨rfl, rfl⟩
  refine de_nil (hK _ ?_)
  refine tc tbk 3 (.mk ?_)
  refine ni tbk h7 fun x81 h7 => ?_
  refine tr tbk 2 (.mk ?_)
  exact bk (x81, x80) () h7 (leH_kn ⟨⟨_, rfl, (cv_slen (Eq.symm lx80))⟩, ⟨_, rfl, (.refl _)⟩, ⟨_, rfl, (.refl _)⟩, ⟨_, rfl, (.refl _)⟩, ⟨_, rfl, (.refl _)⟩, ⟨_, rfl, (.refl _)⟩, trivial⟩ ⟨⟨_, rfl, (.refl _)⟩, ⟨_, rfl, (.refl _)⟩, ⟨_, rfl, (.refl _)⟩, ⟨_, rfl, (.refl _)⟩, ⟨_, rfl, (.refl _)⟩, trivial⟩)
  rintro y20_1 _ h6
  refine tc tbk 1 (.mk ?_)
  exact lf h6 () leA
  rintro y21_1 _ h5
  refine tc tbk 2 (.mk ?_)
  refine ni tbk h5 fun x82 h5 => ?_
  refine tr tbk 2 (.mk ?_)
  exact bk (x82, y21_1) () h5 leA
  rintro y22_1 _ h4
  obtain rfl := nxt_e h4
  refine c_nil (hnorm _ _ (hk [(1, ⟨3, 1, true, true, v28, y10_2.map fI⟩), (2, ⟨3, 1, true, true, v31, y10_3.map fI⟩), (3, ⟨22, 1, true, true, v43, [[.sl 2 v31 0 y10_3.length]]⟩), (4, ⟨157, 1, true, true, v44, [[.fn (.func 156) [] []]]⟩), (5, ⟨3, 1, true, true, v47, y22_1.map fI⟩)]) .nil (HK.le ⟨rfl, rfl, rfl, rfl, rfl, trivial⟩) ?_)
  exact ⟨y22_1, (), rfl, rfl, rfl⟩
  rintro y _ ⟨y23_1, _, rfl, hc, rfl⟩
  subst hc
  refine tr tbk 1 (.mk ?_)
  obtain ⟨p83, h3⟩ := asrt_e h3
  refine jn h3 [] [1, 2, 3, 4, 5] (fun (a : Unit) (k : Unit) => []) (fun a k => []) ⟨fun j84 h4 => ?_, ?_⟩
  refine tc tbk 1 (.mk ?_)
  refine lp (fun n (a : Unit) => d_parts_Split_L7 y12_1 n) () () h4 [0, 1, 2, 6] [1, 2, 3, 4, 5] (fun (a : Unit) (k : Unit) => []) (fun a k => []) (fun _ => rfl) ⟨leA, ?_⟩
  rintro n _ _ hm h4
  replace h4 : d_parts_Split_L7 y12_1 (n + 1) = some _ := h4
  rw [d_parts_Split_L7] at h4
  refine tc tbk 5 (.mk ?_)
  refine nb tbk h4 fun x85 h4 => ?_
  refine tr tbk 1 (.mk ?_)
  replace h4 := asrt_e h4
  obtain ⟨rfl, h4⟩ := h4
  refine tc tbk 2 (.mk ?_)
  exact lf h4 () leA
  rintro _ _ h3
  obtain rfl := nxt_e h3
  refine c_nil (hnorm _ _ (hk [(1, ⟨3, 1, true, true, v28, y10_2.map fI⟩), (2, ⟨3, 1, true, true, v31, y10_3.map fI⟩), (3, ⟨22, 1, true, true, v43, [[.sl 2 v31 0 y10_3.length]]⟩), (4, ⟨157, 1, true, true, v44, [[.fn (.func 156) [] []]]⟩), (5, ⟨3, 1, true, true, v47, y23_1.map fI⟩)]) .nil (HK.le ⟨rfl, rfl, rfl, rfl, rfl, trivial⟩) ?_)
  exact ⟨y23_1, (), rfl, rfl, rfl⟩
  rintro y _ ⟨y26_1, _, rfl, hc, rfl⟩
  subst hc
  refine tr tbk 1 (.mk ?_)
  obtain rfl := nxt_e h2
  refine g_nil (hnorm _ _ (hk [(1, ⟨3, 1, true, true, v28, y10_2.map fI⟩), (2, ⟨3, 1, true, true, v31, y10_3.map fI⟩), (3, ⟨22, 1, true, true, v43, [[.sl 2 v31 0 y10_3.length]]⟩), (4, ⟨157, 1, true, true, v44, [[.fn (.func 156) [] []]]⟩), (5, ⟨3, 1, true, true, v47, y26_1.map fI⟩)]) .nil (HK.le ⟨rfl, rfl, rfl, rfl, rfl, trivial⟩) ?_)
  exact ⟨y26_1, (), rfl, rfl, rfl⟩
  rintro y _ ⟨y27_1, _, rfl, hc, rfl⟩
  subst hc
  refine tr tbk 3 (.mk ?_)
  obtain ⟨p86, h1⟩ := asrt_e h1
  refine sY (yv_move rfl rfl) ?_
  refine tr tbk 2 (.mk ?_)
  obtain rfl := nxt_e h1
  refine w_ret (hret _ _ (hk [(1, ⟨3, 1, true, true, v28, y10_2.map fI⟩), (2, ⟨3, 1, true, true, v31, y10_3.map fI⟩), (5, ⟨3, 1, true, true, v47, y27_1.map fI⟩)]) (.tmp rfl .nil) (HK.le ⟨rfl, rfl, rfl, trivial⟩) ?_)
  exact ⟨y27_1, v47, rfl, (cv_slen (Eq.symm p86)), rfl⟩
  rintro y _ ⟨y28_2, w28_1, rfl, hc, rfl⟩
  refine rs_cv 75 (.sl 5 w28_1 0 y28_2.length) rfl hc ?_
  refine tr tbk 2 (.mk ?_)
  refine sY (yv_len_sl rfl Tryz.underlying22 rfl (.sl rfl rfl)) ?_
  obtain ⟨x87, e87, h0⟩ := bnd_e h0
  refine sY (yv_min rfl rfl rfl e87) ?_
  obtain ⟨p88, h0⟩ := asrt_e h0
  refine sY (yv_slO (len := y28_2.length) (i := 0) (j := x87.toNat) rfl Tryz.underlying22 sh3 rfl rfl rfl rfl .no (.yes rfl (by first | omega | (dsimp only; omega) | (dsimp only at *; omega))) (Nat.zero_le _) (by first | omega | (dsimp only; omega) | (dsimp only at *; omega)) (.inr rfl)) ?_
  refine sY (yv_len_sl rfl Tryz.underlying22 rfl (.sl rfl rfl)) ?_
  refine tr tbk 2 (.mk ?_)
  refine jn h0 [4, 5] [] (fun (a : (List Int)) (k : Unit) => [(10, .sl 1 v28 0 a.length)]) (fun a k => [(1, ⟨3, 1, true, true, v28, a.map fI⟩)]) ⟨fun j89 h1 => ?_, ?_⟩
  refine tc tbk 1 (.mk ?_)
  refine lp (fun n (a : Int × (List Int)) => d_parts_Split_L8 y28_2 x87 n a.1 a.2) ((0 : Int), (y10_2 : List Int)) () h1 [4, 5, 80, 81] [5] (fun (a : Int × (List Int)) (k : Unit) => [(10, .sl 1 v28 0 a.2.length), (82, int a.1)]) (fun a k => [(1, ⟨3, 1, true, true, v28, a.2.map fI⟩)]) (fun _ => rfl) ⟨leA, ?_⟩
  rintro n ⟨y29_1, y29_2⟩ _ hm h1
  replace h1 : d_parts_Split_L8 y28_2 x87 (n + 1) y29_1 y29_2 = some _ := h1
  rw [d_parts_Split_L8] at h1
  refine tc tbk 2 (.mk ?_)
  refine nb tbk h1 fun x90 h1 => ?_
  refine tr tbk 2 (.mk ?_)
  cases x90
  replace h1 := cf h1
  refine tc tbk 2 (.mk ?_)
  exact lf h1 () leA
  replace h1 := ct h1
  refine tc tbk 6 (.mk ?_)
  obtain ⟨p91, h1⟩ := asrt_e h1
  obtain ⟨x92, e92, h1⟩ := bind_e h1
  refine sY (yv_ixW rfl Tryz.underlying22 sh3 rfl rfl rfl rfl rfl p91 (List.length_map _) e92) ?_
  refine sY (yv_load rfl sh3 rfl (.pt rfl rfl (ix_get e92)) rfl) ?_
  refine tr tbk 5 (.mk ?_)
  obtain ⟨x93, e93, h1⟩ := bind_e h1
  refine sY (yv_ixO rfl Tryz.underlying22 sh3 rfl rfl rfl rfl rfl (Eq.symm rfl) (List.length_map _) e93) ?_
  refine sY (yv_load rfl sh3 rfl (.pt rfl rfl (ix_get e93)) rfl) ?_
  refine ni tbk h1 fun x94 h1 => ?_
  refine sY (yv_ixO rfl Tryz.underlying22 sh3 rfl rfl rfl rfl rfl (Eq.symm rfl) (List.length_map _) e93) ?_
  obtain ⟨x95, e95, h1⟩ := bnd_e h1
  have fx95 := ix_set e93 e95; have lx95 := len_setV e95 (rfl : y29_2.length = y29_2.length)
  refine rsstore rfl rfl (yl_ob (ob' := (⟨3, 1, true, true, v28, x95.map fI⟩ : AObj)) (yl_store rfl sh3 rfl rfl rfl rfl rfl (ix_get e93) rfl rfl rfl) (ob_eq (map_setV e95))) ?_
  refine tr tbk 3 (.mk ?_)
  refine ni tbk h1 fun x96 h1 => ?_
  refine tr tbk 2 (.mk ?_)
  exact bk (x96, x95) () h1 (leH_kn ⟨⟨_, rfl, (cv_slen (Eq.symm lx95))⟩, ⟨_, rfl, (.refl _)⟩, ⟨_, rfl, (.refl _)⟩, ⟨_, rfl, (.refl _)⟩, ⟨_, rfl, (.refl _)⟩, ⟨_, rfl, (.refl _)⟩, trivial⟩ ⟨⟨_, rfl, (.refl _)⟩, ⟨_, rfl, (.refl _)⟩, trivial⟩)
  rintro y30_1 _ h0
  refine tc tbk 6 (.mk ?_)
  obtain rfl := nxt_e h0
  refine wR hret (rT (rT .nil)) ?_
  exact CvL.tup (.cons (cv_lst rfl rfl rfl rfl rfl (Eq.symm rfl)) (.cons (.refl _) .nil))
def d_close_spread_L0 (a1 : GState) (a2 : Int) (a3 : Int) (a4 : Int) : Nat → Bool → Int → (List Int) → (List Int) → Option (Bool × (List Int) × (List Int))
  | 0, _, _, _, _ => none
  | n + 1, y0_3, y0_4, y0_5, y0_6 =>
    bnd (decide (y0_4 < (a1.Sales.length : Int))) fun x12 =>
    cond x12 ((show Option (Bool × (List Int) × (List Int)) from
    (ix a1.Sales y0_4).bind fun x14 =>
    (show Option (Bool) from
    (ix a1.Ents a2).bind fun x17 =>
    (d_close_waits x14 a2 x17.Now).bind fun x18 =>
    cond x18 (bnd (decide (x14.Item = a3)) fun x19 =>
    cond x19 (bnd (decide (x14.Loc = a4)) fun x20 =>
    some (x20 : Bool)) (some (false : Bool))) (some (false : Bool))).bind <| fun y1_1 =>
    cond y1_1 (bnd (w64 (x14.Qty - x14.Back)) fun x21 =>
    bnd (y0_5 ++ ([y0_4] : List Int)) fun x22 =>
    asrt (x22.length ≤ 68719476736) <|
    bnd (y0_6 ++ ([x21] : List Int)) fun x25 =>
    asrt (x25.length ≤ 68719476736) <|
    (show Option (Bool) from
    cond y0_3 (some (true : Bool)) (bnd (decide (x14.Qty > x14.Back)) fun x29 =>
    some (x29 : Bool))).bind <| fun y3_1 =>
    some ((y3_1 : Bool), (x22 : List Int), (x25 : List Int))) (some ((y0_3 : Bool), (y0_5 : List Int), (y0_6 : List Int)))).bind <| p2 fun (y2_3 : Bool) (q0 : (List Int) × (List Int)) => (p2 fun (y2_4 : List Int) (y2_5 : List Int) =>
    bnd (w64 (y0_4 + 1)) fun x30 =>
    d_close_spread_L0 a1 a2 a3 a4 n (y2_3 : Bool) (x30 : Int) (y2_4 : List Int) (y2_5 : List Int)) q0) (some ((y0_3 : Bool), (y0_5 : List Int), (y0_6 : List Int)))
def d_close_spread_L1 (y4_4 : List Int) (x33 : (List Int) × Int) (x36 : (List Int) × Int) : Nat → Int → (List GSale) → Option ((List GSale))
  | 0, _, _ => none
  | n + 1, y5_1, y5_2 =>
    bnd (decide (y5_1 < (y4_4.length : Int))) fun x41 =>
    cond x41 ((ix y4_4 y5_1).bind fun x42 =>
    (ix x33.1 y5_1).bind fun x43 =>
    (ix x36.1 y5_1).bind fun x44 =>
    bnd (w64 (1 * x44)) fun x45 =>
    (ix y5_2 x42).bind fun x46 =>
    bnd (y5_2.set (Int.toNat x42) ((⟨x46.Entity, x46.Item, x46.Loc, x46.Qty, x46.Back, x43, x46.Profit, x46.Period, x46.Waits⟩ : GSale) : GSale)) fun x47 =>
    bnd (x47.set (Int.toNat x42) ((⟨x46.Entity, x46.Item, x46.Loc, x46.Qty, x46.Back, x43, x45, x46.Period, x46.Waits⟩ : GSale) : GSale)) fun x48 =>
    bnd (w64 (y5_1 + 1)) fun x49 =>
    d_close_spread_L1 y4_4 x33 x36 n (x49 : Int) (x48 : List GSale)) (some (y5_2 : List GSale))
def d_close_spread (n : Nat) (a1 : GState) (a2 : Int) (a3 : Int) (a4 : Int) (a5 : GLayer) : Option (GState × Int) :=
(show Option (Bool × (List Int) × (List Int)) from
d_close_spread_L0 a1 a2 a3 a4 n (false : Bool) (0 : Int) (([] : List Int) : List Int) (([] : List Int) : List Int)).bind <| p2 fun (y4_3 : Bool) (q0 : (List Int) × (List Int)) => (p2 fun (y4_4 : List Int) (y4_5 : List Int) =>
bnd (!y4_3) fun x31 =>
asrt (x31 = false) <|
bnd (decide (a5.Profit < 0)) fun x32 =>
asrt (x32 = false) <|
(d_parts_Split n a5.Value y4_5).bind fun x33 =>
bnd (decide (x33.2 ≠ 0)) fun x34 =>
asrt (x34 = false) <|
bnd (w64 (1 * a5.Profit)) fun x35 =>
(d_parts_Split n x35 y4_5).bind fun x36 =>
bnd (decide (x36.2 ≠ 0)) fun x37 =>
asrt (x37 = false) <|
asrt (a1.Sales.length ≤ 68719476736) <|
(show Option ((List GSale)) from
d_close_spread_L1 y4_4 x33 x36 n (0 : Int) (a1.Sales : List GSale)).bind <| fun y6_1 =>
some (((⟨a1.Master, a1.Ents, a1.Receipts, y6_1, a1.Transits, a1.Done⟩ : GState) : GState), (0 : Int))) q0
theorem d_close_spread_c {n : Nat} {a1 : GState} {a2 : Int} {a3 : Int} {a4 : Int} {a5 : GLayer} {r : GState × Int} (h0 : d_close_spread n a1 a2 a3 a4 a5 = some r) : PP Tryz.prog 97 [.agg (GState.av a1), int a2, int a3, int a4, .agg (GLayer.av a5)] (fun y => y = .tup [.agg (GState.av r.1), int r.2]) := by
  unfold d_close_spread at h0
  refine pp_of_pc (R0 := fun y H => Cv (frzH H) y (.tup [.agg (GState.av r.1), int r.2])) ?_ (fun y H hc => ⟨_, rfl, .tup (pvl2 ((fun (a : GState) => PV.agg (GState.pvc a)) (r.1)) (pvI (r.2))), hc⟩)
  refine pcw (c := _) Tryz.func97 rfl rfl ?_; intro Q hret hnorm
  refine tc tbk 2 (.mk ?_)
  refine sB 1 fun v6 => ?_
  refine sB 2 fun v7 => ?_
  refine sA 3 z31 fun v8 => ?_
  refine tr tbk 16 (.mk ?_)
  refine sY (yv_len_sl rfl Tryz.underlying28 rfl (lst_len _)) ?_
  refine tr tbk 2 (.mk ?_)
  refine jn h0 [5, 9, 10, 11] [1, 2, 3] (fun (a : Bool × (List Int) × (List Int)) (k : Nat × Nat) => [(12, .sl 7 k.1 0 a.2.1.length), (13, .sl 8 k.2 0 a.2.2.length), (14, boo a.1)]) (fun a k => [(7, ⟨3, 1, true, true, k.1, a.2.1.map fI⟩), (8, ⟨3, 1, true, true, k.2, a.2.2.map fI⟩)]) ⟨fun j9 h1 => ?_, ?_⟩
  refine tc tbk 1 (.mk ?_)
  refine c_nilobj 12 7 3 1 rfl rfl ?_; intro v10
  refine c_nilobj 13 8 3 1 rfl rfl ?_; intro v11
  refine lp (fun n (a : Bool × Int × (List Int) × (List Int)) => d_close_spread_L0 a1 a2 a3 a4 n a.1 a.2.1 a.2.2.1 a.2.2.2) ((false : Bool), (0 : Int), (([] : List Int) : List Int), (([] : List Int) : List Int)) (v10, v11) h1 [1, 2, 3, 5, 9, 10, 11, 24, 25] [1, 2, 3] (fun (a : Bool × Int × (List Int) × (List Int)) (k : Nat × Nat) => [(12, .sl 7 k.1 0 a.2.2.1.length), (13, .sl 8 k.2 0 a.2.2.2.length), (14, boo a.1), (26, int a.2.1)]) (fun a k => [(7, ⟨3, 1, true, true, k.1, a.2.2.1.map fI⟩), (8, ⟨3, 1, true, true, k.2, a.2.2.2.map fI⟩)]) (fun _ => rfl) ⟨leA, ?_⟩
  rintro n ⟨y0_3, y0_4, y0_5, y0_6⟩ ⟨w0_1, w0_2⟩ hm h1
  replace h1 : d_close_spread_L0 a1 a2 a3 a4 (n + 1) y0_3 y0_4 y0_5 y0_6 = some _ := h1
  rw [d_close_spread_L0] at h1
  refine tc tbk 2 (.mk ?_)
  refine nb tbk h1 fun x12 h1 => ?_
  refine tr tbk 2 (.mk ?_)
  cases x12
  replace h1 := cf h1
  refine tc tbk 2 (.mk ?_)
  exact lf h1 (w0_1, w0_2) leA
  replace h1 := ct h1
  refine tc tbk 3 (.mk ?_)
  refine jn h1 [1, 2, 3, 5, 9, 10, 11, 24, 25, 26] [1, 2, 3] (fun (a : Bool × (List Int) × (List Int)) (k : Nat × Nat) => [(12, .sl 7 k.1 0 a.2.1.length), (13, .sl 8 k.2 0 a.2.2.length), (14, boo a.1)]) (fun a k => [(7, ⟨3, 1, true, true, k.1, a.2.1.map fI⟩), (8, ⟨3, 1, true, true, k.2, a.2.2.map fI⟩)]) ⟨fun j13 h2 => ?_, ?_⟩
  refine tc tbk 4 (.mk ?_)
  obtain ⟨x14, e14, h2⟩ := bind_e h2
  refine sY (yv_ixT rfl Tryz.underlying28 sh53 rfl rfl e14) ?_
  refine tr tbk 1 (.mk ?_)
  refine sA 4 z53 fun v15 => ?_
  refine tr tbk 1 (.mk ?_)
  refine sS ⟨53, 9, true, true, v15, [[int x14.Entity, int x14.Item, int x14.Loc, int x14.Qty, int x14.Back, int x14.Cost, int x14.Profit, int x14.Period, boo x14.Waits]]⟩ sh53 ?_
  refine tr tbk 2 (.mk ?_)
  refine jn h2 [1, 2, 3, 5, 9, 10, 11, 12, 13, 14, 15, 16, 24, 25, 26] [1, 2, 3, 4, 7, 8] (fun (a : Bool) (k : Unit) => [(51, boo a)]) (fun a k => []) ⟨fun j16 h3 => ?_, ?_⟩
  refine c_drawE [0, 0, 0, 4, 0, 28, 60, 124, 255, 511, 1023, 2047, 1023, 8191, 16383, 32767, 65535, 131071, 65535, 524287, 1048575] (rl [(0, [4]), (2, [1]), (3, [1]), (10, [4]), (11, [4]), (16, [4]), (17, [4])] []) (fun i => [1, 4]) (fun i => true) [0, 1, 2, 3, 4, 5, 6, 7, 8, 9, 10, 11, 12, 13, 14, 15, 16, 17, 18, 19, 20] mixed (by kernel_rfl) ?_; intro K hK
  refine eL sh53 ?_
  refine eM ?_
  refine eF fo31_1 ?_
  refine eL sh26 ?_
  refine eM ?_
  obtain ⟨x17, e17, h3⟩ := bind_e h3
  refine eP (fun H hH => yv_to (y := .pp [int x17.Now, boo x17.Closed, lst 4 GPool.av x17.Pools, lst 1 fI x17.Bal, lst 11 GRoll.av x17.Rolls, lst 1 fI x17.Prices, lst 1 fI x17.Down, lst 8 GEnt.av x17.Ahead]) (yv_ixT rfl Tryz.underlying26 sh46 rfl rfl e17) (congrArg AV.pp (GEnt.av_eq x17))) ?_
  refine eP (fun H hH => yv_fieldAddr rfl fo46_0 rfl (.pp _) (.pp _ _)) ?_
  refine eP (fun H hH => yv_load rfl sh3 rfl (.pp _) rfl) ?_
  obtain ⟨x18, e18, h3⟩ := bind_e h3
  refine eP (fun H hH => yv_callP rfl rfl (.cons rfl (.cons rfl (.cons rfl .nil))) cal54 (CvL.refl _) (d_close_waits_c e18)) ?_
  refine eM ?_
  cases x18
  replace h3 := cf h3
  refine de_skip rfl rfl rfl ?_
  refine de_skip rfl rfl rfl ?_
  refine de_skip rfl rfl rfl ?_
  refine de_skip rfl rfl rfl ?_
  refine eP (fun H hH => yv_pick rfl rfl (fun _ => rfl) (fun _ => rfl) rfl) ?_
  refine eM ?_
  refine de_skip rfl rfl rfl ?_
  refine de_skip rfl rfl rfl ?_
  refine de_skip rfl rfl rfl ?_
  refine de_skip rfl rfl rfl ?_
  refine eP (fun H hH => yv_pick rfl rfl (fun _ => rfl) (fun _ => rfl) rfl) ?_
  refine de_nil (hK _ ?_)
  exact lf h3 () leA
  replace h3 := ct h3
  refine eF fo53_1 ?_
  refine eL sh3 ?_
  refine eM ?_
  obtain ⟨x19, e19, h3⟩ := bnd_e h3
  refine eP (fun H hH => yv_to (y := boo x19) (yv_eql rfl rfl rfl) (congrArg boo e19)) ?_
  refine eP (fun H hH => yv_pick rfl rfl (fun _ => rfl) (fun _ => rfl) rfl) ?_
  refine eM ?_
  cases x19
  replace h3 := cf h3
  refine de_skip rfl rfl rfl ?_
  refine de_skip rfl rfl rfl ?_
  refine de_skip rfl rfl rfl ?_
  refine de_skip rfl rfl rfl ?_
  refine eP (fun H hH => yv_pick rfl rfl (fun _ => rfl) (fun _ => rfl) rfl) ?_
  refine de_nil (hK _ ?_)
  exact lf h3 () leA
  replace h3 := ct h3
  refine eF fo53_2 ?_
  refine eL sh3 ?_
  refine eM ?_
  obtain ⟨x20, e20, h3⟩ := bnd_e h3
  refine eP (fun H hH => yv_to (y := boo x20) (yv_eql rfl rfl rfl) (congrArg boo e20)) ?_
  refine eP (fun H hH => yv_pick rfl rfl (fun _ => rfl) (fun _ => rfl) rfl) ?_
  refine de_nil (hK _ ?_)
  exact lf h3 () leA
  rintro y1_1 _ h2
  cases y1_1
  replace h2 := cf h2
  refine tc tbk 3 (.mk ?_)
  exact lf h2 (w0_1, w0_2) leA
  replace h2 := ct h2
  refine tc tbk 2 (.mk ?_)
  refine c_drawE [0, 0, 2, 7, 0, 0, 32, 0, 128, 480, 992, 2047, 4095, 8191] (rl [(5, [4]), (6, [4]), (7, [4]), (8, [4])] []) (rl [(11, [])] [4]) (rl [(3, false), (11, false)] true) [0, 1, 2, 4, 5, 6, 7, 8, 9, 10, 3, 11, 12, 13] mixed (by kernel_rfl) ?_; intro K hK
  iterate 2 refine eM ?_
  refine eP (fun H hH => yv_to (y := lst 1 fI ([y0_4] : List Int)) (yv_buildSlice (ps := [(0, _)]) (rows := [[int y0_4]]) rfl Tryz.underlying22 bz3 (.cons rfl .nil) (by kernel_rfl) rfl rfl rfl) rfl) ?_
  refine eM ?_
  refine eF fo53_3 ?_
  refine eL sh3 ?_
  refine eF fo53_4 ?_
  refine eL sh3 ?_
  obtain ⟨x21, e21, h2⟩ := bnd_e h2
  refine eP (fun H hH => yv_sub rfl rfl rfl e21) ?_
  refine eP (fun H hH => yv_to (y := lst 1 fI ([x21] : List Int)) (yv_buildSlice (ps := [(0, _)]) (rows := [[int x21]]) rfl Tryz.underlying22 bz3 (.cons rfl .nil) (by kernel_rfl) rfl rfl rfl) rfl) ?_
  obtain ⟨x22, e22, h2⟩ := bnd_e h2
  obtain ⟨p23, h2⟩ := asrt_e h2
  refine de_eff rfl rfl rfl rfl (yl_appT (g := fI) (l := y0_5) (m := ([y0_4] : List Int)) .any rfl Tryz.underlying22 bz3 by3 rfl rfl rfl rfl rfl rfl rfl rfl rfl rfl (Eq.symm rfl) (.refl _) (fun _ => rfl) e22 p23) (by rintro _ _ ⟨v24, -, rfl, rfl⟩; exact ⟨rfl, trivial⟩) ?_; rintro _ _ ⟨v24, -, rfl, rfl⟩
  obtain ⟨x25, e25, h2⟩ := bnd_e h2
  obtain ⟨p26, h2⟩ := asrt_e h2
  refine de_eff rfl rfl rfl rfl (yl_appT (g := fI) (l := y0_6) (m := ([x21] : List Int)) .any rfl Tryz.underlying22 bz3 by3 rfl rfl rfl rfl rfl rfl rfl rfl rfl rfl (Eq.symm rfl) (.refl _) (fun _ => rfl) e25 p26) (by rintro _ _ ⟨v27, -, rfl, rfl⟩; exact trivial) ?_; rintro _ _ ⟨v27, -, rfl, rfl⟩
  iterate 2 refine eA ?_
  refine de_nil (hK _ ?_)
  refine jn h2 [1, 2, 3, 5, 9, 10, 11, 12, 13, 24, 25, 26] [1, 2, 3, 7, 8] (fun (a : Bool) (k : Unit) => [(14, boo a)]) (fun a k => []) ⟨fun j28 h3 => ?_, ?_⟩
  refine tc tbk 3 (.mk ?_)
  cases y0_3
  replace h3 := cf h3
  refine tr tbk 4 (.mk ?_)
  refine nb tbk h3 fun x29 h3 => ?_
  refine tr tbk 3 (.mk ?_)
  exact lf h3 () leA
  replace h3 := ct h3
  refine tr tbk 8 (.mk ?_)
  exact lf h3 () leA
  rintro y3_1 _ h2
  refine tc tbk 1 (.mk ?_)
  exact lf h2 (v24, v27) leA
  rintro ⟨y2_3, y2_4, y2_5⟩ ⟨w2_1, w2_2⟩ h1
  replace h1 := p2_e h1
  replace h1 := p2_e h1
  refine tc tbk 1 (.mk ?_)
  refine ni tbk h1 fun x30 h1 => ?_
  refine tr tbk 2 (.mk ?_)
  exact bk (y2_3, x30, y2_4, y2_5) (w2_1, w2_2) h1 leA
  rintro ⟨y4_3, y4_4, y4_5⟩ ⟨w4_1, w4_2⟩ h0
  replace h0 := p2_e h0
  replace h0 := p2_e h0
  refine tc tbk 4 (.mk ?_)
  refine nb tbk h0 fun x31 h0 => ?_
  refine tr tbk 1 (.mk ?_)
  replace h0 := asrt_e h0
  obtain ⟨rfl, h0⟩ := h0
  refine tc tbk 11 (.mk ?_)
  refine nb tbk h0 fun x32 h0 => ?_
  refine tr tbk 1 (.mk ?_)
  replace h0 := asrt_e h0
  obtain ⟨rfl, h0⟩ := h0
  refine tc tbk 7 (.mk ?_)
  obtain ⟨x33, e33, h0⟩ := bind_e h0
  refine rse rfl rfl rfl (Yield.frz 8 rfl (Yield.weak (yv_callP rfl rfl (.cons rfl (.cons rfl .nil)) cal87 (.cons (.refl _) (.cons (cv_lst rfl rfl rfl rfl rfl (Eq.symm rfl)) .nil)) (d_parts_Split_c e33)) (fun _ h => h) (fun _ h => h.elim))) ?_; rintro _ _ ⟨rfl, rfl⟩
  refine tr tbk 10 (.mk ?_)
  refine nb tbk h0 fun x34 h0 => ?_
  refine tr tbk 1 (.mk ?_)
  replace h0 := asrt_e h0
  obtain ⟨rfl, h0⟩ := h0
  refine tc tbk 7 (.mk ?_)
  refine ni tbk h0 fun x35 h0 => ?_
  refine tr tbk 1 (.mk ?_)
  obtain ⟨x36, e36, h0⟩ := bind_e h0
  refine sY (yv_callP rfl rfl (.cons rfl (.cons rfl .nil)) cal87 (.cons (.refl _) (.cons (cv_lst rfl rfl rfl rfl rfl (Eq.symm rfl)) .nil)) (d_parts_Split_c e36)) ?_
  refine tr tbk 10 (.mk ?_)
  refine nb tbk h0 fun x37 h0 => ?_
  refine tr tbk 1 (.mk ?_)
  replace h0 := asrt_e h0
  obtain ⟨rfl, h0⟩ := h0
  refine tc tbk 6 (.mk ?_)
  obtain ⟨p38, h0⟩ := asrt_e h0
  refine rse rfl rfl rfl (yl_call rfl rfl (.cons rfl .nil) cal53 (pc_cv (clone53_c (id := 9) (l := a1.Sales) rfl p38) (.cons (.refl _) .nil))) ?_; rintro _ _ ⟨v39, rfl, rfl⟩
  refine tr tbk 1 (.mk ?_)
  refine sS ⟨31, 10, true, true, v6, [[int a1.Master.Entities, int a1.Master.Periods, lst 1 fI a1.Master.Weights, lst 1 (fL 1 fI) a1.Master.Methods, lst 1 (fL 1 fI) a1.Master.Costs, lst 8 GEnt.av a1.Ents, lst 8 GReceipt.av a1.Receipts, .sl 9 v39 0 a1.Sales.length, lst 6 GTransit.av a1.Transits, int a1.Done]]⟩ sh28 ?_
  refine tr tbk 5 (.mk ?_)
  refine sY (yv_len_sl rfl Tryz.underlying22 rfl (.sl rfl rfl)) ?_
  refine tr tbk 2 (.mk ?_)
  refine jn h0 [5, 10, 11] [3] (fun (a : (List GSale)) (k : Unit) => []) (fun a k => [(1, ⟨31, 10, true, true, v6, [[int a1.Master.Entities, int a1.Master.Periods, lst 1 fI a1.Master.Weights, lst 1 (fL 1 fI) a1.Master.Methods, lst 1 (fL 1 fI) a1.Master.Costs, lst 8 GEnt.av a1.Ents, lst 8 GReceipt.av a1.Receipts, .sl 9 v39 0 a.length, lst 6 GTransit.av a1.Transits, int a1.Done]]⟩), (9, ⟨53, 9, true, true, v39, a.map GSale.av⟩)]) ⟨fun j40 h1 => ?_, ?_⟩
  refine tc tbk 1 (.mk ?_)
  refine lp (fun n (a : Int × (List GSale)) => d_close_spread_L1 y4_4 x33 x36 n a.1 a.2) ((0 : Int), (a1.Sales : List GSale)) () h1 [5, 10, 11, 17, 18, 20, 107, 108] [3, 7] (fun (a : Int × (List GSale)) (k : Unit) => [(109, int a.1)]) (fun a k => [(1, ⟨31, 10, true, true, v6, [[int a1.Master.Entities, int a1.Master.Periods, lst 1 fI a1.Master.Weights, lst 1 (fL 1 fI) a1.Master.Methods, lst 1 (fL 1 fI) a1.Master.Costs, lst 8 GEnt.av a1.Ents, lst 8 GReceipt.av a1.Receipts, .sl 9 v39 0 a.2.length, lst 6 GTransit.av a1.Transits, int a1.Done]]⟩), (9, ⟨53, 9, true, true, v39, a.2.map GSale.av⟩)]) (fun _ => rfl) ⟨leA, ?_⟩
  rintro n ⟨y5_1, y5_2⟩ _ hm h1
  replace h1 : d_close_spread_L1 y4_4 x33 x36 (n + 1) y5_1 y5_2 = some _ := h1
  rw [d_close_spread_L1] at h1
  refine tc tbk 2 (.mk ?_)
  refine nb tbk h1 fun x41 h1 => ?_
  refine tr tbk 2 (.mk ?_)
  cases x41
  replace h1 := cf h1
  refine tc tbk 2 (.mk ?_)
  exact lf h1 () leA
  replace h1 := ct h1
  refine tc tbk 7 (.mk ?_)
  obtain ⟨x42, e42, h1⟩ := bind_e h1
  refine sY (yv_ixO rfl Tryz.underlying22 sh3 rfl rfl rfl rfl rfl (Eq.symm rfl) (List.length_map _) e42) ?_
  refine sY (yv_load rfl sh3 rfl (.pt rfl rfl (ix_get e42)) rfl) ?_
  refine tr tbk 3 (.mk ?_)
  refine c_drawE [0, 1, 0, 0, 8, 0, 0, 0, 192, 448, 0, 0, 0, 6144, 14336, 31744, 31687, 97223, 228295, 524287, 1048575, 2097151] (rl [(0, [1]), (1, [1]), (3, [1]), (4, [1]), (16, [9]), (17, [9]), (19, [9]), (20, [9])] []) (rl [(18, [1]), (21, [])] [1, 9]) (rl [(18, false), (21, false)] true) [0, 1, 2, 3, 4, 5, 6, 7, 8, 9, 10, 11, 12, 13, 14, 15, 16, 17, 18, 19, 20, 21] mixed (by kernel_rfl) ?_; intro K hK
  refine eF fo31_3 ?_
  refine eL sh28 ?_
  refine eM ?_
  refine eF fo31_3 ?_
  refine eL sh28 ?_
  iterate 3 refine eM ?_
  obtain ⟨x43, e43, h1⟩ := bind_e h1
  refine eP (fun H hH => yv_ixT rfl Tryz.underlying22 sh3 rfl rfl e43) ?_
  refine eP (fun H hH => yv_load rfl sh3 rfl (.pp _) rfl) ?_
  iterate 3 refine eM ?_
  obtain ⟨x44, e44, h1⟩ := bind_e h1
  refine eP (fun H hH => yv_ixT rfl Tryz.underlying22 sh3 rfl rfl e44) ?_
  refine eP (fun H hH => yv_load rfl sh3 rfl (.pp _) rfl) ?_
  obtain ⟨x45, e45, h1⟩ := bnd_e h1
  refine eP (fun H hH => yv_mul rfl rfl rfl e45) ?_
  obtain ⟨x46, e46, h1⟩ := bind_e h1
  refine de_pure rfl rfl rfl rfl (fun H hH => yv_ixO rfl Tryz.underlying28 sh53 rfl rfl ((hH _ (by decide)).trans rfl) rfl rfl (Eq.symm rfl) (List.length_map _) e46) ?_
  refine eF fo53_5 (hr := ix_get e46) ?_
  obtain ⟨x47, e47, h1⟩ := bnd_e h1
  have fx47 := ix_set e46 e47; have lx47 := len_setV e47 (rfl : y5_2.length = y5_2.length)
  refine de_eff0 rfl rfl rfl rfl (Yield.weak (yl_ob (ob' := (⟨53, 9, true, true, v39, x47.map GSale.av⟩ : AObj)) (yl_store rfl sh3 rfl rfl rfl rfl rfl (ix_get e46) rfl rfl rfl) (ob_eq (map_setV e47))) (fun _ h => h) (fun _ _ => trivial)) (by rintro _ _ ⟨rfl, rfl⟩; exact ⟨rfl, trivial⟩) ?_; rintro _ _ ⟨rfl, rfl⟩
  refine de_pure rfl rfl rfl rfl (fun H hH => yv_ixO rfl Tryz.underlying28 sh53 rfl rfl ((hH _ (by decide)).trans rfl) rfl rfl (Eq.symm lx47) (List.length_map _) fx47) ?_
  refine eF fo53_6 (hr := ix_get fx47) ?_
  obtain ⟨x48, e48, h1⟩ := bnd_e h1
  have fx48 := ix_set fx47 e48; have lx48 := len_setV e48 lx47
  refine de_eff0 rfl rfl rfl rfl (Yield.weak (yl_ob (ob' := (⟨53, 9, true, true, v39, x48.map GSale.av⟩ : AObj)) (yl_store rfl sh3 rfl rfl rfl rfl rfl (ix_get fx47) rfl rfl rfl) (ob_eq (map_setV e48))) (fun _ h => h) (fun _ _ => trivial)) (by rintro _ _ ⟨rfl, rfl⟩; exact trivial) ?_; rintro _ _ ⟨rfl, rfl⟩
  refine de_nil (hK _ ?_)
  refine tc tbk 2 (.mk ?_)
  refine ni tbk h1 fun x49 h1 => ?_
  refine tr tbk 2 (.mk ?_)
  exact bk (x49, x48) () h1 (leH_kn ⟨⟨_, rfl, (.refl _)⟩, ⟨_, rfl, (.refl _)⟩, ⟨_, rfl, (.refl _)⟩, ⟨_, rfl, (.refl _)⟩, ⟨_, rfl, (.refl _)⟩, ⟨_, rfl, (.refl _)⟩, ⟨_, rfl, (.refl _)⟩, ⟨_, rfl, (.refl _)⟩, ⟨_, rfl, (.refl _)⟩, trivial⟩ ⟨⟨_, rfl, ⟨rfl, (.cons (.cons (.refl _) (.cons (.refl _) (.cons (.refl _) (.cons (.refl _) (.cons (.refl _) (.cons (.refl _) (.cons (.refl _) (.cons (cv_slen (Eq.symm lx48)) (.cons (.refl _) (.cons (.refl _) .nil)))))))))) .nil)⟩⟩, ⟨_, rfl, (.refl _)⟩, ⟨_, rfl, (.refl _)⟩, ⟨_, rfl, (.refl _)⟩, trivial⟩)
  rintro y6_1 _ h0
  refine tc tbk 3 (.mk ?_)
  refine sS ⟨31, 10, true, true, v8, [[int a1.Master.Entities, int a1.Master.Periods, lst 1 fI a1.Master.Weights, lst 1 (fL 1 fI) a1.Master.Methods, lst 1 (fL 1 fI) a1.Master.Costs, lst 8 GEnt.av a1.Ents, lst 8 GReceipt.av a1.Receipts, .sl 9 v39 0 y6_1.length, lst 6 GTransit.av a1.Transits, int a1.Done]]⟩ sh31 ?_
  refine tr tbk 2 (.mk ?_)
  obtain rfl := nxt_e h0
  refine wR hret (rC sh31 (rT .nil)) ?_
  exact CvL.tup (.cons (CvL.agg (.cons (.refl _) (.cons (.refl _) (.cons (.refl _) (.cons (.refl _) (.cons (.refl _) (.cons (.refl _) (.cons (.refl _) (.cons (cv_lst rfl rfl rfl rfl rfl (Eq.symm rfl)) (.cons (.refl _) (.cons (.refl _) .nil))))))))))) (.cons (.refl _) .nil))
def d_close_settle (n : Nat) (a1 : GState) (a2 : Int) (a3 : Int) (a4 : Int) (a5 : GPool) : Option (GState × Int) :=
(d_pavg_Settle n a5).bind fun x9 =>
asrt (a1.Ents.length ≤ 68719476736) <|
(ix a1.Ents a2).bind fun x13 =>
asrt (x13.Pools.length ≤ 68719476736) <|
bnd (w64 (a3 * 2)) fun x16 =>
bnd (w64 (x16 + a4)) fun x17 =>
(ix x13.Pools x17).bind fun x18 =>
bnd (x13.Pools.set (Int.toNat x17) (x9.1 : GPool)) fun x19 =>
bnd (w64 (0 - x9.2.a0.Value)) fun x23 =>
bnd (w64 (x23 - x9.2.a1.Value)) fun x24 =>
bnd (w64 (x24 - x9.2.a2.Value)) fun x25 =>
(d_stock_Post n (⟨a1.Master, (a1.Ents.set (Int.toNat a2) (⟨x13.Now, x13.Closed, x19, x13.Bal, x13.Rolls, x13.Prices, x13.Down, x13.Ahead⟩ : GEnt)), a1.Receipts, a1.Sales, a1.Transits, a1.Done⟩ : GState) a2 ([(⟨5, x9.2.a0.Value⟩ : GLine), (⟨7, x9.2.a1.Value⟩ : GLine), (⟨8, x9.2.a2.Value⟩ : GLine), (⟨0, x25⟩ : GLine)] : List GLine)).bind fun x26 =>
bnd (decide (x26.2 ≠ 0)) fun x27 =>
asrt (x27 = false) <|
(d_stock_Turn x26.1 a2 a3 (⟨0, 0, 0, 0, 0, x9.2.a0.Value, 0, 0, x9.2.a1.Value, x9.2.a2.Value, 0⟩ : GRoll)).bind fun x28 =>
bnd (decide (x28.2 ≠ 0)) fun x29 =>
asrt (x29 = false) <|
(d_close_spread n x28.1 a2 a3 a4 x9.2.a0).bind fun x30 =>
some ((x30.1 : GState), (x30.2 : Int))
theorem d_close_settle_c {n : Nat} {a1 : GState} {a2 : Int} {a3 : Int} {a4 : Int} {a5 : GPool} {r : GState × Int} (h0 : d_close_settle n a1 a2 a3 a4 a5 = some r) : PP Tryz.prog 50 [.agg (GState.av a1), int a2, int a3, int a4, .agg (GPool.av a5)] (fun y => y = .tup [.agg (GState.av r.1), int r.2]) := by
  unfold d_close_settle at h0
  refine pp_of_pc (R0 := fun y H => Cv (frzH H) y (.tup [.agg (GState.av r.1), int r.2])) ?_ (fun y H hc => ⟨_, rfl, .tup (pvl2 ((fun (a : GState) => PV.agg (GState.pvc a)) (r.1)) (pvI (r.2))), hc⟩)
  refine pcw (c := _) Tryz.func50 rfl rfl ?_; intro Q hret hnorm
  refine tc tbk 2 (.mk ?_)
  refine sB 1 fun v6 => ?_
  refine sB 2 fun v7 => ?_
  refine sA 3 z31 fun v8 => ?_
  refine tr tbk 5 (.mk ?_)
  obtain ⟨x9, e9, h0⟩ := bind_e h0
  refine sC cal95 (d_pavg_Settle_c e9) ?_
  refine tr tbk 3 (.mk ?_)
  refine sA 4 z151 fun v10 => ?_
  refine sS ⟨98, 4, true, true, v7, [[lst 3 GLayer.av x9.1.Layers, int x9.1.Pend.a0, int x9.1.Pend.a1, int x9.1.Pend.a2]]⟩ sh98 ?_
  refine sS ⟨151, 9, true, true, v10, [[int x9.2.a0.Qty, int x9.2.a0.Value, int x9.2.a0.Profit, int x9.2.a1.Qty, int x9.2.a1.Value, int x9.2.a1.Profit, int x9.2.a2.Qty, int x9.2.a2.Value, int x9.2.a2.Profit]]⟩ sh151 ?_
  refine tr tbk 5 (.mk ?_)
  obtain ⟨p11, h0⟩ := asrt_e h0
  refine rse rfl rfl rfl (yl_call rfl rfl (.cons rfl .nil) cal52 (pc_cv (clone52_c (id := 5) (l := a1.Ents) rfl p11) (.cons (.refl _) .nil))) ?_; rintro _ _ ⟨v12, rfl, rfl⟩
  refine tr tbk 1 (.mk ?_)
  refine sS ⟨31, 10, true, true, v6, [[int a1.Master.Entities, int a1.Master.Periods, lst 1 fI a1.Master.Weights, lst 1 (fL 1 fI) a1.Master.Methods, lst 1 (fL 1 fI) a1.Master.Costs, .sl 5 v12 0 a1.Ents.length, lst 8 GReceipt.av a1.Receipts, lst 9 GSale.av a1.Sales, lst 6 GTransit.av a1.Transits, int a1.Done]]⟩ sh26 ?_
  refine tr tbk 2 (.mk ?_)
  refine c_drawE [0, 1, 0, 0, 8, 0, 56, 120, 248, 504, 1023, 2047, 4095] (rl [(0, [1]), (1, [1]), (3, [1]), (4, [1]), (6, [5]), (7, [5]), (8, [5]), (10, [5]), (11, [5])] []) (rl [(9, [1]), (12, [])] [1, 5]) (rl [(9, false), (12, false)] true) [0, 1, 2, 3, 4, 5, 6, 7, 8, 9, 10, 11, 12] mixed (by kernel_rfl) ?_; intro K hK
  refine eF fo31_1 ?_
  refine eL sh26 ?_
  refine eM ?_
  refine eF fo31_1 ?_
  refine eL sh26 ?_
  refine eM ?_
  obtain ⟨x13, e13, h0⟩ := bind_e h0
  refine de_pure rfl rfl rfl rfl (fun H hH => yv_ixO rfl Tryz.underlying26 sh46 rfl rfl ((hH _ (by decide)).trans rfl) rfl rfl (Eq.symm rfl) (List.length_map _) e13) ?_
  refine eF fo46_2 (hr := ix_get' e13 (GEnt.av_eq _)) ?_
  refine eL sh43 (hr := ix_get' e13 (GEnt.av_eq _)) ?_
  obtain ⟨p14, h0⟩ := asrt_e h0
  refine de_eff rfl rfl rfl rfl (yl_call rfl rfl (.cons rfl .nil) cal96 (pc_cv (clone96_c (id := 6) (l := x13.Pools) rfl p14) (.cons (.refl _) .nil))) (by rintro _ _ ⟨v15, rfl, rfl⟩; exact ⟨rfl, trivial⟩) ?_; rintro _ _ ⟨v15, rfl, rfl⟩
  refine de_pure rfl rfl rfl rfl (fun H hH => yv_ixO rfl Tryz.underlying26 sh46 rfl rfl ((hH _ (by decide)).trans rfl) rfl rfl (Eq.symm rfl) (List.length_map _) e13) ?_
  refine eF fo46_2 (hr := ix_get' e13 (GEnt.av_eq _)) ?_
  refine de_eff0 rfl rfl rfl rfl (Yield.weak (yl_ob (ob' := (⟨46, 8, true, true, v12, (a1.Ents.map GEnt.av).set (Int.toNat a2) [int x13.Now, boo x13.Closed, .sl 6 v15 0 x13.Pools.length, lst 1 fI x13.Bal, lst 11 GRoll.av x13.Rolls, lst 1 fI x13.Prices, lst 1 fI x13.Down, lst 8 GEnt.av x13.Ahead]⟩ : AObj)) (yl_store rfl sh43 rfl rfl rfl rfl rfl (ix_get' e13 (GEnt.av_eq _)) rfl rfl rfl) (ob_eq rfl)) (fun _ h => h) (fun _ _ => trivial)) (by rintro _ _ ⟨rfl, rfl⟩; exact trivial) ?_; rintro _ _ ⟨rfl, rfl⟩
  refine de_nil (hK _ ?_)
  refine tc tbk 1 (.mk ?_)
  refine c_drawE [0, 1, 0, 7, 15, 31, 0, 64, 0, 448, 0, 2047, 4095] (rl [(0, [1]), (1, [1]), (3, [5]), (4, [5]), (5, [5]), (10, [2]), (11, [6])] []) (rl [(12, [])] [1, 2, 5, 6]) (rl [(12, false)] true) [0, 1, 2, 3, 4, 5, 6, 7, 8, 9, 10, 11, 12] mixed (by kernel_rfl) ?_; intro K hK
  refine eF fo31_1 ?_
  refine eL sh26 ?_
  refine eM ?_
  refine de_pure rfl rfl rfl rfl (fun H hH => yv_ixO rfl Tryz.underlying26 sh46 rfl rfl ((hH _ (by decide)).trans rfl) rfl rfl (Eq.symm rfl) len_ov e13) ?_
  refine eF fo46_2 (hr := set_get e13) ?_
  refine eL sh43 (hr := set_get e13) ?_
  refine eM ?_
  obtain ⟨x16, e16, h0⟩ := bnd_e h0
  refine eP (fun H hH => yv_mul rfl rfl rfl e16) ?_
  refine eM ?_
  obtain ⟨x17, e17, h0⟩ := bnd_e h0
  refine eP (fun H hH => yv_add rfl rfl rfl e17) ?_
  refine eL sh98 ?_
  obtain ⟨x18, e18, h0⟩ := bind_e h0
  refine de_pure rfl rfl rfl rfl (fun H hH => yv_ixO rfl Tryz.underlying43 sh98 rfl rfl ((hH _ (by decide)).trans rfl) rfl rfl (Eq.symm rfl) (List.length_map _) e18) ?_
  obtain ⟨x19, e19, h0⟩ := bnd_e h0
  have fx19 := ix_set e18 e19; have lx19 := len_setV e19 (rfl : x13.Pools.length = x13.Pools.length)
  refine de_eff0 rfl rfl rfl rfl (Yield.weak (yl_ob (ob' := (⟨98, 4, true, true, v15, x19.map GPool.av⟩ : AObj)) (yl_store rfl sh98 rfl rfl rfl rfl rfl (ix_get e18) rfl rfl rfl) (ob_eq (map_setV e19))) (fun _ h => h) (fun _ _ => trivial)) (by rintro _ _ ⟨rfl, rfl⟩; exact trivial) ?_; rintro _ _ ⟨rfl, rfl⟩
  refine de_nil (hK _ ?_)
  refine tc tbk 1 (.mk ?_)
  refine c_draw [0, 1, 0, 4, 0, 16, 0, 0, 0, 451, 975, 2047] (fun i k => bif Nat.beq i 0 then (Nat.beq k 4) else bif Nat.beq i 1 then (Nat.beq k 4) else bif Nat.beq i 2 then (Nat.beq k 4) else bif Nat.beq i 3 then (Nat.beq k 4) else bif Nat.beq i 4 then (Nat.beq k 4) else bif Nat.beq i 5 then (Nat.beq k 4) else bif Nat.beq i 9 then (Nat.beq k 7) else bif Nat.beq i 10 then (Nat.beq k 8) else bif Nat.beq i 11 then (Nat.beq k 9) else false) (fun i => bif Nat.beq i 6 then (some 7) else bif Nat.beq i 7 then (some 8) else bif Nat.beq i 8 then (some 9) else bif Nat.beq i 9 then (some 7) else bif Nat.beq i 10 then (some 8) else bif Nat.beq i 11 then (some 9) else none) mixed (by kernel_rfl) ?_; intro C K hK
  refine dg_pure rfl (fun H hH => yv_to (y := .pt 4 v10 0 0) (yv_indexAddrA rfl Tryz.underlying151 sh57 rfl rfl ((hH _ rfl).trans rfl) rfl rfl (by decide)) rfl) ?_
  refine dg_pure rfl (fun H hH => yv_load rfl sh57 rfl (.pt ((hH _ rfl).trans rfl) rfl rfl) rfl) ?_
  refine dg_pure rfl (fun H hH => yv_to (y := .pt 4 v10 0 3) (yv_indexAddrA rfl Tryz.underlying151 sh57 rfl rfl ((hH _ rfl).trans rfl) rfl rfl (by decide)) rfl) ?_
  refine dg_pure rfl (fun H hH => yv_load rfl sh57 rfl (.pt ((hH _ rfl).trans rfl) rfl rfl) rfl) ?_
  refine dg_pure rfl (fun H hH => yv_to (y := .pt 4 v10 0 6) (yv_indexAddrA rfl Tryz.underlying151 sh57 rfl rfl ((hH _ rfl).trans rfl) rfl rfl (by decide)) rfl) ?_
  refine dg_pure rfl (fun H hH => yv_load rfl sh57 rfl (.pt ((hH _ rfl).trans rfl) rfl rfl) rfl) ?_
  refine dg_eff rfl rfl (fun H hH => yl_alloc1 7 rfl z57 rfl) ?_; generalize C + 6 = v20
  refine dg_eff rfl rfl (fun H hH => yl_alloc1 8 rfl z57 rfl) ?_; generalize C + 7 = v21
  refine dg_eff rfl rfl (fun H hH => yl_alloc1 9 rfl z57 rfl) ?_; generalize C + 8 = v22
  refine dg_store rfl rfl rfl (fun H hH => yl_ob (ob' := (⟨57, 3, true, true, v20, [[int x9.2.a0.Qty, int x9.2.a0.Value, int x9.2.a0.Profit]]⟩ : AObj)) (yl_store rfl sh57 rfl rfl ((hH _ rfl).trans rfl) rfl rfl rfl rfl rfl rfl) rfl) ?_
  refine dg_store rfl rfl rfl (fun H hH => yl_ob (ob' := (⟨57, 3, true, true, v21, [[int x9.2.a1.Qty, int x9.2.a1.Value, int x9.2.a1.Profit]]⟩ : AObj)) (yl_store rfl sh57 rfl rfl ((hH _ rfl).trans rfl) rfl rfl rfl rfl rfl rfl) rfl) ?_
  refine dg_store rfl rfl rfl (fun H hH => yl_ob (ob' := (⟨57, 3, true, true, v22, [[int x9.2.a2.Qty, int x9.2.a2.Value, int x9.2.a2.Profit]]⟩ : AObj)) (yl_store rfl sh57 rfl rfl ((hH _ rfl).trans rfl) rfl rfl rfl rfl rfl rfl) rfl) ?_
  refine dg_nil (hK _ ?_)
  refine tc tbk 15 (.mk ?_)
  refine ni tbk h0 fun x23 h0 => ?_
  refine tr tbk 2 (.mk ?_)
  refine ni tbk h0 fun x24 h0 => ?_
  refine tr tbk 2 (.mk ?_)
  refine ni tbk h0 fun x25 h0 => ?_
  refine tr tbk 1 (.mk ?_)
  refine sY (yv_to (y := lst 2 GLine.av ([(⟨5, x9.2.a0.Value⟩ : GLine), (⟨7, x9.2.a1.Value⟩ : GLine), (⟨8, x9.2.a2.Value⟩ : GLine), (⟨0, x25⟩ : GLine)] : List GLine)) (yv_buildSlice (ps := [(0, _), (1, _), (2, _), (3, _)]) (rows := [[int 5, int x9.2.a0.Value], [int 7, int x9.2.a1.Value], [int 8, int x9.2.a2.Value], [int 0, int x25]]) rfl Tryz.underlying126 bz125 (.cons rfl (.cons rfl (.cons rfl (.cons rfl .nil)))) (by kernel_rfl) rfl rfl rfl) rfl) ?_
  obtain ⟨x26, e26, h0⟩ := bind_e h0
  refine rse rfl rfl rfl (Yield.frz 5 rfl (Yield.frz 6 rfl (Yield.weak (yv_callP rfl rfl (.cons rfl (.cons rfl (.cons rfl .nil))) cal76 (.cons (CvL.agg (.cons (.refl _) (.cons (.refl _) (.cons (.refl _) (.cons (.refl _) (.cons (.refl _) (.cons (cv_ov rfl rfl rfl rfl rfl (Eq.symm rfl) e13 (cvl_to (.cons (.refl _) (.cons (.refl _) (.cons (cv_lst rfl rfl rfl rfl rfl (Eq.symm lx19)) (.cons (.refl _) (.cons (.refl _) (.cons (.refl _) (.cons (.refl _) (.cons (.refl _) .nil)))))))) (GEnt.av_eq _))) (.cons (.refl _) (.cons (.refl _) (.cons (.refl _) (.cons (.refl _) .nil))))))))))) (.cons (.refl _) (.cons (.refl _) .nil))) (d_stock_Post_c e26)) (fun _ h => h) (fun _ h => h.elim)))) ?_; rintro _ _ ⟨rfl, rfl⟩
  refine tr tbk 3 (.mk ?_)
  refine sS ⟨31, 10, true, true, v6, [(GState.av x26.1)]⟩ sh31 ?_
  refine tr tbk 6 (.mk ?_)
  refine nb tbk h0 fun x27 h0 => ?_
  refine tr tbk 1 (.mk ?_)
  replace h0 := asrt_e h0
  obtain ⟨rfl, h0⟩ := h0
  refine tc tbk 14 (.mk ?_)
  refine sY (yv_build (cs := [int 0, int 0, int 0, int 0, int 0, int x9.2.a0.Value, int 0, int 0, int x9.2.a1.Value, int x9.2.a2.Value, int 0]) (ps := [(5, _), (8, _), (9, _)]) rfl pl55 z55 rfl (.cons rfl (.cons rfl (.cons rfl .nil))) (by kernel_rfl)) ?_
  obtain ⟨x28, e28, h0⟩ := bind_e h0
  refine sC cal78 (d_stock_Turn_c e28) ?_
  refine tr tbk 3 (.mk ?_)
  refine sS ⟨31, 10, true, true, v6, [(GState.av x28.1)]⟩ sh31 ?_
  refine tr tbk 5 (.mk ?_)
  refine nb tbk h0 fun x29 h0 => ?_
  refine tr tbk 1 (.mk ?_)
  replace h0 := asrt_e h0
  obtain ⟨rfl, h0⟩ := h0
  refine tc tbk 9 (.mk ?_)
  obtain ⟨x30, e30, h0⟩ := bind_e h0
  refine sC cal97 (d_close_spread_c e30) ?_
  refine tr tbk 2 (.mk ?_)
  refine sS ⟨31, 10, true, true, v8, [(GState.av x30.1)]⟩ sh31 ?_
  refine tr tbk 2 (.mk ?_)
  obtain rfl := nxt_e h0
  refine wR hret (rC sh31 (rT .nil)) ?_
  exact .refl _
def d_nrv_Mark_L0 (x9 : GEnt) (x13 : Int) : Nat → Int → Option (Unit)
  | 0, _ => none
  | n + 1, y1_1 =>
    bnd (decide (y1_1 < x13)) fun x15 =>
    cond x15 ((ix x9.Prices y1_1).bind fun x16 =>
    bnd (decide (x16 ≥ 0)) fun x17 =>
    asrt (x17 = false) <|
    bnd (w64 (y1_1 + 1)) fun x18 =>
    d_nrv_Mark_L0 x9 x13 n (x18 : Int)) (some ())
def d_nrv_Mark (n : Nat) (a1 : GState) (a2 : Int) : Option (GState × Int) :=
(show Option (Bool) from
bnd (decide (a2 < 0)) fun x7 =>
cond x7 (some (true : Bool)) (bnd (decide (a2 ≥ (a1.Ents.length : Int))) fun x8 =>
some (x8 : Bool))).bind <| fun y0_1 =>
asrt (y0_1 = false) <|
(ix a1.Ents a2).bind fun x9 =>
asrt (x9.Down.length ≤ 68719476736) <|
bnd (if (x9.Prices.length : Int) < (x9.Down.length : Int) then (x9.Prices.length : Int) else (x9.Down.length : Int)) fun x13 =>
(show Option (Unit) from
d_nrv_Mark_L0 x9 x13 n (0 : Int)).bind <| fun _ =>
(d_stock_Post n a1 a2 []).bind fun x19 =>
bnd (decide (x19.2 ≠ 0)) fun x21 =>
asrt (x21 = false) <|
asrt (x19.1.Ents.length ≤ 68719476736) <|
(ix x19.1.Ents a2).bind fun x24 =>
some (((⟨x19.1.Master, (x19.1.Ents.set (Int.toNat a2) (⟨x24.Now, x24.Closed, x24.Pools, x24.Bal, x24.Rolls, x24.Prices, x9.Down, x24.Ahead⟩ : GEnt)), x19.1.Receipts, x19.1.Sales, x19.1.Transits, x19.1.Done⟩ : GState) : GState), (0 : Int))
theorem d_nrv_Mark_c {n : Nat} {a1 : GState} {a2 : Int} {r : GState × Int} (h0 : d_nrv_Mark n a1 a2 = some r) : PP Tryz.prog 51 [.agg (GState.av a1), int a2] (fun y => y = .tup [.agg (GState.av r.1), int r.2]) := by
  unfold d_nrv_Mark at h0
  refine pp_of_pc (R0 := fun y H => Cv (frzH H) y (.tup [.agg (GState.av r.1), int r.2])) ?_ (fun y H hc => ⟨_, rfl, .tup (pvl2 ((fun (a : GState) => PV.agg (GState.pvc a)) (r.1)) (pvI (r.2))), hc⟩)
  refine pcw (c := _) Tryz.func51 rfl rfl ?_; intro Q hret hnorm
  refine tc tbk 2 (.mk ?_)
  refine sB 1 fun v3 => ?_
  refine sB 2 fun v4 => ?_
  refine sA 3 z31 fun v5 => ?_
  refine tr tbk 4 (.mk ?_)
  refine jn h0 [2, 3, 4, 5] [1, 2, 3] (fun (a : Bool) (k : Unit) => [(23, boo a)]) (fun a k => []) ⟨fun j6 h1 => ?_, ?_⟩
  refine tc tbk 2 (.mk ?_)
  refine nb tbk h1 fun x7 h1 => ?_
  refine tr tbk 1 (.mk ?_)
  cases x7
  replace h1 := cf h1
  refine tr tbk 3 (.mk ?_)
  refine sY (yv_len_sl rfl Tryz.underlying26 rfl (lst_len _)) ?_
  refine nb tbk h1 fun x8 h1 => ?_
  refine tr tbk 2 (.mk ?_)
  exact lf h1 () leA
  replace h1 := ct h1
  refine tr tbk 7 (.mk ?_)
  exact lf h1 () leA
  rintro y0_1 _ h0
  replace h0 := asrt_e h0
  obtain ⟨rfl, h0⟩ := h0
  refine tc tbk 7 (.mk ?_)
  obtain ⟨x9, e9, h0⟩ := bind_e h0
  refine sY (yv_to (y := .pp [int x9.Now, boo x9.Closed, lst 4 GPool.av x9.Pools, lst 1 fI x9.Bal, lst 11 GRoll.av x9.Rolls, lst 1 fI x9.Prices, lst 1 fI x9.Down, lst 8 GEnt.av x9.Ahead]) (yv_ixT rfl Tryz.underlying26 sh46 rfl rfl e9) (congrArg AV.pp (GEnt.av_eq x9))) ?_
  refine tr tbk 1 (.mk ?_)
  refine sA 4 z46 fun v10 => ?_
  refine sS ⟨46, 8, true, true, v10, [[int x9.Now, boo x9.Closed, lst 4 GPool.av x9.Pools, lst 1 fI x9.Bal, lst 11 GRoll.av x9.Rolls, lst 1 fI x9.Prices, lst 1 fI x9.Down, lst 8 GEnt.av x9.Ahead]]⟩ sh46 ?_
  refine tr tbk 5 (.mk ?_)
  obtain ⟨p11, h0⟩ := asrt_e h0
  refine rse rfl rfl rfl (yl_call rfl rfl (.cons rfl .nil) cal93 (pc_cv (clone93_c (id := 5) (l := x9.Down) rfl p11) (.cons (.refl _) .nil))) ?_; rintro _ _ ⟨v12, rfl, rfl⟩
  refine tr tbk 15 (.mk ?_)
  refine sY (yv_len_sl rfl Tryz.underlying22 rfl (.sl rfl rfl)) ?_
  refine tr tbk 2 (.mk ?_)
  refine sY (yv_len_sl rfl Tryz.underlying22 rfl (lst_len _)) ?_
  obtain ⟨x13, e13, h0⟩ := bnd_e h0
  refine sY (yv_min rfl rfl rfl e13) ?_
  refine tr tbk 2 (.mk ?_)
  refine jn h0 [2, 3, 4, 5, 7, 8] [1, 2, 3, 5] (fun (a : Unit) (k : Unit) => []) (fun a k => []) ⟨fun j14 h1 => ?_, ?_⟩
  refine tc tbk 1 (.mk ?_)
  refine lp (fun n (a : Int) => d_nrv_Mark_L0 x9 x13 n a) (0 : Int) () h1 [2, 3, 4, 5, 6, 7, 8, 9, 39] [1, 2, 3, 4, 5] (fun (a : Int) (k : Unit) => [(40, int a)]) (fun a k => []) (fun _ => rfl) ⟨leA, ?_⟩
  rintro n y1_1 _ hm h1
  replace h1 : d_nrv_Mark_L0 x9 x13 (n + 1) y1_1 = some _ := h1
  rw [d_nrv_Mark_L0] at h1
  refine tc tbk 2 (.mk ?_)
  refine nb tbk h1 fun x15 h1 => ?_
  refine tr tbk 2 (.mk ?_)
  cases x15
  replace h1 := cf h1
  refine tc tbk 2 (.mk ?_)
  exact lf h1 () leA
  replace h1 := ct h1
  refine tc tbk 14 (.mk ?_)
  obtain ⟨x16, e16, h1⟩ := bind_e h1
  refine sY (yv_ixT rfl Tryz.underlying22 sh3 rfl rfl e16) ?_
  refine tr tbk 1 (.mk ?_)
  refine nb tbk h1 fun x17 h1 => ?_
  refine tr tbk 1 (.mk ?_)
  replace h1 := asrt_e h1
  obtain ⟨rfl, h1⟩ := h1
  refine tc tbk 4 (.mk ?_)
  refine ni tbk h1 fun x18 h1 => ?_
  refine tr tbk 2 (.mk ?_)
  exact bk x18 () h1 leA
  rintro _ _ h0
  refine tc tbk 5 (.mk ?_)
  obtain ⟨x19, e19, h0⟩ := bind_e h0
  refine sY (yv_callP rfl rfl (.cons rfl (.cons rfl (.cons rfl .nil))) cal76 (.cons (.refl _) (.cons (.refl _) (.cons (.nil _) .nil))) (d_stock_Post_c e19)) ?_
  refine tr tbk 3 (.mk ?_)
  refine sA 6 z31 fun v20 => ?_
  refine sS ⟨31, 10, true, true, v20, [(GState.av x19.1)]⟩ sh31 ?_
  refine tr tbk 6 (.mk ?_)
  refine nb tbk h0 fun x21 h0 => ?_
  refine tr tbk 1 (.mk ?_)
  replace h0 := asrt_e h0
  obtain ⟨rfl, h0⟩ := h0
  refine tc tbk 6 (.mk ?_)
  obtain ⟨p22, h0⟩ := asrt_e h0
  refine rse rfl rfl rfl (yl_call rfl rfl (.cons rfl .nil) cal52 (pc_cv (clone52_c (id := 7) (l := x19.1.Ents) rfl p22) (.cons (.refl _) .nil))) ?_; rintro _ _ ⟨v23, rfl, rfl⟩
  refine tr tbk 1 (.mk ?_)
  refine sS ⟨31, 10, true, true, v20, [[int x19.1.Master.Entities, int x19.1.Master.Periods, lst 1 fI x19.1.Master.Weights, lst 1 (fL 1 fI) x19.1.Master.Methods, lst 1 (fL 1 fI) x19.1.Master.Costs, .sl 7 v23 0 x19.1.Ents.length, lst 8 GReceipt.av x19.1.Receipts, lst 9 GSale.av x19.1.Sales, lst 6 GTransit.av x19.1.Transits, int x19.1.Done]]⟩ sh26 ?_
  refine tr tbk 7 (.mk ?_)
  obtain ⟨x24, e24, h0⟩ := bind_e h0
  refine sY (yv_ixO rfl Tryz.underlying26 sh46 rfl rfl rfl rfl rfl (Eq.symm rfl) (List.length_map _) e24) ?_
  refine sY (yv_fieldAddr rfl fo46_6 rfl (.pt rfl rfl (ix_get' e24 (GEnt.av_eq _))) (.pt _ _ _ _ _)) ?_
  refine rsstore rfl rfl (yl_ob (ob' := (⟨46, 8, true, true, v23, (x19.1.Ents.map GEnt.av).set (Int.toNat a2) [int x24.Now, boo x24.Closed, lst 4 GPool.av x24.Pools, lst 1 fI x24.Bal, lst 11 GRoll.av x24.Rolls, lst 1 fI x24.Prices, .sl 5 v12 0 x9.Down.length, lst 8 GEnt.av x24.Ahead]⟩ : AObj)) (yl_store rfl sh22 rfl rfl rfl rfl rfl (ix_get' e24 (GEnt.av_eq _)) rfl rfl rfl) (ob_eq rfl)) ?_
  refine tr tbk 4 (.mk ?_)
  refine sS ⟨31, 10, true, true, v5, [[int x19.1.Master.Entities, int x19.1.Master.Periods, lst 1 fI x19.1.Master.Weights, lst 1 (fL 1 fI) x19.1.Master.Methods, lst 1 (fL 1 fI) x19.1.Master.Costs, .sl 7 v23 0 x19.1.Ents.length, lst 8 GReceipt.av x19.1.Receipts, lst 9 GSale.av x19.1.Sales, lst 6 GTransit.av x19.1.Transits, int x19.1.Done]]⟩ sh31 ?_
  refine tr tbk 2 (.mk ?_)
  obtain rfl := nxt_e h0
  refine wR hret (rC sh31 (rT .nil)) ?_
  exact CvL.tup (.cons (CvL.agg (.cons (.refl _) (.cons (.refl _) (.cons (.refl _) (.cons (.refl _) (.cons (.refl _) (.cons (cv_ov rfl rfl rfl rfl rfl (Eq.symm rfl) e24 (cvl_to (.cons (.refl _) (.cons (.refl _) (.cons (.refl _) (.cons (.refl _) (.cons (.refl _) (.cons (.refl _) (.cons (cv_lst rfl rfl rfl rfl rfl (Eq.symm rfl)) (.cons (.refl _) .nil)))))))) (GEnt.av_eq _))) (.cons (.refl _) (.cons (.refl _) (.cons (.refl _) (.cons (.refl _) .nil))))))))))) (.cons (.refl _) .nil))
def d_close_Close_L1 (a2 : Int) (y0_1 : Int) (x28 : List GPool) : Nat → Int → GState → Option (GState)
  | 0, _, _ => none
  | n + 1, y2_1, y2_2 =>
    bnd (decide (y2_1 < (x28.length : Int))) fun x30 =>
    cond x30 ((show Option (GState) from
    (ix x28 y2_1).bind fun x32 =>
    bnd (decide ((x32.Pend : A3_Int) = ((⟨0, 0, 0⟩ : A3_Int) : A3_Int))) fun x34 =>
    cond x34 (some (y2_2 : GState)) ((d_close_settle n y2_2 a2 y0_1 y2_1 x32).bind fun x35 =>
    bnd (decide (x35.2 ≠ 0)) fun x36 =>
    asrt (x36 = false) <|
    some (x35.1 : GState))).bind <| fun y3_1 =>
    bnd (w64 (y2_1 + 1)) fun x37 =>
    d_close_Close_L1 a2 y0_1 x28 n (x37 : Int) (y3_1 : GState)) (some (y2_2 : GState))
def d_close_Close_L0 (a1 : GState) (a2 : Int) (x10 : List Int) : Nat → Int → GState → Option (GState)
  | 0, _, _ => none
  | n + 1, y0_1, y0_2 =>
    bnd (decide (y0_1 < (x10.length : Int))) fun x12 =>
    cond x12 ((show Option (GState) from
    (ix x10 y0_1).bind fun x14 =>
    (show Option (Bool) from
    bnd (decide (x14 ≠ 3)) fun x16 =>
    cond x16 (some (true : Bool)) (bnd (w64 (y0_1 + 1)) fun x17 =>
    bnd (w64 (x17 * 2)) fun x18 =>
    (ix a1.Ents a2).bind fun x19 =>
    bnd (decide (x18 > (x19.Pools.length : Int))) fun x20 =>
    some (x20 : Bool))).bind <| fun y1_1 =>
    cond y1_1 (some (y0_2 : GState)) ((ix a1.Ents a2).bind fun x21 =>
    bnd (w64 (y0_1 * 2)) fun x22 =>
    bnd (w64 (y0_1 + 1)) fun x23 =>
    bnd (w64 (x23 * 2)) fun x24 =>
    bnd (w64 (y0_1 + 1)) fun x25 =>
    bnd (w64 (x25 * 2)) fun x26 =>
    asrt ((0 : Int) ≤ x22 ∧ x22 ≤ x24 ∧ x24 ≤ (x21.Pools.length : Int) ∧ x26 = x24) <|
    bnd ((x21.Pools.take x24.toNat).drop x22.toNat) fun x28 =>
    (show Option (GState) from
    d_close_Close_L1 a2 y0_1 x28 n (0 : Int) (y0_2 : GState)).bind <| fun y4_1 =>
    some (y4_1 : GState))).bind <| fun y5_1 =>
    bnd (w64 (y0_1 + 1)) fun x38 =>
    d_close_Close_L0 a1 a2 x10 n (x38 : Int) (y5_1 : GState)) (some (y0_2 : GState))
def d_close_Close (n : Nat) (a1 : GState) (a2 : Int) : Option (GState × Int) :=
(d_close_is a1 a2).bind fun x5 =>
bnd (!x5) fun x6 =>
asrt (x6 = false) <|
(ix a1.Ents a2).bind fun x7 =>
bnd x7.Closed fun x8 =>
cond x8 (some ((a1 : GState), (7 : Int))) ((ix a1.Master.Methods a2).bind fun x10 =>
(show Option (GState) from
d_close_Close_L0 a1 a2 x10 n (0 : Int) (a1 : GState)).bind <| fun y6_1 =>
(d_nrv_Mark n y6_1 a2).bind fun x39 =>
bnd (decide (x39.2 ≠ 0)) fun x40 =>
asrt (x40 = false) <|
asrt (x39.1.Ents.length ≤ 68719476736) <|
(ix a1.Ents a2).bind fun x43 =>
(ix x39.1.Ents a2).bind fun x44 =>
bnd (x39.1.Ents.set (Int.toNat a2) ((⟨x44.Now, x44.Closed, x44.Pools, x44.Bal, x44.Rolls, x44.Prices, x44.Down, ([x43] : List GEnt)⟩ : GEnt) : GEnt)) fun x45 =>
bnd (x45.set (Int.toNat a2) ((⟨x44.Now, true, x44.Pools, x44.Bal, x44.Rolls, x44.Prices, x44.Down, ([x43] : List GEnt)⟩ : GEnt) : GEnt)) fun x46 =>
some (((⟨x39.1.Master, x46, x39.1.Receipts, x39.1.Sales, x39.1.Transits, x39.1.Done⟩ : GState) : GState), (0 : Int)))
theorem d_close_Close_c {n : Nat} {a1 : GState} {a2 : Int} {r : GState × Int} (h0 : d_close_Close n a1 a2 = some r) : PP Tryz.prog 23 [.agg (GState.av a1), int a2] (fun y => y = .tup [.agg (GState.av r.1), int r.2]) := by
  unfold d_close_Close at h0
  refine pp_of_pc (R0 := fun y H => Cv (frzH H) y (.tup [.agg (GState.av r.1), int r.2])) ?_ (fun y H hc => ⟨_, rfl, .tup (pvl2 ((fun (a : GState) => PV.agg (GState.pvc a)) (r.1)) (pvI (r.2))), hc⟩)
  refine pcw (c := _) Tryz.func23 rfl rfl ?_; intro Q hret hnorm
  refine tc tbk 2 (.mk ?_)
  refine sB 1 fun v3 => ?_
  refine sA 2 z31 fun v4 => ?_
  refine tr tbk 8 (.mk ?_)
  obtain ⟨x5, e5, h0⟩ := bind_e h0
  refine sC cal49 (d_close_is_c e5) ?_
  refine nb tbk h0 fun x6 h0 => ?_
  refine tr tbk 2 (.mk ?_)
  replace h0 := asrt_e h0
  obtain ⟨rfl, h0⟩ := h0
  refine tc tbk 6 (.mk ?_)
  obtain ⟨x7, e7, h0⟩ := bind_e h0
  refine sY (yv_to (y := .pp [int x7.Now, boo x7.Closed, lst 4 GPool.av x7.Pools, lst 1 fI x7.Bal, lst 11 GRoll.av x7.Rolls, lst 1 fI x7.Prices, lst 1 fI x7.Down, lst 8 GEnt.av x7.Ahead]) (yv_ixT rfl Tryz.underlying26 sh46 rfl rfl e7) (congrArg AV.pp (GEnt.av_eq x7))) ?_
  refine tr tbk 4 (.mk ?_)
  obtain ⟨x8, e8, h0⟩ := bnd_e h0
  refine c_as (t := 20) (boo x8) rfl (congrArg boo e8) ?_
  refine c_as (t := 26) (boo x8) rfl (congrArg boo e8) ?_
  cases x8
  replace h0 := cf h0
  refine tc tbk 6 (.mk ?_)
  refine sA 3 z31 fun v9 => ?_
  refine sS ⟨31, 10, true, true, v9, [(GState.av a1)]⟩ sh31 ?_
  refine tr tbk 8 (.mk ?_)
  obtain ⟨x10, e10, h0⟩ := bind_e h0
  refine sY (yv_ixT rfl Tryz.underlying23 sh22 rfl rfl e10) ?_
  refine tr tbk 1 (.mk ?_)
  refine sY (yv_len_sl rfl Tryz.underlying22 rfl (lst_len _)) ?_
  refine tr tbk 2 (.mk ?_)
  refine jn h0 [1, 2, 4, 5, 6] [1, 2] (fun (a : GState) (k : Unit) => []) (fun a k => [(3, ⟨31, 10, true, true, v9, [(GState.av a)]⟩)]) ⟨fun j11 h1 => ?_, ?_⟩
  refine tc tbk 1 (.mk ?_)
  refine lp (fun n (a : Int × GState) => d_close_Close_L0 a1 a2 x10 n a.1 a.2) ((0 : Int), (a1 : GState)) () h1 [1, 2, 4, 5, 6, 34, 35] [1, 2] (fun (a : Int × GState) (k : Unit) => [(36, int a.1)]) (fun a k => [(3, ⟨31, 10, true, true, v9, [(GState.av a.2)]⟩)]) (fun _ => rfl) ⟨leA, ?_⟩
  rintro n ⟨y0_1, y0_2⟩ _ hm h1
  replace h1 : d_close_Close_L0 a1 a2 x10 (n + 1) y0_1 y0_2 = some _ := h1
  rw [d_close_Close_L0] at h1
  refine tc tbk 2 (.mk ?_)
  refine nb tbk h1 fun x12 h1 => ?_
  refine tr tbk 2 (.mk ?_)
  cases x12
  replace h1 := cf h1
  refine tc tbk 2 (.mk ?_)
  exact lf h1 () leA
  replace h1 := ct h1
  refine tc tbk 3 (.mk ?_)
  refine jn h1 [1, 2, 4, 5, 6, 34, 35, 36] [1, 2] (fun (a : GState) (k : Unit) => []) (fun a k => [(3, ⟨31, 10, true, true, v9, [(GState.av a)]⟩)]) ⟨fun j13 h2 => ?_, ?_⟩
  refine tc tbk 4 (.mk ?_)
  obtain ⟨x14, e14, h2⟩ := bind_e h2
  refine sY (yv_ixT rfl Tryz.underlying22 sh3 rfl rfl e14) ?_
  refine tr tbk 6 (.mk ?_)
  refine jn h2 [1, 2, 4, 5, 6, 7, 34, 35, 36] [1, 2, 3] (fun (a : Bool) (k : Unit) => [(55, boo a)]) (fun a k => []) ⟨fun j15 h3 => ?_, ?_⟩
  refine tc tbk 2 (.mk ?_)
  refine nb tbk h3 fun x16 h3 => ?_
  refine tr tbk 1 (.mk ?_)
  cases x16
  replace h3 := cf h3
  refine tr tbk 1 (.mk ?_)
  refine ni tbk h3 fun x17 h3 => ?_
  refine ni tbk h3 fun x18 h3 => ?_
  refine tr tbk 3 (.mk ?_)
  obtain ⟨x19, e19, h3⟩ := bind_e h3
  refine sY (yv_to (y := .pp [int x19.Now, boo x19.Closed, lst 4 GPool.av x19.Pools, lst 1 fI x19.Bal, lst 11 GRoll.av x19.Rolls, lst 1 fI x19.Prices, lst 1 fI x19.Down, lst 8 GEnt.av x19.Ahead]) (yv_ixT rfl Tryz.underlying26 sh46 rfl rfl e19) (congrArg AV.pp (GEnt.av_eq x19))) ?_
  refine tr tbk 2 (.mk ?_)
  refine sY (yv_len_sl rfl Tryz.underlying43 rfl (lst_len _)) ?_
  refine nb tbk h3 fun x20 h3 => ?_
  refine tr tbk 2 (.mk ?_)
  exact lf h3 () leA
  replace h3 := ct h3
  refine tr tbk 13 (.mk ?_)
  exact lf h3 () leA
  rintro y1_1 _ h2
  cases y1_1
  replace h2 := cf h2
  refine tc tbk 7 (.mk ?_)
  obtain ⟨x21, e21, h2⟩ := bind_e h2
  refine sY (yv_to (y := .pp [int x21.Now, boo x21.Closed, lst 4 GPool.av x21.Pools, lst 1 fI x21.Bal, lst 11 GRoll.av x21.Rolls, lst 1 fI x21.Prices, lst 1 fI x21.Down, lst 8 GEnt.av x21.Ahead]) (yv_ixT rfl Tryz.underlying26 sh46 rfl rfl e21) (congrArg AV.pp (GEnt.av_eq x21))) ?_
  refine tr tbk 3 (.mk ?_)
  refine ni tbk h2 fun x22 h2 => ?_
  refine tr tbk 1 (.mk ?_)
  refine ni tbk h2 fun x23 h2 => ?_
  refine ni tbk h2 fun x24 h2 => ?_
  refine tr tbk 1 (.mk ?_)
  refine ni tbk h2 fun x25 h2 => ?_
  refine ni tbk h2 fun x26 h2 => ?_
  obtain ⟨p27, h2⟩ := asrt_e h2
  obtain ⟨x28, e28, h2⟩ := bnd_e h2
  refine sY (yv_slT3 (i := x22.toNat) (j := x24.toNat) rfl Tryz.underlying43 sh98 rfl (.yes rfl (by omega)) (.yes rfl (by omega)) (.yes rfl (by omega)) (by omega) (by omega) e28) ?_
  refine tr tbk 5 (.mk ?_)
  refine sY (yv_len_sl rfl Tryz.underlying43 rfl (lst_len _)) ?_
  refine tr tbk 2 (.mk ?_)
  refine jn h2 [1, 2, 4, 5, 6, 34, 35, 36] [1, 2] (fun (a : GState) (k : Unit) => []) (fun a k => [(3, ⟨31, 10, true, true, v9, [(GState.av a)]⟩)]) ⟨fun j29 h3 => ?_, ?_⟩
  refine tc tbk 1 (.mk ?_)
  refine lp (fun n (a : Int × GState) => d_close_Close_L1 a2 y0_1 x28 n a.1 a.2) ((0 : Int), (y0_2 : GState)) () h3 [1, 2, 4, 5, 6, 7, 34, 35, 36, 71, 72] [1, 2] (fun (a : Int × GState) (k : Unit) => [(73, int a.1)]) (fun a k => [(3, ⟨31, 10, true, true, v9, [(GState.av a.2)]⟩)]) (fun _ => rfl) ⟨leA, ?_⟩
  rintro n ⟨y2_1, y2_2⟩ _ hm h3
  replace h3 : d_close_Close_L1 a2 y0_1 x28 (n + 1) y2_1 y2_2 = some _ := h3
  rw [d_close_Close_L1] at h3
  refine tc tbk 2 (.mk ?_)
  refine nb tbk h3 fun x30 h3 => ?_
  refine tr tbk 2 (.mk ?_)
  cases x30
  replace h3 := cf h3
  refine tc tbk 2 (.mk ?_)
  exact lf h3 () leA
  replace h3 := ct h3
  refine tc tbk 3 (.mk ?_)
  refine jn h3 [1, 2, 4, 5, 6, 7, 34, 35, 36, 71, 72, 73] [1, 2] (fun (a : GState) (k : Unit) => []) (fun a k => [(3, ⟨31, 10, true, true, v9, [(GState.av a)]⟩)]) ⟨fun j31 h4 => ?_, ?_⟩
  refine tc tbk 4 (.mk ?_)
  obtain ⟨x32, e32, h4⟩ := bind_e h4
  refine sY (yv_ixT rfl Tryz.underlying43 sh98 rfl rfl e32) ?_
  refine tr tbk 1 (.mk ?_)
  refine sA 4 z98 fun v33 => ?_
  refine tr tbk 1 (.mk ?_)
  refine sS ⟨98, 4, true, true, v33, [[lst 3 GLayer.av x32.Layers, int x32.Pend.a0, int x32.Pend.a1, int x32.Pend.a2]]⟩ sh98 ?_
  refine tr tbk 6 (.mk ?_)
  refine sY (yv_buildA (cs := [int 0, int 0, int 0]) (ps := []) rfl Tryz.underlying96 sh3 z96 rfl .nil (by kernel_rfl)) ?_
  obtain ⟨x34, e34, h4⟩ := bnd_e h4
  refine sY (yv_areql (r' := x34) rfl Tryz.underlying96 sz3 c3 (by decide) rfl rfl (.cons (.int Tryz.underlying3) sh3 (.cons (.int Tryz.underlying3) sh3 (.cons (.int Tryz.underlying3) sh3 (.nil _)))) ((A3_Int.eqv (x32.Pend : A3_Int) ((⟨0, 0, 0⟩ : A3_Int) : A3_Int)).trans e34)) ?_
  refine tr tbk 1 (.mk ?_)
  cases x34
  replace h4 := cf h4
  refine tc tbk 13 (.mk ?_)
  obtain ⟨x35, e35, h4⟩ := bind_e h4
  refine sC cal50 (d_close_settle_c e35) ?_
  refine tr tbk 3 (.mk ?_)
  refine sS ⟨31, 10, true, true, v9, [(GState.av x35.1)]⟩ sh31 ?_
  refine tr tbk 5 (.mk ?_)
  refine nb tbk h4 fun x36 h4 => ?_
  refine tr tbk 1 (.mk ?_)
  replace h4 := asrt_e h4
  obtain ⟨rfl, h4⟩ := h4
  refine tc tbk 3 (.mk ?_)
  exact lf h4 () leA
  replace h4 := ct h4
  refine tc tbk 2 (.mk ?_)
  exact lf h4 () leA
  rintro y3_1 _ h3
  refine tc tbk 1 (.mk ?_)
  refine ni tbk h3 fun x37 h3 => ?_
  refine tr tbk 2 (.mk ?_)
  exact bk (x37, y3_1) () h3 leA
  rintro y4_1 _ h2
  refine tc tbk 1 (.mk ?_)
  exact lf h2 () leA
  replace h2 := ct h2
  refine tc tbk 2 (.mk ?_)
  exact lf h2 () leA
  rintro y5_1 _ h1
  refine tc tbk 1 (.mk ?_)
  refine ni tbk h1 fun x38 h1 => ?_
  refine tr tbk 2 (.mk ?_)
  exact bk (x38, y5_1) () h1 leA
  rintro y6_1 _ h0
  refine tc tbk 4 (.mk ?_)
  obtain ⟨x39, e39, h0⟩ := bind_e h0
  refine sC cal51 (d_nrv_Mark_c e39) ?_
  refine tr tbk 3 (.mk ?_)
  refine sS ⟨31, 10, true, true, v9, [(GState.av x39.1)]⟩ sh31 ?_
  refine tr tbk 6 (.mk ?_)
  refine nb tbk h0 fun x40 h0 => ?_
  refine tr tbk 1 (.mk ?_)
  replace h0 := asrt_e h0
  obtain ⟨rfl, h0⟩ := h0
  refine tc tbk 6 (.mk ?_)
  obtain ⟨p41, h0⟩ := asrt_e h0
  refine rse rfl rfl rfl (yl_call rfl rfl (.cons rfl .nil) cal52 (pc_cv (clone52_c (id := 5) (l := x39.1.Ents) rfl p41) (.cons (.refl _) .nil))) ?_; rintro _ _ ⟨v42, rfl, rfl⟩
  refine tr tbk 1 (.mk ?_)
  refine sS ⟨31, 10, true, true, v9, [[int x39.1.Master.Entities, int x39.1.Master.Periods, lst 1 fI x39.1.Master.Weights, lst 1 (fL 1 fI) x39.1.Master.Methods, lst 1 (fL 1 fI) x39.1.Master.Costs, .sl 5 v42 0 x39.1.Ents.length, lst 8 GReceipt.av x39.1.Receipts, lst 9 GSale.av x39.1.Sales, lst 6 GTransit.av x39.1.Transits, int x39.1.Done]]⟩ sh26 ?_
  refine tr tbk 2 (.mk ?_)
  refine c_drawE [0, 1, 0, 0, 8, 0, 0, 64, 0, 448, 960, 1984, 4039, 8135, 16327, 32767, 65535, 131071] (rl [(0, [3]), (1, [3]), (3, [3]), (4, [3]), (6, [1]), (7, [1]), (12, [5]), (13, [5]), (15, [5]), (16, [5])] []) (rl [(14, [3]), (17, [])] [1, 3, 5]) (rl [(14, false), (17, false)] true) [0, 1, 2, 3, 4, 5, 6, 7, 8, 9, 10, 11, 12, 13, 14, 15, 16, 17] mixed (by kernel_rfl) ?_; intro K hK
  refine eF fo31_1 ?_
  refine eL sh26 ?_
  refine eM ?_
  refine eF fo31_1 ?_
  refine eL sh26 ?_
  refine eM ?_
  refine eF fo31_1 ?_
  refine eL sh26 ?_
  refine eM ?_
  obtain ⟨x43, e43, h0⟩ := bind_e h0
  refine eP (fun H hH => yv_to (y := .pp [int x43.Now, boo x43.Closed, lst 4 GPool.av x43.Pools, lst 1 fI x43.Bal, lst 11 GRoll.av x43.Rolls, lst 1 fI x43.Prices, lst 1 fI x43.Down, lst 8 GEnt.av x43.Ahead]) (yv_ixT rfl Tryz.underlying26 sh46 rfl rfl e43) (congrArg AV.pp (GEnt.av_eq x43))) ?_
  refine eP (fun H hH => yv_load rfl sh46 rfl (.pp _) rfl) ?_
  refine eP (fun H hH => yv_to (y := lst 8 GEnt.av ([x43] : List GEnt)) (yv_buildSlice (ps := [(0, _)]) (rows := [[int x43.Now, boo x43.Closed, lst 4 GPool.av x43.Pools, lst 1 fI x43.Bal, lst 11 GRoll.av x43.Rolls, lst 1 fI x43.Prices, lst 1 fI x43.Down, lst 8 GEnt.av x43.Ahead]]) rfl Tryz.underlying26 bz46 (.cons rfl .nil) (by kernel_rfl) rfl rfl rfl) (congrArg (AV.list 8) (by simp only [List.map_cons, List.map_nil, GEnt.av_eq]))) ?_
  obtain ⟨x44, e44, h0⟩ := bind_e h0
  refine de_pure rfl rfl rfl rfl (fun H hH => yv_ixO rfl Tryz.underlying26 sh46 rfl rfl ((hH _ (by decide)).trans rfl) rfl rfl (Eq.symm rfl) (List.length_map _) e44) ?_
  refine eF fo46_7 (hr := ix_get' e44 (GEnt.av_eq _)) ?_
  obtain ⟨x45, e45, h0⟩ := bnd_e h0
  have fx45 := ix_set e44 e45; have lx45 := len_setV e45 (rfl : x39.1.Ents.length = x39.1.Ents.length)
  refine de_eff0 rfl rfl rfl rfl (Yield.weak (yl_ob (ob' := (⟨46, 8, true, true, v42, x45.map GEnt.av⟩ : AObj)) (yl_store rfl sh26 rfl rfl rfl rfl rfl (ix_get' e44 (GEnt.av_eq _)) rfl rfl rfl) (ob_eq (map_setR e45 (GEnt.av_eq _)))) (fun _ h => h) (fun _ _ => trivial)) (by rintro _ _ ⟨rfl, rfl⟩; exact ⟨rfl, trivial⟩) ?_; rintro _ _ ⟨rfl, rfl⟩
  refine de_pure rfl rfl rfl rfl (fun H hH => yv_ixO rfl Tryz.underlying26 sh46 rfl rfl ((hH _ (by decide)).trans rfl) rfl rfl (Eq.symm lx45) (List.length_map _) fx45) ?_
  refine eF fo46_1 (hr := ix_get' fx45 (GEnt.av_eq _)) ?_
  obtain ⟨x46, e46, h0⟩ := bnd_e h0
  have fx46 := ix_set fx45 e46; have lx46 := len_setV e46 lx45
  refine de_eff0 rfl rfl rfl rfl (Yield.weak (yl_ob (ob' := (⟨46, 8, true, true, v42, x46.map GEnt.av⟩ : AObj)) (yl_store rfl sh4 rfl rfl rfl rfl rfl (ix_get' fx45 (GEnt.av_eq _)) rfl rfl rfl) (ob_eq (map_setR e46 (GEnt.av_eq _)))) (fun _ h => h) (fun _ _ => trivial)) (by rintro _ _ ⟨rfl, rfl⟩; exact trivial) ?_; rintro _ _ ⟨rfl, rfl⟩
  refine de_nil (hK _ ?_)
  refine tc tbk 3 (.mk ?_)
  refine sS ⟨31, 10, true, true, v4, [[int x39.1.Master.Entities, int x39.1.Master.Periods, lst 1 fI x39.1.Master.Weights, lst 1 (fL 1 fI) x39.1.Master.Methods, lst 1 (fL 1 fI) x39.1.Master.Costs, .sl 5 v42 0 x39.1.Ents.length, lst 8 GReceipt.av x39.1.Receipts, lst 9 GSale.av x39.1.Sales, lst 6 GTransit.av x39.1.Transits, int x39.1.Done]]⟩ sh31 ?_
  refine tr tbk 2 (.mk ?_)
  obtain rfl := nxt_e h0
  refine wR hret (rC sh31 (rT .nil)) ?_
  exact CvL.tup (.cons (CvL.agg (.cons (.refl _) (.cons (.refl _) (.cons (.refl _) (.cons (.refl _) (.cons (.refl _) (.cons (cv_lst rfl rfl rfl rfl rfl (Eq.symm lx46)) (.cons (.refl _) (.cons (.refl _) (.cons (.refl _) (.cons (.refl _) .nil))))))))))) (.cons (.refl _) .nil))
  replace h0 := ct h0
  refine tc tbk 4 (.mk ?_)
  refine sS ⟨31, 10, true, true, v4, [(GState.av a1)]⟩ sh31 ?_
  refine tr tbk 2 (.mk ?_)
  obtain rfl := nxt_e h0
  refine wR hret (rC sh31 (rT .nil)) ?_
  exact .refl _
def d_close_Step (n : Nat) (a1 : GState) (a2 : GOp) : Option (GState × Int) :=
(d_ops_Check a2).bind fun x6 =>
bnd (!x6) fun x7 =>
asrt (x7 = false) <|
bnd (decide (a2.Kind = 14)) fun x9 =>
cond x9 ((d_close_Close n a1 a2.E).bind fun x13 =>
bnd (decide (x13.2 ≠ 0)) fun x14 =>
asrt (x14 = false) <|
bnd (w64 (x13.1.Done + 1)) fun x15 =>
some (((⟨x13.1.Master, x13.1.Ents, x13.1.Receipts, x13.1.Sales, x13.1.Transits, x15⟩ : GState) : GState), (0 : Int))) (bnd (decide (a2.Kind = 15)) fun x10 =>
asrt (x10 = false) <|
bnd (decide (a2.Kind = 16)) fun x11 =>
asrt (x11 = false) <|
(d_apply_Do n a1 a2).bind fun x12 =>
some ((x12.1 : GState), (x12.2 : Int)))
theorem d_close_Step_c {n : Nat} {a1 : GState} {a2 : GOp} {r : GState × Int} (h0 : d_close_Step n a1 a2 = some r) : PP Tryz.prog 12 [.agg (GState.av a1), .agg (GOp.av a2)] (fun y => y = .tup [.agg (GState.av r.1), int r.2]) := by
  unfold d_close_Step at h0
  refine pp_of_pc (R0 := fun y H => Cv (frzH H) y (.tup [.agg (GState.av r.1), int r.2])) ?_ (fun y H hc => ⟨_, rfl, .tup (pvl2 ((fun (a : GState) => PV.agg (GState.pvc a)) (r.1)) (pvI (r.2))), hc⟩)
  refine pcw (c := _) Tryz.func12 rfl rfl ?_; intro Q hret hnorm
  refine tc tbk 2 (.mk ?_)
  refine sB 1 fun v3 => ?_
  refine sB 2 fun v4 => ?_
  refine sA 3 z31 fun v5 => ?_
  refine tr tbk 6 (.mk ?_)
  obtain ⟨x6, e6, h0⟩ := bind_e h0
  refine sC cal19 (d_ops_Check_c e6) ?_
  refine nb tbk h0 fun x7 h0 => ?_
  refine tr tbk 1 (.mk ?_)
  replace h0 := asrt_e h0
  obtain ⟨rfl, h0⟩ := h0
  refine tc tbk 5 (.mk ?_)
  refine sA 4 z31 fun v8 => ?_
  refine sS ⟨31, 10, true, true, v8, [(GState.av a1)]⟩ sh31 ?_
  refine tr tbk 11 (.mk ?_)
  refine nb tbk h0 fun x9 h0 => ?_
  refine tr tbk 2 (.mk ?_)
  cases x9
  replace h0 := cf h0
  refine tc tbk 3 (.mk ?_)
  refine nb tbk h0 fun x10 h0 => ?_
  refine tr tbk 2 (.mk ?_)
  replace h0 := asrt_e h0
  obtain ⟨rfl, h0⟩ := h0
  refine tc tbk 3 (.mk ?_)
  refine nb tbk h0 fun x11 h0 => ?_
  refine tr tbk 2 (.mk ?_)
  replace h0 := asrt_e h0
  obtain ⟨rfl, h0⟩ := h0
  refine tc tbk 5 (.mk ?_)
  obtain ⟨x12, e12, h0⟩ := bind_e h0
  refine sC cal8 (d_apply_Do_c e12) ?_
  refine tr tbk 2 (.mk ?_)
  refine sS ⟨31, 10, true, true, v5, [(GState.av x12.1)]⟩ sh31 ?_
  refine tr tbk 2 (.mk ?_)
  obtain rfl := nxt_e h0
  refine wR hret (rC sh31 (rT .nil)) ?_
  exact .refl _
  replace h0 := ct h0
  refine tc tbk 5 (.mk ?_)
  obtain ⟨x13, e13, h0⟩ := bind_e h0
  refine sC cal23 (d_close_Close_c e13) ?_
  refine tr tbk 3 (.mk ?_)
  refine sS ⟨31, 10, true, true, v8, [(GState.av x13.1)]⟩ sh31 ?_
  refine tr tbk 7 (.mk ?_)
  refine nb tbk h0 fun x14 h0 => ?_
  refine tr tbk 1 (.mk ?_)
  replace h0 := asrt_e h0
  obtain ⟨rfl, h0⟩ := h0
  refine tc tbk 6 (.mk ?_)
  refine ni tbk h0 fun x15 h0 => ?_
  refine tr tbk 1 (.mk ?_)
  refine sS ⟨31, 10, true, true, v8, [[int x13.1.Master.Entities, int x13.1.Master.Periods, lst 1 fI x13.1.Master.Weights, lst 1 (fL 1 fI) x13.1.Master.Methods, lst 1 (fL 1 fI) x13.1.Master.Costs, lst 8 GEnt.av x13.1.Ents, lst 8 GReceipt.av x13.1.Receipts, lst 9 GSale.av x13.1.Sales, lst 6 GTransit.av x13.1.Transits, int x15]]⟩ sh3 ?_
  refine tr tbk 4 (.mk ?_)
  refine sS ⟨31, 10, true, true, v5, [[int x13.1.Master.Entities, int x13.1.Master.Periods, lst 1 fI x13.1.Master.Weights, lst 1 (fL 1 fI) x13.1.Master.Methods, lst 1 (fL 1 fI) x13.1.Master.Costs, lst 8 GEnt.av x13.1.Ents, lst 8 GReceipt.av x13.1.Receipts, lst 9 GSale.av x13.1.Sales, lst 6 GTransit.av x13.1.Transits, int x15]]⟩ sh31 ?_
  refine tr tbk 2 (.mk ?_)
  obtain rfl := nxt_e h0
  refine wR hret (rC sh31 (rT .nil)) ?_
  exact .refl _
end Go.Pv
