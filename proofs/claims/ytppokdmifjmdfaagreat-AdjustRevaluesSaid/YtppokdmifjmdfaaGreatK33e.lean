import Derived.Test.YtppokdmifjmdfaaGreatK33d
set_option linter.unusedVariables false
namespace Go.Pv
open Go.Proofs
set_option maxRecDepth 10000
set_option maxHeartbeats 1000000
def d_law17_awake (n : Nat)  : Option (Bool) :=
(d_law17_stocked n 1 10 100).bind fun x1 =>
(show Option ((GState × Int)) from
(d_stock_Ready x1 0 1).bind fun x7 =>
bnd (decide (x7 ≠ 0)) fun x8 =>
cond x8 (some ((x1 : GState), (x7 : Int))) ((d_adjust_scrap n x1 (⟨6, 0, 1, 0, 0, 4, 0, 0, []⟩ : GOp)).bind fun x9 =>
bnd (decide (x9.2 ≠ 0)) fun x11 =>
cond x11 (some ((x1 : GState), (x9.2 : Int))) (some ((x9.1 : GState), (0 : Int))))).bind <| p2 fun (y0_1 : GState) (y0_2 : Int) =>
(show Option ((GState × Int)) from
(d_stock_Ready y0_1 0 1).bind fun x18 =>
bnd (decide (x18 ≠ 0)) fun x19 =>
cond x19 (some ((y0_1 : GState), (x18 : Int))) ((d_adjust_count n y0_1 (⟨7, 0, 1, 0, 0, 6, 0, 0, []⟩ : GOp)).bind fun x20 =>
bnd (decide (x20.2 ≠ 0)) fun x22 =>
cond x22 (some ((y0_1 : GState), (x20.2 : Int))) (some ((x20.1 : GState), (0 : Int))))).bind <| p2 fun (y1_1 : GState) (y1_2 : Int) =>
(show Option ((GState × Int)) from
(d_stock_Ready y0_1 0 1).bind fun x29 =>
bnd (decide (x29 ≠ 0)) fun x30 =>
cond x30 (some ((y0_1 : GState), (x29 : Int))) ((d_adjust_revalue n y0_1 (⟨9, 0, 1, 0, 0, 0, 6, 0, []⟩ : GOp)).bind fun x31 =>
bnd (decide (x31.2 ≠ 0)) fun x33 =>
cond x33 (some ((y0_1 : GState), (x31.2 : Int))) (some ((x31.1 : GState), (0 : Int))))).bind <| p2 fun (y2_1 : GState) (y2_2 : Int) =>
(show Option (Bool) from
bnd (decide (y0_2 = 0)) fun x36 =>
cond x36 (bnd (decide ((y0_1.Ents.length : Int) = 2)) fun x37 =>
cond x37 ((ix y0_1.Ents 0).bind fun x38 =>
(ix x38.Bal 7).bind fun x39 =>
bnd (decide (x39 = 40)) fun x40 =>
cond x40 (bnd (decide (y1_2 = 0)) fun x41 =>
cond x41 ((d_ref14_Same n y0_1 y1_1).bind fun x42 =>
cond x42 (bnd (decide (y2_2 = 12)) fun x43 =>
some (x43 : Bool)) (some (false : Bool))) (some (false : Bool))) (some (false : Bool))) (some (false : Bool))) (some (false : Bool))).bind <| fun y3_1 =>
some ((y3_1 : Bool))
theorem d_law17_awake_c {n : Nat}  {r : Bool} (h0 : d_law17_awake n  = some r) : PP Tryz.prog 14 [] (fun y => y = boo r) := by
  unfold d_law17_awake at h0
  refine pp_of_pc (R0 := fun y H => Cv (frzH H) y (boo r)) ?_ (fun y H hc => ⟨_, rfl, pvB r, hc⟩)
  refine pcw (c := _) Tryz.func14 rfl rfl ?_; intro Q hret hnorm
  refine tc tbk 6 (.mk ?_)
  obtain ⟨x1, e1, h0⟩ := bind_e h0
  refine sC cal12 (d_law17_stocked_c e1) ?_
  refine sY (yv_build (cs := [int 6, int 0, int 1, int 0, int 0, int 4, int 0, int 0, .sc (.slice none 0 0)]) (ps := [(0, _), (2, _), (5, _)]) rfl pl38 z38 rfl (.cons rfl (.cons rfl (.cons rfl .nil))) (by kernel_rfl)) ?_
  obtain ⟨j2, h1, h0⟩ := bind_e h0
  refine rse (Out := fun y H' => (∃ (a : GState × Int) (k : Unit), a = j2 ∧ y = .tup [.agg (GState.av a.1), int a.2] ∧ H' = hk [])) rfl rfl rfl (yl_call rfl rfl (.cons rfl (.cons rfl .nil)) cal11 ?_) ?_
  refine pcw (c := _) Tryz.func11 rfl rfl ?_; intro Q hret hnorm
  refine tc tbk 2 (.mk ?_)
  refine sB 1 fun v3 => ?_
  refine sB 2 fun v4 => ?_
  refine sA 3 z32 fun v5 => ?_
  refine tr tbk 3 (.mk ?_)
  refine c_drawE [0, 0, 2, 7, 15, 31, 31, 0, 191, 511] (rl [(1, [2]), (2, [2])] []) (rl [(8, [])] [2]) (rl [(7, false), (8, false)] true) [0, 1, 2, 3, 4, 5, 6, 7, 8, 9] mixed (by kernel_rfl) ?_; intro K hK
  refine eP (fun H hH => yv_callP rfl rfl .nil cal30 (CvL.refl _) map30_c) ?_
  refine eF fo38_0 ?_
  refine eL sh3 ?_
  refine eP (fun H hH => yv_lookup (j := 0) rfl Tryz.underlying72 Tryz.underlying3 rfl rfl rfl rfl) ?_
  refine eM ?_
  iterate 2 refine eX ?_
  refine de_eff rfl rfl rfl rfl (yl_alloc 4 .any rfl z70 rfl) (by rintro _ _ ⟨v6, -, rfl, rfl⟩; exact ⟨rfl, trivial⟩) ?_; rintro _ _ ⟨v6, -, rfl, rfl⟩
  refine de_eff0 rfl rfl rfl rfl (Yield.weak (yl_ob (ob' := (⟨70, 1, true, true, v6, [[.fn (.func 64) [] []]]⟩ : AObj)) (yl_store rfl sh70 rfl rfl rfl rfl rfl rfl rfl rfl rfl) rfl) (fun _ h => h) (fun _ _ => trivial)) (by rintro _ _ ⟨rfl, rfl⟩; exact trivial) ?_; rintro _ _ ⟨rfl, rfl⟩
  refine eA ?_
  refine de_nil (hK _ ?_)
  refine tc tbk 16 (.mk ?_)
  obtain ⟨x7, e7, h1⟩ := bind_e h1
  refine sC cal26 (d_stock_Ready_c e7) ?_
  refine tr tbk 5 (.mk ?_)
  refine nb tbk h1 fun x8 h1 => ?_
  refine tr tbk 1 (.mk ?_)
  cases x8
  replace h1 := cf h1
  refine tc tbk 8 (.mk ?_)
  obtain ⟨x9, e9, h1⟩ := bind_e h1
  refine sY (yv_callP rfl rfl (.cons rfl (.cons rfl .nil)) cal64 (.cons (.refl _) (.cons (CvL.agg (.cons (.refl _) (.cons (.refl _) (.cons (.refl _) (.cons (.refl _) (.cons (.refl _) (.cons (.refl _) (.cons (.refl _) (.cons (.refl _) (.cons (.nil _) .nil)))))))))) .nil)) (d_adjust_scrap_c e9)) ?_
  refine tr tbk 3 (.mk ?_)
  refine sA 5 z32 fun v10 => ?_
  refine sS ⟨32, 10, true, true, v10, [(GState.av x9.1)]⟩ sh32 ?_
  refine tr tbk 6 (.mk ?_)
  refine nb tbk h1 fun x11 h1 => ?_
  refine tr tbk 1 (.mk ?_)
  cases x11
  replace h1 := cf h1
  refine tc tbk 5 (.mk ?_)
  refine sS ⟨32, 10, true, true, v5, [(GState.av x9.1)]⟩ sh32 ?_
  refine tr tbk 2 (.mk ?_)
  obtain rfl := nxt_e h1
  refine w_ret (hret _ _ (hk []) (.cell rfl (.pt rfl rfl rfl) sh32 rfl (.tmp rfl .nil)) (fun _ _ h => nomatch h) ?_)
  exact ⟨(x9.1, 0), (), rfl, rfl, rfl⟩
  replace h1 := ct h1
  refine tc tbk 5 (.mk ?_)
  refine sS ⟨32, 10, true, true, v5, [(GState.av x1)]⟩ sh32 ?_
  refine tr tbk 2 (.mk ?_)
  obtain rfl := nxt_e h1
  refine w_ret (hret _ _ (hk []) (.cell rfl (.pt rfl rfl rfl) sh32 rfl (.tmp rfl .nil)) (fun _ _ h => nomatch h) ?_)
  exact ⟨(x1, x9.2), (), rfl, rfl, rfl⟩
  replace h1 := ct h1
  refine tc tbk 5 (.mk ?_)
  refine sS ⟨32, 10, true, true, v5, [(GState.av x1)]⟩ sh32 ?_
  refine tr tbk 2 (.mk ?_)
  obtain rfl := nxt_e h1
  refine w_ret (hret _ _ (hk []) (.cell rfl (.pt rfl rfl rfl) sh32 rfl (.tmp rfl .nil)) (fun _ _ h => nomatch h) ?_)
  exact ⟨(x1, x7), (), rfl, rfl, rfl⟩
  rintro y _ ⟨⟨y0_1, y0_2⟩, _, rfl, hc, rfl⟩
  replace h0 := p2_e h0
  subst hc
  refine tr tbk 3 (.mk ?_)
  refine sA 6 z32 fun v12 => ?_
  refine sS ⟨32, 10, true, true, v12, [(GState.av y0_1)]⟩ sh32 ?_
  refine tr tbk 5 (.mk ?_)
  refine sY (yv_build (cs := [int 7, int 0, int 1, int 0, int 0, int 6, int 0, int 0, .sc (.slice none 0 0)]) (ps := [(0, _), (2, _), (5, _)]) rfl pl38 z38 rfl (.cons rfl (.cons rfl (.cons rfl .nil))) (by kernel_rfl)) ?_
  obtain ⟨j13, h1, h0⟩ := bind_e h0
  refine rse (Out := fun y H' => (∃ (a : GState × Int) (k : Unit), a = j13 ∧ y = .tup [.agg (GState.av a.1), int a.2] ∧ H' = hk [(6, ⟨32, 10, true, true, v12, [(GState.av y0_1)]⟩)])) rfl rfl rfl (yl_call rfl rfl (.cons rfl (.cons rfl .nil)) cal11 ?_) ?_
  refine pcw (c := _) Tryz.func11 rfl rfl ?_; intro Q hret hnorm
  refine tc tbk 2 (.mk ?_)
  refine sB 7 fun v14 => ?_
  refine sB 8 fun v15 => ?_
  refine sA 9 z32 fun v16 => ?_
  refine tr tbk 3 (.mk ?_)
  refine c_drawE [0, 0, 2, 7, 15, 31, 31, 0, 191, 511] (rl [(1, [8]), (2, [8])] []) (rl [(8, [])] [8]) (rl [(7, false), (8, false)] true) [0, 1, 2, 3, 4, 5, 6, 7, 8, 9] mixed (by kernel_rfl) ?_; intro K hK
  refine eP (fun H hH => yv_callP rfl rfl .nil cal30 (CvL.refl _) map30_c) ?_
  refine eF fo38_0 ?_
  refine eL sh3 ?_
  refine eP (fun H hH => yv_lookup (j := 1) rfl Tryz.underlying72 Tryz.underlying3 rfl rfl rfl rfl) ?_
  refine eM ?_
  iterate 2 refine eX ?_
  refine de_eff rfl rfl rfl rfl (yl_alloc 10 .any rfl z70 rfl) (by rintro _ _ ⟨v17, -, rfl, rfl⟩; exact ⟨rfl, trivial⟩) ?_; rintro _ _ ⟨v17, -, rfl, rfl⟩
  refine de_eff0 rfl rfl rfl rfl (Yield.weak (yl_ob (ob' := (⟨70, 1, true, true, v17, [[.fn (.func 65) [] []]]⟩ : AObj)) (yl_store rfl sh70 rfl rfl rfl rfl rfl rfl rfl rfl rfl) rfl) (fun _ h => h) (fun _ _ => trivial)) (by rintro _ _ ⟨rfl, rfl⟩; exact trivial) ?_; rintro _ _ ⟨rfl, rfl⟩
  refine eA ?_
  refine de_nil (hK _ ?_)
  refine tc tbk 16 (.mk ?_)
  obtain ⟨x18, e18, h1⟩ := bind_e h1
  refine sC cal26 (d_stock_Ready_c e18) ?_
  refine tr tbk 5 (.mk ?_)
  refine nb tbk h1 fun x19 h1 => ?_
  refine tr tbk 1 (.mk ?_)
  cases x19
  replace h1 := cf h1
  refine tc tbk 8 (.mk ?_)
  obtain ⟨x20, e20, h1⟩ := bind_e h1
  refine sY (yv_callP rfl rfl (.cons rfl (.cons rfl .nil)) cal65 (.cons (.refl _) (.cons (CvL.agg (.cons (.refl _) (.cons (.refl _) (.cons (.refl _) (.cons (.refl _) (.cons (.refl _) (.cons (.refl _) (.cons (.refl _) (.cons (.refl _) (.cons (.nil _) .nil)))))))))) .nil)) (d_adjust_count_c e20)) ?_
  refine tr tbk 3 (.mk ?_)
  refine sA 11 z32 fun v21 => ?_
  refine sS ⟨32, 10, true, true, v21, [(GState.av x20.1)]⟩ sh32 ?_
  refine tr tbk 6 (.mk ?_)
  refine nb tbk h1 fun x22 h1 => ?_
  refine tr tbk 1 (.mk ?_)
  cases x22
  replace h1 := cf h1
  refine tc tbk 5 (.mk ?_)
  refine sS ⟨32, 10, true, true, v16, [(GState.av x20.1)]⟩ sh32 ?_
  refine tr tbk 2 (.mk ?_)
  obtain rfl := nxt_e h1
  refine w_ret (hret _ _ (hk [(6, ⟨32, 10, true, true, v12, [(GState.av y0_1)]⟩)]) (.cell rfl (.pt rfl rfl rfl) sh32 rfl (.tmp rfl .nil)) (HK.le ⟨rfl, trivial⟩) ?_)
  exact ⟨(x20.1, 0), (), rfl, rfl, rfl⟩
  replace h1 := ct h1
  refine tc tbk 5 (.mk ?_)
  refine sS ⟨32, 10, true, true, v16, [(GState.av y0_1)]⟩ sh32 ?_
  refine tr tbk 2 (.mk ?_)
  obtain rfl := nxt_e h1
  refine w_ret (hret _ _ (hk [(6, ⟨32, 10, true, true, v12, [(GState.av y0_1)]⟩)]) (.cell rfl (.pt rfl rfl rfl) sh32 rfl (.tmp rfl .nil)) (HK.le ⟨rfl, trivial⟩) ?_)
  exact ⟨(y0_1, x20.2), (), rfl, rfl, rfl⟩
  replace h1 := ct h1
  refine tc tbk 5 (.mk ?_)
  refine sS ⟨32, 10, true, true, v16, [(GState.av y0_1)]⟩ sh32 ?_
  refine tr tbk 2 (.mk ?_)
  obtain rfl := nxt_e h1
  refine w_ret (hret _ _ (hk [(6, ⟨32, 10, true, true, v12, [(GState.av y0_1)]⟩)]) (.cell rfl (.pt rfl rfl rfl) sh32 rfl (.tmp rfl .nil)) (HK.le ⟨rfl, trivial⟩) ?_)
  exact ⟨(y0_1, x18), (), rfl, rfl, rfl⟩
  rintro y _ ⟨⟨y1_1, y1_2⟩, _, rfl, hc, rfl⟩
  replace h0 := p2_e h0
  subst hc
  refine tr tbk 3 (.mk ?_)
  refine sA 12 z32 fun v23 => ?_
  refine sS ⟨32, 10, true, true, v23, [(GState.av y1_1)]⟩ sh32 ?_
  refine tr tbk 5 (.mk ?_)
  refine sY (yv_build (cs := [int 9, int 0, int 1, int 0, int 0, int 0, int 6, int 0, .sc (.slice none 0 0)]) (ps := [(0, _), (2, _), (6, _)]) rfl pl38 z38 rfl (.cons rfl (.cons rfl (.cons rfl .nil))) (by kernel_rfl)) ?_
  obtain ⟨j24, h1, h0⟩ := bind_e h0
  refine rse (Out := fun y H' => (∃ (a : GState × Int) (k : Unit), a = j24 ∧ y = .tup [.agg (GState.av a.1), int a.2] ∧ H' = hk [(6, ⟨32, 10, true, true, v12, [(GState.av y0_1)]⟩), (12, ⟨32, 10, true, true, v23, [(GState.av y1_1)]⟩)])) rfl rfl rfl (yl_call rfl rfl (.cons rfl (.cons rfl .nil)) cal11 ?_) ?_
  refine pcw (c := _) Tryz.func11 rfl rfl ?_; intro Q hret hnorm
  refine tc tbk 2 (.mk ?_)
  refine sB 13 fun v25 => ?_
  refine sB 14 fun v26 => ?_
  refine sA 15 z32 fun v27 => ?_
  refine tr tbk 3 (.mk ?_)
  refine c_drawE [0, 0, 2, 7, 15, 31, 31, 0, 191, 511] (rl [(1, [14]), (2, [14])] []) (rl [(8, [])] [14]) (rl [(7, false), (8, false)] true) [0, 1, 2, 3, 4, 5, 6, 7, 8, 9] mixed (by kernel_rfl) ?_; intro K hK
  refine eP (fun H hH => yv_callP rfl rfl .nil cal30 (CvL.refl _) map30_c) ?_
  refine eF fo38_0 ?_
  refine eL sh3 ?_
  refine eP (fun H hH => yv_lookup (j := 3) rfl Tryz.underlying72 Tryz.underlying3 rfl rfl rfl rfl) ?_
  refine eM ?_
  iterate 2 refine eX ?_
  refine de_eff rfl rfl rfl rfl (yl_alloc 16 .any rfl z70 rfl) (by rintro _ _ ⟨v28, -, rfl, rfl⟩; exact ⟨rfl, trivial⟩) ?_; rintro _ _ ⟨v28, -, rfl, rfl⟩
  refine de_eff0 rfl rfl rfl rfl (Yield.weak (yl_ob (ob' := (⟨70, 1, true, true, v28, [[.fn (.func 67) [] []]]⟩ : AObj)) (yl_store rfl sh70 rfl rfl rfl rfl rfl rfl rfl rfl rfl) rfl) (fun _ h => h) (fun _ _ => trivial)) (by rintro _ _ ⟨rfl, rfl⟩; exact trivial) ?_; rintro _ _ ⟨rfl, rfl⟩
  refine eA ?_
  refine de_nil (hK _ ?_)
  refine tc tbk 16 (.mk ?_)
  obtain ⟨x29, e29, h1⟩ := bind_e h1
  refine sC cal26 (d_stock_Ready_c e29) ?_
  refine tr tbk 5 (.mk ?_)
  refine nb tbk h1 fun x30 h1 => ?_
  refine tr tbk 1 (.mk ?_)
  cases x30
  replace h1 := cf h1
  refine tc tbk 8 (.mk ?_)
  obtain ⟨x31, e31, h1⟩ := bind_e h1
  refine sY (yv_callP rfl rfl (.cons rfl (.cons rfl .nil)) cal67 (.cons (.refl _) (.cons (CvL.agg (.cons (.refl _) (.cons (.refl _) (.cons (.refl _) (.cons (.refl _) (.cons (.refl _) (.cons (.refl _) (.cons (.refl _) (.cons (.refl _) (.cons (.nil _) .nil)))))))))) .nil)) (d_adjust_revalue_c e31)) ?_
  refine tr tbk 3 (.mk ?_)
  refine sA 17 z32 fun v32 => ?_
  refine sS ⟨32, 10, true, true, v32, [(GState.av x31.1)]⟩ sh32 ?_
  refine tr tbk 6 (.mk ?_)
  refine nb tbk h1 fun x33 h1 => ?_
  refine tr tbk 1 (.mk ?_)
  cases x33
  replace h1 := cf h1
  refine tc tbk 5 (.mk ?_)
  refine sS ⟨32, 10, true, true, v27, [(GState.av x31.1)]⟩ sh32 ?_
  refine tr tbk 2 (.mk ?_)
  obtain rfl := nxt_e h1
  refine w_ret (hret _ _ (hk [(6, ⟨32, 10, true, true, v12, [(GState.av y0_1)]⟩), (12, ⟨32, 10, true, true, v23, [(GState.av y1_1)]⟩)]) (.cell rfl (.pt rfl rfl rfl) sh32 rfl (.tmp rfl .nil)) (HK.le ⟨rfl, rfl, trivial⟩) ?_)
  exact ⟨(x31.1, 0), (), rfl, rfl, rfl⟩
  replace h1 := ct h1
  refine tc tbk 5 (.mk ?_)
  refine sS ⟨32, 10, true, true, v27, [(GState.av y0_1)]⟩ sh32 ?_
  refine tr tbk 2 (.mk ?_)
  obtain rfl := nxt_e h1
  refine w_ret (hret _ _ (hk [(6, ⟨32, 10, true, true, v12, [(GState.av y0_1)]⟩), (12, ⟨32, 10, true, true, v23, [(GState.av y1_1)]⟩)]) (.cell rfl (.pt rfl rfl rfl) sh32 rfl (.tmp rfl .nil)) (HK.le ⟨rfl, rfl, trivial⟩) ?_)
  exact ⟨(y0_1, x31.2), (), rfl, rfl, rfl⟩
  replace h1 := ct h1
  refine tc tbk 5 (.mk ?_)
  refine sS ⟨32, 10, true, true, v27, [(GState.av y0_1)]⟩ sh32 ?_
  refine tr tbk 2 (.mk ?_)
  obtain rfl := nxt_e h1
  refine w_ret (hret _ _ (hk [(6, ⟨32, 10, true, true, v12, [(GState.av y0_1)]⟩), (12, ⟨32, 10, true, true, v23, [(GState.av y1_1)]⟩)]) (.cell rfl (.pt rfl rfl rfl) sh32 rfl (.tmp rfl .nil)) (HK.le ⟨rfl, rfl, trivial⟩) ?_)
  exact ⟨(y0_1, x29), (), rfl, rfl, rfl⟩
  rintro y _ ⟨⟨y2_1, y2_2⟩, _, rfl, hc, rfl⟩
  replace h0 := p2_e h0
  subst hc
  refine tr tbk 3 (.mk ?_)
  refine sA 18 z32 fun v34 => ?_
  refine sS ⟨32, 10, true, true, v34, [(GState.av y2_1)]⟩ sh32 ?_
  refine tr tbk 3 (.mk ?_)
  refine jn h0 [] [] (fun (a : Bool) (k : Unit) => [(0, boo a)]) (fun a k => []) ⟨fun j35 h1 => ?_, ?_⟩
  refine tc tbk 2 (.mk ?_)
  refine nb tbk h1 fun x36 h1 => ?_
  refine tr tbk 1 (.mk ?_)
  cases x36
  replace h1 := cf h1
  refine tr tbk 30 (.mk ?_)
  exact lf h1 () leA
  replace h1 := ct h1
  refine tr tbk 2 (.mk ?_)
  refine sY (yv_len_sl rfl Tryz.underlying27 rfl (lst_len _)) ?_
  refine nb tbk h1 fun x37 h1 => ?_
  refine tr tbk 2 (.mk ?_)
  cases x37
  replace h1 := cf h1
  refine tr tbk 24 (.mk ?_)
  exact lf h1 () leA
  replace h1 := ct h1
  refine tr tbk 2 (.mk ?_)
  obtain ⟨x38, e38, h1⟩ := bind_e h1
  refine sY (yv_to (y := .pp [int x38.Now, boo x38.Closed, lst 4 GPool.av x38.Pools, lst 1 fI x38.Bal, lst 11 GRoll.av x38.Rolls, lst 1 fI x38.Prices, lst 1 fI x38.Down, lst 8 GEnt.av x38.Ahead]) (yv_ixT rfl Tryz.underlying27 sh47 rfl rfl e38) (congrArg AV.pp (GEnt.av_eq x38))) ?_
  refine tr tbk 2 (.mk ?_)
  obtain ⟨x39, e39, h1⟩ := bind_e h1
  refine sY (yv_ixT rfl Tryz.underlying23 sh3 rfl rfl e39) ?_
  refine tr tbk 1 (.mk ?_)
  refine nb tbk h1 fun x40 h1 => ?_
  refine tr tbk 2 (.mk ?_)
  cases x40
  replace h1 := cf h1
  refine tr tbk 14 (.mk ?_)
  exact lf h1 () leA
  replace h1 := ct h1
  refine tr tbk 1 (.mk ?_)
  refine nb tbk h1 fun x41 h1 => ?_
  refine tr tbk 2 (.mk ?_)
  cases x41
  replace h1 := cf h1
  refine tr tbk 10 (.mk ?_)
  exact lf h1 () leA
  replace h1 := ct h1
  refine tr tbk 2 (.mk ?_)
  obtain ⟨x42, e42, h1⟩ := bind_e h1
  refine sC cal34 (d_ref14_Same_c e42) ?_
  refine tr tbk 2 (.mk ?_)
  cases x42
  replace h1 := cf h1
  refine tr tbk 5 (.mk ?_)
  exact lf h1 () leA
  replace h1 := ct h1
  refine tr tbk 1 (.mk ?_)
  refine nb tbk h1 fun x43 h1 => ?_
  refine tr tbk 3 (.mk ?_)
  exact lf h1 () leA
  rintro y3_1 _ h0
  obtain rfl := nxt_e h0
  refine wR hret (rT .nil) ?_
  exact .refl _
def d_law17_AdjustRevalues (n : Nat) (a1 : Int) (a2 : Int) (a3 : Int) : Option (Bool) :=
(d_law00_Place a1 100).bind fun x4 =>
bnd (w64 (2 + x4)) fun x5 =>
bnd (w64 (x5 - 1)) fun x6 =>
(d_law00_Place a2 x6).bind fun x7 =>
bnd (w64 (1 + x7)) fun x8 =>
(d_law00_Place a3 1000).bind fun x9 =>
(d_law17_stocked n 3 x5 0).bind fun x10 =>
(show Option ((GState × Int)) from
(d_stock_Ready x10 0 3).bind fun x16 =>
bnd (decide (x16 ≠ 0)) fun x17 =>
cond x17 (some ((x10 : GState), (x16 : Int))) ((d_adjust_move n x10 (⟨8, 0, 3, 0, 1, x8, 0, 0, []⟩ : GOp)).bind fun x18 =>
bnd (decide (x18.2 ≠ 0)) fun x20 =>
cond x20 (some ((x10 : GState), (x18.2 : Int))) (some ((x18.1 : GState), (0 : Int))))).bind <| p2 fun (y0_1 : GState) (y0_2 : Int) =>
(show Option ((GState × Int)) from
(d_stock_Ready y0_1 0 3).bind fun x27 =>
bnd (decide (x27 ≠ 0)) fun x28 =>
cond x28 (some ((y0_1 : GState), (x27 : Int))) ((d_adjust_revalue n y0_1 (⟨9, 0, 3, 0, 0, 0, x9, 0, []⟩ : GOp)).bind fun x29 =>
bnd (decide (x29.2 ≠ 0)) fun x31 =>
cond x31 (some ((y0_1 : GState), (x29.2 : Int))) (some ((x29.1 : GState), (0 : Int))))).bind <| p2 fun (y1_1 : GState) (y1_2 : Int) =>
(d_ref15_Do n y1_1 (⟨1, 0, 3, 0, 0, 5, 0, 0, []⟩ : GOp)).bind fun x33 =>
(show Option (Bool) from
bnd (decide (y0_2 ≠ 0)) fun x36 =>
cond x36 (some (true : Bool)) (bnd (decide (y1_2 ≠ 0)) fun x37 =>
cond x37 (some (true : Bool)) (bnd (decide ((y1_1.Ents.length : Int) ≠ 2)) fun x38 =>
cond x38 (some (true : Bool)) (bnd (decide ((x33.1.Ents.length : Int) ≠ 2)) fun x39 =>
some (x39 : Bool))))).bind <| fun y2_1 =>
cond y2_1 (some ((false : Bool))) ((show Option (Bool) from
(ix y1_1.Ents 0).bind fun x41 =>
(ix x41.Bal 0).bind fun x42 =>
bnd (w64 (x5 * x9)) fun x43 =>
bnd (decide (x42 = x43)) fun x44 =>
cond x44 ((ix y1_1.Ents 0).bind fun x45 =>
(ix x45.Bal 6).bind fun x46 =>
bnd (w64 (0 - x5)) fun x47 =>
bnd (w64 (x47 * x9)) fun x48 =>
bnd (decide (x46 = x48)) fun x49 =>
cond x49 ((ix y1_1.Ents 0).bind fun x50 =>
(ix x50.Rolls 3).bind fun x51 =>
bnd (w64 (x5 * x9)) fun x52 =>
bnd (w64 (10 * x5)) fun x53 =>
bnd (w64 (x52 - x53)) fun x54 =>
bnd (decide (x51.Revalued = x54)) fun x55 =>
cond x55 ((ix x33.1.Ents 0).bind fun x56 =>
(ix x56.Bal 0).bind fun x57 =>
bnd (w64 (x5 + 5)) fun x58 =>
bnd (w64 (x58 * x9)) fun x59 =>
bnd (decide (x57 = x59)) fun x60 =>
cond x60 ((d_law17_awake n).bind fun x61 =>
some (x61 : Bool)) (some (false : Bool))) (some (false : Bool))) (some (false : Bool))) (some (false : Bool))).bind <| fun y3_1 =>
some ((y3_1 : Bool)))
theorem d_law17_AdjustRevalues_c {n : Nat} {a1 : Int} {a2 : Int} {a3 : Int} {r : Bool} (h0 : d_law17_AdjustRevalues n a1 a2 a3 = some r) : PP Tryz.prog 5 [int a1, int a2, int a3] (fun y => y = boo r) := by
  unfold d_law17_AdjustRevalues at h0
  refine pp_of_pc (R0 := fun y H => Cv (frzH H) y (boo r)) ?_ (fun y H hc => ⟨_, rfl, pvB r, hc⟩)
  refine pcw (c := _) Tryz.func5 rfl rfl ?_; intro Q hret hnorm
  refine tc tbk 7 (.mk ?_)
  obtain ⟨x4, e4, h0⟩ := bind_e h0
  refine sC cal10 (d_law00_Place_c e4) ?_
  refine ni tbk h0 fun x5 h0 => ?_
  refine tr tbk 6 (.mk ?_)
  refine ni tbk h0 fun x6 h0 => ?_
  obtain ⟨x7, e7, h0⟩ := bind_e h0
  refine sC cal10 (d_law00_Place_c e7) ?_
  refine ni tbk h0 fun x8 h0 => ?_
  refine tr tbk 1 (.mk ?_)
  obtain ⟨x9, e9, h0⟩ := bind_e h0
  refine sC cal10 (d_law00_Place_c e9) ?_
  refine tr tbk 6 (.mk ?_)
  obtain ⟨x10, e10, h0⟩ := bind_e h0
  refine sC cal12 (d_law17_stocked_c e10) ?_
  refine tr tbk 1 (.mk ?_)
  refine sY (yv_build (cs := [int 8, int 0, int 3, int 0, int 1, int x8, int 0, int 0, .sc (.slice none 0 0)]) (ps := [(0, _), (2, _), (4, _), (5, _)]) rfl pl38 z38 rfl (.cons rfl (.cons rfl (.cons rfl (.cons rfl .nil)))) (by kernel_rfl)) ?_
  obtain ⟨j11, h1, h0⟩ := bind_e h0
  refine rse (Out := fun y H' => (∃ (a : GState × Int) (k : Unit), a = j11 ∧ y = .tup [.agg (GState.av a.1), int a.2] ∧ H' = hk [])) rfl rfl rfl (yl_call rfl rfl (.cons rfl (.cons rfl .nil)) cal11 ?_) ?_
  refine pcw (c := _) Tryz.func11 rfl rfl ?_; intro Q hret hnorm
  refine tc tbk 2 (.mk ?_)
  refine sB 1 fun v12 => ?_
  refine sB 2 fun v13 => ?_
  refine sA 3 z32 fun v14 => ?_
  refine tr tbk 3 (.mk ?_)
  refine c_drawE [0, 0, 2, 7, 15, 31, 31, 0, 191, 511] (rl [(1, [2]), (2, [2])] []) (rl [(8, [])] [2]) (rl [(7, false), (8, false)] true) [0, 1, 2, 3, 4, 5, 6, 7, 8, 9] mixed (by kernel_rfl) ?_; intro K hK
  refine eP (fun H hH => yv_callP rfl rfl .nil cal30 (CvL.refl _) map30_c) ?_
  refine eF fo38_0 ?_
  refine eL sh3 ?_
  refine eP (fun H hH => yv_lookup (j := 2) rfl Tryz.underlying72 Tryz.underlying3 rfl rfl rfl rfl) ?_
  refine eM ?_
  iterate 2 refine eX ?_
  refine de_eff rfl rfl rfl rfl (yl_alloc 4 .any rfl z70 rfl) (by rintro _ _ ⟨v15, -, rfl, rfl⟩; exact ⟨rfl, trivial⟩) ?_; rintro _ _ ⟨v15, -, rfl, rfl⟩
  refine de_eff0 rfl rfl rfl rfl (Yield.weak (yl_ob (ob' := (⟨70, 1, true, true, v15, [[.fn (.func 66) [] []]]⟩ : AObj)) (yl_store rfl sh70 rfl rfl rfl rfl rfl rfl rfl rfl rfl) rfl) (fun _ h => h) (fun _ _ => trivial)) (by rintro _ _ ⟨rfl, rfl⟩; exact trivial) ?_; rintro _ _ ⟨rfl, rfl⟩
  refine eA ?_
  refine de_nil (hK _ ?_)
  refine tc tbk 16 (.mk ?_)
  obtain ⟨x16, e16, h1⟩ := bind_e h1
  refine sC cal26 (d_stock_Ready_c e16) ?_
  refine tr tbk 5 (.mk ?_)
  refine nb tbk h1 fun x17 h1 => ?_
  refine tr tbk 1 (.mk ?_)
  cases x17
  replace h1 := cf h1
  refine tc tbk 8 (.mk ?_)
  obtain ⟨x18, e18, h1⟩ := bind_e h1
  refine sY (yv_callP rfl rfl (.cons rfl (.cons rfl .nil)) cal66 (.cons (.refl _) (.cons (CvL.agg (.cons (.refl _) (.cons (.refl _) (.cons (.refl _) (.cons (.refl _) (.cons (.refl _) (.cons (.refl _) (.cons (.refl _) (.cons (.refl _) (.cons (.nil _) .nil)))))))))) .nil)) (d_adjust_move_c e18)) ?_
  refine tr tbk 3 (.mk ?_)
  refine sA 5 z32 fun v19 => ?_
  refine sS ⟨32, 10, true, true, v19, [(GState.av x18.1)]⟩ sh32 ?_
  refine tr tbk 6 (.mk ?_)
  refine nb tbk h1 fun x20 h1 => ?_
  refine tr tbk 1 (.mk ?_)
  cases x20
  replace h1 := cf h1
  refine tc tbk 5 (.mk ?_)
  refine sS ⟨32, 10, true, true, v14, [(GState.av x18.1)]⟩ sh32 ?_
  refine tr tbk 2 (.mk ?_)
  obtain rfl := nxt_e h1
  refine w_ret (hret _ _ (hk []) (.cell rfl (.pt rfl rfl rfl) sh32 rfl (.tmp rfl .nil)) (fun _ _ h => nomatch h) ?_)
  exact ⟨(x18.1, 0), (), rfl, rfl, rfl⟩
  replace h1 := ct h1
  refine tc tbk 5 (.mk ?_)
  refine sS ⟨32, 10, true, true, v14, [(GState.av x10)]⟩ sh32 ?_
  refine tr tbk 2 (.mk ?_)
  obtain rfl := nxt_e h1
  refine w_ret (hret _ _ (hk []) (.cell rfl (.pt rfl rfl rfl) sh32 rfl (.tmp rfl .nil)) (fun _ _ h => nomatch h) ?_)
  exact ⟨(x10, x18.2), (), rfl, rfl, rfl⟩
  replace h1 := ct h1
  refine tc tbk 5 (.mk ?_)
  refine sS ⟨32, 10, true, true, v14, [(GState.av x10)]⟩ sh32 ?_
  refine tr tbk 2 (.mk ?_)
  obtain rfl := nxt_e h1
  refine w_ret (hret _ _ (hk []) (.cell rfl (.pt rfl rfl rfl) sh32 rfl (.tmp rfl .nil)) (fun _ _ h => nomatch h) ?_)
  exact ⟨(x10, x16), (), rfl, rfl, rfl⟩
  rintro y _ ⟨⟨y0_1, y0_2⟩, _, rfl, hc, rfl⟩
  replace h0 := p2_e h0
  subst hc
  refine tr tbk 3 (.mk ?_)
  refine sA 6 z32 fun v21 => ?_
  refine sS ⟨32, 10, true, true, v21, [(GState.av y0_1)]⟩ sh32 ?_
  refine tr tbk 6 (.mk ?_)
  refine sY (yv_build (cs := [int 9, int 0, int 3, int 0, int 0, int 0, int x9, int 0, .sc (.slice none 0 0)]) (ps := [(0, _), (2, _), (6, _)]) rfl pl38 z38 rfl (.cons rfl (.cons rfl (.cons rfl .nil))) (by kernel_rfl)) ?_
  obtain ⟨j22, h1, h0⟩ := bind_e h0
  refine rse (Out := fun y H' => (∃ (a : GState × Int) (k : Unit), a = j22 ∧ y = .tup [.agg (GState.av a.1), int a.2] ∧ H' = hk [(6, ⟨32, 10, true, true, v21, [(GState.av y0_1)]⟩)])) rfl rfl rfl (yl_call rfl rfl (.cons rfl (.cons rfl .nil)) cal11 ?_) ?_
  refine pcw (c := _) Tryz.func11 rfl rfl ?_; intro Q hret hnorm
  refine tc tbk 2 (.mk ?_)
  refine sB 7 fun v23 => ?_
  refine sB 8 fun v24 => ?_
  refine sA 9 z32 fun v25 => ?_
  refine tr tbk 3 (.mk ?_)
  refine c_drawE [0, 0, 2, 7, 15, 31, 31, 0, 191, 511] (rl [(1, [8]), (2, [8])] []) (rl [(8, [])] [8]) (rl [(7, false), (8, false)] true) [0, 1, 2, 3, 4, 5, 6, 7, 8, 9] mixed (by kernel_rfl) ?_; intro K hK
  refine eP (fun H hH => yv_callP rfl rfl .nil cal30 (CvL.refl _) map30_c) ?_
  refine eF fo38_0 ?_
  refine eL sh3 ?_
  refine eP (fun H hH => yv_lookup (j := 3) rfl Tryz.underlying72 Tryz.underlying3 rfl rfl rfl rfl) ?_
  refine eM ?_
  iterate 2 refine eX ?_
  refine de_eff rfl rfl rfl rfl (yl_alloc 10 .any rfl z70 rfl) (by rintro _ _ ⟨v26, -, rfl, rfl⟩; exact ⟨rfl, trivial⟩) ?_; rintro _ _ ⟨v26, -, rfl, rfl⟩
  refine de_eff0 rfl rfl rfl rfl (Yield.weak (yl_ob (ob' := (⟨70, 1, true, true, v26, [[.fn (.func 67) [] []]]⟩ : AObj)) (yl_store rfl sh70 rfl rfl rfl rfl rfl rfl rfl rfl rfl) rfl) (fun _ h => h) (fun _ _ => trivial)) (by rintro _ _ ⟨rfl, rfl⟩; exact trivial) ?_; rintro _ _ ⟨rfl, rfl⟩
  refine eA ?_
  refine de_nil (hK _ ?_)
  refine tc tbk 16 (.mk ?_)
  obtain ⟨x27, e27, h1⟩ := bind_e h1
  refine sC cal26 (d_stock_Ready_c e27) ?_
  refine tr tbk 5 (.mk ?_)
  refine nb tbk h1 fun x28 h1 => ?_
  refine tr tbk 1 (.mk ?_)
  cases x28
  replace h1 := cf h1
  refine tc tbk 8 (.mk ?_)
  obtain ⟨x29, e29, h1⟩ := bind_e h1
  refine sY (yv_callP rfl rfl (.cons rfl (.cons rfl .nil)) cal67 (.cons (.refl _) (.cons (CvL.agg (.cons (.refl _) (.cons (.refl _) (.cons (.refl _) (.cons (.refl _) (.cons (.refl _) (.cons (.refl _) (.cons (.refl _) (.cons (.refl _) (.cons (.nil _) .nil)))))))))) .nil)) (d_adjust_revalue_c e29)) ?_
  refine tr tbk 3 (.mk ?_)
  refine sA 11 z32 fun v30 => ?_
  refine sS ⟨32, 10, true, true, v30, [(GState.av x29.1)]⟩ sh32 ?_
  refine tr tbk 6 (.mk ?_)
  refine nb tbk h1 fun x31 h1 => ?_
  refine tr tbk 1 (.mk ?_)
  cases x31
  replace h1 := cf h1
  refine tc tbk 5 (.mk ?_)
  refine sS ⟨32, 10, true, true, v25, [(GState.av x29.1)]⟩ sh32 ?_
  refine tr tbk 2 (.mk ?_)
  obtain rfl := nxt_e h1
  refine w_ret (hret _ _ (hk [(6, ⟨32, 10, true, true, v21, [(GState.av y0_1)]⟩)]) (.cell rfl (.pt rfl rfl rfl) sh32 rfl (.tmp rfl .nil)) (HK.le ⟨rfl, trivial⟩) ?_)
  exact ⟨(x29.1, 0), (), rfl, rfl, rfl⟩
  replace h1 := ct h1
  refine tc tbk 5 (.mk ?_)
  refine sS ⟨32, 10, true, true, v25, [(GState.av y0_1)]⟩ sh32 ?_
  refine tr tbk 2 (.mk ?_)
  obtain rfl := nxt_e h1
  refine w_ret (hret _ _ (hk [(6, ⟨32, 10, true, true, v21, [(GState.av y0_1)]⟩)]) (.cell rfl (.pt rfl rfl rfl) sh32 rfl (.tmp rfl .nil)) (HK.le ⟨rfl, trivial⟩) ?_)
  exact ⟨(y0_1, x29.2), (), rfl, rfl, rfl⟩
  replace h1 := ct h1
  refine tc tbk 5 (.mk ?_)
  refine sS ⟨32, 10, true, true, v25, [(GState.av y0_1)]⟩ sh32 ?_
  refine tr tbk 2 (.mk ?_)
  obtain rfl := nxt_e h1
  refine w_ret (hret _ _ (hk [(6, ⟨32, 10, true, true, v21, [(GState.av y0_1)]⟩)]) (.cell rfl (.pt rfl rfl rfl) sh32 rfl (.tmp rfl .nil)) (HK.le ⟨rfl, trivial⟩) ?_)
  exact ⟨(y0_1, x27), (), rfl, rfl, rfl⟩
  rintro y _ ⟨⟨y1_1, y1_2⟩, _, rfl, hc, rfl⟩
  replace h0 := p2_e h0
  subst hc
  refine tr tbk 3 (.mk ?_)
  refine sA 12 z32 fun v32 => ?_
  refine sS ⟨32, 10, true, true, v32, [(GState.av y1_1)]⟩ sh32 ?_
  refine tr tbk 5 (.mk ?_)
  refine sY (yv_build (cs := [int 1, int 0, int 3, int 0, int 0, int 5, int 0, int 0, .sc (.slice none 0 0)]) (ps := [(0, _), (2, _), (5, _), (6, _)]) rfl pl38 z38 rfl (.cons rfl (.cons rfl (.cons rfl (.cons rfl .nil)))) (by kernel_rfl)) ?_
  obtain ⟨x33, e33, h0⟩ := bind_e h0
  refine sY (yv_callP rfl rfl (.cons rfl (.cons rfl .nil)) cal16 (.cons (.refl _) (.cons (CvL.agg (.cons (.refl _) (.cons (.refl _) (.cons (.refl _) (.cons (.refl _) (.cons (.refl _) (.cons (.refl _) (.cons (.refl _) (.cons (.refl _) (.cons (.nil _) .nil)))))))))) .nil)) (d_ref15_Do_c e33)) ?_
  refine tr tbk 3 (.mk ?_)
  refine sA 13 z32 fun v34 => ?_
  refine sS ⟨32, 10, true, true, v34, [(GState.av x33.1)]⟩ sh32 ?_
  refine tr tbk 4 (.mk ?_)
  refine jn h0 [6, 7, 9, 12, 14] [12, 13] (fun (a : Bool) (k : Unit) => [(64, boo a)]) (fun a k => []) ⟨fun j35 h1 => ?_, ?_⟩
  refine tc tbk 2 (.mk ?_)
  refine nb tbk h1 fun x36 h1 => ?_
  refine tr tbk 1 (.mk ?_)
  cases x36
  replace h1 := cf h1
  refine tr tbk 1 (.mk ?_)
  refine nb tbk h1 fun x37 h1 => ?_
  refine tr tbk 2 (.mk ?_)
  cases x37
  replace h1 := cf h1
  refine tr tbk 2 (.mk ?_)
  refine sY (yv_len_sl rfl Tryz.underlying27 rfl (lst_len _)) ?_
  refine nb tbk h1 fun x38 h1 => ?_
  refine tr tbk 2 (.mk ?_)
  cases x38
  replace h1 := cf h1
  refine tr tbk 2 (.mk ?_)
  refine sY (yv_len_sl rfl Tryz.underlying27 rfl (lst_len _)) ?_
  refine nb tbk h1 fun x39 h1 => ?_
  refine tr tbk 2 (.mk ?_)
  exact lf h1 () leA
  replace h1 := ct h1
  refine tr tbk 6 (.mk ?_)
  exact lf h1 () leA
  replace h1 := ct h1
  refine tr tbk 12 (.mk ?_)
  exact lf h1 () leA
  replace h1 := ct h1
  refine tr tbk 16 (.mk ?_)
  exact lf h1 () leA
  rintro y2_1 _ h0
  cases y2_1
  replace h0 := cf h0
  refine tc tbk 3 (.mk ?_)
  refine jn h0 [] [] (fun (a : Bool) (k : Unit) => [(6, boo a)]) (fun a k => []) ⟨fun j40 h1 => ?_, ?_⟩
  refine tc tbk 3 (.mk ?_)
  obtain ⟨x41, e41, h1⟩ := bind_e h1
  refine sY (yv_to (y := .pp [int x41.Now, boo x41.Closed, lst 4 GPool.av x41.Pools, lst 1 fI x41.Bal, lst 11 GRoll.av x41.Rolls, lst 1 fI x41.Prices, lst 1 fI x41.Down, lst 8 GEnt.av x41.Ahead]) (yv_ixT rfl Tryz.underlying27 sh47 rfl rfl e41) (congrArg AV.pp (GEnt.av_eq x41))) ?_
  refine tr tbk 2 (.mk ?_)
  obtain ⟨x42, e42, h1⟩ := bind_e h1
  refine sY (yv_ixT rfl Tryz.underlying23 sh3 rfl rfl e42) ?_
  refine tr tbk 3 (.mk ?_)
  refine ni tbk h1 fun x43 h1 => ?_
  refine nb tbk h1 fun x44 h1 => ?_
  refine tr tbk 1 (.mk ?_)
  cases x44
  replace h1 := cf h1
  refine tr tbk 49 (.mk ?_)
  exact lf h1 () leA
  replace h1 := ct h1
  refine tr tbk 2 (.mk ?_)
  obtain ⟨x45, e45, h1⟩ := bind_e h1
  refine sY (yv_to (y := .pp [int x45.Now, boo x45.Closed, lst 4 GPool.av x45.Pools, lst 1 fI x45.Bal, lst 11 GRoll.av x45.Rolls, lst 1 fI x45.Prices, lst 1 fI x45.Down, lst 8 GEnt.av x45.Ahead]) (yv_ixT rfl Tryz.underlying27 sh47 rfl rfl e45) (congrArg AV.pp (GEnt.av_eq x45))) ?_
  refine tr tbk 2 (.mk ?_)
  obtain ⟨x46, e46, h1⟩ := bind_e h1
  refine sY (yv_ixT rfl Tryz.underlying23 sh3 rfl rfl e46) ?_
  refine tr tbk 2 (.mk ?_)
  refine ni tbk h1 fun x47 h1 => ?_
  refine tr tbk 1 (.mk ?_)
  refine ni tbk h1 fun x48 h1 => ?_
  refine nb tbk h1 fun x49 h1 => ?_
  refine tr tbk 2 (.mk ?_)
  cases x49
  replace h1 := cf h1
  refine tr tbk 35 (.mk ?_)
  exact lf h1 () leA
  replace h1 := ct h1
  refine tr tbk 2 (.mk ?_)
  obtain ⟨x50, e50, h1⟩ := bind_e h1
  refine sY (yv_to (y := .pp [int x50.Now, boo x50.Closed, lst 4 GPool.av x50.Pools, lst 1 fI x50.Bal, lst 11 GRoll.av x50.Rolls, lst 1 fI x50.Prices, lst 1 fI x50.Down, lst 8 GEnt.av x50.Ahead]) (yv_ixT rfl Tryz.underlying27 sh47 rfl rfl e50) (congrArg AV.pp (GEnt.av_eq x50))) ?_
  refine tr tbk 2 (.mk ?_)
  obtain ⟨x51, e51, h1⟩ := bind_e h1
  refine sY (yv_ixT rfl Tryz.underlying45 sh54 rfl rfl e51) ?_
  refine tr tbk 4 (.mk ?_)
  refine ni tbk h1 fun x52 h1 => ?_
  refine tr tbk 1 (.mk ?_)
  refine ni tbk h1 fun x53 h1 => ?_
  refine ni tbk h1 fun x54 h1 => ?_
  refine nb tbk h1 fun x55 h1 => ?_
  refine tr tbk 2 (.mk ?_)
  cases x55
  replace h1 := cf h1
  refine tr tbk 18 (.mk ?_)
  exact lf h1 () leA
  replace h1 := ct h1
  refine tr tbk 2 (.mk ?_)
  obtain ⟨x56, e56, h1⟩ := bind_e h1
  refine sY (yv_to (y := .pp [int x56.Now, boo x56.Closed, lst 4 GPool.av x56.Pools, lst 1 fI x56.Bal, lst 11 GRoll.av x56.Rolls, lst 1 fI x56.Prices, lst 1 fI x56.Down, lst 8 GEnt.av x56.Ahead]) (yv_ixT rfl Tryz.underlying27 sh47 rfl rfl e56) (congrArg AV.pp (GEnt.av_eq x56))) ?_
  refine tr tbk 2 (.mk ?_)
  obtain ⟨x57, e57, h1⟩ := bind_e h1
  refine sY (yv_ixT rfl Tryz.underlying23 sh3 rfl rfl e57) ?_
  refine tr tbk 2 (.mk ?_)
  refine ni tbk h1 fun x58 h1 => ?_
  refine tr tbk 1 (.mk ?_)
  refine ni tbk h1 fun x59 h1 => ?_
  refine nb tbk h1 fun x60 h1 => ?_
  refine tr tbk 2 (.mk ?_)
  cases x60
  replace h1 := cf h1
  refine tr tbk 4 (.mk ?_)
  exact lf h1 () leA
  replace h1 := ct h1
  obtain ⟨x61, e61, h1⟩ := bind_e h1
  refine sC cal14 (d_law17_awake_c e61) ?_
  refine tr tbk 3 (.mk ?_)
  exact lf h1 () leA
  rintro y3_1 _ h0
  obtain rfl := nxt_e h0
  refine wR hret (rT .nil) ?_
  exact .refl _
  replace h0 := ct h0
  refine tc tbk 5 (.mk ?_)
  obtain rfl := nxt_e h0
  refine wR hret (rT .nil) ?_
  exact .refl _
end Go.Pv
